import PyProof.Rows.All
import Wide.All
import OpenK.AllK
import Wide.FinOn
import HandS.ForMost
import HandS.Evl
import HandS.Deep
import HandS.TupLe
import HandS.TupAny
import HandS.Zip
import HandS.IsInst
import HandS.SetFor
import HandS.Conv
import HandS.WideBits
import KE.KDictKeyed
import KE.KDictDisplayH
import HandS.TupLen
import KE.GoesEnum
import KE.GoesZip
import KE.SortData
import HandS.TupSets
import PySem.Challenge.RW_stonewalker_k93_whole_home_from_wherever
set_option Elab.async false
set_option linter.all false
set_option maxRecDepth 100000
/-! WA -/
/-! Data over a region of the heap: what an expression comes to, as data. -/
namespace Wk
open PySem L2 Evl

/-! ### data stays where the heap only grows -/
mutual
theorem dp_ex {K : PySem.W.Frag} {H J : Hp} (e : Ex H J) : ∀ {v : V} {d : PyData}, Dp K H v d → Dp K J v d
  | _, _, .non => .non
  | _, _, .bl b => .bl b
  | _, _, .int i => .int i
  | _, _, .str x => .str x
  | _, _, .lst h a => .lst (ex_l e h) (dps_ex e a)
  | _, _, .tup h a => .tup (ex_t e h) (dps_ex e a)
theorem dps_ex {K : PySem.W.Frag} {H J : Hp} (e : Ex H J) : ∀ {vs : List V} {ds : List PyData}, DpAll K H vs ds → DpAll K J vs ds
  | _, _, .nil => .nil
  | _, _, .cons h t => .cons (dp_ex e h) (dps_ex e t)
end
theorem dps_len {K : PySem.W.Frag} {H : Hp} : ∀ {vs : List V} {ds : List PyData}, DpAll K H vs ds → vs.length = ds.length
  | _, _, .nil => rfl
  | _, _, .cons _ t => by rw [List.length_cons, List.length_cons, dps_len t]
theorem dps_get {K : PySem.W.Frag} {H : Hp} : ∀ {vs : List V} {ds : List PyData} {i : Nat} {d : PyData}, DpAll K H vs ds → ds[i]? = some d → ∃ v, vs[i]? = some v ∧ Dp K H v d
  | _, _, _, _, .nil, h => by simp at h
  | _, _, 0, _, .cons h t, e => ⟨_, rfl, by simp at e; rw [← e]; exact h⟩
  | _, _, i + 1, d, .cons h t, e => by
    obtain ⟨v, h1, h2⟩ := dps_get (i := i) (d := d) t (by simpa using e)
    exact ⟨v, by simpa using h1, h2⟩
theorem dps_getV {K : PySem.W.Frag} {H : Hp} {vs : List V} {ds : List PyData} {i : Nat} {v : V} (h : DpAll K H vs ds) (e : vs[i]? = some v) : ∃ d, ds[i]? = some d ∧ Dp K H v d := by
  have hl := dps_len h
  have hi : i < ds.length := by
    have := (List.getElem?_eq_some_iff.mp e).1
    omega
  obtain ⟨u, h1, h2⟩ := dps_get h (List.getElem?_eq_getElem hi)
  rw [e] at h1
  cases h1
  exact ⟨_, List.getElem?_eq_getElem hi, h2⟩
theorem dps_app {K : PySem.W.Frag} {H : Hp} : ∀ {vs ws : List V} {ds es : List PyData}, DpAll K H vs ds → DpAll K H ws es → DpAll K H (vs ++ ws) (ds ++ es)
  | _, _, _, _, .nil, h => h
  | _, _, _, _, .cons a t, h => .cons a (dps_app t h)
theorem dps_one {K : PySem.W.Frag} {H : Hp} {v : V} {d : PyData} (h : Dp K H v d) : DpAll K H [v] [d] := .cons h .nil
theorem dps_take {K : PySem.W.Frag} {H : Hp} : ∀ {vs : List V} {ds : List PyData} (n : Nat), DpAll K H vs ds → DpAll K H (vs.take n) (ds.take n)
  | _, _, 0, _ => .nil
  | _, _, _ + 1, .nil => .nil
  | _, _, n + 1, .cons a t => .cons a (dps_take n t)
theorem dps_drop {K : PySem.W.Frag} {H : Hp} : ∀ {vs : List V} {ds : List PyData} (n : Nat), DpAll K H vs ds → DpAll K H (vs.drop n) (ds.drop n)
  | _, _, 0, h => h
  | _, _, _ + 1, .nil => .nil
  | _, _, n + 1, .cons _ t => dps_drop n t
theorem dps_set {K : PySem.W.Frag} {H : Hp} {v : V} {d : PyData} (h : Dp K H v d) : ∀ {vs : List V} {ds : List PyData} (n : Nat), DpAll K H vs ds → DpAll K H (vs.set n v) (ds.set n d)
  | _, _, _, .nil => .nil
  | _, _, 0, .cons _ t => .cons h t
  | _, _, n + 1, .cons a t => .cons a (dps_set h n t)
theorem dps_ints {K : PySem.W.Frag} {H : Hp} : ∀ (ns : List Int), DpAll K H (ns.map V.int) (ns.map PyData.int)
  | [] => .nil
  | n :: ns => .cons (.int n) (dps_ints ns)
theorem dps_ints_inv {K : PySem.W.Frag} {H : Hp} : ∀ {vs : List V} {ns : List Int}, DpAll K H vs (ns.map PyData.int) → vs = ns.map V.int
  | _, [], .nil => rfl
  | _, n :: ns, .cons a t => by
    cases a
    rw [List.map_cons, dps_ints_inv t]
theorem dps_bools_inv {K : PySem.W.Frag} {H : Hp} : ∀ {vs : List V} {bs : List Bool}, DpAll K H vs (bs.map PyData.bool) → vs = bs.map V.bl
  | _, [], .nil => rfl
  | _, n :: ns, .cons a t => by
    cases a
    rw [List.map_cons, dps_bools_inv t]
theorem dp_int_inv {K : PySem.W.Frag} {H : Hp} {v : V} {i : Int} (h : Dp K H v (.int i)) : v = .int i := by cases h; rfl
theorem dp_bl_inv {K : PySem.W.Frag} {H : Hp} {v : V} {i : Bool} (h : Dp K H v (.bool i)) : v = .bl i := by cases h; rfl
theorem dp_non_inv {K : PySem.W.Frag} {H : Hp} {v : V} (h : Dp K H v .none) : v = .non := by cases h; rfl
theorem dp_tup_inv {K : PySem.W.Frag} {H : Hp} {v : V} {ds : List PyData} (h : Dp K H v (.tuple ds)) : ∃ a xs, v = .ref a ∧ SqT K H a xs ∧ DpAll K H xs ds := by
  cases h with
  | tup h a => exact ⟨_, _, rfl, h, a⟩
theorem dp_lst_inv {K : PySem.W.Frag} {H : Hp} {v : V} {ds : List PyData} (h : Dp K H v (.list ds)) : ∃ a xs, v = .ref a ∧ SqL K H a xs ∧ DpAll K H xs ds := by
  cases h with
  | lst h a => exact ⟨_, _, rfl, h, a⟩

/-! ### no list within: it stays where lists change -/
mutual
def fz : PyData → Bool
  | .none => true
  | .bool _ => true
  | .int _ => true
  | .str _ => true
  | .list _ => false
  | .tuple ds => fzs ds
  | .dict _ => false
def fzs : List PyData → Bool
  | [] => true
  | d :: ds => fz d && fzs ds
end
/-- all tuples stay -/
def Tk (K : PySem.W.Frag) (H J : Hp) : Prop := ∀ a xs, SqT K H a xs → SqT K J a xs
mutual
theorem dp_tk {K : PySem.W.Frag} {H J : Hp} (e : Tk K H J) : ∀ {v : V} {d : PyData}, fz d = true → Dp K H v d → Dp K J v d
  | _, _, _, .non => .non
  | _, _, _, .bl b => .bl b
  | _, _, _, .int i => .int i
  | _, _, _, .str x => .str x
  | _, _, f, .lst h a => by simp [fz] at f
  | _, _, f, .tup h a => .tup (e _ _ h) (dps_tk e (by simpa [fz] using f) a)
theorem dps_tk {K : PySem.W.Frag} {H J : Hp} (e : Tk K H J) : ∀ {vs : List V} {ds : List PyData}, fzs ds = true → DpAll K H vs ds → DpAll K J vs ds
  | _, _, _, .nil => .nil
  | _, _, f, .cons h t => by
    simp only [fzs, Bool.and_eq_true] at f
    exact .cons (dp_tk e f.1 h) (dps_tk e f.2 t)
end
theorem Tk.refl (K : PySem.W.Frag) (H : Hp) : Tk K H H := fun _ _ h => h
theorem Tk.trans {K : PySem.W.Frag} {H J L : Hp} (a : Tk K H J) (b : Tk K J L) : Tk K H L := fun x xs h => b x xs (a x xs h)
theorem tk_ex {K : PySem.W.Frag} {H J : Hp} (e : Ex H J) : Tk K H J := fun _ _ h => ex_t e h
/-- the object at a is no tuple: it may change -/
def NoTup (o : Option HO) : Prop := ∀ xs, o ≠ some (.tup xs) ∧ ∀ ob, o ≠ some (.frz ob (.tup xs))
theorem tk_upd {K : PySem.W.Frag} {H : Hp} {a : Addr} {o : HO} (h : NoTup (H a)) : Tk K H (upd H a o) := fun b xs hb => by
  rcases hb with (hb | ⟨ob, hb⟩) | hb
  · refine .inl (.inl ?_)
    have : b ≠ a := fun z => (h xs).1 (z ▸ hb)
    rw [upd_ne this]; exact hb
  · refine .inl (.inr ⟨ob, ?_⟩)
    have : b ≠ a := fun z => (h xs).2 ob (z ▸ hb)
    rw [upd_ne this]; exact hb
  · exact .inr hb
theorem notup_lst {H : Hp} {a : Addr} {ys : List V} (h : H a = some (.lst ys)) : NoTup (H a) := fun xs => ⟨fun e => (by rw [h] at e; cases e), fun ob e => (by rw [h] at e; cases e)⟩
theorem notup_ext {H : Hp} {a : Addr} {φ : Heap → Prop} (h : H a = some (.ext φ)) : NoTup (H a) := fun xs => ⟨fun e => (by rw [h] at e; cases e), fun ob e => (by rw [h] at e; cases e)⟩
theorem notup_none {H : Hp} {a : Addr} (h : H a = none) : NoTup (H a) := fun xs => ⟨fun e => (by rw [h] at e; cases e), fun ob e => (by rw [h] at e; cases e)⟩

/-! ### regions -/
/-- G: what is known and does not change; from (G, H) to (G', H') things were made -/
structure Nw (G H G' H' : Hp) : Prop where
  gg : Ex G G'
  gh : Ex G' H'
  hh : Ex H H'
  fr : ∀ a, G a = none → H a ≠ none → G' a = none
theorem Nw.refl {G H : Hp} (e : Ex G H) : Nw G H G H := ⟨Ex.refl G, e, Ex.refl H, fun _ h _ => h⟩
theorem Nw.trans {G H G1 H1 G2 H2 : Hp} (a : Nw G H G1 H1) (b : Nw G1 H1 G2 H2) : Nw G H G2 H2 :=
  ⟨a.gg.trans b.gg, b.gh, a.hh.trans b.hh, fun x h1 h2 => b.fr x (a.fr x h1 h2) (fun z => h2 (fresh_back a.hh z))⟩
theorem Nw.new {G H : Hp} (e : Ex G H) {p : Addr} {o : HO} (h : H p = none) : Nw G H (upd G p o) (upd H p o) := by
  have hg : G p = none := fresh_back e h
  refine ⟨Ex.new hg, fun a u q => ?_, Ex.new h, fun a h1 h2 => ?_⟩
  · by_cases ha : a = p
    · subst ha
      rw [upd_same] at q ⊢
      exact q
    · rw [upd_ne ha] at q ⊢
      exact e a u q
  · have : a ≠ p := fun z => h2 (z ▸ h)
    rw [upd_ne this]; exact h1
/-- a new thing that stays out of the region -/
theorem Nw.out {G H : Hp} (e : Ex G H) {p : Addr} {o : HO} (h : H p = none) : Nw G H G (upd H p o) :=
  ⟨Ex.refl G, e.trans (Ex.new h), Ex.new h, fun _ h1 _ => h1⟩
theorem Nw.keep {G H G' H' : Hp} (n : Nw G H G' H') {m : Addr} {o : HO} (h1 : G m = none) (h2 : H m = some o) : G' m = none ∧ H' m = some o :=
  ⟨n.fr m h1 (by rw [h2]; simp), n.hh m o h2⟩
theorem Nw.ex {G H G' H' : Hp} (n : Nw G H G' H') : Ex G H' := n.gg.trans n.gh
/-- both regions at once -/
def un (A B : Hp) : Hp := fun a => match A a with
  | some o => some o
  | none => B a
theorem un_l {A B : Hp} : Ex A (un A B) := fun a o h => by unfold un; rw [h]
theorem un_ex {A B H : Hp} (a : Ex A H) (b : Ex B H) : Ex (un A B) H := fun x o h => by
  unfold un at h
  split at h
  · rename_i u hu
    cases h
    exact a x _ hu
  · exact b x o h
theorem un_r {A B H : Hp} (a : Ex A H) (b : Ex B H) : Ex B (un A B) := fun x o h => by
  unfold un
  cases q : A x with
  | none => exact h
  | some u =>
    have h1 := a x u q
    rw [b x o h] at h1
    exact h1.symm
theorem Nw.mono {G Gx H G' H' : Hp} (e : Ex G Gx) (ex : Ex Gx H) (n : Nw G H G' H') : Nw Gx H (un Gx G') H' :=
  ⟨un_l, un_ex (ex.trans n.hh) n.gh, n.hh, fun a h1 h2 => by
    unfold un
    rw [h1]
    exact n.fr a (fresh_back e h1) h2⟩

/-! ### what comes to which data -/
def Ed (K : PySem.W.Frag) (te : TE) (σ : L2.St) (G : Hp) (d : PyData) : Prop := ∀ H, Ex G H → ∀ Q : VK, (∀ v G' H', Nw G H G' H' → Dp K G' v d → Q v H') → te σ H Q
def EdA (K : PySem.W.Frag) (ta : TA) (σ : L2.St) (G : Hp) (ds : List PyData) : Prop := ∀ H, Ex G H → ∀ Q : List V → Hp → Prop, (∀ vs G' H', Nw G H G' H' → DpAll K G' vs ds → Q vs H') → ta σ H Q
def EdT (tt : TT) (σ : L2.St) (G : Hp) (b : Bool) : Prop := ∀ H, Ex G H → ∀ Q : Bool → Hp → Prop, (∀ G' H', Nw G H G' H' → Q b H') → tt σ H Q
/-- an operation on values -/
def RD (K : PySem.W.Frag) (r : VK → Hp → Prop) (G : Hp) (d : PyData) : Prop := ∀ H, Ex G H → ∀ Q : VK, (∀ v G' H', Nw G H G' H' → Dp K G' v d → Q v H') → r Q H

section
variable {K : PySem.W.Frag} {σ : L2.St} {G G1 H : Hp} {ta tb te : TE} {tt tu : TT} {d d1 d2 : PyData} {r : R2}
theorem Ed.mono (e : Ex G G1) (h : Ed K te σ G d) : Ed K te σ G1 d := fun H x Q q => h H (e.trans x) Q fun v G' H' n hd => q v _ H' (n.mono e x) (dp_ex (un_r (x.trans n.hh) n.gh) hd)
theorem EdA.mono {ta : TA} {ds : List PyData} (e : Ex G G1) (h : EdA K ta σ G ds) : EdA K ta σ G1 ds := fun H x Q q => h H (e.trans x) Q fun v G' H' n hd => q v _ H' (n.mono e x) (dps_ex (un_r (x.trans n.hh) n.gh) hd)
theorem EdT.mono {b : Bool} (e : Ex G G1) (h : EdT tt σ G b) : EdT tt σ G1 b := fun H x Q q => h H (e.trans x) Q fun G' H' n => q _ H' (n.mono e x)
theorem ed_is {d' : PyData} (h : Ed K te σ G d) (e : d = d') : Ed K te σ G d' := e ▸ h
theorem et_eq {b b' : Bool} (h : EdT tt σ G b) (e : b = b') : EdT tt σ G b' := e ▸ h
theorem ed_var {i : Nat} {v : V} (h : σ[i]? = some (some v)) (hd : Dp K G v d) : Ed K (tVar i) σ G d := fun H e _ q => ⟨v, h, q v G H (Nw.refl e) hd⟩
theorem ed_int {i : Int} : Ed K (tC (.int i)) σ G (.int i) := fun H e _ q => q _ G H (Nw.refl e) (.int i)
theorem ed_bl {b : Bool} : Ed K (tC (.bl b)) σ G (.bool b) := fun H e _ q => q _ G H (Nw.refl e) (.bl b)
theorem ed_non : Ed K (tC .non) σ G .none := fun H e _ q => q _ G H (Nw.refl e) .non
/-- two operands, then the operation on their values -/
theorem ed_op (ha : Ed K ta σ G d1) (hb : Ed K tb σ G d2) (hr : ∀ x y G1, Ex G G1 → Dp K G1 x d1 → Dp K G1 y d2 → RD K (fun Q H => r x y H Q) G1 d) : Ed K (tOp r ta tb) σ G d := fun H e Q q =>
  ha H e _ fun x G1 H1 n1 h1 => (hb.mono n1.gg) H1 n1.gh _ fun y G2 H2 n2 h2 =>
    hr x y G2 (n1.gg.trans n2.gg) (dp_ex n2.gg h1) h2 H2 n2.gh Q fun v G3 H3 n3 h3 => q v G3 H3 ((n1.trans n2).trans n3) h3
theorem ed_un {r : V → Hp → VK → Prop} (ha : Ed K ta σ G d1) (hr : ∀ x G1, Ex G G1 → Dp K G1 x d1 → RD K (fun Q H => r x H Q) G1 d) : Ed K (tUn r ta) σ G d := fun H e Q q =>
  ha H e _ fun x G1 H1 n1 h1 => hr x G1 n1.gg h1 H1 n1.gh Q fun v G3 H3 n3 h3 => q v G3 H3 (n1.trans n3) h3
theorem ea_nil : EdA K tNil σ G [] := fun H e _ q => q [] G H (Nw.refl e) .nil
theorem ea_cons {tr : TA} {ds : List PyData} (ha : Ed K ta σ G d) (hr : EdA K tr σ G ds) : EdA K (tCons ta tr) σ G (d :: ds) := fun H e Q q =>
  ha H e _ fun x G1 H1 n1 h1 => (hr.mono n1.gg) H1 n1.gh _ fun xs G2 H2 n2 h2 => q (x :: xs) G2 H2 (n1.trans n2) (.cons (dp_ex n2.gg h1) h2)
theorem sz8 {n : Nat} (h : n ≤ 16000000) : n ≤ sizeLine := Nat.le_trans h (by decide)
theorem sz8' {n : Nat} (h : n ≤ 16000000) : n < sizeLine := Nat.lt_of_le_of_lt h (by decide)
theorem ed_tup {ta : TA} {ds : List PyData} (h : EdA K ta σ G ds) (hl : ds.length ≤ 16000000 := by simp) : Ed K (tTup ta) σ G (.tuple ds) := fun H e Q q =>
  h H e _ fun xs G1 H1 n1 h1 => ⟨sz8 (by rw [dps_len h1]; exact hl), fun p hp => q _ _ _ (n1.trans (Nw.new n1.gh hp)) (.tup (st_of upd_same) (dps_ex (Ex.new (fresh_back n1.gh hp)) h1))⟩
theorem ed_lst {ta : TA} {ds : List PyData} (h : EdA K ta σ G ds) (hl : ds.length ≤ 16000000 := by simp) : Ed K (tLst ta) σ G (.list ds) := fun H e Q q =>
  h H e _ fun xs G1 H1 n1 h1 => ⟨sz8 (by rw [dps_len h1]; exact hl), fun p hp => q _ _ _ (n1.trans (Nw.new n1.gh hp)) (.lst (sq_of upd_same) (dps_ex (Ex.new (fresh_back n1.gh hp)) h1))⟩
theorem ed_cb {r : List V → Hp → VK → Prop} {ta : TA} {ds : List PyData} (h : EdA K ta σ G ds) (hr : ∀ vs G1, Ex G G1 → DpAll K G1 vs ds → RD K (fun Q H => r vs H Q) G1 d) : Ed K (tCB r ta) σ G d := fun H e Q q =>
  h H e _ fun x G1 H1 n1 h1 => hr x G1 n1.gg h1 H1 n1.gh Q fun v G3 H3 n3 h3 => q v G3 H3 (n1.trans n3) h3
theorem ed_call {sp : Sp} {E : XK} {ta : TA} {ds : List PyData} (h : EdA K ta σ G ds) (hr : ∀ vs G1, Ex G G1 → DpAll K G1 vs ds → RD K (fun Q H => sp vs H Q E) G1 d) : Ed K (tCall sp [] E ta) σ G d := fun H e Q q =>
  h H e _ fun x G1 H1 n1 h1 => by
    have z := hr x G1 n1.gg h1 H1 n1.gh Q fun v G3 H3 n3 h3 => q v G3 H3 (n1.trans n3) h3
    rw [← List.append_nil x] at z
    exact z
theorem ed_if {b : Bool} (h : EdT tt σ G b) (h1 : b = true → Ed K ta σ G d) (h2 : b = false → Ed K tb σ G d) : Ed K (tIf tt ta tb) σ G d := fun H e Q q => h H e _ fun G1 H1 n1 => by
  cases b with
  | true => exact ((h1 rfl).mono n1.gg) H1 n1.gh Q fun v G3 H3 n3 h3 => q v G3 H3 (n1.trans n3) h3
  | false => exact ((h2 rfl).mono n1.gg) H1 n1.gh Q fun v G3 H3 n3 h3 => q v G3 H3 (n1.trans n3) h3
/-! tests -/
theorem et_test {b : Bool} (h : Ed K te σ G (.bool b)) : EdT (tTest te) σ G b := fun H e Q q => h H e _ fun v G1 H1 n1 h1 => ⟨b, dp_bl_inv h1, q G1 H1 n1⟩
theorem et_B {b : Bool} (h : Ed K te σ G (.bool b)) : EdT (tB te) σ G b := fun H e Q q => h H e _ fun v G1 H1 n1 h1 => ⟨b, dp_bl_inv h1, q G1 H1 n1⟩
theorem et_yes : EdT tYes σ G true := fun H e _ q => q G H (Nw.refl e)
theorem et_not {b : Bool} (h : EdT tt σ G b) : EdT (tNot tt) σ G (!b) := fun H e _ q => h H e _ fun G1 H1 n1 => q G1 H1 n1
theorem et_and {a b : Bool} (h1 : EdT tt σ G a) (h2 : a = true → EdT tu σ G b) : EdT (tAnd tt tu) σ G (a && b) := fun H e Q q => h1 H e _ fun G1 H1 n1 => by
  cases a with
  | true => exact ((h2 rfl).mono n1.gg) H1 n1.gh Q fun G3 H3 n3 => q G3 H3 (n1.trans n3)
  | false => exact q G1 H1 n1
theorem et_or {a b : Bool} (h1 : EdT tt σ G a) (h2 : a = false → EdT tu σ G b) : EdT (tOr tt tu) σ G (a || b) := fun H e Q q => h1 H e _ fun G1 H1 n1 => by
  cases a with
  | true => exact q G1 H1 n1
  | false => exact ((h2 rfl).mono n1.gg) H1 n1.gh Q fun G3 H3 n3 => q G3 H3 (n1.trans n3)
/-! operations -/
theorem rd_val {r : VK → Hp → Prop} {v : V} (hd : Dp K G v d) (h : ∀ H, Ex G H → ∀ Q : VK, Q v H → r Q H) : RD K r G d := fun H e Q q => h H e Q (q v G H (Nw.refl e) hd)
theorem ed_opI0 {g : Int → Int → V} {i j : Int} (ha : Ed K ta σ G (.int i)) (hb : Ed K tb σ G (.int j)) (hg : ∀ G, Dp K G (g i j) d) : Ed K (tOp (rI0 g) ta tb) σ G d :=
  ed_op ha hb fun x y G1 _ hx hy => rd_val (hg G1) fun _ _ _ q => ⟨i, j, dp_int_inv hx, dp_int_inv hy, q⟩
theorem ed_opI {C : Int → Int → Prop} {g : Int → Int → V} {i j : Int} (ha : Ed K ta σ G (.int i)) (hb : Ed K tb σ G (.int j)) (hc : C i j) (hg : ∀ G, Dp K G (g i j) d) : Ed K (tOp (rI C g) ta tb) σ G d :=
  ed_op ha hb fun x y G1 _ hx hy => rd_val (hg G1) fun _ _ _ q => ⟨i, j, dp_int_inv hx, dp_int_inv hy, hc, q⟩
theorem ed_add {i j : Int} (ha : Ed K ta σ G (.int i)) (hb : Ed K tb σ G (.int j)) : Ed K (tOp (rI0 fun i j => .int (i + j)) ta tb) σ G (.int (i + j)) := ed_opI0 ha hb fun _ => .int _
theorem ed_sub {i j : Int} (ha : Ed K ta σ G (.int i)) (hb : Ed K tb σ G (.int j)) : Ed K (tOp (rI0 fun i j => .int (i - j)) ta tb) σ G (.int (i - j)) := ed_opI0 ha hb fun _ => .int _
theorem ed_mul {i j : Int} (ha : Ed K ta σ G (.int i)) (hb : Ed K tb σ G (.int j)) (hc : CMul i j) : Ed K (tOp (rI CMul fun i j => .int (i * j)) ta tb) σ G (.int (i * j)) := ed_opI ha hb hc fun _ => .int _
theorem ed_lt {i j : Int} (ha : Ed K ta σ G (.int i)) (hb : Ed K tb σ G (.int j)) : Ed K (tOp (rI0 fun i j => .bl (decide (i < j))) ta tb) σ G (.bool (decide (i < j))) := ed_opI0 ha hb fun _ => .bl _
theorem ed_le {i j : Int} (ha : Ed K ta σ G (.int i)) (hb : Ed K tb σ G (.int j)) : Ed K (tOp (rI0 fun i j => .bl (decide (i ≤ j))) ta tb) σ G (.bool (decide (i ≤ j))) := ed_opI0 ha hb fun _ => .bl _
theorem ed_gt {i j : Int} (ha : Ed K ta σ G (.int i)) (hb : Ed K tb σ G (.int j)) : Ed K (tOp (rI0 fun i j => .bl (decide (j < i))) ta tb) σ G (.bool (decide (j < i))) := ed_opI0 ha hb fun _ => .bl _
theorem ed_ge {i j : Int} (ha : Ed K ta σ G (.int i)) (hb : Ed K tb σ G (.int j)) : Ed K (tOp (rI0 fun i j => .bl (decide (j ≤ i))) ta tb) σ G (.bool (decide (j ≤ i))) := ed_opI0 ha hb fun _ => .bl _
theorem ed_eqD (ha : Ed K ta σ G d1) (hb : Ed K tb σ G d2) (s1 : SeqAt.shaped d1 = true) (s2 : SeqAt.shaped d2 = true) : Ed K (tOp (rEqD K) ta tb) σ G (.bool (PyData.eqv d1 d2)) :=
  ed_op ha hb fun x y G1 _ hx hy => rd_val (.bl _) fun _ e _ q => ⟨d1, d2, dp_ex e hx, dp_ex e hy, s1, s2, q⟩
theorem ed_neD (ha : Ed K ta σ G d1) (hb : Ed K tb σ G d2) (s1 : SeqAt.shaped d1 = true) (s2 : SeqAt.shaped d2 = true) : Ed K (tOp (rNeD K) ta tb) σ G (.bool (!PyData.eqv d1 d2)) :=
  ed_op ha hb fun x y G1 _ hx hy => rd_val (.bl _) fun _ e _ q => ⟨d1, d2, dp_ex e hx, dp_ex e hy, s1, s2, q⟩
/-- items -/
theorem ed_ixT {ds : List PyData} {i : Int} {j : Nat} (ha : Ed K ta σ G (.tuple ds)) (hb : Ed K tb σ G (.int i)) (hi : ixN ds.length i = some j) (hd : ds[j]? = some d) : Ed K (tOp (rIx K) ta tb) σ G d :=
  ed_op ha hb fun x y G1 _ hx hy => by
    obtain ⟨a, xs, rfl, ht, hds⟩ := dp_tup_inv hx
    obtain ⟨v, hv, hvd⟩ := dps_get hds hd
    refine rd_val hvd fun H e Q q => .inr (.inl ⟨a, xs, i, v, rfl, dp_int_inv hy, ex_t e ht, ?_, q⟩)
    unfold atI
    rw [dps_len hds, hi]
    exact hv
theorem ed_ixL {ds : List PyData} {i : Int} {j : Nat} (ha : Ed K ta σ G (.list ds)) (hb : Ed K tb σ G (.int i)) (hi : ixN ds.length i = some j) (hd : ds[j]? = some d) : Ed K (tOp (rIx K) ta tb) σ G d :=
  ed_op ha hb fun x y G1 _ hx hy => by
    obtain ⟨a, xs, rfl, ht, hds⟩ := dp_lst_inv hx
    obtain ⟨v, hv, hvd⟩ := dps_get hds hd
    refine rd_val hvd fun H e Q q => .inl ⟨a, xs, i, v, rfl, dp_int_inv hy, ex_l e ht, ?_, q⟩
    unfold atI
    rw [dps_len hds, hi]
    exact hv
theorem ixn {n j : Nat} (hj : j < n) : ixN n (j : Int) = some j := by
  unfold ixN
  rw [if_pos (by omega), if_pos (by omega)]
  simp
theorem ed_ixTn {ds : List PyData} {j : Nat} (ha : Ed K ta σ G (.tuple ds)) (hb : Ed K tb σ G (.int (j : Int))) (hd : ds[j]? = some d) : Ed K (tOp (rIx K) ta tb) σ G d :=
  ed_ixT ha hb (ixn (List.getElem?_eq_some_iff.mp hd).1) hd
theorem ed_ixLn {ds : List PyData} {j : Nat} (ha : Ed K ta σ G (.list ds)) (hb : Ed K tb σ G (.int (j : Int))) (hd : ds[j]? = some d) : Ed K (tOp (rIx K) ta tb) σ G d :=
  ed_ixL ha hb (ixn (List.getElem?_eq_some_iff.mp hd).1) hd
end
end Wk
/-! WB -/
/-! Rules over data: calls, slices, comprehensions, iterators, statements. -/
namespace Wk
open PySem L2 Evl

/-! ### the readings of calls by name -/
def rLenC (K : PySem.W.Frag) : List V → Hp → VK → Prop := fun xs H Q => ∃ p ys, xs = [.ref p] ∧ (SqL K H p ys ∨ SqT K H p ys) ∧ Q (.int ys.length) H
def rListC (K : PySem.W.Frag) : List V → Hp → VK → Prop := fun xs H Q => ∃ p ys, xs = [.ref p] ∧ (SqL K H p ys ∨ SqT K H p ys) ∧ ∀ l, H l = none → Q (.ref l) (upd H l (.lst ys))
def rTupC (K : PySem.W.Frag) : List V → Hp → VK → Prop := fun xs H Q => ∃ p ys, xs = [.ref p] ∧ ((SqL K H p ys ∧ ∀ l, H l = none → Q (.ref l) (upd H l (.tup ys))) ∨ (SqT K H p ys ∧ Q (.ref p) H))
def rAbsC : List V → Hp → VK → Prop := fun xs H Q => ∃ i, xs = [.int i] ∧ Q (.int (if i < 0 then -i else i)) H
def rIntC : List V → Hp → VK → Prop := fun xs H Q => (∃ i, xs = [.int i] ∧ Q (.int i) H) ∨ ∃ k, xs = [.bl k] ∧ Q (.int (if k then 1 else 0)) H
def rMin2C : List V → Hp → VK → Prop := fun xs H Q => ∃ i j, xs = [.int i, .int j] ∧ Q (.int (if j < i then j else i)) H
def rDivC : List V → Hp → VK → Prop := fun xs H Q => ∃ i j, xs = [.int i, .int j] ∧ CDiv i j ∧ ∀ p, H p = none → Q (.ref p) (upd H p (.tup [.int (i / j), .int (i % j)]))
def rInsC : V → List V → Hp → VK → Prop := fun x vs H Q => ∃ (l : Addr) (xs : List V) (i : Int) (y : V), x = .ref l ∧ vs = [.int i, y] ∧ H l = some (.lst xs) ∧ xs.length < sizeLine ∧ 0 ≤ i ∧ i < 2 ^ 63 ∧ Q .non (upd H l (.lst (xs.take i.toNat ++ [y] ++ xs.drop i.toNat)))
def rIsNC : R2 := fun x y H Q => y = .non ∧ Q (.bl (decide (x = .non))) H
def rNotNC : R2 := fun x y H Q => y = .non ∧ Q (.bl (!decide (x = .non))) H

section
variable {K : PySem.W.Frag} {σ : L2.St} {G G1 H : Hp} {ta tb te : TE} {tt tu : TT} {d d1 d2 : PyData} {r : R2}

theorem ed_len {ds : List PyData} (h : Ed K ta σ G (.list ds)) : Ed K (tCB (rLenC K) (tCons ta tNil)) σ G (.int ds.length) :=
  ed_cb (ea_cons h ea_nil) fun vs G1 _ hv => by
    cases hv with
    | cons hx ht =>
      cases ht
      obtain ⟨a, xs, rfl, hs, hd⟩ := dp_lst_inv hx
      refine rd_val (v := .int (xs.length : Nat)) (by rw [dps_len hd]; exact .int _) fun H e Q q => ⟨a, xs, rfl, .inl (ex_l e hs), q⟩
theorem ed_lenT {ds : List PyData} (h : Ed K ta σ G (.tuple ds)) : Ed K (tCB (rLenC K) (tCons ta tNil)) σ G (.int ds.length) :=
  ed_cb (ea_cons h ea_nil) fun vs G1 _ hv => by
    cases hv with
    | cons hx ht =>
      cases ht
      obtain ⟨a, xs, rfl, hs, hd⟩ := dp_tup_inv hx
      refine rd_val (v := .int (xs.length : Nat)) (by rw [dps_len hd]; exact .int _) fun H e Q q => ⟨a, xs, rfl, .inr (ex_t e hs), q⟩
theorem ed_tupOfL {ds : List PyData} (h : Ed K ta σ G (.list ds)) : Ed K (tCB (rTupC K) (tCons ta tNil)) σ G (.tuple ds) :=
  ed_cb (ea_cons h ea_nil) fun vs G1 _ hv => by
    cases hv with
    | cons hx ht =>
      cases ht
      obtain ⟨a, xs, rfl, hs, hd⟩ := dp_lst_inv hx
      exact fun H e Q q => ⟨a, xs, rfl, .inl ⟨ex_l e hs, fun l hl => q _ _ _ (Nw.new e hl) (.tup (st_of upd_same) (dps_ex (Ex.new (fresh_back e hl)) hd))⟩⟩
theorem ed_tupOfT {ds : List PyData} (h : Ed K ta σ G (.tuple ds)) : Ed K (tCB (rTupC K) (tCons ta tNil)) σ G (.tuple ds) :=
  ed_cb (ea_cons h ea_nil) fun vs G1 _ hv => by
    cases hv with
    | cons hx ht =>
      cases ht
      obtain ⟨a, xs, rfl, hs, hd⟩ := dp_tup_inv hx
      exact rd_val hx fun H e Q q => ⟨a, xs, rfl, .inr ⟨ex_t e hs, q⟩⟩
theorem ed_abs {i : Int} (h : Ed K ta σ G (.int i)) : Ed K (tCB rAbsC (tCons ta tNil)) σ G (.int (if i < 0 then -i else i)) :=
  ed_cb (ea_cons h ea_nil) fun vs G1 _ hv => by
    cases hv with
    | cons hx ht =>
      cases ht
      cases hx
      exact rd_val (.int _) fun H e Q q => ⟨i, rfl, q⟩
theorem ed_intB {b : Bool} (h : Ed K ta σ G (.bool b)) : Ed K (tCB rIntC (tCons ta tNil)) σ G (.int (if b then 1 else 0)) :=
  ed_cb (ea_cons h ea_nil) fun vs G1 _ hv => by
    cases hv with
    | cons hx ht =>
      cases ht
      cases hx
      exact rd_val (.int _) fun H e Q q => .inr ⟨b, rfl, q⟩
theorem ed_min2 {i j : Int} (ha : Ed K ta σ G (.int i)) (hb : Ed K tb σ G (.int j)) : Ed K (tCB rMin2C (tCons ta (tCons tb tNil))) σ G (.int (if j < i then j else i)) :=
  ed_cb (ea_cons ha (ea_cons hb ea_nil)) fun vs G1 _ hv => by
    cases hv with
    | cons hx ht =>
      cases ht with
      | cons hy ht =>
        cases ht
        cases hx
        cases hy
        exact rd_val (.int _) fun H e Q q => ⟨i, j, rfl, q⟩
theorem ed_min {ns : List Int} {m : Int} (h : Ed K ta σ G (.list (ns.map PyData.int))) (hm : m ∈ ns) (hl : ∀ y ∈ ns, m ≤ y) : Ed K (tCB (rMin K) (tCons ta tNil)) σ G (.int m) :=
  ed_cb (ea_cons h ea_nil) fun vs G1 _ hv => by
    cases hv with
    | cons hx ht =>
      cases ht
      obtain ⟨a, xs, rfl, hs, hd⟩ := dp_lst_inv hx
      obtain rfl := dps_ints_inv hd
      refine fun H e Q q => ⟨a, ns, rfl, ex_l e hs, List.length_pos_of_mem hm, fun m' h1 h2 => ?_⟩
      have : m' = m := Int.le_antisymm (h2 m hm) (hl m' h1)
      rw [this]
      exact q _ _ _ (Nw.refl e) (.int m)
theorem ed_max {ns : List Int} {m : Int} (h : Ed K ta σ G (.list (ns.map PyData.int))) (hm : m ∈ ns) (hl : ∀ y ∈ ns, y ≤ m) : Ed K (tCB (rMax K) (tCons ta tNil)) σ G (.int m) :=
  ed_cb (ea_cons h ea_nil) fun vs G1 _ hv => by
    cases hv with
    | cons hx ht =>
      cases ht
      obtain ⟨a, xs, rfl, hs, hd⟩ := dp_lst_inv hx
      obtain rfl := dps_ints_inv hd
      refine fun H e Q q => ⟨a, ns, rfl, ex_l e hs, List.length_pos_of_mem hm, fun m' h1 h2 => ?_⟩
      have : m' = m := Int.le_antisymm (hl m' h1) (h2 m hm)
      rw [this]
      exact q _ _ _ (Nw.refl e) (.int m)
theorem ed_all {bs : List Bool} (h : Ed K ta σ G (.list (bs.map PyData.bool))) : Ed K (tCB (rAll K) (tCons ta tNil)) σ G (.bool (bs.all id)) :=
  ed_cb (ea_cons h ea_nil) fun vs G1 _ hv => by
    cases hv with
    | cons hx ht =>
      cases ht
      obtain ⟨a, xs, rfl, hs, hd⟩ := dp_lst_inv hx
      obtain rfl := dps_bools_inv hd
      exact rd_val (.bl _) fun H e Q q => ⟨a, bs, rfl, ex_l e hs, q⟩
theorem ed_isN (h : Ed K ta σ G d) : Ed K (tOp rIsNC ta (tC .non)) σ G (.bool (match d with | .none => true | _ => false)) :=
  ed_op h ed_non fun x y G1 _ hx hy => by
    refine rd_val (v := .bl (decide (x = .non))) ?_ fun H e Q q => ⟨dp_non_inv hy, q⟩
    cases hx <;> first | exact .bl _ | (rw [decide_eq_false (by simp)]; exact .bl _) | (rw [decide_eq_true (by simp)]; exact .bl _)
theorem ed_notN (h : Ed K ta σ G d) : Ed K (tOp rNotNC ta (tC .non)) σ G (.bool (match d with | .none => false | _ => true)) :=
  ed_op h ed_non fun x y G1 _ hx hy => by
    refine rd_val (v := .bl (!decide (x = .non))) ?_ fun H e Q q => ⟨dp_non_inv hy, q⟩
    cases hx <;> first | exact .bl _ | (rw [decide_eq_false (by simp)]; exact .bl _) | (rw [decide_eq_true (by simp)]; exact .bl _)

/-! ### methods that change nothing -/
theorem ed_index {ds : List PyData} {j : Nat} {z : PyData} (ho : Ed K ta σ G (.list ds)) (he : Ed K te σ G d) (s1 : SeqAt.shaped (.list ds) = true) (s2 : SeqAt.shaped d = true) (hz : ds[j]? = some z) (hq : PyData.eqv z d = true)
    (hn : ∀ (m : Nat) (z' : PyData), m < j → ds[m]? = some z' → PyData.eqv z' d = false) : Ed K (tBM K "list" (rIndexD K) ta (tCons te tNil)) σ G (.int (j : Nat)) := fun H e Q q =>
  ho H e _ fun x G1 H1 n1 h1 => by
    obtain ⟨a, xs, rfl, hs, hd⟩ := dp_lst_inv h1
    refine ⟨.inl ⟨rfl, xs, ex_l n1.gh hs⟩, (he.mono n1.gg) H1 n1.gh _ fun y G2 H2 n2 h2 => ?_⟩
    exact ⟨a, y, d, ds, j, z, rfl, rfl, dp_ex (n2.gg.trans n2.gh) h1, dp_ex n2.gh h2, s1, s2, hz, hq, hn, q _ G2 H2 (n1.trans n2) (.int _)⟩
theorem ed_count {ns : List Int} {i : Int} (ho : Ed K ta σ G (.list (ns.map PyData.int))) (he : Ed K te σ G (.int i)) : Ed K (tBM K "list" (rCntI K) ta (tCons te tNil)) σ G (.int (ns.count i : Nat)) := fun H e Q q =>
  ho H e _ fun x G1 H1 n1 h1 => by
    obtain ⟨a, xs, rfl, hs, hd⟩ := dp_lst_inv h1
    obtain rfl := dps_ints_inv hd
    refine ⟨.inl ⟨rfl, _, ex_l n1.gh hs⟩, (he.mono n1.gg) H1 n1.gh _ fun y G2 H2 n2 h2 => ?_⟩
    exact ⟨a, ns, i, rfl, by rw [dp_int_inv h2], ex_l (n2.gg.trans n2.gh) hs, q _ G2 H2 (n1.trans n2) (.int _)⟩

/-! ### slices -/
def EdO (K : PySem.W.Frag) (to : TO) (σ : L2.St) (G : Hp) (o : Option Int) : Prop := ∀ H, Ex G H → ∀ Q : Option Int → Hp → Prop, (∀ G' H', Nw G H G' H' → Q o H') → to σ H Q
theorem eo_non : EdO K tNoPart σ G none := fun H e _ q => q G H (Nw.refl e)
theorem eo_int {i : Int} (h : Ed K te σ G (.int i)) : EdO K (tPart te) σ G (some i) := fun H e _ q => h H e _ fun v G1 H1 n1 h1 => ⟨i, dp_int_inv h1, q G1 H1 n1⟩
theorem EdO.mono {to : TO} {o : Option Int} (e : Ex G G1) (h : EdO K to σ G o) : EdO K to σ G1 o := fun H x Q q => h H (e.trans x) Q fun G' H' n => q _ H' (n.mono e x)
def cutD (xs : List PyData) (lo hi : Option Int) : List PyData := (xs.drop (HT.sIx xs.length 0 lo)).take (HT.sIx xs.length xs.length hi - HT.sIx xs.length 0 lo)
theorem dps_cut {vs : List V} {ds : List PyData} (h : DpAll K G vs ds) (lo hi : Option Int) : DpAll K G (cutV vs lo hi) (cutD ds lo hi) := by
  unfold cutV cutD
  rw [dps_len h]
  exact dps_take _ (dps_drop _ h)
theorem ed_slT {tl th : TO} {ds : List PyData} {lo hi : Option Int} (h : Ed K te σ G (.tuple ds)) (h1 : EdO K tl σ G lo) (h2 : EdO K th σ G hi) : Ed K (tSl (rSlA K) te tl th) σ G (.tuple (cutD ds lo hi)) := fun H e Q q =>
  h H e _ fun x G1 H1 n1 hx => (h1.mono n1.gg) H1 n1.gh _ fun G2 H2 n2 => (h2.mono (n1.gg.trans n2.gg)) H2 n2.gh _ fun G3 H3 n3 => by
    obtain ⟨a, xs, rfl, hs, hd⟩ := dp_tup_inv (dp_ex (n2.gg.trans n3.gg) hx)
    have nn := (n1.trans n2).trans n3
    refine ⟨a, xs, rfl, ex_t n3.gh hs, fun hw => q _ G3 H3 nn (.tup hs ?_), fun _ p hp => q _ _ _ (nn.trans (Nw.new n3.gh hp)) (.tup (st_of upd_same) (dps_ex (Ex.new (fresh_back n3.gh hp)) (dps_cut hd lo hi)))⟩
    have hc : cutV xs lo hi = xs := by
      unfold cutV
      rw [hw.1, hw.2, List.drop_zero, Nat.sub_zero, List.take_length]
    have := dps_cut hd lo hi
    rw [hc] at this
    exact this

/-! ### fresh lists, kept out of the region -/
def EdF (K : PySem.W.Frag) (te : TE) (σ : L2.St) (G : Hp) (ds : List PyData) : Prop := ∀ H, Ex G H → ∀ Q : VK, (∀ p xs G' H', Nw G H G' H' → G' p = none → H p = none → H' p = some (.lst xs) → DpAll K G' xs ds → Q (.ref p) H') → te σ H Q
theorem Nw.add {G H G' H' : Hp} (n : Nw G H G' H') {p : Addr} {o : HO} (h1 : G' p = none) (h2 : H p = none) (h3 : H' p = some o) : Nw G H (upd G' p o) H' :=
  ⟨n.gg.trans (Ex.new h1), fun a u q => by
    by_cases ha : a = p
    · subst ha; rw [upd_same] at q; rw [h3]; exact q
    · rw [upd_ne ha] at q; exact n.gh a u q, n.hh, fun a e1 e2 => by
    have : a ≠ p := fun z => e2 (z ▸ h2)
    rw [upd_ne this]; exact n.fr a e1 e2⟩
theorem ed_ofF {ds : List PyData} (h : EdF K te σ G ds) : Ed K te σ G (.list ds) := fun H e Q q =>
  h H e Q fun p xs G' H' n h1 h2 h3 hd => q _ _ _ (n.add h1 h2 h3) (.lst (sq_of upd_same) (dps_ex (Ex.new h1) hd))
theorem EdF.mono {ds : List PyData} (e : Ex G G1) (h : EdF K te σ G ds) : EdF K te σ G1 ds := fun H x Q q => h H (e.trans x) Q fun p xs G' H' n h1 h2 h3 hd => by
  refine q p xs _ H' (n.mono e x) ?_ h2 h3 (dps_ex (un_r (x.trans n.hh) n.gh) hd)
  unfold un
  rw [fresh_back x h2]
  exact h1
theorem ef_lst {ta : TA} {ds : List PyData} (h : EdA K ta σ G ds) (hl : ds.length ≤ 16000000 := by simp) : EdF K (tLst ta) σ G ds := fun H e Q q =>
  h H e _ fun xs G1 H1 n1 h1 => ⟨sz8 (by rw [dps_len h1]; exact hl), fun p hp => q p xs G1 _ (n1.trans (Nw.out n1.gh hp)) (fresh_back n1.gh hp) (fresh_back n1.hh hp) upd_same h1⟩
theorem ef_listOfL {ds : List PyData} (h : Ed K ta σ G (.list ds)) : EdF K (tCB (rListC K) (tCons ta tNil)) σ G ds := fun H e Q q =>
  h H e _ fun x G1 H1 n1 h1 => by
    obtain ⟨a, xs, rfl, hs, hd⟩ := dp_lst_inv h1
    exact ⟨a, xs, rfl, .inl (ex_l n1.gh hs), fun p hp => q p xs G1 _ (n1.trans (Nw.out n1.gh hp)) (fresh_back n1.gh hp) (fresh_back n1.hh hp) upd_same hd⟩
theorem ef_listOfT {ds : List PyData} (h : Ed K ta σ G (.tuple ds)) : EdF K (tCB (rListC K) (tCons ta tNil)) σ G ds := fun H e Q q =>
  h H e _ fun x G1 H1 n1 h1 => by
    obtain ⟨a, xs, rfl, hs, hd⟩ := dp_tup_inv h1
    exact ⟨a, xs, rfl, .inr (ex_t n1.gh hs), fun p hp => q p xs G1 _ (n1.trans (Nw.out n1.gh hp)) (fresh_back n1.gh hp) (fresh_back n1.hh hp) upd_same hd⟩
theorem ef_sl {tl th : TO} {ds : List PyData} {lo hi : Option Int} (h : Ed K te σ G (.list ds)) (h1 : EdO K tl σ G lo) (h2 : EdO K th σ G hi) : EdF K (tSl (rSlL K) te tl th) σ G (cutD ds lo hi) := fun H e Q q =>
  h H e _ fun x G1 H1 n1 hx => (h1.mono n1.gg) H1 n1.gh _ fun G2 H2 n2 => (h2.mono (n1.gg.trans n2.gg)) H2 n2.gh _ fun G3 H3 n3 => by
    obtain ⟨a, xs, rfl, hs, hd⟩ := dp_lst_inv (dp_ex (n2.gg.trans n3.gg) hx)
    have nn := (n1.trans n2).trans n3
    exact ⟨a, xs, rfl, ex_l n3.gh hs, fun p hp => q p _ G3 _ (nn.trans (Nw.out n3.gh hp)) (fresh_back n3.gh hp) (fresh_back nn.hh hp) upd_same (dps_cut hd lo hi)⟩
theorem ef_cat {ds es : List PyData} (ha : EdF K ta σ G ds) (hb : EdF K tb σ G es) (hz : ds.length + es.length ≤ 16000000) : EdF K (tOp rCat ta tb) σ G (ds ++ es) := fun H e Q q =>
  ha H e _ fun p xs G1 H1 n1 f1 f2 f3 hd => (hb.mono n1.gg) H1 n1.gh _ fun r ys G2 H2 n2 g1 g2 g3 he =>
    ⟨p, r, xs, ys, rfl, rfl, n2.hh _ _ f3, g3, sz8 (by rw [dps_len hd, dps_len he]; exact hz), fun a hp => q a _ G2 _ ((n1.trans n2).trans (Nw.out n2.gh hp)) (fresh_back n2.gh hp) (fresh_back (n1.hh.trans n2.hh) hp) upd_same (dps_app (dps_ex n2.gg hd) he)⟩
theorem dps_rep {xs : List V} {ds : List PyData} (h : DpAll K G xs ds) : ∀ n : Nat, DpAll K G (List.replicate n xs).flatten (List.replicate n ds).flatten
  | 0 => .nil
  | n + 1 => by
    rw [List.replicate_succ, List.replicate_succ, List.flatten_cons, List.flatten_cons]
    exact dps_app h (dps_rep h n)
theorem flat_one {α : Type} (x : α) : ∀ n : Nat, (List.replicate n [x]).flatten = List.replicate n x
  | 0 => rfl
  | n + 1 => by
    rw [List.replicate_succ, List.replicate_succ, List.flatten_cons, flat_one x n]
    rfl
theorem ef_rep {n : Nat} (ha : EdF K ta σ G [d]) (hb : Ed K tb σ G (.int (n : Int))) (hz : n ≤ 1000000) : EdF K (tOp rRep ta tb) σ G (List.replicate n d) := fun H e Q q =>
  ha H e _ fun p xs G1 H1 n1 f1 f2 f3 hd => (hb.mono n1.gg) H1 n1.gh _ fun y G2 H2 n2 hy => by
    obtain rfl := dp_int_inv hy
    have hl : xs.length = 1 := dps_len hd
    refine ⟨p, (n : Int), xs, rfl, rfl, n2.hh _ _ f3, by omega, by omega, sz8 (by rw [hl, Int.toNat_natCast]; omega), fun a hp => q a _ G2 _ ((n1.trans n2).trans (Nw.out n2.gh hp)) (fresh_back n2.gh hp) (fresh_back (n1.hh.trans n2.hh) hp) upd_same ?_⟩
    rw [Int.toNat_natCast]
    have := dps_rep (dps_ex n2.gg hd) n
    rw [flat_one] at this
    exact this
theorem ef_rng {n : Nat} (hb : Ed K tb σ G (.int (n : Int))) (hz : n ≤ 1000000) : EdF K (tLstRg (tRg1 tb)) σ G ((List.range n).map fun i => .int (i : Nat)) := fun H e Q q =>
  hb H e _ fun y G2 H2 n2 hy => ⟨(n : Int), dp_int_inv hy, RgOk.of_le (by omega) (by omega) (by omega) (by omega), fun a hp => q a _ G2 _ (n2.trans (Nw.out n2.gh hp)) (fresh_back n2.gh hp) (fresh_back n2.hh hp) upd_same (by
    unfold rgV
    rw [Int.sub_zero, Int.toNat_natCast]
    have : (List.range n).map (fun i => V.int (0 + (i : Nat))) = ((List.range n).map fun i : Nat => (i : Int)).map V.int := by
      rw [List.map_map]
      exact List.map_congr_left fun i _ => by rw [Int.zero_add]; rfl
    rw [this]
    have h2 : (List.range n).map (fun i => PyData.int (i : Nat)) = ((List.range n).map fun i : Nat => (i : Int)).map PyData.int := by
      rw [List.map_map]
      rfl
    rw [h2]
    exact dps_ints _)⟩
end
end Wk
/-! WC -/
/-! Rules over data: iterators, comprehensions, loops, statements. -/
namespace Wk
open PySem L2 Evl

/-! ### iterators -/
def Yl (K : PySem.W.Frag) (J : It) (G1 : Hp) (es : List PyData) : Prop := ∀ i H, Ex G1 H →
  (∀ d, es[i]? = some d → J.go i H ∧ ∀ x H', J.yld i H x H' → ∀ G', Ex G1 G' → Ex G' H → ∃ G2, Nw G' H G2 H' ∧ Dp K G2 x d) ∧ (es.length = i → J.stop i H)
def EdI (K : PySem.W.Frag) (ti : TI) (σ : L2.St) (G : Hp) (es : List PyData) : Prop := ∀ H, Ex G H → ∀ R : It → Hp → Prop, (∀ J G1 H1, Nw G H G1 H1 → Yl K J G1 es → R J H1) → ti σ H R
theorem Yl.mono {K : PySem.W.Frag} {J : It} {G1 G2 : Hp} {es : List PyData} (e : Ex G1 G2) (h : Yl K J G1 es) : Yl K J G2 es := fun i H x =>
  ⟨fun d hd => ⟨((h i H (e.trans x)).1 d hd).1, fun v H' y G' e1 e2 => ((h i H (e.trans x)).1 d hd).2 v H' y G' (e.trans e1) e2⟩, fun hl => (h i H (e.trans x)).2 hl⟩
section
variable {K : PySem.W.Frag} {σ : L2.St} {G G1 H : Hp} {ta tb te tl : TE} {tt tu : TT} {d d1 d2 : PyData}
theorem EdI.mono {ti : TI} {es : List PyData} (e : Ex G G1) (h : EdI K ti σ G es) : EdI K ti σ G1 es := fun H x R q => h H (e.trans x) R fun J G' H1 n y => q J _ H1 (n.mono e x) (y.mono (un_r (x.trans n.hh) n.gh))
theorem yl_list {a : Addr} {xs : List V} {es : List PyData} (hs : SqL K G a xs) (hd : DpAll K G xs es) : Yl K (Itl K a) G es := fun i H x =>
  ⟨fun d he => by
    obtain ⟨v, hv, hvd⟩ := dps_get hd he
    refine ⟨⟨xs, v, ex_l x hs, hv⟩, fun u H' y G' e1 e2 => ?_⟩
    obtain ⟨rfl, y⟩ := y
    have := y xs (ex_l x hs)
    rw [hv] at this
    cases this
    exact ⟨G', Nw.refl e2, dp_ex e1 hvd⟩, fun hl => ⟨xs, ex_l x hs, Nat.le_of_eq (by rw [dps_len hd]; exact hl)⟩⟩
theorem yl_tup {a : Addr} {xs : List V} {es : List PyData} (hs : SqT K G a xs) (hd : DpAll K G xs es) : Yl K (Itt K a) G es := fun i H x =>
  ⟨fun d he => by
    obtain ⟨v, hv, hvd⟩ := dps_get hd he
    refine ⟨⟨xs, v, ex_t x hs, hv⟩, fun u H' y G' e1 e2 => ?_⟩
    obtain ⟨rfl, y⟩ := y
    have := y xs (ex_t x hs)
    rw [hv] at this
    cases this
    exact ⟨G', Nw.refl e2, dp_ex e1 hvd⟩, fun hl => ⟨xs, ex_t x hs, Nat.le_of_eq (by rw [dps_len hd]; exact hl)⟩⟩
theorem ei_list {es : List PyData} (h : Ed K tl σ G (.list es)) : EdI K (iList K tl) σ G es := fun H e R q =>
  h H e _ fun v G1 H1 n1 h1 => by
    obtain ⟨a, xs, rfl, hs, hd⟩ := dp_lst_inv h1
    exact ⟨a, rfl, ⟨xs, ex_l n1.gh hs⟩, q _ G1 H1 n1 (yl_list hs hd)⟩
theorem ei_tup {es : List PyData} (h : Ed K tl σ G (.tuple es)) : EdI K (iTup K tl) σ G es := fun H e R q =>
  h H e _ fun v G1 H1 n1 h1 => by
    obtain ⟨a, xs, rfl, hs, hd⟩ := dp_tup_inv h1
    exact ⟨a, rfl, ⟨xs, ex_t n1.gh hs⟩, q _ G1 H1 n1 (yl_tup hs hd)⟩
theorem yl_rng {lo : Int} {n : Nat} : Yl K (Itr lo n) G ((List.range n).map fun i : Nat => .int (lo + i)) := fun i H x => by
  refine ⟨fun d he => ?_, fun hl => (by simp at hl; omega : n ≤ i)⟩
  rw [List.getElem?_map] at he
  by_cases hi : i < n
  · rw [List.getElem?_range hi] at he
    cases he
    refine ⟨hi, fun u H' y G' e1 e2 => ?_⟩
    obtain ⟨rfl, rfl⟩ := y
    exact ⟨G', Nw.refl e2, .int _⟩
  · rw [List.getElem?_eq_none (by simpa using hi)] at he
    cases he
theorem ei_rng1 {n : Nat} (h : Ed K ta σ G (.int (n : Int))) (hn : n ≤ 1000000000) : EdI K (iRng1 (tCons ta tNil)) σ G ((List.range n).map fun i : Nat => .int (i : Int)) := fun H e R q =>
  h H e _ fun v G1 H1 n1 h1 => by
    obtain rfl := dp_int_inv h1
    refine ⟨(n : Int), rfl, by omega, by omega, q _ G1 H1 n1 ?_⟩
    have := yl_rng (K := K) (G := G1) (lo := 0) (n := n)
    rw [Int.toNat_natCast]
    have e2 : ((List.range n).map fun i : Nat => PyData.int (0 + i)) = (List.range n).map fun i : Nat => PyData.int (i : Int) := List.map_congr_left fun i _ => by rw [Int.zero_add]
    rw [e2] at this
    exact this
theorem ei_rng2 {lo n : Nat} (ha : Ed K ta σ G (.int (lo : Int))) (hb : Ed K tb σ G (.int (n : Int))) (hl : lo ≤ 1000000000) (hn : n ≤ 1000000000) : EdI K (iRng2 (tCons ta (tCons tb tNil))) σ G ((List.range (n - lo)).map fun i : Nat => .int ((lo + i : Nat) : Int)) := fun H e R q =>
  ha H e _ fun v G1 H1 n1 h1 => (hb.mono n1.gg) H1 n1.gh _ fun v2 G2 H2 n2 h2 => by
    obtain rfl := dp_int_inv h1
    obtain rfl := dp_int_inv h2
    refine ⟨(lo : Int), (n : Int), rfl, ⟨by omega, by omega, by omega, by omega⟩, q _ G2 H2 (n1.trans n2) ?_⟩
    have := yl_rng (K := K) (G := G2) (lo := (lo : Int)) (n := n - lo)
    have e1 : ((n : Int) - (lo : Int)).toNat = n - lo := by omega
    rw [e1]
    have e2 : ((List.range (n - lo)).map fun i : Nat => PyData.int ((lo : Int) + i)) = (List.range (n - lo)).map fun i : Nat => PyData.int ((lo + i : Nat) : Int) := List.map_congr_left fun i _ => by rw [Int.natCast_add]
    rw [e2] at this
    exact this
/-- pairs of place and item -/
def enumD (es : List PyData) : List PyData := es.zipIdx.map fun p => .tuple [.int (p.2 : Nat), p.1]
theorem enumD_get {es : List PyData} {i : Nat} {d : PyData} (h : (enumD es)[i]? = some d) : ∃ x, es[i]? = some x ∧ d = .tuple [.int (i : Nat), x] := by
  unfold enumD at h
  rw [List.getElem?_map, List.getElem?_zipIdx] at h
  cases e : es[i]? with
  | none => rw [e] at h; simp at h
  | some x =>
    rw [e] at h
    simp at h
    exact ⟨x, rfl, h.symm⟩
theorem enumD_len (es : List PyData) : (enumD es).length = es.length := by unfold enumD; simp
theorem nw_pair {G H : Hp} {T : Addr} {x y : V} {d1 d2 : PyData} (e : Ex G H) (h : H T = none) (h1 : Dp K G x d1) (h2 : Dp K G y d2) : ∃ G2, Nw G H G2 (upd H T (.tup [x, y])) ∧ Dp K G2 (.ref T) (.tuple [d1, d2]) :=
  ⟨upd G T (.tup [x, y]), Nw.new e h, .tup (st_of upd_same) (.cons (dp_ex (Ex.new (fresh_back e h)) h1) (.cons (dp_ex (Ex.new (fresh_back e h)) h2) .nil))⟩
theorem yl_enum {a : Addr} {xs : List V} {es : List PyData} (hs : SqL K G a xs) (hd : DpAll K G xs es) : Yl K (Ite K a) G (enumD es) := fun i H x =>
  ⟨fun d he => by
    obtain ⟨d, he', rfl⟩ := enumD_get he
    obtain ⟨v, hv, hvd⟩ := dps_get hd he'
    refine ⟨⟨xs, v, ex_l x hs, hv⟩, fun u H' y G' e1 e2 => ?_⟩
    obtain ⟨T, z, rfl, hT, rfl, y⟩ := y
    have := y xs (ex_l x hs)
    rw [hv] at this
    cases this
    exact nw_pair e2 hT (.int _) (dp_ex e1 hvd), fun hl => ⟨xs, ex_l x hs, Nat.le_of_eq (by rw [dps_len hd]; rw [enumD_len] at hl; exact hl)⟩⟩
theorem ei_enum {es : List PyData} (h : Ed K ta σ G (.list es)) : EdI K (iEnum K (tCons ta tNil)) σ G (enumD es) := fun H e R q =>
  h H e _ fun v G1 H1 n1 h1 => by
    obtain ⟨a, xs, rfl, hs, hd⟩ := dp_lst_inv h1
    exact ⟨a, xs, rfl, ex_l n1.gh hs, q _ G1 H1 n1 (yl_enum hs hd)⟩
/-- pairs of items -/
def zipD (es fs : List PyData) : List PyData := (es.zip fs).map fun p => .tuple [p.1, p.2]
theorem zipD_get {es fs : List PyData} {i : Nat} {d : PyData} (h : (zipD es fs)[i]? = some d) : ∃ x y, es[i]? = some x ∧ fs[i]? = some y ∧ d = .tuple [x, y] := by
  unfold zipD at h
  rw [List.getElem?_map] at h
  cases e : (es.zip fs)[i]? with
  | none => rw [e] at h; cases h
  | some p =>
    rw [e] at h
    cases h
    have := List.getElem?_zip_eq_some.mp e
    exact ⟨p.1, p.2, this.1, this.2, rfl⟩
theorem yl_zipT {a b : Addr} {xs ys : List V} {es fs : List PyData} (hs : SqT K G a xs) (ht : SqT K G b ys) (hd : DpAll K G xs es) (hf : DpAll K G ys fs) : Yl K (RZ.ItzT K a b) G (zipD es fs) := fun i H x =>
  ⟨fun d he => by
    obtain ⟨d, f, he', hg, rfl⟩ := zipD_get he
    obtain ⟨v, hv, hvd⟩ := dps_get hd he'
    obtain ⟨w, hw, hwd⟩ := dps_get hf hg
    refine ⟨⟨xs, ys, v, w, ex_t x hs, ex_t x ht, hv, hw⟩, fun u H' y G' e1 e2 => ?_⟩
    obtain ⟨T, z, z', rfl, hT, rfl, y, y'⟩ := y
    have t1 := y xs (ex_t x hs)
    have t2 := y' ys (ex_t x ht)
    rw [hv] at t1
    rw [hw] at t2
    cases t1
    cases t2
    exact nw_pair e2 hT (dp_ex e1 hvd) (dp_ex e1 hwd), fun hl => ⟨xs, ys, ex_t x hs, ex_t x ht, by
      unfold zipD at hl
      rw [List.length_map, List.length_zip] at hl
      rw [dps_len hd, dps_len hf]
      omega⟩⟩
theorem ei_zipT {es fs : List PyData} (h : Ed K ta σ G (.tuple es)) (h2 : Ed K tb σ G (.tuple fs)) : EdI K (RZ.iZipA K (tCons ta (tCons tb tNil))) σ G (zipD es fs) := fun H e R q =>
  h H e _ fun v G1 H1 n1 h1 => (h2.mono n1.gg) H1 n1.gh _ fun v2 G2 H2 n2 h2 => by
    obtain ⟨a, xs, rfl, hs, hd⟩ := dp_tup_inv h1
    obtain ⟨b, ys, rfl, ht, hf⟩ := dp_tup_inv h2
    exact ⟨a, b, xs, ys, rfl, .inr ⟨ex_t (n2.gg.trans n2.gh) hs, ex_t n2.gh ht, q _ G2 H2 (n1.trans n2) (yl_zipT (ex_t n2.gg hs) ht (dps_ex n2.gg hd) hf)⟩⟩

/-! ### comprehensions -/
theorem ef_lc {α : Type} {ti : TI} {g : TG} {vs : List Nat} (l : List α) (enc : α → PyData) (res : α → Option PyData) (h : EdI K ti σ G (l.map enc)) (hz : l.length ≤ 15000000)
    (he : ∀ (i : Nat) (a : α), l[i]? = some a → ∀ x G' H', Ex G G' → Ex G' H' → Dp K G' x (enc a) → ∀ Q : L2.St → Hp → Prop, (∀ σ2, wipe σ2 vs = wipe σ vs → EdT tt σ2 G' (res a).isSome → (∀ d, res a = some d → Ed K te σ2 G' d) → Q σ2 H') → g x (wipe σ vs) H' Q) :
    EdF K (tLc ti g tt te vs) σ G (l.filterMap res) := fun H e Q q => h H e _ fun J G1 H1 n1 hy D hD => by
  refine ⟨fun i m H' => m = l.length - i ∧ i ≤ l.length ∧ ∃ G' xs, Nw G1 H1 G' H' ∧ G' D = none ∧ H' D = some (.lst xs) ∧ DpAll K G' xs ((l.take i).filterMap res),
    ⟨l.length, by simp, Nat.zero_le _, G1, [], Nw.out n1.gh hD, fresh_back n1.gh hD, upd_same, .nil⟩, ?_⟩
  rintro i m H' ⟨rfl, hi, G', xs, n2, g2, h2, hd⟩
  have key := hy i H' n2.ex
  by_cases hlt : i < l.length
  · obtain ⟨a, ha⟩ : ∃ a, l[i]? = some a := ⟨l[i], List.getElem?_eq_getElem hlt⟩
    obtain ⟨k1, k2⟩ := key.1 (enc a) (by rw [List.getElem?_map, ha]; rfl)
    refine .inr ⟨k1, fun H3 => ∃ G' xs, Nw G1 H1 G' H3 ∧ G' D = none ∧ H3 D = some (.lst xs) ∧ DpAll K G' xs ((l.take (i + 1)).filterMap res), fun H3 hp => ⟨l.length - (i + 1), by omega, rfl, hlt, hp⟩, fun x H3 hx => ?_⟩
    obtain ⟨G3, n3, hxd⟩ := k2 x H3 hx G' n2.gg n2.gh
    have m3 := n2.trans n3
    obtain ⟨g3, h3⟩ := n3.keep g2 h2
    have tk : (l.take (i + 1)).filterMap res = (l.take i).filterMap res ++ (match res a with | some d => [d] | none => []) := by
      rw [List.take_add_one, ha, List.filterMap_append]
      cases q : res a <;> simp [q]
    refine he i a ha x G3 H3 (n1.gg.trans m3.gg) n3.gh hxd _ fun σ2 hw ht hel => ⟨hw, ht H3 n3.gh _ fun G4 H4 n4 => ?_⟩
    obtain ⟨g4, h4⟩ := n4.keep g3 h3
    cases hr : res a with
    | none =>
      show ∃ G' xs, Nw G1 H1 G' H4 ∧ _
      refine ⟨G4, xs, m3.trans n4, g4, h4, ?_⟩
      rw [tk, hr, List.append_nil]
      exact dps_ex (n3.gg.trans n4.gg) hd
    | some d =>
      refine ((hel d hr).mono n4.gg) H4 n4.gh _ fun y G5 H5 n5 hyd => ?_
      obtain ⟨g5, h5⟩ := n5.keep g4 h4
      have m5 := (m3.trans n4).trans n5
      refine ⟨xs, h5, sz8' ?_, G5, xs ++ [y], ⟨m5.gg, Ex.mut m5.gh g5, Ex.mut m5.hh hD, m5.fr⟩, g5, upd_same, ?_⟩
      · rw [dps_len hd]
        have := List.length_filterMap_le res (l.take i)
        rw [List.length_take] at this
        omega
      · rw [tk, hr]
        exact dps_app (dps_ex ((n3.gg.trans n4.gg).trans n5.gg) hd) (dps_one hyd)
  · have ei : i = l.length := by omega
    subst ei
    refine .inl ⟨key.2 (by simp), ?_⟩
    rw [List.take_length] at hd
    exact q D xs G' H' (n1.trans n2) g2 (fresh_back n1.hh hD) h2 hd
theorem ed_lc {α : Type} {ti : TI} {g : TG} {vs : List Nat} (l : List α) (enc : α → PyData) (res : α → Option PyData) (h : EdI K ti σ G (l.map enc)) (hz : l.length ≤ 15000000)
    (he : ∀ (i : Nat) (a : α), l[i]? = some a → ∀ x G' H', Ex G G' → Ex G' H' → Dp K G' x (enc a) → ∀ Q : L2.St → Hp → Prop, (∀ σ2, wipe σ2 vs = wipe σ vs → EdT tt σ2 G' (res a).isSome → (∀ d, res a = some d → Ed K te σ2 G' d) → Q σ2 H') → g x (wipe σ vs) H' Q) :
    Ed K (tLc ti g tt te vs) σ G (.list (l.filterMap res)) := ed_ofF (ef_lc l enc res h hz he)
/-- no test -/
theorem ef_lcm {α : Type} {ti : TI} {g : TG} {vs : List Nat} (l : List α) (enc : α → PyData) (res : α → PyData) (h : EdI K ti σ G (l.map enc)) (hz : l.length ≤ 15000000)
    (he : ∀ (i : Nat) (a : α), l[i]? = some a → ∀ x G' H', Ex G G' → Ex G' H' → Dp K G' x (enc a) → ∀ Q : L2.St → Hp → Prop, (∀ σ2, wipe σ2 vs = wipe σ vs → Ed K te σ2 G' (res a) → Q σ2 H') → g x (wipe σ vs) H' Q) :
    EdF K (tLc ti g tYes te vs) σ G (l.map res) := by
  have := ef_lc (tt := tYes) (te := te) (vs := vs) l enc (fun a => some (res a)) h hz fun i a ha x G' H' e1 e2 hx Q q => he i a ha x G' H' e1 e2 hx Q fun σ2 hw hel => q σ2 hw et_yes fun d hd => by cases hd; exact hel
  rw [List.filterMap_eq_map'] at this
  exact this
theorem ed_lcm {α : Type} {ti : TI} {g : TG} {vs : List Nat} (l : List α) (enc : α → PyData) (res : α → PyData) (h : EdI K ti σ G (l.map enc)) (hz : l.length ≤ 15000000)
    (he : ∀ (i : Nat) (a : α), l[i]? = some a → ∀ x G' H', Ex G G' → Ex G' H' → Dp K G' x (enc a) → ∀ Q : L2.St → Hp → Prop, (∀ σ2, wipe σ2 vs = wipe σ vs → Ed K te σ2 G' (res a) → Q σ2 H') → g x (wipe σ vs) H' Q) :
    Ed K (tLc ti g tYes te vs) σ G (.list (l.map res)) := ed_ofF (ef_lcm l enc res h hz he)
/-! targets -/
theorem gt2n {x : V} {i j : Nat} {Q : L2.St → Hp → Prop} {d1 d2 : PyData} (h : Dp K G x (.tuple [d1, d2])) (e : Ex G H) (k : ∀ v w, Dp K G v d1 → Dp K G w d2 → Q ((σ.set i (some v)).set j (some w)) H) : gTup K 2 (gCons (gName i) (gCons (gName j) gNil)) x σ H Q := by
  obtain ⟨a, xs, rfl, hs, hd⟩ := dp_tup_inv h
  cases hd with
  | cons h1 t =>
    cases t with
    | cons h2 t =>
      cases t
      exact ⟨a, _, rfl, ex_t e hs, rfl, _, _, rfl, _, _, rfl, rfl, k _ _ h1 h2⟩
end
end Wk
/-! WD -/
/-! Rules over data: statements. -/
namespace Wk
open PySem L2 Evl
section
variable {K : PySem.W.Frag} {σ : L2.St} {G Ge G1 H : Hp} {ta tb te tl to : TE} {tt : TT} {d d1 d2 : PyData} {D : Ends} {tu tw tz : TS} {g : TG} {ti : TI}

theorem sd_asg {i : Nat} (h : Ed K te σ G d) (e : Ex G H) (k : ∀ v G1 H1, Nw G H G1 H1 → Dp K G1 v d → D.nx (σ.set i (some v)) H1) : tAsg te (gName i) D σ H := h H e _ k
theorem qd_asg {i : Nat} (h : Ed K te σ G d) (e : Ex G H) (k : ∀ v G1 H1, Nw G H G1 H1 → Dp K G1 v d → tz D (σ.set i (some v)) H1) : tSeq (tAsg te (gName i)) tz D σ H := h H e _ k
theorem sd_asgF {i : Nat} {ds : List PyData} (h : EdF K te σ G ds) (e : Ex G H) (k : ∀ p xs G1 H1, Nw G H G1 H1 → G1 p = none → H p = none → H1 p = some (.lst xs) → DpAll K G1 xs ds → D.nx (σ.set i (some (.ref p))) H1) : tAsg te (gName i) D σ H := h H e _ k
theorem qd_asgF {i : Nat} {ds : List PyData} (h : EdF K te σ G ds) (e : Ex G H) (k : ∀ p xs G1 H1, Nw G H G1 H1 → G1 p = none → H p = none → H1 p = some (.lst xs) → DpAll K G1 xs ds → tz D (σ.set i (some (.ref p))) H1) : tSeq (tAsg te (gName i)) tz D σ H := h H e _ k
/-- x = [] -/
theorem qd_new {i : Nat} (k : ∀ p, H p = none → tz D (σ.set i (some (.ref p))) (upd H p (.lst []))) : tSeq (tAsg (tLst tNil) (gName i)) tz D σ H := ⟨Nat.zero_le _, k⟩
theorem sd_ret (h : Ed K te σ G d) (e : Ex G H) (k : ∀ v G1 H1, Nw G H G1 H1 → Dp K G1 v d → D.rt v H1) : tRet te D σ H := h H e _ k
theorem sd_retF {ds : List PyData} (h : EdF K te σ G ds) (e : Ex G H) (k : ∀ p xs G1 H1, Nw G H G1 H1 → G1 p = none → H p = none → H1 p = some (.lst xs) → DpAll K G1 xs ds → D.rt (.ref p) H1) : tRet te D σ H := h H e _ k
theorem sd_if {b : Bool} (h : EdT tt σ G b) (e : Ex G H) (h1 : b = true → ∀ G1 H1, Nw G H G1 H1 → tu D σ H1) (h2 : b = false → ∀ G1 H1, Nw G H G1 H1 → tw D σ H1) : tIfS tt tu tw D σ H := h H e _ fun G1 H1 n => by
  cases b with
  | true =>
    show tu D σ H1
    exact h1 rfl G1 H1 n
  | false =>
    show tw D σ H1
    exact h2 rfl G1 H1 n
theorem qd_if {b : Bool} (h : EdT tt σ G b) (e : Ex G H) (h1 : b = true → ∀ G1 H1, Nw G H G1 H1 → tu { D with nx := tz D } σ H1) (h2 : b = false → ∀ G1 H1, Nw G H G1 H1 → tw { D with nx := tz D } σ H1) : tSeq (tIfS tt tu tw) tz D σ H := sd_if (D := { D with nx := tz D }) h e h1 h2
/-- an if without else -/
theorem qd_when {b : Bool} (h : EdT tt σ G b) (e : Ex G H) (h1 : b = true → ∀ G1 H1, Nw G H G1 H1 → tu { D with nx := tz D } σ H1) (h2 : b = false → ∀ G1 H1, Nw G H G1 H1 → tz D σ H1) : tSeq (tIfS tt tu tNext) tz D σ H := sd_if (D := { D with nx := tz D }) h e h1 h2
theorem sd_when {b : Bool} (h : EdT tt σ G b) (e : Ex G H) (h1 : b = true → ∀ G1 H1, Nw G H G1 H1 → tu D σ H1) (h2 : b = false → ∀ G1 H1, Nw G H G1 H1 → D.nx σ H1) : tIfS tt tu tNext D σ H := sd_if h e h1 h2
/-- l.append(e), l a name -/
theorem sd_app {l : Addr} {xs : List V} {j : Nat} (hj : σ[j]? = some (some (.ref l))) (hg : G l = none) (hl : H l = some (.lst xs)) (hz : xs.length ≤ 15000000) (h : Ed K te σ G d) (e : Ex G H)
    (k : ∀ v G1 H1, Nw G H G1 H1 → Dp K G1 v d → G1 l = none → Ex G1 (upd H1 l (.lst (xs ++ [v]))) → D.nx σ (upd H1 l (.lst (xs ++ [v])))) : tDrop (tBM K "list" rAppend (tVar j) (tCons te tNil)) D σ H :=
  ⟨_, hj, .inl ⟨rfl, xs, sq_of hl⟩, h H e _ fun v G1 H1 n hv => ⟨l, xs, v, rfl, rfl, (n.keep hg hl).2, sz8' (Nat.le_trans hz (by decide)), k v G1 H1 n hv (n.keep hg hl).1 (Ex.mut n.gh (n.keep hg hl).1)⟩⟩
theorem qd_app {l : Addr} {xs : List V} {j : Nat} (hj : σ[j]? = some (some (.ref l))) (hg : G l = none) (hl : H l = some (.lst xs)) (hz : xs.length ≤ 15000000) (h : Ed K te σ G d) (e : Ex G H)
    (k : ∀ v G1 H1, Nw G H G1 H1 → Dp K G1 v d → G1 l = none → Ex G1 (upd H1 l (.lst (xs ++ [v]))) → tz D σ (upd H1 l (.lst (xs ++ [v])))) : tSeq (tDrop (tBM K "list" rAppend (tVar j) (tCons te tNil))) tz D σ H := sd_app (D := { D with nx := tz D }) hj hg hl hz h e k
/-- l[i] = e, l a name: e over any region Ge of the heap -/
theorem sd_set {l : Addr} {xs : List V} {j i : Nat} (hj : σ[j]? = some (some (.ref l))) (hl : H l = some (.lst xs)) (h : Ed K te σ Ge d) (e : Ex Ge H) (hi : Ed K tb σ G (.int (i : Nat))) (eg : Ex G H) (hx : i < xs.length)
    (k : ∀ v G1 H1, Nw Ge H G1 H1 → Dp K G1 v d → ∀ H2, Ex H1 H2 → D.nx σ (upd H2 l (.lst (xs.set i v)))) : tAsg te (gSub (tVar j) tb rSetL) D σ H :=
  h H e _ fun v G1 H1 n hv => ⟨_, hj, hi H1 (eg.trans n.hh) _ fun y G2 H2 n2 hy => ⟨l, xs, (i : Nat), i, rfl, dp_int_inv hy, n2.hh _ _ (n.hh _ _ hl), ixn hx, k v G1 H1 n hv H2 n2.hh⟩⟩
theorem qd_set {l : Addr} {xs : List V} {j i : Nat} (hj : σ[j]? = some (some (.ref l))) (hl : H l = some (.lst xs)) (h : Ed K te σ Ge d) (e : Ex Ge H) (hi : Ed K tb σ G (.int (i : Nat))) (eg : Ex G H) (hx : i < xs.length)
    (k : ∀ v G1 H1, Nw Ge H G1 H1 → Dp K G1 v d → ∀ H2, Ex H1 H2 → tz D σ (upd H2 l (.lst (xs.set i v)))) : tSeq (tAsg te (gSub (tVar j) tb rSetL)) tz D σ H := sd_set (D := { D with nx := tz D }) hj hl h e hi eg hx k
/-- THE LOOP over data -/
theorem sd_for {α : Type} (l : List α) (enc : α → PyData) (h : EdI K ti σ G (l.map enc)) (e : Ex G H) (Pv : Nat → Hp → L2.St → Hp → Prop) (h0 : ∀ G1 H1, Nw G H G1 H1 → Pv 0 G1 σ H1)
    (hs : ∀ (G1 : Hp) (i : Nat) (a : α) (G2 : Hp) (σ2 : L2.St) (H2 : Hp), Ex G G1 → l[i]? = some a → Ex G1 G2 → Ex G2 H2 → Pv i G2 σ2 H2 → ∀ x G3 H3, Nw G2 H2 G3 H3 → Dp K G3 x (enc a) →
      g x σ2 H3 fun σ4 H4 => tu { D with nx := fun σ5 H5 => ∃ G5, Ex G1 G5 ∧ Ex G5 H5 ∧ Pv (i + 1) G5 σ5 H5, ct := fun σ5 H5 => ∃ G5, Ex G1 G5 ∧ Ex G5 H5 ∧ Pv (i + 1) G5 σ5 H5, bk := D.nx } σ4 H4)
    (hd : ∀ G2 σ2 H2, Ex G G2 → Ex G2 H2 → Pv l.length G2 σ2 H2 → D.nx σ2 H2) : tFor ti g tu D σ H := h H e _ fun J G1 H1 n1 hy => by
  refine ⟨fun i m σ2 H2 => m = l.length - i ∧ i ≤ l.length ∧ ∃ G2, Ex G1 G2 ∧ Ex G2 H2 ∧ Pv i G2 σ2 H2, ⟨l.length, by simp, Nat.zero_le _, G1, Ex.refl G1, n1.gh, h0 G1 H1 n1⟩, ?_⟩
  rintro i m σ2 H2 ⟨rfl, hi, G2, e1, e2, hp⟩
  have key := hy i H2 (e1.trans e2)
  by_cases hlt : i < l.length
  · obtain ⟨a, ha⟩ : ∃ a, l[i]? = some a := ⟨l[i], List.getElem?_eq_getElem hlt⟩
    obtain ⟨k1, k2⟩ := key.1 (enc a) (by rw [List.getElem?_map, ha]; rfl)
    refine .inr ⟨k1, fun σ5 H5 => ∃ G5, Ex G1 G5 ∧ Ex G5 H5 ∧ Pv (i + 1) G5 σ5 H5, fun σ5 H5 hq => ⟨l.length - (i + 1), by omega, rfl, hlt, hq⟩, fun x H3 hx => ?_⟩
    obtain ⟨G3, n3, hxd⟩ := k2 x H3 hx G2 e1 e2
    exact hs G1 i a G2 σ2 H2 n1.gg ha e1 e2 hp x G3 H3 n3 hxd
  · have ei : i = l.length := by omega
    subst ei
    exact .inl ⟨key.2 (by simp), hd G2 σ2 H2 (n1.gg.trans e1) e2 hp⟩
theorem qd_for {α : Type} (l : List α) (enc : α → PyData) (h : EdI K ti σ G (l.map enc)) (e : Ex G H) (Pv : Nat → Hp → L2.St → Hp → Prop) (h0 : ∀ G1 H1, Nw G H G1 H1 → Pv 0 G1 σ H1)
    (hs : ∀ (G1 : Hp) (i : Nat) (a : α) (G2 : Hp) (σ2 : L2.St) (H2 : Hp), Ex G G1 → l[i]? = some a → Ex G1 G2 → Ex G2 H2 → Pv i G2 σ2 H2 → ∀ x G3 H3, Nw G2 H2 G3 H3 → Dp K G3 x (enc a) →
      g x σ2 H3 fun σ4 H4 => tu { D with nx := fun σ5 H5 => ∃ G5, Ex G1 G5 ∧ Ex G5 H5 ∧ Pv (i + 1) G5 σ5 H5, ct := fun σ5 H5 => ∃ G5, Ex G1 G5 ∧ Ex G5 H5 ∧ Pv (i + 1) G5 σ5 H5, bk := tz D } σ4 H4)
    (hd : ∀ G2 σ2 H2, Ex G G2 → Ex G2 H2 → Pv l.length G2 σ2 H2 → tz D σ2 H2) : tSeq (tFor ti g tu) tz D σ H := sd_for (D := { D with nx := tz D }) l enc h e Pv h0 hs hd
/-- while, by a word that falls -/
theorem sd_while (W : Nat → L2.St → Hp → Prop) (m0 : Nat) (h0 : W m0 σ H)
    (hs : ∀ m σ2 H2, W m σ2 H2 → ∃ G b, Ex G H2 ∧ EdT tt σ2 G b ∧ (b = true → ∀ G3 H3, Nw G H2 G3 H3 → tu { D with nx := fun σ4 H4 => ∃ m', m' < m ∧ W m' σ4 H4, ct := fun σ4 H4 => ∃ m', m' < m ∧ W m' σ4 H4, bk := D.nx } σ2 H3) ∧ (b = false → ∀ G3 H3, Nw G H2 G3 H3 → D.nx σ2 H3)) : tWhile tt tu D σ H :=
  ⟨W, ⟨m0, h0⟩, fun m σ2 H2 hw => by
    obtain ⟨G, b, e, hb, h1, h2⟩ := hs m σ2 H2 hw
    refine hb H2 e _ fun G3 H3 n => ?_
    cases b with
    | true => exact ⟨_, fun σ4 H4 z => z, h1 rfl G3 H3 n⟩
    | false => exact h2 rfl G3 H3 n⟩
theorem qd_while (W : Nat → L2.St → Hp → Prop) (m0 : Nat) (h0 : W m0 σ H)
    (hs : ∀ m σ2 H2, W m σ2 H2 → ∃ G b, Ex G H2 ∧ EdT tt σ2 G b ∧ (b = true → ∀ G3 H3, Nw G H2 G3 H3 → tu { D with nx := fun σ4 H4 => ∃ m', m' < m ∧ W m' σ4 H4, ct := fun σ4 H4 => ∃ m', m' < m ∧ W m' σ4 H4, bk := tz D } σ2 H3) ∧ (b = false → ∀ G3 H3, Nw G H2 G3 H3 → tz D σ2 H3)) : tSeq (tWhile tt tu) tz D σ H := sd_while (D := { D with nx := tz D }) W m0 h0 hs

/-! ### a def that makes data of data -/
def spD (K : PySem.W.Frag) (R : List PyData → PyData → Prop) : Sp := fun vs H Q _ => ∃ G ds d, Ex G H ∧ DpAll K G vs ds ∧ R ds d ∧ ∀ v G' H', Nw G H G' H' → Dp K G' v d → Q v H'
theorem ed_callD {R : List PyData → PyData → Prop} {E : XK} {ta : TA} {ds : List PyData} (h : EdA K ta σ G ds) (hr : R ds d) : Ed K (tCall (spD K R) [] E ta) σ G d :=
  ed_call h fun vs G1 e hd H e1 Q q => ⟨G1, ds, d, e1, hd, hr, q⟩
end
end Wk
/-! WN -/
/-! Dicts whose keys are tuples, nested: tracked by what is true of their one object; the keys' tuples are told beside. -/
namespace Wk
open PySem PySem.Spec PyProof.Rows L2 Evl

/-- kvs: key, the key's tuple, value -/
abbrev KVs := List (NestedKey × Addr × V)
def RawDN (P : Program) (w : World) (a : Addr) (kvs : KVs) (h : Heap) : Prop :=
  ∃ (xs : List (NestedKey × Addr × Value)) (o : Obj) (es : Array DictEntry) (ep : Nat), h.get? a = some o ∧ o.ExactDict ∧ o.data = .dict es ep ∧ es.toList = xs.map (entryOfKey (nestedKind P w)) ∧ (xs.map (·.1)).Nodup ∧
    Paired (fun (p : NestedKey × Addr × V) (q : NestedKey × Addr × Value) => p.1 = q.1 ∧ p.2.1 = q.2.1 ∧ RelV p.2.2 q.2.2) kvs xs ∧ (a == sysModules) = false ∧ kvs.length ≤ sizeLine
def DN (P : Program) (w : World) (a : Addr) (kvs : KVs) : HO := .ext (RawDN P w a kvs)
def dnGet (kvs : KVs) (k : NestedKey) : Option V := (kvs.find? fun x => decide (x.1 = k)).map (·.2.2)
def KeyOk (K : PySem.W.Frag) (H : Hp) (b : Addr) (k : NestedKey) : Prop := Dp K H (.ref b) k.data ∧ k.depth ≤ 8
def KeysOk (K : PySem.W.Frag) (H : Hp) (kvs : KVs) : Prop := ∀ e ∈ kvs, KeyOk K H e.2.1 e.1
theorem KeyOk.ex {K : PySem.W.Frag} {H J : Hp} {b : Addr} {k : NestedKey} (e : Ex H J) (h : KeyOk K H b k) : KeyOk K J b k := ⟨dp_ex e h.1, h.2⟩
theorem KeysOk.ex {K : PySem.W.Frag} {H J : Hp} {kvs : KVs} (e : Ex H J) (h : KeysOk K H kvs) : KeysOk K J kvs := fun x hx => (h x hx).ex e

section
variable {X : Cx} {pins : List (Addr × Obj)} {σ : L2.St} {H : Hp} {s : Shared} {a : Addr} {kvs : KVs}
mutual
theorem nk_of (I : Inv X pins σ H s) : ∀ (k : NestedKey) (v : V) (u : Value), Dp X.K H v k.data → RelV v u → NestedIs s.heap k u
  | .none, _, _, h, r => by
    cases h
    cases r
    exact .none
  | .num i, _, _, h, r => by
    cases h
    obtain ⟨t, rfl⟩ := r
    exact .int i t
  | .text x, _, _, h, r => by
    cases h
    obtain ⟨t, rfl⟩ := r
    exact .text x t
  | .tup ks, _, _, h, r => by
    cases h with
    | tup hs ha =>
      cases r
      obtain ⟨its, rv, ⟨o, ho, hc, n, hd⟩, _⟩ := I.tuple hs
      exact .tup ho hc hd (nk_all I ks _ its ha rv)
theorem nk_all (I : Inv X pins σ H s) : ∀ (ks : List NestedKey) (vs : List V) (us : List Value), DpAll X.K H vs (NestedKey.datas ks) → Vals vs us → NestedAll s.heap ks us
  | [], _, _, h, r => by
    cases h
    cases r
    exact .nil
  | k :: ks, _, _, h, r => by
    cases h with
    | cons h1 h2 =>
      cases r with
      | cons r1 r2 => exact .cons (nk_of I k _ _ h1 r1) (nk_all I ks _ _ h2 r2)
end
theorem nk_is (I : Inv X pins σ H s) {b : Addr} {k : NestedKey} (h : KeyOk X.K H b k) : (nestedKind X.prog X.w).is s.heap k b := ⟨nk_of I k _ _ h.1 rfl, h.2⟩
theorem dn_raw (I : Inv X pins σ H s) (h : H a = some (DN X.prog X.w a kvs)) : RawDN X.prog X.w a kvs s.heap := (I.hok a _ h).1
theorem dn_of (I : Inv X pins σ H s) (h : H a = some (DN X.prog X.w a kvs)) (hk : KeysOk X.K H kvs) :
    ∃ xs : List (NestedKey × Addr × Value), s.heap.DictOfH (nestedKind X.prog X.w) a xs ∧ Paired (fun (p : NestedKey × Addr × V) (q : NestedKey × Addr × Value) => p.1 = q.1 ∧ p.2.1 = q.2.1 ∧ RelV p.2.2 q.2.2) kvs xs ∧ (a == sysModules) = false ∧ kvs.length ≤ sizeLine := by
  obtain ⟨xs, o, es, ep, h1, h2, h3, h4, h5, h6, h7, h8⟩ := dn_raw I h
  refine ⟨xs, ⟨o, es, ep, h1, h2, h3, h4, fun x hx => ?_, h5⟩, h6, h7, h8⟩
  have : ∀ (kvs : KVs) (xs : List (NestedKey × Addr × Value)), Paired (fun (p : NestedKey × Addr × V) (q : NestedKey × Addr × Value) => p.1 = q.1 ∧ p.2.1 = q.2.1 ∧ RelV p.2.2 q.2.2) kvs xs → KeysOk X.K H kvs → ∀ x ∈ xs, KeyOk X.K H x.2.1 x.1 := by
    intro kvs xs hp
    induction hp with
    | nil => intro _ x hx; cases hx
    | cons r t ih =>
      intro hk x hx
      rcases List.mem_cons.mp hx with e | e
      · subst e
        rw [← r.1, ← r.2.1]
        exact hk _ (List.mem_cons_self ..)
      · exact ih (fun y hy => hk y (List.mem_cons_of_mem _ hy)) x e
  exact nk_is I (this kvs xs h6 hk x hx)
theorem dn_look {k : NestedKey} : ∀ {kvs : KVs} {xs : List (NestedKey × Addr × Value)}, Paired (fun (p : NestedKey × Addr × V) (q : NestedKey × Addr × Value) => p.1 = q.1 ∧ p.2.1 = q.2.1 ∧ RelV p.2.2 q.2.2) kvs xs →
    RelO (dnGet kvs k) ((atKey xs k).map (·.2))
  | _, _, .nil => trivial
  | _, _, @Paired.cons _ _ _ p q ps qs r t => by
    have ih := dn_look (k := k) t
    unfold dnGet atKey at ih ⊢
    rw [List.find?_cons, List.find?_cons, ← r.1]
    by_cases e : p.1 = k
    · rw [decide_eq_true e]
      exact r.2.2
    · rw [decide_eq_false e]
      exact ih
theorem dn_ok {P : Program} {w : World} {H : Hp} {h : Heap} {a : Addr} {kvs : KVs} (r : RawDN P w a kvs h) : ObjOk P w H h a (DN P w a kvs) :=
  ⟨r, let ⟨_, o, _, _, e, _⟩ := r; ⟨o, e⟩, fun h1 h2 ⟨xs, o, es, ep, e, q⟩ k => ⟨xs, o, es, ep, k o e, q⟩⟩
/-! ### readings and rules -/
def rDNnotin (P : Program) (w : World) (K : PySem.W.Frag) : R2 := fun x y H Q => ∃ (a b : Addr) (k : NestedKey) (kvs : KVs), x = .ref b ∧ y = .ref a ∧ H a = some (DN P w a kvs) ∧ KeysOk K H kvs ∧ KeyOk K H b k ∧ Q (.bl (!(dnGet kvs k).isSome)) H
theorem op_notInDN (hu : X.A.units + 64 < cLine) : OpR X (compareOp .NotIn) (rDNnotin X.prog X.w X.K) := by
  intro pins s σ H x y v u Q I rx ry h
  obtain ⟨a, b, k, kvs, rfl, rfl, hH, hks, hk, q⟩ := h
  cases rx
  cases ry
  obtain ⟨xs, hd, hp, hs, hz⟩ := dn_of I hH hks
  refine notIn_keyed (knd := nestedKind X.prog X.w) (kvs := pairsH xs) (show X.A.in1.units + 8 < cLine by rw [Around.in1_units]; omega) (nk_is I hk) hs ⟨xs, hd, rfl⟩ ?_
  refine ⟨.bl _, H, I.tok _, rfl, ?_⟩
  have r := dn_look (k := k) hp
  have e : (valueAt (pairsH xs) k).isSome = (dnGet kvs k).isSome := by
    rw [valueAt_pairsH]
    revert r
    cases dnGet kvs k <;> cases (atKey xs k).map (·.2) <;> simp [RelO]
  rw [e]
  exact q
def rDNget (P : Program) (w : World) (K : PySem.W.Frag) : R2 := fun x y H Q => ∃ (a b : Addr) (k : NestedKey) (kvs : KVs) (v : V), x = .ref a ∧ y = .ref b ∧ H a = some (DN P w a kvs) ∧ KeysOk K H kvs ∧ KeyOk K H b k ∧ dnGet kvs k = some v ∧ Q v H
theorem ix_DN (hu : X.A.units + 64 < cLine) : IxR X (rDNget X.prog X.w X.K) := by
  intro value slice pins s σ H x y v u Q I rx ry h hs
  obtain ⟨a, b, k, kvs, z, rfl, rfl, hH, hks, hk, hg, q⟩ := h
  cases rx
  cases ry
  obtain ⟨xs, hd, hp, hs', hz⟩ := dn_of I hH hks
  have r := dn_look (k := k) hp
  rw [hg] at r
  cases e : (atKey xs k).map (·.2) with
  | none => rw [e] at r; exact r.elim
  | some u =>
    rw [e] at r
    refine subscriptTail_builtinR (x := u) (T := "dict") hd.typeIs PySem.F.slot_dict_getitem.lookup ?_ hs
    refine getItem_keyed (knd := nestedKind X.prog X.w) (kvs := pairsH xs) (Q := fun r s' => r = u ∧ EP X pins σ Q r s') (show X.A.in1.units + 8 < cLine by rw [Around.in1_units]; omega) (nk_is I hk) ⟨xs, hd, rfl⟩ (by rw [valueAt_pairsH, e]) ⟨rfl, ?_⟩
    exact ⟨z, H, I.tok _, r, q⟩
def rDNput (P : Program) (w : World) (K : PySem.W.Frag) : TSet := fun o i v H Q => ∃ (a b : Addr) (k : NestedKey) (kvs : KVs), o = .ref a ∧ i = .ref b ∧ H a = some (DN P w a kvs) ∧ KeysOk K H kvs ∧ KeyOk K H b k ∧ dnGet kvs k = none ∧ kvs.length < sizeLine ∧ Q (upd H a (DN P w a (kvs ++ [(k, b, v)])))
theorem paired_app {α β : Type} {F : α → β → Prop} : ∀ {as cs : List α} {bs ds : List β}, Paired F as bs → Paired F cs ds → Paired F (as ++ cs) (bs ++ ds)
  | _, _, _, _, .nil, h => h
  | _, _, _, _, .cons r t, h => .cons r (paired_app t h)
theorem set_DN (hu : X.A.units + 64 < cLine) : PSet X (rDNput X.prog X.w X.K) := by
  intro pins s σ H o i v ov iv u Q I ro ri rv h
  obtain ⟨a, b, k, kvs, rfl, rfl, hH, hks, hk, hg, hl, q⟩ := h
  cases ro
  cases ri
  obtain ⟨xs, hd, hp, hs', hz⟩ := dn_of I hH hks
  have r := dn_look (k := k) hp
  rw [hg] at r
  have e : atKey xs k = none := by
    cases e : atKey xs k with
    | none => rfl
    | some p => rw [e] at r; exact r.elim
  have hlen : kvs.length = xs.length := Paired.length hp
  refine wpAny_setItem_heap (hsz := by rw [← hlen]; exact Nat.le_of_lt hl) (knd := nestedKind X.prog X.w) (show X.A.in1.units + 8 < cLine by rw [Around.in1_units]; omega) (nk_is I hk) hd fun h' dd' hsb => ?_
  rw [storedH_new e] at dd'
  obtain ⟨ob, es, ep, k1, k2, k3, k4, _, k6⟩ := dd'
  refine ⟨_, I.write (x := a) (e := a) (o := DN X.prog X.w a (kvs ++ [(k, b, v)])) (by rw [hH]; exact True.intro) (.inl rfl) (fun c u hc q => (hsb.2 c hc).trans q) ⟨ob, k1⟩ (dn_ok ⟨_, ob, es, ep, k1, k2, k3, k4, k6, paired_app hp (.cons ⟨rfl, rfl, rv⟩ .nil), hs', ?_⟩), q⟩
  rw [List.length_append, List.length_singleton]
  exact hl
def rDNlen (P : Program) (w : World) (K : PySem.W.Frag) : List V → Hp → VK → Prop := fun xs H Q => ∃ (a : Addr) (kvs : KVs), xs = [.ref a] ∧ H a = some (DN P w a kvs) ∧ KeysOk K H kvs ∧ Q (.int ((kvs.length : Nat) : Int)) H
theorem call_lenDN : CallR X (.builtin "len") (rDNlen X.prog X.w X.K) := by
  intro pins s σ H xs us Q I r h
  obtain ⟨a, kvs, rfl, hH, hks, q⟩ := h
  cases r with
  | cons rx t =>
    cases t
    cases rx
    obtain ⟨xs, hd, hp, hs', hz⟩ := dn_of I hH hks
    have hl : kvs.length = xs.length := Paired.length hp
    refine call_len_dictH hs' hd (by rw [← hl]; rw [sizeLine_eq] at hz; omega) ?_
    rw [← hl]
    exact ⟨.int ((kvs.length : Nat) : Int), H, I.tok _, ⟨_, rfl⟩, q⟩
def tDNnew (P : Program) (w : World) : TE := fun _ H Q => ∀ p, H p = none → Q (.ref p) (upd H p (DN P w p []))
theorem dn_empty {P : Program} {w : World} {H : Hp} (h : Heap) (hb : sysModules < h.objs.size) : ObjOk P w H (h.push { cls := .type "dict", data := .dict #[] }) h.objs.size (DN P w h.objs.size []) :=
  dn_ok ⟨[], _, #[], 0, Heap.get?_push_size _ rfl, ⟨rfl, rfl, rfl⟩, rfl, rfl, List.nodup_nil, .nil, beq_eq_false_iff_ne.mpr (Ne.symm (Nat.ne_of_lt hb)), Nat.zero_le _⟩
theorem pe_DNnew {pos : Pos} : PE X (.Dict [] [] pos) (tDNnew X.prog X.w) := ⟨fun pins s σ H Q I h =>
  wpAny_Dict_empty ⟨.ref s.heap.objs.size, _, I.laid (a := s.heap.objs.size) (o := DN X.prog X.w s.heap.objs.size []) (t' := s.toks) (fun _ _ q => Heap.get?_push_of_some _ q) (Nat.le_refl _) (dn_empty s.heap I.big), rfl, h _ (I.hok.fresh (Nat.le_refl _))⟩⟩
/-- {k: v} -/
def tDNone (P : Program) (w : World) (K : PySem.W.Frag) (tk tv : TE) : TE := fun σ H Q => ∀ p, H p = none → tk σ (upd H p (DN P w p [])) fun x H1 => tv σ H1 fun y H2 =>
  ∃ (b : Addr) (k : NestedKey), x = .ref b ∧ KeyOk K H2 b k ∧ H2 p = some (DN P w p []) ∧ Q (.ref p) (upd H2 p (DN P w p [(k, b, y)]))
theorem pe_DNone {ke ve : Expr} {pos : Pos} {tk tv : TE} (hu : X.A.units + 64 < cLine) (hk : PE X ke tk) (hv : PE X ve tv) : PE X (.Dict [some ke] [ve] pos) (tDNone X.prog X.w X.K tk tv) := by
  refine ⟨fun pins s σ H Q I h => ?_⟩
  have I1 := I.laid (a := s.heap.objs.size) (o := DN X.prog X.w s.heap.objs.size []) (h' := s.heap.push { cls := .type "dict", data := .dict #[] }) (t' := s.toks) (fun _ _ q => Heap.get?_push_of_some _ q) (Nat.le_refl _) (dn_empty s.heap I.big)
  have hpp : PPs X pos [some ke] [ve] [(tk, tv)] := pps_cons hk hv pps_nil
  have hshape : (evalEachOpt [some ke] X.env).zip ((evalEach [ve] X.env).map fun v => do let x ← v; standAt pos; pure x) = (pairTrees [some ke] [ve] X.env pos).map fun p => (some p.1, p.2) := rfl
  rw [arm_eval_Dict, hshape, dictDisplay_pairs _ (by intro z; cases z) (Nat.le_of_ble_eq_true rfl)]
  refine wpAny_bind (wpAny_standAt (wpAny_bind (wpAny_subDictH (knd := nestedKind X.prog X.w) (Q := fun d s' => wpAny (model X.prog X.w) X.A (pure (Value.ref d)) (EP X pins σ Q) X.xe s') (show X.A.units + 8 < cLine by omega) (Nat.le_of_ble_eq_true rfl) ?_)))
  refine thn (hpp.run pins _ σ _ (fun ps H2 => match ps with
    | [(x, y)] => ∃ (b : Addr) (k : NestedKey), x = .ref b ∧ KeyOk X.K H2 b k ∧ H2 s.heap.objs.size = some (DN X.prog X.w s.heap.objs.size []) ∧ Q (.ref s.heap.objs.size) (upd H2 s.heap.objs.size (DN X.prog X.w s.heap.objs.size [(k, b, y)]))
    | _ => False) I1 (h _ (I.hok.fresh (Nat.le_refl _)))) fun ws s2 ⟨ps, H2, I2, rel, q2⟩ => ?_
  match ps, rel, q2 with
  | [(x, y)], rel, q2 =>
    obtain ⟨b, k, rfl, hk, hp, q2⟩ := q2
    cases rel with
    | @cons _ qq _ _ r t =>
      cases t
      obtain ⟨b1, b2⟩ := qq
      obtain ⟨r1, r2⟩ := r
      have e1 : b1 = Value.ref b := r1
      subst e1
      obtain ⟨xs, hd, hp0, hs', hz⟩ := dn_of I2 hp (fun e he => by cases he)
      cases hp0
      refine ⟨[(k, b, b2)], ⟨rfl, rfl, nk_is I2 hk, trivial⟩, hd, fun h' tk dd hsb => ?_⟩
      obtain ⟨ob, es, ep, k1, k2, k3, k4, k5, k6⟩ := dd
      refine wpAny_pure ⟨.ref s.heap.objs.size, _, I2.write (x := s.heap.objs.size) (e := s.heap.objs.size) (o := DN X.prog X.w s.heap.objs.size [(k, b, y)]) (t' := tk) (by rw [hp]; exact True.intro) (.inl rfl) (fun c u hc q => (hsb.2 c hc).trans q) ⟨ob, k1⟩ (dn_ok ⟨_, ob, es, ep, k1, k2, k3, k4, k6, .cons ⟨rfl, rfl, r2⟩ .nil, hs', Nat.le_of_ble_eq_true rfl⟩), rfl, q2⟩
end
end Wk
/-! WI -/
/-! enumerate(a tuple), zip(a tuple, a list); a thing walked in one of two ways. -/
namespace Wk
open PySem PySem.Spec PyProof.Rows L2 Evl

theorem pi_or {X : Cx} {tg e : Expr} {w1 w2 : TI} (h1 : PI X tg e w1) (h2 : PI X tg e w2) : PI X tg e (fun σ H R => w1 σ H R ∨ w2 σ H R) := ⟨fun pins s σ H R I h => by
  rcases h with h | h
  · exact h1.run pins s σ H R I h
  · exact h2.run pins s σ H R I h⟩
theorem pe_or {X : Cx} {e : Expr} {t1 t2 : TE} (h1 : PE X e t1) (h2 : PE X e t2) : PE X e (fun σ H Q => t1 σ H Q ∨ t2 σ H Q) := ⟨fun pins s σ H Q I h => by
  rcases h with h | h
  · exact h1.run pins s σ H Q I h
  · exact h2.run pins s σ H Q I h⟩
/-- a list or a tuple -/
def iSeq (K : PySem.W.Frag) (tl : TE) : TI := fun σ H R => iList K tl σ H R ∨ iTup K tl σ H R

/-! ### enumerate(tuple) -/
def IteT (K : PySem.W.Frag) (a : Addr) : It :=
  ⟨fun i H => ∃ (xs : List V) (x : V), SqT K H a xs ∧ xs[i]? = some x, fun i H v J => ∃ T x, v = .ref T ∧ H T = none ∧ J = upd H T (.tup [.int (i : Nat), x]) ∧ ∀ xs, SqT K H a xs → xs[i]? = some x, fun i H => ∃ xs : List V, SqT K H a xs ∧ xs.length = i⟩
theorem meets_enumT (l : Addr) (items : Array Value) :
    Meets (Builtin.«enumerate.__new__» ⟨[.type "enumerate", .ref l], []⟩) (fun _ R s => s.heap.IsTuple l items ∧
      R (.ok (.ret (.ref (s.heap.push { cls := .type "tuple_iterator", data := .fields #[.ref l, .int 0 0] }).objs.size)))
        { s with heap := (s.heap.push { cls := .type "tuple_iterator", data := .fields #[.ref l, .int 0 0] }).push { cls := .type "enumerate", data := .fields #[.none, .bool false, .ref s.heap.objs.size, rawInt 0, .none, .none] } }) :=
  .of_wp fun prog w A R s h => by
    obtain ⟨hp, g, d, tk, os⟩ := s
    obtain ⟨hl, h⟩ := h
    have hsub := sub_enumerate
    have q1 : ∀ {A' : Around} {E : Value → Shared → Prop} {Q : Value → Shared → Prop}, Q (.ref hp.objs.size) ⟨hp.push { cls := .type "tuple_iterator", data := .fields #[.ref l, .int 0 0] }, g, d, tk, os⟩ → wpAny (model prog w) A' (pyIter (.ref l)) Q E ⟨hp, g, d, tk, os⟩ :=
      fun q => wpAny_pyIter_tuple hl q
    wp_walk using q1
    refine wpAny_stack_any fun st => wpAny_pure ?_
    split
    · rename_i c _ _ _ _ _
      cases (c == Value.type "enumerate")
      · wp_walk using q1
        exact ⟨_, rfl, h⟩
      · wp_walk using q1
        exact ⟨_, rfl, h⟩
    · wp_walk using q1
      exact ⟨_, rfl, h⟩
theorem call_enumT {prog : Program} {w : World} {A : Around} {E : Value → Shared → Prop} {s : Shared} {l : Addr} {items : Array Value} {Q : Value → Shared → Prop} (hL : s.heap.IsTuple l items)
    (h : ∀ h', IsEnum h' (s.heap.objs.size + 1) s.heap.objs.size 0 .none → h'.IsTupleIter s.heap.objs.size l 0 → h'.objs.size = s.heap.objs.size + 2 →
      (∀ b o, s.heap.get? b = some o → h'.get? b = some o) → Q (.ref (s.heap.objs.size + 1)) { s with heap := h' }) :
    wpAny (model prog w) A (call (.type "enumerate") [.ref l]) Q E s := by
  refine callType_new F.called_enumerate (by decide) (F.typeCall_enumerate_1 _) (F.newCall_enumerate_1 _) (fun obj => F.args_object_init_2 obj _) F.entry_enumerate_new (meets_enumT l items) ⟨hL, ?_⟩
  have hz : (s.heap.push { cls := .type "tuple_iterator", data := .fields #[.ref l, .int 0 0] }).objs.size = s.heap.objs.size + 1 := Heap.size_push ..
  show _ ∧ _
  rw [hz]
  have he : IsEnum ((s.heap.push { cls := .type "tuple_iterator", data := .fields #[.ref l, .int 0 0] }).push
      { cls := .type "enumerate", data := .fields #[.none, .bool false, .ref s.heap.objs.size, rawInt 0, .none, .none] }) (s.heap.objs.size + 1) s.heap.objs.size 0 .none := by
    have z := Heap.get?_push_size (s.heap.push { cls := .type "tuple_iterator", data := .fields #[.ref l, .int 0 0] })
      (o := { cls := .type "enumerate", data := .fields #[.none, .bool false, .ref s.heap.objs.size, rawInt 0, .none, .none] }) rfl
    rw [hz] at z
    exact z
  exact ⟨⟨_, he, rfl⟩, h _ he ⟨_, Heap.get?_push_of_some _ (Heap.get?_push_size _ rfl), rfl, rfl⟩ (by rw [Heap.size_push, hz]) fun b o x => Heap.get?_push_of_some _ (Heap.get?_push_of_some _ x)⟩
theorem in1_calm {A : Around} (h : A.handled = none) : A.in1.handled = none := h
theorem turn_enumT {P : Program} {w : World} {K : PySem.W.Frag} {elts : List Expr} {kk : Nat} {tpos : Pos} (a e it : Addr) (hai : a ≠ it) (hea : e ≠ a) (hne : e ≠ it) :
    Turn P w K (.Tuple elts kk tpos) (IteT K a) [e, it] e (fun i h => (∃ old, IsEnum h e it ((i : Nat) : Int) old) ∧ h.IsTupleIter it a i) where
  mem := by simp
  obj := fun i h st b hb => by
    obtain ⟨⟨old, he⟩, ⟨o, ho, hc, hd⟩⟩ := st
    have z : b = e ∨ b = it := by simpa using hb
    rcases z with z | z
    · rw [z]; exact ⟨_, he, fun v q => nomatch q⟩
    · rw [z]; exact ⟨o, ho, fun v q => by rw [hd] at q; cases q⟩
  keep := fun i h h' st k => let ⟨⟨old, he⟩, hi⟩ := st; ⟨⟨old, k e (by simp) _ he⟩, hi.at fun o q => k it (by simp) o q⟩
  item := by
    intro X hP hw hK hc i pins s σ H E I hf st hg
    subst hP hw hK
    obtain ⟨⟨old, he⟩, hit⟩ := st
    obtain ⟨xs, x, hq, hx⟩ := hg
    obtain ⟨its, rv, p, hz⟩ := I.tuple hq
    obtain ⟨u, hu, ru⟩ := rv.get hx
    have hel : e < s.heap.objs.size := Heap.lt_size he
    have hil : it < s.heap.objs.size := by obtain ⟨_, q, _⟩ := hit; exact Heap.lt_size q
    have hlt : i < its.toArray.size := by
      rw [List.size_toArray]
      exact (List.getElem?_eq_some_iff.mp hu).1
    refine wpAny_pyNext_enum_itemC (Draws.tuple (in1_calm (I.ok.hd hc)) it a hai its.toArray) he ⟨hit, p⟩ hlt hne (by simp only [List.mem_cons, List.not_mem_nil, or_false, not_or]; exact ⟨hne, hea⟩) fun y h' tk hy ho hst hT hsz hk => ?_
    have ey : y = u := by
      have z : its.toArray[i]? = some y := hy
      rw [List.getElem?_toArray, hu] at z
      exact (Option.some.inj z).symm
    subst ey
    refine ⟨_, rfl, wpAny_letOwnedTupleGo_enum (s := { s with heap := h', toks := tk + 1 }) ho fun h2 he2 sb => ?_⟩
    have hT2 : h2.get? s.heap.objs.size = some { cls := .type "tuple", data := .seq #[.int i tk, y] } := (sb.2 _ (Nat.ne_of_gt hel)).trans hT
    have new : ObjOk X.prog X.w (upd H s.heap.objs.size (.tup [.int (i : Nat), x])) h2 s.heap.objs.size (.tup [.int (i : Nat), x]) :=
      ⟨by show 2 ≤ sizeLine; decide, [.int i tk, y], .cons ⟨_, rfl⟩ (.cons ru .nil), ⟨_, hT2, rfl, _, rfl⟩⟩
    have I1 : Inv X pins σ (upd H s.heap.objs.size (.tup [.int (i : Nat), x])) { s with heap := h2, toks := tk + 1 } :=
      I.turnedNew (ch := [e, it]) (fun b ob hb q => (sb.2 b (fun z => hb (by simp [z]))).trans (hk b ob (fun z => hb (by simp [z])) (fun z => hb (by simp [z])) q)) hf (Nat.le_refl _) new
    refine ⟨.ref s.heap.objs.size, _, I1, rfl, ⟨_, x, rfl, I.hok.fresh (Nat.le_refl _), rfl, fun ys hy => by rw [I.tuple_inj hy hq]; exact hx⟩, ⟨⟨y, ?_⟩, hst.1.at fun o q => (sb.2 it (Ne.symm hne)).trans q⟩, fun b hb => ?_⟩
    · have e1 : ((i + 1 : Nat) : Int) = (i : Int) + 1 := by omega
      rw [e1]; exact he2
    · have hb' : b < s.heap.objs.size := by
        have z : b = e ∨ b = it := by simpa using hb
        rcases z with z | z
        · rw [z]; exact hel
        · rw [z]; exact hil
      rw [upd_ne (Nat.ne_of_lt hb')]
      exact (hf b hb).1
  done := by
    intro X hP hw hK hc i pins s σ H E I hf st hg
    subst hP hw hK
    obtain ⟨⟨old, he⟩, hit⟩ := st
    obtain ⟨xs, hq, hx⟩ := hg
    obtain ⟨its, rv, p, hz⟩ := I.tuple hq
    obtain ⟨f0, f1, f2, f3, f4, f5⟩ := hf it (by simp)
    have hl := rv.length
    have en : i = its.toArray.size := by rw [List.size_toArray]; omega
    subst en
    exact wpAny_pyNext_enum_endD (Draws.tuple (in1_calm (I.ok.hd hc)) it a hai its.toArray) he ⟨hit, p⟩ fun h' eb => ⟨rfl, I.turned (t' := s.toks) (fun b o hb q => eb b o hb q) f0 f1 f3 f4 f5⟩
  self := fun A i s Q E st h => let ⟨⟨_, he⟩, _⟩ := st; wpAny_pyIter_enum he h
def iEnumT (K : PySem.W.Frag) (ta : TA) : TI := fun σ H R => ta σ H fun vs H1 => ∃ a xs, vs = [.ref a] ∧ SqT K H1 a xs ∧ R (IteT K a) H1
theorem pi_enumT {X : Cx} {e : Expr} {ta : TA} {p pos tpos : Pos} {elts : List Expr} {kk : Nat} (hg : Gl X "enumerate") (hm : X.mg "enumerate" = none) (ha : PA X [e] ta) (hs : starEach [e] X.env = [(false, eval e X.env)] := by rfl) :
    PI X (.Tuple elts kk tpos) (.Call (.Name "enumerate" p) [e] [] pos) (iEnumT X.K ta) := by
  refine ⟨fun pins s σ H R I h => ?_⟩
  refine Call_ (ld_blt I hg hm boot_enumerate (PyProof.Rows.callWith_type1 (thn (ha.run pos pins s σ H _ I h) fun us s1 ⟨vs, H1, I1, r1, q1⟩ => ?_) hs rfl))
  obtain ⟨a, xs, ex, hq, q⟩ := q1
  subst ex
  cases r1 with
  | cons r rr =>
    cases rr
    cases r
    obtain ⟨its, rv, p', hz⟩ := I1.tuple hq
    have hal : a < s1.heap.objs.size := let ⟨_, z, _⟩ := p'; Heap.lt_size z
    refine call_enumT p' fun h' he hit hsz hk => wpAny_pyIter_enum he ?_
    have I2 : Inv X pins σ H1 { s1 with heap := h' } := I1.kept (t' := s1.toks) hk
    refine ⟨s1.heap.objs.size + 1, [s1.heap.objs.size + 1, s1.heap.objs.size], _, _, H1, rfl, I2, turn_enumT a (s1.heap.objs.size + 1) s1.heap.objs.size (Nat.ne_of_lt hal) (Nat.ne_of_gt (Nat.lt_succ_of_lt hal)) (Nat.succ_ne_self _), ⟨⟨.none, he⟩, hit⟩, fun b hb => ?_, q⟩
    have z : b = s1.heap.objs.size + 1 ∨ b = s1.heap.objs.size := by simpa using hb
    have hle : s1.heap.objs.size ≤ b := by
      rcases z with z | z
      · rw [z]; exact Nat.le_add_right _ _
      · rw [z]; exact Nat.le_refl _
    exact I1.fpOk hle (I1.hok.fresh hle)

/-! ### zip(tuple, list) -/
def ItzM (K : PySem.W.Frag) (a b : Addr) : It :=
  ⟨fun i H => ∃ (xs ys : List V) (x y : V), SqT K H a xs ∧ SqL K H b ys ∧ xs[i]? = some x ∧ ys[i]? = some y,
    fun i H v J => ∃ T x y, v = .ref T ∧ H T = none ∧ J = upd H T (.tup [x, y]) ∧ (∀ xs, SqT K H a xs → xs[i]? = some x) ∧ ∀ ys, SqL K H b ys → ys[i]? = some y,
    fun i H => ∃ xs ys : List V, SqT K H a xs ∧ SqL K H b ys ∧ xs.length = i ∧ ys.length = i⟩
theorem turn_zipM {P : Program} {w : World} {K : PySem.W.Frag} {elts : List Expr} {kk : Nat} {tpos : Pos} {a b z TI TO i1 i2 : Addr} (D : ZipSep2 z TI TO i1 i2 [i1, a] [i2, b]) (h1a : a ≠ i1) (h2b : b ≠ i2) :
    Turn P w K (.Tuple elts kk tpos) (ItzM K a b) [z, TI, TO, i1, i2] z (fun i h => IsZip h z TI TO .none ∧ IsTupOf2 h TI (.ref i1) (.ref i2) ∧ (∃ x y, IsTupOf2 h TO x y) ∧ h.IsTupleIter i1 a i ∧ h.IsListIter i2 b i) where
  mem := by simp
  obj := fun i h st c hc => by
    obtain ⟨hz, hTI, ⟨x, y, hTO⟩, ⟨o1, e1, _, d1⟩, ⟨o2, e2, _, d2⟩⟩ := st
    have q : c = z ∨ c = TI ∨ c = TO ∨ c = i1 ∨ c = i2 := by simpa using hc
    rcases q with q | q | q | q | q
    · rw [q]; exact ⟨_, hz, fun v q => nomatch q⟩
    · rw [q]; exact ⟨_, hTI, fun v q => nomatch q⟩
    · rw [q]; exact ⟨_, hTO, fun v q => nomatch q⟩
    · rw [q]; exact ⟨o1, e1, fun v q => by rw [d1] at q; cases q⟩
    · rw [q]; exact ⟨o2, e2, fun v q => by rw [d2] at q; cases q⟩
  keep := fun i h h' st k => by
    obtain ⟨hz, hTI, ⟨x, y, hTO⟩, h1, h2⟩ := st
    exact ⟨k z (by simp) _ hz, k TI (by simp) _ hTI, ⟨x, y, k TO (by simp) _ hTO⟩, h1.at fun o q => k i1 (by simp) o q, h2.at fun o q => k i2 (by simp) o q⟩
  item := by
    intro X hP hw hK hc i pins s σ H E I hf st hg
    subst hP hw hK
    obtain ⟨hz, hTI, ⟨x0, y0, hTO⟩, h1, h2⟩ := st
    obtain ⟨xs, ys, x, y, hqx, hqy, hx, hy⟩ := hg
    obtain ⟨its, rv, p, _⟩ := I.tuple hqx
    obtain ⟨its2, rv2, p2, _⟩ := I.list hqy
    obtain ⟨u, hu, ru⟩ := rv.get hx
    obtain ⟨u2, hu2, ru2⟩ := rv2.get hy
    have hzl : z < s.heap.objs.size := Heap.lt_size hz
    have hh := in1_calm (I.ok.hd hc)
    have l1 : i < its.toArray.size := by rw [List.size_toArray]; exact (List.getElem?_eq_some_iff.mp hu).1
    have l2 : i < its2.toArray.size := by rw [List.size_toArray]; exact (List.getElem?_eq_some_iff.mp hu2).1
    refine wpAny_pyNext_zipD2_item D (Draws.tuple hh i1 a h1a its.toArray) (Draws.list hh i2 b h2b its2.toArray) hz hTI hTO ⟨h1, p⟩ ⟨h2, p2.isList⟩ l1 l2 fun y1 y2 h' tk e1 e2 z' TO' s1' s2' hT hsz hk => ?_
    have ey1 : y1 = u := by
      have q : its.toArray[i]? = some y1 := e1
      rw [List.getElem?_toArray, hu] at q
      exact (Option.some.inj q).symm
    have ey2 : y2 = u2 := by
      have q : its2.toArray[i]? = some y2 := e2
      rw [List.getElem?_toArray, hu2] at q
      exact (Option.some.inj q).symm
    subst ey1 ey2
    refine ⟨_, rfl, wpAny_letOwnedTupleGo_zip (s := { s with heap := h', toks := tk }) z' fun h2' z2 sb => ?_⟩
    have hT2 : h2'.get? s.heap.objs.size = some { cls := .type "tuple", data := .seq #[y1, y2] } := (sb.2 _ (Nat.ne_of_gt hzl)).trans hT
    have new : ObjOk X.prog X.w (upd H s.heap.objs.size (.tup [x, y])) h2' s.heap.objs.size (.tup [x, y]) :=
      ⟨by show 2 ≤ sizeLine; decide, [y1, y2], .cons ru (.cons ru2 .nil), ⟨_, hT2, rfl, _, rfl⟩⟩
    have I1 : Inv X pins σ (upd H s.heap.objs.size (.tup [x, y])) { s with heap := h2', toks := tk } :=
      I.turnedNew (t' := tk) (ch := [z, TI, TO, i1, i2]) (fun c o hb q => (sb.2 c (fun r => hb (by simp [r]))).trans (hk c o (fun r => hb (by simp [r])) (fun r => hb (by simp [r])) (fun r => hb (by simp [r])) (fun r => hb (by simp [r])) q)) hf (Nat.le_refl _) new
    refine ⟨.ref s.heap.objs.size, _, I1, rfl, ⟨_, x, y, rfl, I.hok.fresh (Nat.le_refl _), rfl, fun l hl => by rw [I.tuple_inj hl hqx]; exact hx, fun l hl => by rw [I.list_inj hl hqy]; exact hy⟩, ⟨z2, ?_, ⟨y1, y2, ?_⟩, ?_, ?_⟩, fun c hcm => ?_⟩
    · exact (sb.2 _ D.TIz).trans (hk _ _ D.TIz D.TITO D.TIi1 D.TIi2 hTI)
    · exact (sb.2 _ D.TOz).trans TO'
    · exact s1'.1.at fun o q => (sb.2 _ D.zi1.symm).trans q
    · exact s2'.1.at fun o q => (sb.2 _ D.zi2.symm).trans q
    · have hlt : c < s.heap.objs.size := by
        have q : c = z ∨ c = TI ∨ c = TO ∨ c = i1 ∨ c = i2 := by simpa using hcm
        rcases q with q | q | q | q | q
        · rw [q]; exact hzl
        · rw [q]; exact Heap.lt_size hTI
        · rw [q]; exact Heap.lt_size hTO
        · rw [q]; obtain ⟨_, e1, _⟩ := h1; exact Heap.lt_size e1
        · rw [q]; obtain ⟨_, e2, _⟩ := h2; exact Heap.lt_size e2
      rw [upd_ne (Nat.ne_of_lt hlt)]
      exact (hf c hcm).1
  done := by
    intro X hP hw hK hc i pins s σ H E I hf st hg
    subst hP hw hK
    obtain ⟨hz, hTI, ⟨x0, y0, hTO⟩, h1, h2⟩ := st
    obtain ⟨xs, ys, hqx, hqy, e1, e2⟩ := hg
    obtain ⟨its, rv, p, _⟩ := I.tuple hqx
    obtain ⟨its2, rv2, p2, _⟩ := I.list hqy
    have l1 := rv.length
    have l2 := rv2.length
    have hh := in1_calm (I.ok.hd hc)
    exact wpAny_pyNext_zipD2_end D (Draws.tuple hh i1 a h1a its.toArray) (Draws.list hh i2 b h2b its2.toArray) hz hTI hTO ⟨h1, p⟩ ⟨h2, p2.isList⟩ (by rw [List.size_toArray]; omega) (by rw [List.size_toArray]; omega) (.inl (by rw [List.size_toArray]; omega))
      fun h' tk hk => ⟨rfl, I.turnedL (t' := tk) (ch := [z, TI, TO, i1, i2]) (fun c o hb q => hk c o (fun r => hb (by simp [r])) (fun r => hb (by simp [r])) (fun r => hb (by simp [r])) (fun r => hb (by simp [r])) q) hf⟩
  self := fun A i s Q E st h => wpAny_pyIter_zip st.1 h
def iZipM (K : PySem.W.Frag) (ta : TA) : TI := fun σ H R => ta σ H fun vs H1 => ∃ a b xs ys, vs = [.ref a, .ref b] ∧ SqT K H1 a xs ∧ SqL K H1 b ys ∧ R (ItzM K a b) H1
theorem pi_zipM {X : Cx} {e e2 : Expr} {ta : TA} {p pos tpos : Pos} {elts : List Expr} {kk : Nat} (hg : Gl X "zip") (hm : X.mg "zip" = none) (ha : PA X [e, e2] ta)
    (hs : starEach [e, e2] X.env = (false, eval e X.env) :: starEach [e2] X.env := by rfl) (hpl : (backTo pos (starEach [e2] X.env)).any (·.1) = false := by rfl) :
    PI X (.Tuple elts kk tpos) (.Call (.Name "zip" p) [e, e2] [] pos) (iZipM X.K ta) := by
  refine ⟨fun pins s σ H R I h => ?_⟩
  refine Call_ (ld_blt I hg hm PyProof.Rows.boot_zip (PyProof.Rows.callWith_type1 (thn (ha.run pos pins s σ H _ I h) fun us s1 ⟨vs, H1, I1, r1, q1⟩ => ?_) hs hpl))
  obtain ⟨a, b, xs, ys, ex, hqx, hqy, q⟩ := q1
  subst ex
  cases r1 with
  | cons r rr =>
    cases rr with
    | cons r' rr =>
      cases rr
      cases r
      cases r'
      obtain ⟨its, rv, p1, _⟩ := I1.tuple hqx
      obtain ⟨its2, rv2, p2, _⟩ := I1.list hqy
      have hal : a < s1.heap.objs.size := let ⟨_, z, _⟩ := p1; Heap.lt_size z
      have hbl : b < s1.heap.objs.size := p2.lt
      refine zip_begins2 (begins_tuple a its.toArray) (begins_list b its2.toArray) p1 p2.isList fun h' hz hTI hTO g1 g2 hsz hk => wpAny_pyIter_zip hz ?_
      have I2 : Inv X pins σ H1 { s1 with heap := h' } := I1.kept (t' := s1.toks) hk
      refine ⟨s1.heap.objs.size + 4, [s1.heap.objs.size + 4, s1.heap.objs.size + 2, s1.heap.objs.size + 3, s1.heap.objs.size, s1.heap.objs.size + 1], _, _, H1, rfl, I2,
        turn_zipM (zip_sep2 (fun c hc => by rw [List.mem_singleton.mp hc]; exact hal) (fun c hc => by rw [List.mem_singleton.mp hc]; exact hbl)) (Nat.ne_of_lt hal) (Nat.ne_of_lt (Nat.lt_succ_of_lt hbl)), ⟨hz, hTI, ⟨_, _, hTO⟩, ⟨_, g1, rfl, rfl⟩, ⟨_, g2, rfl, rfl⟩⟩, fun c hcm => ?_, q⟩
      have w : c = s1.heap.objs.size + 4 ∨ c = s1.heap.objs.size + 2 ∨ c = s1.heap.objs.size + 3 ∨ c = s1.heap.objs.size ∨ c = s1.heap.objs.size + 1 := by simpa using hcm
      have hle : s1.heap.objs.size ≤ c := by
        rcases w with z | z | z | z | z
        · rw [z]; exact Nat.le_add_right _ _
        · rw [z]; exact Nat.le_add_right _ _
        · rw [z]; exact Nat.le_add_right _ _
        · rw [z]; exact Nat.le_refl _
        · rw [z]; exact Nat.le_add_right _ _
      exact I1.fpOk hle (I1.hok.fresh hle)

/-! ### over data -/
section
variable {K : PySem.W.Frag} {σ : L2.St} {G H : Hp} {ta tb tl : TE}
theorem ei_seqL {es : List PyData} (h : Ed K tl σ G (.list es)) : EdI K (iSeq K tl) σ G es := fun H e R q => .inl (ei_list h H e R q)
theorem ei_seqT {es : List PyData} (h : Ed K tl σ G (.tuple es)) : EdI K (iSeq K tl) σ G es := fun H e R q => .inr (ei_tup h H e R q)
theorem yl_enumT {a : Addr} {xs : List V} {es : List PyData} (hs : SqT K G a xs) (hd : DpAll K G xs es) : Yl K (IteT K a) G (enumD es) := fun i H x =>
  ⟨fun d he => by
    obtain ⟨d, he', rfl⟩ := enumD_get he
    obtain ⟨v, hv, hvd⟩ := dps_get hd he'
    refine ⟨⟨xs, v, ex_t x hs, hv⟩, fun u H' y G' e1 e2 => ?_⟩
    obtain ⟨T, z, rfl, hT, rfl, y⟩ := y
    have := y xs (ex_t x hs)
    rw [hv] at this
    cases this
    exact nw_pair e2 hT (.int _) (dp_ex e1 hvd), fun hl => ⟨xs, ex_t x hs, by rw [dps_len hd]; rw [enumD_len] at hl; exact hl⟩⟩
theorem ei_enumT {es : List PyData} (h : Ed K ta σ G (.tuple es)) : EdI K (iEnumT K (tCons ta tNil)) σ G (enumD es) := fun H e R q =>
  h H e _ fun v G1 H1 n1 h1 => by
    obtain ⟨a, xs, rfl, hs, hd⟩ := dp_tup_inv h1
    exact ⟨a, xs, rfl, ex_t n1.gh hs, q _ G1 H1 n1 (yl_enumT hs hd)⟩
theorem ei_zipM {es fs : List PyData} (h : Ed K ta σ G (.tuple es)) (h2 : Ed K tb σ G (.list fs)) (hl : es.length = fs.length) : EdI K (iZipM K (tCons ta (tCons tb tNil))) σ G (zipD es fs) := fun H e R q =>
  h H e _ fun v G1 H1 n1 h1 => (h2.mono n1.gg) H1 n1.gh _ fun v2 G2 H2 n2 h2 => by
    obtain ⟨a, xs, rfl, hs, hd⟩ := dp_tup_inv (dp_ex n2.gg h1)
    obtain ⟨b, ys, rfl, ht, hf⟩ := dp_lst_inv h2
    refine ⟨a, b, xs, ys, rfl, ex_t n2.gh hs, ex_l n2.gh ht, q _ G2 H2 (n1.trans n2) fun i H' x => ⟨fun d he => ?_, fun he => ?_⟩⟩
    · obtain ⟨d, f, he', hg, rfl⟩ := zipD_get he
      obtain ⟨v, hv, hvd⟩ := dps_get hd he'
      obtain ⟨w, hw, hwd⟩ := dps_get hf hg
      refine ⟨⟨xs, ys, v, w, ex_t x hs, ex_l x ht, hv, hw⟩, fun u H3 y G' e1 e2 => ?_⟩
      obtain ⟨T, z, z', rfl, hT, rfl, y, y'⟩ := y
      have t1 := y xs (ex_t x hs)
      have t2 := y' ys (ex_l x ht)
      rw [hv] at t1
      rw [hw] at t2
      cases t1
      cases t2
      exact nw_pair e2 hT (dp_ex e1 hvd) (dp_ex e1 hwd)
    · unfold zipD at he
      rw [List.length_map, List.length_zip] at he
      exact ⟨xs, ys, ex_t x hs, ex_l x ht, by rw [dps_len hd]; omega, by rw [dps_len hf]; omega⟩
end
end Wk
/-! WE -/
/-! What the derivations use: built-in names, defs by name, a few rules under short readings. -/
namespace Wk
open PySem PySem.Spec PyProof.Rows L2 Evl

/-- the module does not bind these names -/
structure Bt (mg : Str → Option Value) : Prop where
  len : mg "len" = none
  range : mg "range" = none
  enumerate : mg "enumerate" = none
  zip : mg "zip" = none
  tuple : mg "tuple" = none
  list : mg "list" = none
  min : mg "min" = none
  max : mg "max" = none
  abs : mg "abs" = none
  int : mg "int" = none
  all : mg "all" = none
  isinstance : mg "isinstance" = none
  sorted : mg "sorted" = none
  set : mg "set" = none
  divmod : mg "divmod" = none
/-- a def of the text, by its name -/
def Df (K : PySem.W.Frag) (mg : Str → Option Value) (x : Str) (st : Stmt) : Prop := ∃ f fd, Fun K x x st f fd ∧ mg x = some (.ref f)
/-- a def that keeps its promise, by its name -/
def Good (P : Program) (w : World) (K : PySem.W.Frag) (mg : Str → Option Value) (base : Heap) (x : Str) (k : Nat) (ps : List Str) (sp : Sp) : Prop :=
  ∃ f fd, mg x = some (.ref f) ∧ PySem.W.keepIn K (.ref f) = true ∧ Binds K fd ps [] ∧ FnOk P w K mg base CX0 k f fd ps sp
theorem pe_callG {X : Cx} {x : Str} {p pos : Pos} {e : Expr} {es : List Expr} {t : TA} {k n : Nat} {ps : List Str} {sp : Sp} (h : Good X.prog X.w X.K X.mg X.base x k ps sp) (hr : Room n X.A) (hn : k ≤ n) (hg : Gl X x) (ha : PA X (e :: es) t)
    (hd : (x == ("__debug__" : Str)) = false := by decide) (hs : starEach (e :: es) X.env = (false, eval e X.env) :: starEach es X.env := by rfl) (hp : (backTo pos (starEach es X.env)).any (·.1) = false := by rfl) :
    PE X (.Call (.Name x p) (e :: es) [] pos) (tCall sp [] E0 t) := by
  obtain ⟨f, fd, hm, hk, hb, F⟩ := h
  exact pe_call F (hr.mono hn) hg hm hk hb .nil pass0 ha (hdb := hd) (he := hs) (hpl := hp)
theorem room65 {A : Around} {k : Nat} (hr : Room k A) : A.units + 65 < cLine := by
  have := hr.un
  omega
theorem pt_or {X : Cx} {e : Expr} {t1 t2 : TT} (h1 : PT X e t1) (h2 : PT X e t2) : PT X e (fun σ H Q => t1 σ H Q ∨ t2 σ H Q) := ⟨fun pins s σ H Q I h => by
  rcases h with h | h
  · exact h1.run pins s σ H Q I h
  · exact h2.run pins s σ H Q I h⟩
section
variable {X : Cx}
theorem cr_len : CallR X (.builtin "len") (rLenC X.K) := call_len_seq
theorem cr_tup : CallR X (.type "tuple") (rTupC X.K) := call_tuple_of
theorem cr_list : CallR X (.type "list") (rListC X.K) := call_list_of
theorem cr_abs : CallR X (.builtin "abs") rAbsC := call_abs
theorem cr_int : CallR X (.type "int") rIntC := call_int1
theorem cr_min2 (hc : X.calm = true) : CallR X (.builtin "min") rMin2C := call_min2 hc
theorem cr_divmod : CallR X (.builtin "divmod") rDivC := call_divmod
def rLenD : List V → Hp → VK → Prop := fun xs H Q => ∃ a kvs, xs = [V.ref a] ∧ H a = some (.dK kvs) ∧ Q (.int kvs.length) H
theorem cr_lenD : CallR X (.builtin "len") rLenD := call_lenD
def tIsTup (K : PySem.W.Frag) (t : TE) : TE := tCB (rIsi K) (tCons t (tCons (tC (.ty "tuple")) tNil))
def rDKput : TSet := fun o i v H Q => ∃ a J, o = .ref a ∧ DPut H a i v J ∧ Q J
theorem set_DK (hu : X.A.units + 1 < cLine) : PSet X rDKput := by
  intro pins s σ H o i v ov iv u Q I ro ri rv h
  obtain ⟨a, J, rfl, hp, q⟩ := h
  cases ro
  exact d_setItem hu I hp ri rv fun s' I' => ⟨J, I', q⟩
theorem set_or {t1 t2 : TSet} (h1 : PSet X t1) (h2 : PSet X t2) : PSet X (fun o i v H Q => t1 o i v H Q ∨ t2 o i v H Q) := by
  intro pins s σ H o i v ov iv u Q I ro ri rv h
  rcases h with h | h
  · exact h1 pins s σ H o i v ov iv u Q I ro ri rv h
  · exact h2 pins s σ H o i v ov iv u Q I ro ri rv h
end
mutual
def numOnly : NestedKey → Bool
  | .num _ => true
  | .tup ks => numOnlyAll ks
  | _ => false
def numOnlyAll : List NestedKey → Bool
  | [] => true
  | k :: ks => numOnly k && numOnlyAll ks
end
/-- sorted(set(xs)): a new list that has the items of xs, whatever their order -/
def tSortSet (P : Program) (w : World) (K : PySem.W.Frag) (te : TE) : TE := fun σ H Q => te σ H fun x H1 => ∃ (a : Addr) (xs : List V) (ks : List NestedKey), x = .ref a ∧ SqL K H1 a xs ∧ xs.length < 64 ∧ DpAll K H1 xs (NestedKey.datas ks) ∧
  (∀ k ∈ ks, k.depth ≤ 8 ∧ k.data.depth ≤ 8 ∧ numOnly k = true ∧ ∃ x r, k.data = .tuple (x :: r)) ∧ (∀ k ∈ ks, ∀ q ∈ ks, PySem.W.alike k.data q.data = true) ∧
  ∀ (p : Addr) (L : List (V × NestedKey)), H1 p = none → (∀ q ∈ L, q ∈ xs.zip ks) → (∀ k ∈ ks, ∃ q ∈ L, q.2 = k) → Q (.ref p) (upd H1 p (.lst (L.map (·.1))))
end Wk
/-! WM -/
/-! Plain data: webs, ways, stories as PyData; equality of plain data. -/
namespace Wk
open PySem

/-- plain data, at most so deep: None, whole numbers, lists and tuples of such -/
def Pl : Nat → PyData → Prop
  | _, .none => True
  | _, .int _ => True
  | n + 1, .tuple ds => ∀ d ∈ ds, Pl n d
  | n + 1, .list ds => ∀ d ∈ ds, Pl n d
  | _, _ => False
theorem depthAll_le {n : Nat} : ∀ {ds : List PyData}, (∀ d ∈ ds, PyData.depth d ≤ n) → PyData.depthAll ds ≤ n
  | [], _ => by simp [PyData.depthAll]
  | d :: ds, h => by
    have h1 := h d (List.mem_cons_self ..)
    have h2 := depthAll_le (ds := ds) fun x hx => h x (List.mem_cons_of_mem _ hx)
    simp only [PyData.depthAll]
    omega
theorem canLayAll_of : ∀ {ds : List PyData}, (∀ d ∈ ds, PyData.canLay0 d = true) → PyData.canLayAll0 ds = true
  | [], _ => by simp [PyData.canLayAll0]
  | d :: ds, h => by
    simp only [PyData.canLayAll0, Bool.and_eq_true]
    exact ⟨h d (List.mem_cons_self ..), canLayAll_of fun x hx => h x (List.mem_cons_of_mem _ hx)⟩
theorem pl_shape : ∀ {n : Nat} {d : PyData}, Pl n d → PyData.canLay0 d = true ∧ PyData.depth d ≤ n
  | n, .none, _ => ⟨by simp [PyData.canLay0], by simp [PyData.depth]⟩
  | n, .int _, _ => ⟨by simp [PyData.canLay0], by simp [PyData.depth]⟩
  | n + 1, .tuple ds, h => ⟨by simp only [PyData.canLay0]; exact canLayAll_of fun d hd => (pl_shape (h d hd)).1, by
      have := depthAll_le (n := n) fun d hd => (pl_shape (h d hd)).2
      simp only [PyData.depth]
      omega⟩
  | n + 1, .list ds, h => ⟨by simp only [PyData.canLay0]; exact canLayAll_of fun d hd => (pl_shape (h d hd)).1, by
      have := depthAll_le (n := n) fun d hd => (pl_shape (h d hd)).2
      simp only [PyData.depth]
      omega⟩
  | 0, .tuple _, h => by simp [Pl] at h
  | 0, .list _, h => by simp [Pl] at h
  | n, .bool _, h => by cases n <;> simp [Pl] at h
  | n, .str _, h => by cases n <;> simp [Pl] at h
  | n, .dict _, h => by cases n <;> simp [Pl] at h
theorem pl_shaped {n : Nat} {d : PyData} (h : Pl n d) (hn : n ≤ 64 := by decide) : SeqAt.shaped d = true := by
  unfold SeqAt.shaped
  have := pl_shape h
  rw [this.1, Bool.true_and]
  exact decide_eq_true (by omega)
theorem pl_mono : ∀ {n m : Nat} {d : PyData}, Pl n d → n ≤ m → Pl m d
  | n, m, .none, _, _ => by cases m <;> simp [Pl]
  | n, m, .int _, _, _ => by cases m <;> simp [Pl]
  | n + 1, m + 1, .tuple ds, h, hm => fun d hd => pl_mono (h d hd) (by omega)
  | n + 1, m + 1, .list ds, h, hm => fun d hd => pl_mono (h d hd) (by omega)
  | n + 1, 0, .tuple ds, h, hm => by omega
  | n + 1, 0, .list ds, h, hm => by omega
  | 0, _, .tuple _, h, _ => by simp [Pl] at h
  | 0, _, .list _, h, _ => by simp [Pl] at h
  | n, _, .bool _, h, _ => by cases n <;> simp [Pl] at h
  | n, _, .str _, h, _ => by cases n <;> simp [Pl] at h
  | n, _, .dict _, h, _ => by cases n <;> simp [Pl] at h
theorem pl_int {n : Nat} (i : Int) : Pl n (.int i) := by cases n <;> simp [Pl]
theorem pl_none {n : Nat} : Pl n .none := by cases n <;> simp [Pl]
theorem eqvAll_iff {P : PyData → Prop} {R : PyData → Prop} (h : ∀ a b, P a → R b → (PyData.eqv a b = true ↔ a = b)) : ∀ {xs ys : List PyData}, (∀ d ∈ xs, P d) → (∀ d ∈ ys, R d) → (PyData.eqvAll xs ys = true ↔ xs = ys)
  | [], [], _, _ => by simp [PyData.eqvAll]
  | [], _ :: _, _, _ => by simp [PyData.eqvAll]
  | _ :: _, [], _, _ => by simp [PyData.eqvAll]
  | x :: xs, y :: ys, hx, hy => by
    have ih := eqvAll_iff h (xs := xs) (ys := ys) (fun d hd => hx d (List.mem_cons_of_mem _ hd)) (fun d hd => hy d (List.mem_cons_of_mem _ hd))
    simp only [PyData.eqvAll, Bool.and_eq_true, List.cons.injEq]
    rw [ih, h x y (hx x (List.mem_cons_self ..)) (hy y (List.mem_cons_self ..))]
theorem no_bool {m : Nat} {b : Bool} : ¬ Pl m (.bool b) := by cases m <;> simp [Pl]
theorem no_str {m : Nat} {b : Str} : ¬ Pl m (.str b) := by cases m <;> simp [Pl]
theorem no_dict {m : Nat} {b} : ¬ Pl m (.dict b) := by cases m <;> simp [Pl]
theorem eqv_iff : ∀ {n m : Nat} {a b : PyData}, Pl n a → Pl m b → (PyData.eqv a b = true ↔ a = b)
  | n, m, .none, b, _, hb => by
    cases b with
    | bool _ => exact absurd hb no_bool
    | _ => simp [PyData.eqv]
  | n, m, .int i, b, _, hb => by
    cases b with
    | bool _ => exact absurd hb no_bool
    | _ => simp [PyData.eqv]
  | _, _, .bool _, _, ha, _ => absurd ha no_bool
  | _, _, .str _, _, ha, _ => absurd ha no_str
  | _, _, .dict _, _, ha, _ => absurd ha no_dict
  | 0, _, .tuple _, _, ha, _ => by simp [Pl] at ha
  | 0, _, .list _, _, ha, _ => by simp [Pl] at ha
  | n + 1, m, .tuple xs, b, ha, hb => by
    cases b with
    | tuple ys =>
      cases m with
      | zero => simp [Pl] at hb
      | succ m =>
        simp only [PyData.eqv, PyData.tuple.injEq]
        exact eqvAll_iff (P := Pl n) (R := Pl m) (fun a b h1 h2 => eqv_iff h1 h2) ha hb
    | _ => simp [PyData.eqv]
  | n + 1, m, .list xs, b, ha, hb => by
    cases b with
    | list ys =>
      cases m with
      | zero => simp [Pl] at hb
      | succ m =>
        simp only [PyData.eqv, PyData.list.injEq]
        exact eqvAll_iff (P := Pl n) (R := Pl m) (fun a b h1 h2 => eqv_iff h1 h2) ha hb
    | _ => simp [PyData.eqv]
theorem eqv_same {n m : Nat} {a b : PyData} (ha : Pl n a) (hb : Pl m b) (h : a = b) : PyData.eqv a b = true := (eqv_iff ha hb).mpr h
theorem eqv_other {n m : Nat} {a b : PyData} (ha : Pl n a) (hb : Pl m b) (h : a ≠ b) : PyData.eqv a b = false := by
  cases e : PyData.eqv a b with
  | false => rfl
  | true => exact absurd ((eqv_iff ha hb).mp e) h
theorem eqv_dec {α : Type} [DecidableEq α] {f : α → PyData} (hf : ∀ x y, f x = f y → x = y) {n m : Nat} {x y : α} (hx : Pl n (f x)) (hy : Pl m (f y)) : PyData.eqv (f x) (f y) = decide (x = y) := by
  by_cases h : x = y
  · rw [decide_eq_true h, eqv_same hx hy (by rw [h])]
  · rw [decide_eq_false h, eqv_other hx hy fun e => h (hf _ _ e)]

/-! ### webs and ways as data -/
abbrev Web := List (List (Nat × Nat))
def nI (n : Nat) : PyData := .int (n : Int)
def eEnd (p : Nat × Nat) : PyData := .tuple [nI p.1, nI p.2]
def eRoom (r : List (Nat × Nat)) : PyData := .tuple (r.map eEnd)
def eWeb (w : Web) : PyData := .tuple (w.map eRoom)
def eNs (l : List Nat) : PyData := .tuple (l.map nI)
def eL (l : List Nat) : PyData := .list (l.map nI)
def eO (o : Option (List Nat)) : PyData := match o with
  | none => .none
  | some l => eNs l
theorem nI_inj {a b : Nat} (h : nI a = nI b) : a = b := by
  unfold nI at h
  injection h with h
  omega
theorem map_inj {α β : Type} {f : α → β} (hf : ∀ x y, f x = f y → x = y) : ∀ {xs ys : List α}, xs.map f = ys.map f → xs = ys
  | [], [], _ => rfl
  | [], _ :: _, h => by simp at h
  | _ :: _, [], h => by simp at h
  | x :: xs, y :: ys, h => by
    simp only [List.map_cons, List.cons.injEq] at h
    rw [hf _ _ h.1, map_inj hf h.2]
theorem eEnd_inj {a b : Nat × Nat} (h : eEnd a = eEnd b) : a = b := by
  unfold eEnd at h
  simp only [PyData.tuple.injEq, List.cons.injEq, and_true] at h
  exact Prod.ext (nI_inj h.1) (nI_inj h.2)
theorem eNs_inj {a b : List Nat} (h : eNs a = eNs b) : a = b := by
  unfold eNs at h
  injection h with h
  exact map_inj (fun _ _ => nI_inj) h
theorem eL_inj {a b : List Nat} (h : eL a = eL b) : a = b := by
  unfold eL at h
  injection h with h
  exact map_inj (fun _ _ => nI_inj) h
theorem eO_inj {a b : Option (List Nat)} (h : eO a = eO b) : a = b := by
  cases a with
  | none => cases b with
    | none => rfl
    | some y => simp [eO, eNs] at h
  | some x => cases b with
    | none => simp [eO, eNs] at h
    | some y => rw [eNs_inj (show eNs x = eNs y from h)]
theorem pl_nI {n k : Nat} : Pl n (nI k) := pl_int _
theorem pl_map {α : Type} {f : α → PyData} {n : Nat} (l : List α) (h : ∀ x ∈ l, Pl n (f x)) : ∀ d ∈ l.map f, Pl n d := fun d hd => by
  obtain ⟨x, hx, rfl⟩ := List.mem_map.mp hd
  exact h x hx
theorem pl_tup {n : Nat} {ds : List PyData} (h : ∀ d ∈ ds, Pl n d) : Pl (n + 1) (.tuple ds) := h
theorem pl_lst {n : Nat} {ds : List PyData} (h : ∀ d ∈ ds, Pl n d) : Pl (n + 1) (.list ds) := h
theorem pl_two {n : Nat} {a b : PyData} (ha : Pl n a) (hb : Pl n b) : Pl (n + 1) (.tuple [a, b]) := pl_tup fun d hd => by
  simp only [List.mem_cons, List.not_mem_nil, or_false] at hd
  rcases hd with rfl | rfl <;> assumption
theorem pl_eEnd {n : Nat} (p : Nat × Nat) : Pl (n + 1) (eEnd p) := pl_two pl_nI pl_nI
theorem pl_eNs {n : Nat} (l : List Nat) : Pl (n + 1) (eNs l) := pl_tup (pl_map l fun _ _ => pl_nI)
theorem pl_eL {n : Nat} (l : List Nat) : Pl (n + 1) (eL l) := pl_lst (pl_map l fun _ _ => pl_nI)
theorem pl_eO {n : Nat} (o : Option (List Nat)) : Pl (n + 1) (eO o) := by
  cases o with
  | none => exact pl_none
  | some l => exact pl_eNs l

/-! ### what a web is here -/
def deg (w : Web) (r : Nat) : Nat := (w.getD r []).length
def door (w : Web) (r d : Nat) : Option (Nat × Nat) := (w.getD r [])[d]?
structure WebOk (w : Web) : Prop where
  pos : 0 < w.length
  few : w.length ≤ 6
  deg : ∀ r, deg w r ≤ 24
  inr : ∀ r d s j, door w r d = some (s, j) → s < w.length
  sym : ∀ r d s j, door w r d = some (s, j) → door w s j = some (r, d)
theorem door_lt {w : Web} {r d : Nat} : d < deg w r ↔ ∃ p, door w r d = some p := by
  unfold deg door
  constructor
  · intro h
    exact ⟨_, List.getElem?_eq_getElem h⟩
  · rintro ⟨p, h⟩
    exact (List.getElem?_eq_some_iff.mp h).1
theorem door_none {w : Web} {r d : Nat} (h : deg w r ≤ d) : door w r d = none := by
  unfold deg at h
  unfold door
  exact List.getElem?_eq_none h
theorem web_get {w : Web} {r : Nat} (h : r < w.length) : (w.map eRoom)[r]? = some (eRoom (w.getD r [])) := by
  rw [List.getElem?_map, List.getElem?_eq_getElem h, List.getD_eq_getElem?_getD, List.getElem?_eq_getElem h]
  rfl
theorem room_get {r : List (Nat × Nat)} {d : Nat} {p : Nat × Nat} (h : r[d]? = some p) : (r.map eEnd)[d]? = some (eEnd p) := by
  rw [List.getElem?_map, h]
  rfl
theorem room_len (w : Web) (r : Nat) : ((w.getD r []).map eEnd).length = deg w r := by rw [List.length_map]; rfl

/-- where a way leads, and the door come in by -/
def gon (w : Web) : Nat → Option Nat → List Nat → Option (Nat × Option Nat)
  | r, c, [] => some (r, c)
  | r, c, d :: ds => match door w r d with
    | none => none
    | some (s, j) => gon w s (some j) ds
/-- what is seen on a way, behind the first number -/
def sees (w : Web) : Nat → List Nat → Option (List (Nat × Nat))
  | _, [] => some []
  | r, d :: ds => match door w r d with
    | none => none
    | some (s, j) => (sees w s ds).map ((j, deg w s) :: ·)
def eCame (o : Option Nat) : PyData := match o with
  | none => .none
  | some j => nI j
def eGon (o : Option (Nat × Option Nat)) : PyData := match o with
  | none => .none
  | some (r, c) => .tuple [nI r, eCame c]
def eSeen (n : Nat) (o : Option (List (Nat × Nat))) : PyData := match o with
  | none => .none
  | some l => .tuple (nI n :: l.map eEnd)
abbrev Story := Nat × List (Nat × Nat × Nat)
def eStep (s : Nat × Nat × Nat) : PyData := .tuple [nI s.1, nI s.2.1, nI s.2.2]
def eStory (st : Story) : PyData := .tuple [nI st.1, .tuple (st.2.map eStep)]
def stWay (st : Story) : List Nat := st.2.map (·.1)
def stSight (st : Story) : List (Nat × Nat) := st.2.map (·.2)
def fitsM (w : Web) (r : Nat) (st : Story) : Bool := decide (deg w r = st.1 ∧ sees w r (stWay st) = some (stSight st))
def standsM (w : Web) (st : Story) : List (Nat × Nat) := (List.range w.length).filterMap fun r => if fitsM w r st then (gon w r none (stWay st)).map fun g => (r, g.1) else none
end Wk
/-! WQ -/
/-! The search by breadth, in plain Lean: W n, the entries (state, way) after n of them were gone through, each state once. -/
namespace Wk
section
variable {S : Type} [DecidableEq S]
abbrev Ent (S : Type) := S × List Nat
/-- those of cs that are new, each state once, in order -/
def push (W : List (Ent S)) : List (Ent S) → List (Ent S)
  | [] => []
  | c :: cs => if c.1 ∈ W.map (·.1) then push W cs else c :: push (W ++ [c]) cs
def cand (kids : S → List S) (e : Ent S) : List (Ent S) := (kids e.1).zipIdx.map fun p => (p.1, e.2 ++ [p.2])
def runQ (kids : S → List S) (b : S) : Nat → List (Ent S)
  | 0 => [(b, [])]
  | n + 1 => match (runQ kids b n)[n]? with
    | none => runQ kids b n
    | some e => runQ kids b n ++ push (runQ kids b n) (cand kids e)
theorem push_sub : ∀ {W cs : List (Ent S)} {c : Ent S}, c ∈ push W cs → c ∈ cs
  | _, [], _, h => by simp [push] at h
  | W, x :: cs, c, h => by
    unfold push at h
    split at h
    · exact List.mem_cons_of_mem _ (push_sub h)
    · rcases List.mem_cons.mp h with e | e
      · rw [e]; exact List.mem_cons_self ..
      · exact List.mem_cons_of_mem _ (push_sub e)
theorem push_cover : ∀ {W cs : List (Ent S)} {c : Ent S}, c ∈ cs → c.1 ∈ (W ++ push W cs).map (·.1)
  | _, [], _, h => by cases h
  | W, x :: cs, c, h => by
    unfold push
    split
    · rename_i hx
      rcases List.mem_cons.mp h with e | e
      · rw [e, List.map_append]
        exact List.mem_append_left _ hx
      · exact push_cover e
    · rcases List.mem_cons.mp h with e | e
      · rw [e]; simp
      · have := push_cover (W := W ++ [x]) e
        simpa using this
theorem push_append : ∀ (W cs ds : List (Ent S)), push W (cs ++ ds) = push W cs ++ push (W ++ push W cs) ds
  | W, [], ds => by simp [push]
  | W, c :: cs, ds => by
    simp only [List.cons_append, push]
    split
    · rename_i hx
      rw [push_append W cs ds]
    · rw [push_append (W ++ [c]) cs ds]
      simp
theorem push_nodup : ∀ {W cs : List (Ent S)}, (W.map (·.1)).Nodup → ((W ++ push W cs).map (·.1)).Nodup
  | W, [], h => by simpa [push] using h
  | W, c :: cs, h => by
    unfold push
    split
    · exact push_nodup h
    · rename_i hx
      have h2 : ((W ++ [c]).map (·.1)).Nodup := by
        rw [List.map_append, List.nodup_append]
        refine ⟨h, by simp, fun a ha b hb e => hx ?_⟩
        simp at hb
        rw [← hb, ← e]
        exact ha
      have := push_nodup (cs := cs) h2
      simpa using this

theorem runQ_succ (kids : S → List S) (b : S) (n : Nat) : ∃ t, runQ kids b (n + 1) = runQ kids b n ++ t := by
  simp only [runQ]
  split
  · exact ⟨[], by simp⟩
  · exact ⟨_, rfl⟩
theorem runQ_step {kids : S → List S} {b : S} {n : Nat} {e : Ent S} (h : (runQ kids b n)[n]? = some e) : runQ kids b (n + 1) = runQ kids b n ++ push (runQ kids b n) (cand kids e) := by
  simp only [runQ, h]
theorem runQ_mono (kids : S → List S) (b : S) {n m : Nat} (h : n ≤ m) : ∃ t, runQ kids b m = runQ kids b n ++ t := by
  induction m with
  | zero => exact ⟨[], by rw [show n = 0 by omega]; simp⟩
  | succ m ih =>
    by_cases e : n = m + 1
    · exact ⟨[], by rw [e]; simp⟩
    · obtain ⟨t, ht⟩ := ih (by omega)
      obtain ⟨u, hu⟩ := runQ_succ kids b m
      exact ⟨t ++ u, by rw [hu, ht, List.append_assoc]⟩
theorem runQ_get {kids : S → List S} {b : S} {n m i : Nat} {e : Ent S} (h : (runQ kids b n)[i]? = some e) (hm : n ≤ m) : (runQ kids b m)[i]? = some e := by
  obtain ⟨t, ht⟩ := runQ_mono kids b hm
  rw [ht, List.getElem?_append_left (List.getElem?_eq_some_iff.mp h).1]
  exact h
theorem runQ_mem {kids : S → List S} {b : S} {n m : Nat} {e : Ent S} (h : e ∈ runQ kids b n) (hm : n ≤ m) : e ∈ runQ kids b m := by
  obtain ⟨t, ht⟩ := runQ_mono kids b hm
  rw [ht]
  exact List.mem_append_left _ h
theorem runQ_nodup (kids : S → List S) (b : S) : ∀ n, ((runQ kids b n).map (·.1)).Nodup
  | 0 => by simp [runQ]
  | n + 1 => by
    simp only [runQ]
    split
    · exact runQ_nodup kids b n
    · exact push_nodup (runQ_nodup kids b n)
theorem map_nodup_eq {α β : Type} {f : α → β} : ∀ {l : List α}, (l.map f).Nodup → ∀ {x y : α}, x ∈ l → y ∈ l → f x = f y → x = y
  | [], _, _, _, h, _, _ => by cases h
  | a :: l, hn, x, y, hx, hy, e => by
    rw [List.map_cons, List.nodup_cons] at hn
    rcases List.mem_cons.mp hx with hx | hx <;> rcases List.mem_cons.mp hy with hy | hy
    · rw [hx, hy]
    · exact absurd (List.mem_map.mpr ⟨y, hy, by rw [← e, hx]⟩) hn.1
    · exact absurd (List.mem_map.mpr ⟨x, hx, by rw [e, hy]⟩) hn.1
    · exact map_nodup_eq hn.2 hx hy e
theorem runQ_one {kids : S → List S} {b : S} {n m : Nat} {s : S} {p q : List Nat} (h1 : (s, p) ∈ runQ kids b n) (h2 : (s, q) ∈ runQ kids b m) : p = q := by
  have h1' := runQ_mem h1 (Nat.le_max_left n m)
  have h2' := runQ_mem h2 (Nat.le_max_right n m)
  have := map_nodup_eq (runQ_nodup kids b (max n m)) h1' h2' rfl
  exact (Prod.mk.inj this).2

/-! what is told at the first entry that is told -/
def TellIs (kids : S → List S) (b : S) (told : S → Bool) (r : Option (List Nat)) : Prop :=
  ∃ i, (∀ j, j < i → ∃ e, (runQ kids b j)[j]? = some e ∧ told e.1 = false) ∧ match (runQ kids b i)[i]? with
    | some e => told e.1 = true ∧ r = some e.2
    | none => r = none
theorem tell_one {kids : S → List S} {b : S} {told : S → Bool} {r q : Option (List Nat)} (h1 : TellIs kids b told r) (h2 : TellIs kids b told q) : r = q := by
  obtain ⟨i, hi, h1⟩ := h1
  obtain ⟨j, hj, h2⟩ := h2
  have key : i = j := by
    rcases Nat.lt_trichotomy i j with h | h | h
    · obtain ⟨e, he, ht⟩ := hj i h
      rw [he] at h1
      dsimp only at h1
      rw [ht] at h1
      cases h1.1
    · exact h
    · obtain ⟨e, he, ht⟩ := hi j h
      rw [he] at h2
      dsimp only at h2
      rw [ht] at h2
      cases h2.1
  subst key
  revert h1 h2
  cases (runQ kids b i)[i]? with
  | none =>
    intro h1 h2
    rw [h1, h2]
  | some e =>
    intro h1 h2
    rw [h1.2, h2.2]
open Classical in
noncomputable def tellM (kids : S → List S) (b : S) (told : S → Bool) : Option (List Nat) := if h : ∃ r, TellIs kids b told r then h.choose else none
theorem tell_eq {kids : S → List S} {b : S} {told : S → Bool} {r : Option (List Nat)} (h : TellIs kids b told r) : tellM kids b told = r := by
  unfold tellM
  rw [dif_pos ⟨r, h⟩]
  exact tell_one (Exists.choose_spec (p := TellIs kids b told) ⟨r, h⟩) h
def HomeIs (kids : S → List S) (b g : S) (p : List Nat) : Prop := ∃ n, (g, p) ∈ runQ kids b n
open Classical in
noncomputable def homeM (kids : S → List S) (b g : S) : List Nat := if h : ∃ r, HomeIs kids b g r then h.choose else []
theorem home_one {kids : S → List S} {b g : S} {p q : List Nat} (h1 : HomeIs kids b g p) (h2 : HomeIs kids b g q) : p = q := let ⟨_, h1⟩ := h1; let ⟨_, h2⟩ := h2; runQ_one h1 h2
theorem home_eq {kids : S → List S} {b g : S} {p : List Nat} (h : HomeIs kids b g p) : homeM kids b g = p := by
  unfold homeM
  rw [dif_pos ⟨p, h⟩]
  exact home_one (Exists.choose_spec (p := HomeIs kids b g) ⟨p, h⟩) h

/-! ways lead where they are said to; their lengths -/
def walkQ (kids : S → List S) : S → List Nat → Option S
  | s, [] => some s
  | s, d :: ds => match (kids s)[d]? with
    | none => none
    | some t => walkQ kids t ds
theorem walkQ_append (kids : S → List S) : ∀ (s : S) (p q : List Nat), walkQ kids s (p ++ q) = (walkQ kids s p).bind fun t => walkQ kids t q
  | s, [], q => rfl
  | s, d :: p, q => by
    simp only [List.cons_append, walkQ]
    cases (kids s)[d]? with
    | none => rfl
    | some t => exact walkQ_append kids t p q
theorem cand_mem {kids : S → List S} {e c : Ent S} (h : c ∈ cand kids e) : ∃ d, (kids e.1)[d]? = some c.1 ∧ c.2 = e.2 ++ [d] := by
  unfold cand at h
  obtain ⟨p, hp, rfl⟩ := List.mem_map.mp h
  exact ⟨p.2, List.mem_zipIdx_iff_getElem?.mp hp, rfl⟩
theorem cand_of {kids : S → List S} {e : Ent S} {d : Nat} {t : S} (h : (kids e.1)[d]? = some t) : (t, e.2 ++ [d]) ∈ cand kids e :=
  List.mem_map.mpr ⟨(t, d), List.mem_zipIdx_iff_getElem?.mpr h, rfl⟩
theorem runQ_walk (kids : S → List S) (b : S) : ∀ n, ∀ e ∈ runQ kids b n, walkQ kids b e.2 = some e.1
  | 0, e, h => by
    simp [runQ] at h
    rw [h]
    rfl
  | n + 1, e, h => by
    simp only [runQ] at h
    split at h
    · exact runQ_walk kids b n e h
    · rename_i f hf
      rcases List.mem_append.mp h with h | h
      · exact runQ_walk kids b n e h
      · obtain ⟨d, h1, h2⟩ := cand_mem (push_sub h)
        have := runQ_walk kids b n f (List.mem_of_getElem? hf)
        rw [h2, walkQ_append, this]
        show walkQ kids f.1 [d] = some e.1
        simp [walkQ, h1]
theorem runQ_len (kids : S → List S) (b : S) : ∀ (n i : Nat) (e : Ent S), (runQ kids b n)[i]? = some e → e.2.length ≤ i
  | 0, i, e, h => by
    simp [runQ] at h
    cases i with
    | zero => simp at h; rw [← h]; simp
    | succ i => simp at h
  | n + 1, i, e, h => by
    simp only [runQ] at h
    split at h
    · exact runQ_len kids b n i e h
    · rename_i f hf
      have hn := (List.getElem?_eq_some_iff.mp hf).1
      by_cases hi : i < (runQ kids b n).length
      · rw [List.getElem?_append_left hi] at h
        exact runQ_len kids b n i e h
      · rw [List.getElem?_append_right (by omega)] at h
        obtain ⟨d, h1, h2⟩ := cand_mem (push_sub (List.mem_of_getElem? h))
        have := runQ_len kids b n n f hf
        rw [h2, List.length_append, List.length_singleton]
        omega
theorem runQ_lt {kids : S → List S} {b : S} {n : Nat} {e : Ent S} (h : e ∈ runQ kids b n) : e.2.length < (runQ kids b n).length := by
  obtain ⟨i, hi⟩ := List.mem_iff_getElem?.mp h
  have h1 := runQ_len kids b n i e hi
  have h2 := (List.getElem?_eq_some_iff.mp hi).1
  omega
/-- all entries gone through lead on to states that are known -/
theorem runQ_closed (kids : S → List S) (b : S) : ∀ n j e, j < n → (runQ kids b n)[j]? = some e → ∀ t ∈ kids e.1, t ∈ (runQ kids b n).map (·.1)
  | 0, _, _, h, _, _, _ => by omega
  | n + 1, j, e, hj, h, t, ht => by
    obtain ⟨u, hu⟩ := runQ_succ kids b n
    by_cases hjn : j < n
    · have hl : j < (runQ kids b n).length ∨ ¬ j < (runQ kids b n).length := Decidable.em _
      rcases hl with hl | hl
      · rw [hu, List.getElem?_append_left hl] at h
        have := runQ_closed kids b n j e hjn h t ht
        rw [hu, List.map_append]
        exact List.mem_append_left _ this
      · -- nothing at n: the run stands still
        have hnone : (runQ kids b n)[n]? = none := List.getElem?_eq_none (by omega)
        have e1 : runQ kids b (n + 1) = runQ kids b n := by simp only [runQ, hnone]
        rw [e1, List.getElem?_eq_none (by omega)] at h
        cases h
    · have ej : j = n := by omega
      subst ej
      by_cases hl : j < (runQ kids b j).length
      · rw [hu, List.getElem?_append_left hl] at h
        rw [runQ_step h]
        obtain ⟨d, hd⟩ := List.mem_iff_getElem?.mp ht
        exact push_cover (cand_of hd)
      · have hnone : (runQ kids b j)[j]? = none := List.getElem?_eq_none (by omega)
        have e1 : runQ kids b (j + 1) = runQ kids b j := by simp only [runQ, hnone]
        rw [e1, hnone] at h
        cases h
theorem runQ_base (kids : S → List S) (b : S) (n : Nat) : b ∈ (runQ kids b n).map (·.1) := by
  obtain ⟨t, ht⟩ := runQ_mono kids b (Nat.zero_le n)
  rw [ht]
  simp [runQ]
/-- where all were gone through, all that is come to is known -/
theorem runQ_all {kids : S → List S} {b : S} {n : Nat} (h : (runQ kids b n)[n]? = none) : ∀ (p : List Nat) (s t : S), s ∈ (runQ kids b n).map (·.1) → walkQ kids s p = some t → t ∈ (runQ kids b n).map (·.1)
  | [], s, t, hs, hw => by
    simp only [walkQ] at hw
    cases hw
    exact hs
  | d :: p, s, t, hs, hw => by
    simp only [walkQ] at hw
    cases hk : (kids s)[d]? with
    | none => rw [hk] at hw; cases hw
    | some u =>
      rw [hk] at hw
      obtain ⟨e, he, rfl⟩ := List.mem_map.mp hs
      obtain ⟨j, hj⟩ := List.mem_iff_getElem?.mp he
      have hlen : (runQ kids b n).length ≤ n := List.getElem?_eq_none_iff.mp h
      have hjl := (List.getElem?_eq_some_iff.mp hj).1
      exact runQ_all h p u t (runQ_closed kids b n j e (by omega) hj u (List.mem_of_getElem? hk)) hw
/-- the lengths of the ways rise, by one at most ahead of what is gone through -/
theorem runQ_rise (kids : S → List S) (b : S) : ∀ n, (∀ (i j : Nat) (e f : Ent S), i ≤ j → (runQ kids b n)[i]? = some e → (runQ kids b n)[j]? = some f → e.2.length ≤ f.2.length) ∧
    ∀ g, (runQ kids b n)[n]? = some g → ∀ e ∈ runQ kids b n, e.2.length ≤ g.2.length + 1
  | 0 => by
    refine ⟨fun i j e f hij he hf => ?_, fun g hg e he => ?_⟩
    · simp [runQ] at he hf
      cases i with
      | zero => cases j with
        | zero => simp at he hf; rw [← he, ← hf]; exact Nat.le_refl _
        | succ j => simp at hf
      | succ i => simp at he
    · simp [runQ] at he
      rw [he]
      simp
  | n + 1 => by
    obtain ⟨h1, h2⟩ := runQ_rise kids b n
    cases hn : (runQ kids b n)[n]? with
    | none =>
      have e1 : runQ kids b (n + 1) = runQ kids b n := by simp only [runQ, hn]
      rw [e1]
      refine ⟨h1, fun g hg => ?_⟩
      rw [List.getElem?_eq_none (by have := List.getElem?_eq_none_iff.mp hn; omega)] at hg
      cases hg
    | some g =>
      have e1 := runQ_step hn
      have newlen : ∀ c ∈ push (runQ kids b n) (cand kids g), c.2.length = g.2.length + 1 := fun c hc => by
        obtain ⟨d, _, q⟩ := cand_mem (push_sub hc)
        rw [q, List.length_append, List.length_singleton]
      have oldlen := h2 g hn
      have rise : ∀ (i j : Nat) (e f : Ent S), i ≤ j → (runQ kids b (n + 1))[i]? = some e → (runQ kids b (n + 1))[j]? = some f → e.2.length ≤ f.2.length := by
        intro i j e f hij he hf
        rw [e1] at he hf
        by_cases hj : j < (runQ kids b n).length
        · rw [List.getElem?_append_left hj] at hf
          rw [List.getElem?_append_left (by omega)] at he
          exact h1 i j e f hij he hf
        · rw [List.getElem?_append_right (by omega)] at hf
          rw [newlen f (List.mem_of_getElem? hf)]
          by_cases hi : i < (runQ kids b n).length
          · rw [List.getElem?_append_left hi] at he
            exact oldlen e (List.mem_of_getElem? he)
          · rw [List.getElem?_append_right (by omega)] at he
            rw [newlen e (List.mem_of_getElem? he)]
            exact Nat.le_refl _
      refine ⟨rise, fun g' hg' e he => ?_⟩
      have hgn : (runQ kids b (n + 1))[n]? = some g := runQ_get hn (Nat.le_succ n)
      have hgg := rise n (n + 1) g g' (Nat.le_succ n) hgn hg'
      rw [e1] at he
      rcases List.mem_append.mp he with he | he
      · have := oldlen e he
        omega
      · rw [newlen e he]
        omega
/-- who was put there when entry j was gone through has a way by one longer -/
theorem runQ_born (kids : S → List S) (b : S) : ∀ n e, e ∈ runQ kids b n → e = (b, []) ∨ ∃ j f, j < n ∧ (runQ kids b n)[j]? = some f ∧ e.2.length = f.2.length + 1
  | 0, e, h => .inl (by simpa [runQ] using h)
  | n + 1, e, h => by
    cases hn : (runQ kids b n)[n]? with
    | none =>
      have e1 : runQ kids b (n + 1) = runQ kids b n := by simp only [runQ, hn]
      rw [e1] at h ⊢
      rcases runQ_born kids b n e h with h | ⟨j, f, hj, hf, hl⟩
      · exact .inl h
      · exact .inr ⟨j, f, by omega, hf, hl⟩
    | some g =>
      have e1 := runQ_step hn
      rw [e1] at h
      rcases List.mem_append.mp h with h | h
      · rcases runQ_born kids b n e h with h | ⟨j, f, hj, hf, hl⟩
        · exact .inl h
        · exact .inr ⟨j, f, by omega, runQ_get hf (Nat.le_succ n), hl⟩
      · obtain ⟨d, _, q⟩ := cand_mem (push_sub h)
        exact .inr ⟨n, g, by omega, runQ_get hn (Nat.le_succ n), by rw [q, List.length_append, List.length_singleton]⟩
/-- each state has a way that is no longer than any way to it -/
theorem runQ_least (kids : S → List S) (b : S) : ∀ (k : Nat) (p : List Nat) (t : S), p.length = k → walkQ kids b p = some t → ∃ n e, e ∈ runQ kids b n ∧ e.1 = t ∧ e.2.length ≤ k := by
  intro k
  induction k with
  | zero =>
    intro p t hp hw
    have : p = [] := List.length_eq_zero_iff.mp hp
    subst this
    simp only [walkQ] at hw
    cases hw
    exact ⟨0, (b, []), by simp [runQ], rfl, Nat.le_refl _⟩
  | succ k ih =>
    intro p t hp hw
    have hne : p ≠ [] := fun z => by rw [z] at hp; simp at hp
    have hd := List.dropLast_concat_getLast hne
    rw [← hd, walkQ_append] at hw
    cases hq : walkQ kids b p.dropLast with
    | none => rw [hq] at hw; cases hw
    | some s =>
      rw [hq] at hw
      have hw' : walkQ kids s [p.getLast hne] = some t := hw
      simp only [walkQ] at hw'
      cases hk : (kids s)[p.getLast hne]? with
      | none => rw [hk] at hw'; cases hw'
      | some u =>
        rw [hk] at hw'
        cases hw'
        obtain ⟨n, e, he, rfl, hel⟩ := ih p.dropLast s (by rw [List.length_dropLast]; omega) hq
        obtain ⟨i, hi⟩ := List.mem_iff_getElem?.mp he
        -- go on until i was gone through
        have hi' := runQ_get hi (Nat.le_max_left n (i + 1))
        have hc := runQ_closed kids b (max n (i + 1)) i e (by omega) hi' _ (List.mem_of_getElem? hk)
        obtain ⟨f, hf, rfl⟩ := List.mem_map.mp hc
        -- f was born at some j; j ≤ i or f no longer than e
        have rise := runQ_rise kids b (max n (i + 1))
        -- in the run up to i + 1 f is there already
        have hi2 : (runQ kids b i)[i]? = some e ∨ (runQ kids b i)[i]? = none := by
          cases q : (runQ kids b i)[i]? with
          | none => exact .inr rfl
          | some e' =>
            have := runQ_get q (show i ≤ max n (i + 1) by omega)
            rw [hi'] at this
            exact .inl this.symm
        rcases hi2 with hi2 | hi2
        · have hst := runQ_step hi2
          have hmem : f.1 ∈ (runQ kids b (i + 1)).map (·.1) := by
            rw [hst]
            have z := push_cover (W := runQ kids b i) (cand_of hk)
            exact z
          obtain ⟨f', hf', e'⟩ := List.mem_map.mp hmem
          refine ⟨i + 1, f', hf', e', ?_⟩
          rcases runQ_born kids b (i + 1) f' hf' with q | ⟨j, g, hj, hg, hl⟩
          · rw [q]; simp
          · have := (runQ_rise kids b (i + 1)).1 j i g e (by omega) hg (runQ_get hi2 (Nat.le_succ i))
            omega
        · -- the run stood still ahead of i
          have hlen : (runQ kids b i).length ≤ i := List.getElem?_eq_none_iff.mp hi2
          have still : ∀ m, runQ kids b (i + m) = runQ kids b i := by
            intro m
            induction m with
            | zero => rfl
            | succ m ih2 =>
              show runQ kids b (i + m + 1) = _
              have hnone : (runQ kids b (i + m))[i + m]? = none := by rw [ih2]; exact List.getElem?_eq_none (by omega)
              simp only [runQ, hnone]
              exact ih2
          have e3 : max n (i + 1) = i + (max n (i + 1) - i) := by omega
          rw [e3, still] at hi'
          rw [List.getElem?_eq_none (by omega)] at hi'
          cases hi'
theorem home_least {kids : S → List S} {b g : S} {p q : List Nat} (h : HomeIs kids b g p) (hw : walkQ kids b q = some g) : p.length ≤ q.length := by
  obtain ⟨n, e, he, rfl, hl⟩ := runQ_least kids b q.length q g rfl hw
  have : p = e.2 := home_one h ⟨n, he⟩
  rw [this]
  exact hl
theorem home_walk {kids : S → List S} {b g : S} {p : List Nat} (h : HomeIs kids b g p) : walkQ kids b p = some g := let ⟨n, hn⟩ := h; runQ_walk kids b n (g, p) hn

/-! how many states there are -/
theorem nodup_len {α : Type} [DecidableEq α] : ∀ {l U : List α}, l.Nodup → (∀ x ∈ l, x ∈ U) → l.length ≤ U.length
  | [], _, _, _ => Nat.zero_le _
  | a :: l, U, hn, hU => by
    rw [List.nodup_cons] at hn
    have ha := hU a (List.mem_cons_self ..)
    have h2 : l.length ≤ (U.erase a).length := nodup_len hn.2 fun x hx => by
      have hne : x ≠ a := fun e => hn.1 (e ▸ hx)
      exact (List.mem_erase_of_ne hne).mpr (hU x (List.mem_cons_of_mem _ hx))
    rw [List.length_erase_of_mem ha] at h2
    have : 0 < U.length := List.length_pos_of_mem ha
    rw [List.length_cons]
    omega
theorem runQ_few {kids : S → List S} {b : S} (U : List S) (P : S → Prop) (hb : P b) (hk : ∀ s, P s → ∀ t ∈ kids s, P t) (hU : ∀ s, P s → s ∈ U) (n : Nat) : (runQ kids b n).length ≤ U.length := by
  have hP : ∀ n, ∀ e ∈ runQ kids b n, P e.1 := by
    intro n
    induction n with
    | zero =>
      intro e he
      simp [runQ] at he
      rw [he]
      exact hb
    | succ n ih =>
      intro e he
      simp only [runQ] at he
      split at he
      · exact ih e he
      · rename_i f hf
        rcases List.mem_append.mp he with he | he
        · exact ih e he
        · obtain ⟨d, h1, h2⟩ := cand_mem (push_sub he)
          exact hk f.1 (ih f (List.mem_of_getElem? hf)) e.1 (List.mem_of_getElem? h1)
  rw [← List.length_map (f := (·.1))]
  exact nodup_len (runQ_nodup kids b n) fun s hs => by
    obtain ⟨e, he, rfl⟩ := List.mem_map.mp hs
    exact hU _ (hP n e he)
theorem runQ_P {kids : S → List S} {b : S} (P : S → Prop) (hb : P b) (hk : ∀ s, P s → ∀ t ∈ kids s, P t) : ∀ n, ∀ e ∈ runQ kids b n, P e.1 := by
  intro n
  induction n with
  | zero =>
    intro e he
    simp [runQ] at he
    rw [he]
    exact hb
  | succ n ih =>
    intro e he
    simp only [runQ] at he
    split at he
    · exact ih e he
    · rename_i f hf
      rcases List.mem_append.mp he with he | he
      · exact ih e he
      · obtain ⟨d, h1, h2⟩ := cand_mem (push_sub he)
        exact hk f.1 (ih f (List.mem_of_getElem? hf)) e.1 (List.mem_of_getElem? h1)
theorem sum_rep (x : Nat) : ∀ n, (List.replicate n x).sum = n * x
  | 0 => by simp
  | n + 1 => by
    rw [List.replicate_succ, List.sum_cons, sum_rep x n, Nat.succ_mul, Nat.add_comm]
/-- all lists of n numbers below m -/
def allL (m : Nat) : Nat → List (List Nat)
  | 0 => [[]]
  | n + 1 => (List.range m).flatMap fun x => (allL m n).map (x :: ·)
theorem allL_len (m : Nat) : ∀ n, (allL m n).length = m ^ n
  | 0 => rfl
  | n + 1 => by
    unfold allL
    rw [List.length_flatMap]
    have : (List.map (fun x => (List.map (fun y => x :: y) (allL m n)).length) (List.range m)) = List.replicate m (m ^ n) := by
      rw [List.eq_replicate_iff]
      refine ⟨by simp, fun b hb => ?_⟩
      obtain ⟨x, _, rfl⟩ := List.mem_map.mp hb
      rw [List.length_map, allL_len m n]
    rw [this, sum_rep, Nat.pow_succ, Nat.mul_comm]
theorem allL_mem {m : Nat} : ∀ {l : List Nat}, (∀ x ∈ l, x < m) → l ∈ allL m l.length
  | [], _ => by simp [allL]
  | a :: l, h => by
    show a :: l ∈ allL m (l.length + 1)
    unfold allL
    rw [List.mem_flatMap]
    exact ⟨a, List.mem_range.mpr (h a (List.mem_cons_self ..)), List.mem_map.mpr ⟨l, allL_mem fun x hx => h x (List.mem_cons_of_mem _ hx), rfl⟩⟩
end
end Wk
/-! WK2 -/
/-! Kinds, states and their next ones, ways back: in plain Lean. -/
namespace Wk
section
variable {α : Type} [DecidableEq α]
theorem snoc_ind {P : List α → Prop} (h0 : P []) (h1 : ∀ l x, P l → P (l ++ [x])) (l : List α) : P l := by
  have : ∀ l : List α, P l.reverse := by
    intro l
    induction l with
    | nil => exact h0
    | cons a l ih =>
      rw [List.reverse_cons]
      exact h1 _ _ ih
  have := this l.reverse
  rw [List.reverse_reverse] at this
  exact this
/-- the unlike ones, by their first coming -/
def keysOf (l : List α) : List α := l.foldl (fun ks x => if x ∈ ks then ks else ks ++ [x]) []
theorem keysOf_snoc (l : List α) (x : α) : keysOf (l ++ [x]) = if x ∈ keysOf l then keysOf l else keysOf l ++ [x] := by
  unfold keysOf
  rw [List.foldl_append]
  rfl
theorem keysOf_mem : ∀ (l : List α) (x : α), x ∈ keysOf l ↔ x ∈ l := by
  refine snoc_ind ?_ ?_
  · intro x; simp [keysOf]
  · intro l y ih x
    rw [keysOf_snoc]
    split
    · rename_i h
      rw [ih, List.mem_append, List.mem_singleton]
      constructor
      · exact .inl
      · rintro (h1 | h1)
        · exact h1
        · rw [h1]; exact (ih y).mp h
    · rw [List.mem_append, List.mem_append, ih]
theorem keysOf_nodup : ∀ (l : List α), (keysOf l).Nodup := by
  refine snoc_ind ?_ ?_
  · simp [keysOf]
  · intro l y ih
    rw [keysOf_snoc]
    split
    · exact ih
    · rename_i h
      rw [List.nodup_append]
      refine ⟨ih, by simp, fun a ha b hb e => h ?_⟩
      simp at hb
      rw [← hb, ← e]
      exact ha
theorem keysOf_len (l : List α) : (keysOf l).length ≤ l.length := by
  refine snoc_ind (P := fun l => (keysOf l).length ≤ l.length) ?_ ?_ l
  · simp [keysOf]
  · intro l y ih
    rw [keysOf_snoc, List.length_append, List.length_singleton]
    split
    · omega
    · rw [List.length_append, List.length_singleton]
      omega
/-- for each the number of the unlike ones ahead of its like -/
def nl (l : List α) : List Nat := l.map fun x => (keysOf l).idxOf x
theorem nl_len (l : List α) : (nl l).length = l.length := by unfold nl; rw [List.length_map]
theorem idxOf_inj {l : List α} {x y : α} (hx : x ∈ l) (hy : y ∈ l) (h : l.idxOf x = l.idxOf y) : x = y := by
  have h1 := List.getElem_idxOf (List.idxOf_lt_length_of_mem hx)
  have h2 := List.getElem_idxOf (List.idxOf_lt_length_of_mem hy)
  rw [← h1, ← h2]
  congr 1
theorem nl_same {l : List α} {i j : Nat} (hi : i < l.length) (hj : j < l.length) : ((nl l).getD i 0 = (nl l).getD j 0 ↔ l[i] = l[j]) := by
  have e1 : (nl l).getD i 0 = (keysOf l).idxOf l[i] := by
    rw [List.getD_eq_getElem?_getD]
    unfold nl
    rw [List.getElem?_map, List.getElem?_eq_getElem hi]
    rfl
  have e2 : (nl l).getD j 0 = (keysOf l).idxOf l[j] := by
    rw [List.getD_eq_getElem?_getD]
    unfold nl
    rw [List.getElem?_map, List.getElem?_eq_getElem hj]
    rfl
  rw [e1, e2]
  constructor
  · exact idxOf_inj ((keysOf_mem l _).mpr (List.getElem_mem hi)) ((keysOf_mem l _).mpr (List.getElem_mem hj))
  · intro h; rw [h]
/-- for each the place of the first that is like it -/
def grp (l : List α) : List Nat := l.map fun x => l.idxOf x
theorem grp_len (l : List α) : (grp l).length = l.length := by unfold grp; rw [List.length_map]
theorem grp_lt {l : List α} : ∀ g ∈ grp l, g < l.length := fun g hg => by
  unfold grp at hg
  obtain ⟨x, hx, rfl⟩ := List.mem_map.mp hg
  exact List.idxOf_lt_length_of_mem hx
end

/-! ### kinds -/
abbrev Look := Nat × List (Nat × Nat)
def finer (w : Web) (ns : List Nat) : List Look := (List.range w.length).map fun r => (ns.getD r 0, (w.getD r []).map fun p => (p.2, ns.getD p.1 0))
def rnd (w : Web) : Nat → List Nat
  | 0 => nl (w.map (·.length))
  | t + 1 => nl (finer w (rnd w t))
def alikeF (w : Web) : Nat → List Nat → List Nat
  | 0, ns => ns
  | k + 1, ns => if nl (finer w ns) = ns then ns else alikeF w k (nl (finer w ns))
theorem rnd_len (w : Web) : ∀ t, (rnd w t).length = w.length
  | 0 => by rw [rnd, nl_len, List.length_map]
  | t + 1 => by
    rw [rnd, nl_len]
    unfold finer
    simp
theorem rnd_still {w : Web} {t : Nat} (h : rnd w (t + 1) = rnd w t) : ∀ k, rnd w (t + k) = rnd w t
  | 0 => rfl
  | k + 1 => by
    show nl (finer w (rnd w (t + k))) = rnd w t
    rw [rnd_still h k]
    exact h
theorem alikeF_rnd (w : Web) : ∀ k t, alikeF w k (rnd w t) = rnd w (t + k)
  | 0, t => rfl
  | k + 1, t => by
    unfold alikeF
    split
    · rename_i h
      exact (rnd_still (t := t) h (k + 1)).symm
    · show alikeF w k (rnd w (t + 1)) = _
      rw [alikeF_rnd w k (t + 1)]
      congr 1
      omega
/-- two numberings tell the same rooms alike -/
def SameK (n : Nat) (a b : List Nat) : Prop := a.length = n ∧ b.length = n ∧ ∀ i j, i < n → j < n → (a.getD i 0 = a.getD j 0 ↔ b.getD i 0 = b.getD j 0)
theorem samek_nl {l : List Nat} : SameK l.length (nl l) l := ⟨nl_len l, rfl, fun i j hi hj => by
  rw [nl_same hi hj, List.getD_eq_getElem?_getD, List.getD_eq_getElem?_getD, List.getElem?_eq_getElem hi, List.getElem?_eq_getElem hj]
  rfl⟩
theorem finer_len (w : Web) (ns : List Nat) : (finer w ns).length = w.length := by unfold finer; simp
theorem finer_get {w : Web} {ns : List Nat} {r : Nat} (h : r < (finer w ns).length) : (finer w ns)[r] = (ns.getD r 0, (w.getD r []).map fun p => (p.2, ns.getD p.1 0)) := by
  unfold finer
  simp
theorem map_same {f g : Nat × Nat → Nat × Nat} {n : Nat} (hfg : ∀ p q : Nat × Nat, p.1 < n → q.1 < n → (f p = f q ↔ g p = g q)) : ∀ {xs ys : List (Nat × Nat)}, (∀ p ∈ xs, p.1 < n) → (∀ p ∈ ys, p.1 < n) → (xs.map f = ys.map f ↔ xs.map g = ys.map g)
  | [], [], _, _ => by simp
  | [], _ :: _, _, _ => by simp
  | _ :: _, [], _, _ => by simp
  | x :: xs, y :: ys, hx, hy => by
    simp only [List.map_cons, List.cons.injEq]
    rw [hfg x y (hx x (List.mem_cons_self ..)) (hy y (List.mem_cons_self ..)), map_same hfg (fun p hp => hx p (List.mem_cons_of_mem _ hp)) fun p hp => hy p (List.mem_cons_of_mem _ hp)]
theorem room_inr {w : Web} (W : WebOk w) (r : Nat) : ∀ p ∈ w.getD r [], p.1 < w.length := fun p hp => by
  obtain ⟨d, hd⟩ := List.mem_iff_getElem?.mp hp
  exact W.inr r d p.1 p.2 hd
theorem finer_same {w : Web} (W : WebOk w) {a b : List Nat} (h : SameK w.length a b) {i j : Nat} (hi : i < w.length) (hj : j < w.length) :
    ((finer w a)[i]'(by rw [finer_len]; exact hi) = (finer w a)[j]'(by rw [finer_len]; exact hj) ↔ (finer w b)[i]'(by rw [finer_len]; exact hi) = (finer w b)[j]'(by rw [finer_len]; exact hj)) := by
  rw [finer_get, finer_get, finer_get, finer_get, Prod.mk.injEq, Prod.mk.injEq, h.2.2 i j hi hj]
  rw [map_same (f := fun p => (p.2, a.getD p.1 0)) (g := fun p => (p.2, b.getD p.1 0)) (n := w.length) (fun p q hp hq => by rw [Prod.mk.injEq, Prod.mk.injEq, h.2.2 _ _ hp hq]) (room_inr W i) (room_inr W j)]
/-- one round of the law's count -/
theorem samek_step {w : Web} (W : WebOk w) {a b m : List Nat} (h : SameK w.length a b) (hm : m.length = w.length) (hs : ∀ i j (hi : i < w.length) (hj : j < w.length), (m.getD i 0 = m.getD j 0 ↔ (finer w b)[i]'(by rw [finer_len]; exact hi) = (finer w b)[j]'(by rw [finer_len]; exact hj))) :
    SameK w.length (nl (finer w a)) m := ⟨by rw [nl_len, finer_len], hm, fun i j hi hj => by
  rw [nl_same (by rw [finer_len]; exact hi) (by rw [finer_len]; exact hj), hs i j hi hj]
  exact finer_same W h hi hj⟩

/-! ### states: rooms, and who was seen alike -/
def minDeg (w : Web) (sp : List Nat) : Nat := ((sp.map (deg w)).min?).getD 0
theorem minDeg_mem {w : Web} {sp : List Nat} (h : sp ≠ []) : minDeg w sp ∈ sp.map (deg w) ∧ ∀ y ∈ sp.map (deg w), minDeg w sp ≤ y := by
  unfold minDeg
  cases q : (sp.map (deg w)).min? with
  | none =>
    rw [List.min?_eq_none_iff] at q
    exact absurd (List.map_eq_nil_iff.mp q) h
  | some m =>
    have := List.min?_eq_some_iff.mp q
    exact this
theorem minDeg_le {w : Web} {sp : List Nat} {s : Nat} (h : s ∈ sp) : minDeg w sp ≤ deg w s := (minDeg_mem (List.ne_nil_of_mem h)).2 _ (List.mem_map.mpr ⟨s, h, rfl⟩)
theorem lt_minDeg {w : Web} {sp : List Nat} {d : Nat} (h : sp ≠ []) (hd : ∀ s ∈ sp, d < deg w s) : d < minDeg w sp := by
  obtain ⟨s, hs, e⟩ := List.mem_map.mp (minDeg_mem (w := w) h).1
  rw [← e]
  exact hd s hs
def there (w : Web) (s d : Nat) : Nat × Nat := (door w s d).getD (0, 0)
def nextH (w : Web) (sp : List Nat) (d : Nat) : List Nat := sp.map fun s => (there w s d).1
def kidsH (w : Web) (sp : List Nat) : List (List Nat) := (List.range (minDeg w sp)).map (nextH w sp)
abbrev St2 := List Nat × List Nat
def sightsM (w : Web) (gr : List Nat) (ends : List (Nat × Nat)) : List (Nat × Nat × Nat) := (gr.zip ends).map fun p => (p.1, p.2.2, deg w p.2.1)
def nextT (w : Web) (s : St2) (d : Nat) : St2 := (nextH w s.1 d, grp (sightsM w s.2 (s.1.map fun r => there w r d)))
def kidsT (w : Web) (s : St2) : List St2 := (List.range (minDeg w s.1)).map (nextT w s)
def toldM (ks gr : List Nat) : Bool := gr.zipIdx.all fun p => decide (ks.getD p.2 0 = ks.getD p.1 0)
theorem there_door {w : Web} {s d : Nat} (h : d < deg w s) : door w s d = some (there w s d) := by
  obtain ⟨p, hp⟩ := door_lt.mp h
  unfold there
  rw [hp]
  rfl
theorem there_lt {w : Web} (W : WebOk w) (s d : Nat) : (there w s d).1 < w.length := by
  unfold there
  cases q : door w s d with
  | none => exact W.pos
  | some p => exact W.inr s d p.1 p.2 q
theorem range_get {β : Type} {n d : Nat} {f : Nat → β} : ((List.range n).map f)[d]? = if d < n then some (f d) else none := by
  rw [List.getElem?_map]
  by_cases h : d < n
  · rw [if_pos h, List.getElem?_range h]
    rfl
  · rw [if_neg h, List.getElem?_eq_none (by simpa using h)]
    rfl
def InH (w : Web) (n : Nat) (sp : List Nat) : Prop := sp.length = n ∧ ∀ x ∈ sp, x < w.length
theorem inH_next {w : Web} (W : WebOk w) {n : Nat} {sp : List Nat} (h : InH w n sp) (d : Nat) : InH w n (nextH w sp d) := by
  refine ⟨by unfold nextH; rw [List.length_map]; exact h.1, fun x hx => ?_⟩
  unfold nextH at hx
  obtain ⟨s, _, rfl⟩ := List.mem_map.mp hx
  exact there_lt W s d
theorem inH_kids {w : Web} (W : WebOk w) {n : Nat} : ∀ s, InH w n s → ∀ t ∈ kidsH w s, InH w n t := fun s hs t ht => by
  unfold kidsH at ht
  obtain ⟨d, _, rfl⟩ := List.mem_map.mp ht
  exact inH_next W hs d
def InT (w : Web) (n : Nat) (s : St2) : Prop := InH w n s.1 ∧ s.2.length = n ∧ ∀ g ∈ s.2, g < n
theorem inT_next {w : Web} (W : WebOk w) {n : Nat} {s : St2} (h : InT w n s) (d : Nat) : InT w n (nextT w s d) := by
  have hl : (sightsM w s.2 (s.1.map fun r => there w r d)).length = n := by
    unfold sightsM
    rw [List.length_map, List.length_zip, List.length_map, h.1.1, h.2.1, Nat.min_self]
  refine ⟨inH_next W h.1 d, ?_, fun g hg => ?_⟩
  · show (grp _).length = n
    rw [grp_len, hl]
  · have := grp_lt g hg
    rw [hl] at this
    exact this
theorem inT_kids {w : Web} (W : WebOk w) {n : Nat} : ∀ s, InT w n s → ∀ t ∈ kidsT w s, InT w n t := fun s hs t ht => by
  unfold kidsT at ht
  obtain ⟨d, _, rfl⟩ := List.mem_map.mp ht
  exact inT_next W hs d
theorem few_H {w : Web} (W : WebOk w) {n : Nat} (hn : n ≤ 6) {b : List Nat} (hb : InH w n b) (k : Nat) : (runQ (kidsH w) b k).length ≤ 46656 := by
  have := runQ_few (kids := kidsH w) (b := b) (allL 6 n) (InH w n) hb (inH_kids W) (fun s hs => by
    rw [← hs.1]
    exact allL_mem fun x hx => Nat.lt_of_lt_of_le (hs.2 x hx) W.few) k
  rw [allL_len] at this
  exact Nat.le_trans this (Nat.le_trans (Nat.pow_le_pow_right (by decide) hn) (by decide))
theorem few_T {w : Web} (W : WebOk w) {n : Nat} (hn : n ≤ 4) {b : St2} (hb : InT w n b) (k : Nat) : (runQ (kidsT w) b k).length ≤ 1679616 := by
  have := runQ_few (kids := kidsT w) (b := b) ((allL 6 n).flatMap fun x => (allL 6 n).map fun y => (x, y)) (InT w n) hb (inT_kids W) (fun s hs => by
    rw [List.mem_flatMap]
    refine ⟨s.1, ?_, List.mem_map.mpr ⟨s.2, ?_, rfl⟩⟩
    · have := allL_mem (m := 6) (l := s.1) fun x hx => Nat.lt_of_lt_of_le (hs.1.2 x hx) W.few
      rw [hs.1.1] at this
      exact this
    · have := allL_mem (m := 6) (l := s.2) fun x hx => Nat.lt_of_lt_of_le (hs.2.2 x hx) (by omega)
      rw [hs.2.1] at this
      exact this) k
  have e : ((allL 6 n).flatMap fun x => (allL 6 n).map fun y => (x, y)).length = 6 ^ n * 6 ^ n := by
    rw [List.length_flatMap]
    have : (List.map (fun x => (List.map (fun y => (x, y)) (allL 6 n)).length) (allL 6 n)) = List.replicate (6 ^ n) (6 ^ n) := by
      rw [List.eq_replicate_iff]
      refine ⟨by rw [List.length_map, allL_len], fun b hb => ?_⟩
      obtain ⟨x, _, rfl⟩ := List.mem_map.mp hb
      rw [List.length_map, allL_len]
    rw [this, sum_rep]
  rw [e, ← Nat.pow_add] at this
  exact Nat.le_trans this (Nat.le_trans (Nat.pow_le_pow_right (by decide) (show n + n ≤ 8 by omega)) (by decide))
theorem kidsH_len {w : Web} (W : WebOk w) {sp : List Nat} (h : sp ≠ []) : (kidsH w sp).length ≤ 24 := by
  unfold kidsH
  rw [List.length_map, List.length_range]
  obtain ⟨s, _, e⟩ := List.mem_map.mp (minDeg_mem (w := w) h).1
  rw [← e]
  exact W.deg s

/-! ### told by kinds -/
theorem toldM_same {n k : Nat} {a b : List Nat} (h : SameK n a b) {rs gr : List Nat} (hr : ∀ r ∈ rs, r < n) (hk : rs.length = k) (hg : gr.length = k ∧ ∀ g ∈ gr, g < k) : toldM (rs.map fun r => a.getD r 0) gr = toldM (rs.map fun r => b.getD r 0) gr := by
  have gd : ∀ (c : List Nat) (i : Nat), i < k → (rs.map fun r => c.getD r 0).getD i 0 = c.getD (rs.getD i 0) 0 := fun c i hi => by
    rw [List.getD_eq_getElem?_getD, List.getElem?_map, List.getD_eq_getElem?_getD (l := rs), List.getElem?_eq_getElem (by rw [hk]; exact hi)]
    rfl
  have lt : ∀ i, i < k → rs.getD i 0 < n := fun i hi => by
    rw [List.getD_eq_getElem?_getD, List.getElem?_eq_getElem (by rw [hk]; exact hi)]
    exact hr _ (List.getElem_mem _)
  rw [Bool.eq_iff_iff]
  unfold toldM
  rw [List.all_eq_true, List.all_eq_true]
  have one : ∀ p ∈ gr.zipIdx, (decide ((rs.map fun r => a.getD r 0).getD p.2 0 = (rs.map fun r => a.getD r 0).getD p.1 0) = true ↔ decide ((rs.map fun r => b.getD r 0).getD p.2 0 = (rs.map fun r => b.getD r 0).getD p.1 0) = true) := fun p hp => by
    have h1 := List.mem_zipIdx_iff_getElem?.mp hp
    have h2 : p.2 < k := by
      have := (List.getElem?_eq_some_iff.mp h1).1
      omega
    have h3 : p.1 < k := hg.2 _ (List.mem_of_getElem? h1)
    rw [decide_eq_true_iff, decide_eq_true_iff, gd a _ h2, gd a _ h3, gd b _ h2, gd b _ h3]
    exact h.2.2 _ _ (lt _ h2) (lt _ h3)
  exact ⟨fun z p hp => (one p hp).mp (z p hp), fun z p hp => (one p hp).mpr (z p hp)⟩

/-! ### ways back -/
def go1 (w : Web) (r : Nat) (p : List Nat) : Option Nat := (gon w r none p).map (·.1)
theorem gon_came (w : Web) : ∀ (p : List Nat) (r : Nat) (c c' : Option Nat), (gon w r c p).map (·.1) = (gon w r c' p).map (·.1)
  | [], r, c, c' => rfl
  | d :: p, r, c, c' => by
    simp only [gon]
theorem go1_cons (w : Web) (r d : Nat) (p : List Nat) : go1 w r (d :: p) = (door w r d).bind fun q => go1 w q.1 p := by
  unfold go1
  simp only [gon]
  cases door w r d with
  | none => rfl
  | some q => exact gon_came w p q.1 (some q.2) none
theorem go1_append (w : Web) : ∀ (p q : List Nat) (r : Nat), go1 w r (p ++ q) = (go1 w r p).bind fun s => go1 w s q
  | [], q, r => rfl
  | d :: p, q, r => by
    rw [List.cons_append, go1_cons, go1_cons]
    cases door w r d with
    | none => rfl
    | some e => exact go1_append w p q e.1
theorem sees_gon {w : Web} : ∀ {p : List Nat} {r : Nat}, (sees w r p).isSome = (go1 w r p).isSome
  | [], r => rfl
  | d :: p, r => by
    rw [go1_cons]
    simp only [sees]
    cases door w r d with
    | none => rfl
    | some q =>
      have := sees_gon (w := w) (p := p) (r := q.1)
      simpa using this
theorem back_home {w : Web} (W : WebOk w) : ∀ {p : List Nat} {r s : Nat} {l : List (Nat × Nat)}, sees w r p = some l → go1 w r p = some s → go1 w s (l.map (·.1)).reverse = some r
  | [], r, s, l, h, g => by
    simp only [sees] at h
    cases h
    have : r = s := by simpa [go1, gon] using g
    rw [this]
    rfl
  | d :: p, r, s, l, h, g => by
    rw [go1_cons] at g
    simp only [sees] at h
    cases q : door w r d with
    | none => rw [q] at h; cases h
    | some e =>
      rw [q] at h g
      dsimp only at h
      cases q2 : sees w e.1 p with
      | none => rw [q2] at h; cases h
      | some l2 =>
        rw [q2] at h
        simp only [Option.map_some, Option.some.injEq] at h
        subst h
        have ih := back_home W q2 g
        rw [List.map_cons, List.reverse_cons, go1_append, ih]
        show go1 w e.1 [e.2] = some r
        rw [go1_cons, W.sym r d e.1 e.2 q]
        rfl
theorem walkH_of {w : Web} : ∀ {p : List Nat} {sp ts : List Nat}, sp ≠ [] → sp.map (fun s => go1 w s p) = ts.map some → walkQ (kidsH w) sp p = some ts
  | [], sp, ts, _, h => by
    have : sp.map (fun s => go1 w s []) = sp.map some := rfl
    rw [this] at h
    have := map_inj (f := (some : Nat → Option Nat)) (fun x y e => Option.some.inj e) h
    rw [this]
    rfl
  | d :: p, sp, ts, hne, h => by
    have hall : ∀ s ∈ sp, ∃ t, go1 w s (d :: p) = some t := fun s hs => by
      have : go1 w s (d :: p) ∈ sp.map (fun s => go1 w s (d :: p)) := List.mem_map.mpr ⟨s, hs, rfl⟩
      rw [h] at this
      obtain ⟨t, _, e⟩ := List.mem_map.mp this
      exact ⟨t, e.symm⟩
    have hdeg : ∀ s ∈ sp, d < deg w s := fun s hs => by
      obtain ⟨t, ht⟩ := hall s hs
      rw [go1_cons] at ht
      cases q : door w s d with
      | none => rw [q] at ht; cases ht
      | some e => exact door_lt.mpr ⟨e, q⟩
    have hk : (kidsH w sp)[d]? = some (nextH w sp d) := by
      unfold kidsH
      rw [range_get, if_pos (lt_minDeg hne hdeg)]
    simp only [walkQ, hk]
    refine walkH_of (by unfold nextH; intro e; exact hne (List.map_eq_nil_iff.mp e)) ?_
    rw [← h]
    unfold nextH
    rw [List.map_map]
    refine List.map_congr_left fun s hs => ?_
    show go1 w (there w s d).1 p = go1 w s (d :: p)
    rw [go1_cons, there_door (hdeg s hs)]
    rfl
theorem walkH_inv {w : Web} : ∀ {p : List Nat} {sp ts : List Nat}, walkQ (kidsH w) sp p = some ts → sp ≠ [] → sp.map (fun s => go1 w s p) = ts.map some
  | [], sp, ts, h, _ => by
    simp only [walkQ] at h
    cases h
    rfl
  | d :: p, sp, ts, h, hne => by
    simp only [walkQ] at h
    have hk : (kidsH w sp)[d]? = if d < minDeg w sp then some (nextH w sp d) else none := by
      unfold kidsH
      rw [range_get]
    rw [hk] at h
    by_cases hd : d < minDeg w sp
    · rw [if_pos hd] at h
      have ih := walkH_inv h (by unfold nextH; intro e; exact hne (List.map_eq_nil_iff.mp e))
      rw [← ih]
      unfold nextH
      rw [List.map_map]
      refine List.map_congr_left fun s hs => ?_
      show go1 w s (d :: p) = go1 w (there w s d).1 p
      rw [go1_cons, there_door (Nat.lt_of_lt_of_le hd (minDeg_le hs))]
      rfl
    · rw [if_neg hd] at h
      cases h
end Wk
/-! WS -/
/-! The promise of each def. -/
namespace Wk
open PySem L2 Evl

def eLook (l : Look) : PyData := .tuple [nI l.1, .tuple (l.2.map eEnd)]
def eSt (s : St2) : PyData := .tuple [eNs s.1, eNs s.2]
def eTie (t : (Nat × Nat) × (Nat × Nat)) : PyData := .tuple [eEnd t.1, eEnd t.2]
def kindsM (w : Web) (ns : List Nat) : List (List Nat) := (List.range ((ns.max?).getD 0 + 1)).map fun k => (List.range w.length).filter fun r => decide (ns.getD r 0 = k)
noncomputable def homeD (w : Web) (st : Story) : PyData := if standsM w st = [] then .none else eNs (homeM (kidsH w) ((standsM w st).map (·.2)) ((standsM w st).map (·.1)))
noncomputable def tellD (w : Web) (ks some : List Nat) : PyData := eO (tellM (kidsT w) (some, grp (some.map (deg w))) fun s => toldM ks s.2)
def zipSteps (way : List Nat) (l : List (Nat × Nat)) : List (Nat × Nat × Nat) := (way.zip l).map fun p => (p.1, p.2.1, p.2.2)

/-! the program -/
def S_numbered_looks (P : Program) (w : World) (K : PySem.W.Frag) : Sp := spD K fun ds d =>
  (∃ ns : List Nat, ns.length ≤ 100 ∧ ds = [eL ns] ∧ d = eL (nl ns)) ∨ ∃ ls : List Look, ls.length ≤ 100 ∧ ds = [.list (ls.map eLook)] ∧ d = eL (nl ls)
def S_finer_looks (P : Program) (w : World) (K : PySem.W.Frag) : Sp := spD K fun ds d => ∃ (w : Web) (ns : List Nat), WebOk w ∧ ns.length = w.length ∧ ds = [eWeb w, eL ns] ∧ d = .list ((finer w ns).map eLook)
def S_alike_by (P : Program) (w : World) (K : PySem.W.Frag) : Sp := spD K fun ds d => ∃ (w : Web) (k : Nat), WebOk w ∧ k ≤ 100 ∧ ds = [eWeb w, nI k] ∧ d = eL (rnd w k)
def S_kinds_by (P : Program) (w : World) (K : PySem.W.Frag) : Sp := spD K fun ds d => ∃ (w : Web) (k : Nat), WebOk w ∧ k ≤ 100 ∧ ds = [eWeb w, nI k] ∧ d = .list ((kindsM w (rnd w k)).map eL)
def S_kinds (P : Program) (w : World) (K : PySem.W.Frag) : Sp := spD K fun ds d => ∃ (w : Web), WebOk w ∧ ds = [eWeb w] ∧ d = .list ((kindsM w (rnd w w.length)).map eL)
def S_gone (P : Program) (w : World) (K : PySem.W.Frag) : Sp := spD K fun ds d => ∃ (w : Web) (r : Nat) (p : List Nat), WebOk w ∧ r < w.length ∧ p.length ≤ 1000 ∧ ds = [eWeb w, nI r, eNs p] ∧ d = eGon (gon w r none p)
def S_seen (P : Program) (w : World) (K : PySem.W.Frag) : Sp := spD K fun ds d => ∃ (w : Web) (r : Nat) (p : List Nat), WebOk w ∧ r < w.length ∧ p.length ≤ 1000 ∧ ds = [eWeb w, nI r, eNs p] ∧ d = eSeen (deg w r) (sees w r p)
def S_folds_by (P : Program) (w : World) (K : PySem.W.Frag) : Sp := spD K fun ds d => ∃ (w : Web), WebOk w ∧ ds = [eWeb w] ∧ d = eNs (rnd w w.length)
def S_story_of (P : Program) (w : World) (K : PySem.W.Frag) : Sp := spD K fun ds d => ∃ (w : Web) (r : Nat) (p : List Nat) (l : List (Nat × Nat)), WebOk w ∧ r < w.length ∧ p.length ≤ 1000 ∧ sees w r p = some l ∧ ds = [eWeb w, nI r, eNs p] ∧ d = eStory (deg w r, zipSteps p l)
def S_story_way (P : Program) (w : World) (K : PySem.W.Frag) : Sp := spD K fun ds d => ∃ st : Story, st.2.length ≤ 1000 ∧ ds = [eStory st] ∧ d = eNs (stWay st)
def S_story_sight (P : Program) (w : World) (K : PySem.W.Frag) : Sp := spD K fun ds d => ∃ st : Story, st.2.length ≤ 1000 ∧ ds = [eStory st] ∧ d = eSeen st.1 (some (stSight st))
def S_fits (P : Program) (w : World) (K : PySem.W.Frag) : Sp := spD K fun ds d => ∃ (w : Web) (r : Nat) (st : Story), WebOk w ∧ r < w.length ∧ st.2.length ≤ 1000 ∧ ds = [eWeb w, nI r, eStory st] ∧ d = .bool (fitsM w r st)
def S_stands (P : Program) (w : World) (K : PySem.W.Frag) : Sp := spD K fun ds d => ∃ (w : Web) (st : Story), WebOk w ∧ st.2.length ≤ 1000 ∧ ds = [eWeb w, eStory st] ∧ d = .list ((standsM w st).map eEnd)
def S_doors_of_all (P : Program) (w : World) (K : PySem.W.Frag) : Sp := spD K fun ds d => ∃ (w : Web) (sp : List Nat), WebOk w ∧ sp ≠ [] ∧ sp.length ≤ 100 ∧ (∀ s ∈ sp, s < w.length) ∧ ds = [eWeb w, eNs sp] ∧ d = nI (minDeg w sp)
def S_way_home (P : Program) (w : World) (K : PySem.W.Frag) : Sp := spD K fun ds d => ∃ (w : Web) (st : Story), WebOk w ∧ st.2.length ≤ 100 ∧ ds = [eWeb w, eStory st] ∧ d = homeD w st
def S_parted_groups (P : Program) (w : World) (K : PySem.W.Frag) : Sp := spD K fun ds d => ∃ (xs : List PyData) (gs : List Nat), xs.length ≤ 100 ∧ (∀ x ∈ xs, Pl 3 x) ∧ ds = [.list xs] ∧ gs.length = xs.length ∧
  (∀ (i g : Nat) (x : PyData), xs[i]? = some x → gs[i]? = some g → xs[g]? = some x ∧ ∀ j, j < g → xs[j]? ≠ some x) ∧ d = eNs gs
def S_is_told (P : Program) (w : World) (K : PySem.W.Frag) : Sp := spD K fun ds d => ∃ (gr ks : List Nat), gr.length = ks.length ∧ ks.length ≤ 100 ∧ (∀ g ∈ gr, g < ks.length) ∧ ds = [eNs gr, eL ks] ∧ d = .bool (toldM ks gr)
def S_steps_on (P : Program) (w : World) (K : PySem.W.Frag) : Sp := spD K fun ds d => ∃ (w : Web) (s : St2) (n : Nat), WebOk w ∧ 0 < n ∧ n ≤ 6 ∧ InT w n s ∧ ds = [eWeb w, eNs s.1, eNs s.2] ∧ d = .list ((kidsT w s).map eSt)
def S_telling_way (P : Program) (w : World) (K : PySem.W.Frag) : Sp := spD K fun ds d => ∃ (w : Web) (some : List Nat), WebOk w ∧ some.length ≤ 4 ∧ (∀ s ∈ some, s < w.length) ∧ ds = [eWeb w, eL some] ∧
  d = if some = [] then eNs [] else tellD w (some.map fun r => (rnd w w.length).getD r 0) some

/-! the law -/
/-- all but what stands at b stays -/
def Exb (b : Addr) (H J : Hp) : Prop := ∀ a o, a ≠ b → H a = some o → J a = some o
/-- from (G, H) to (G', H') things were made, and the box at b changed -/
structure Nx (b : Addr) (G H G' H' : Hp) : Prop where
  gg : Ex G G'
  gh : Ex G' H'
  xb : Exb b H H'
  fr : ∀ a, G a = none → H a ≠ none → G' a = none
  ob : G' b = none
/-- the box: three numbers; so many were taken at most -/
def BoxAt (H : Hp) (b : Addr) (c : Nat) : Prop := ∃ x y z : Int, H b = some (.lst [.int x, .int y, .int z]) ∧ 0 ≤ x ∧ 0 ≤ y ∧ y < 2147483647 ∧ 0 ≤ z ∧ z ≤ (c : Int)
def S_Lbox (P : Program) (w : World) (K : PySem.W.Frag) : Sp := fun vs H Q _ => ∃ (a : Addr) (ns : List Int) (k : Nat), vs = [.ref a, .int (k : Int)] ∧ H a = some (.lst (ns.map V.int)) ∧ ns.length ≤ 100 ∧ k ≤ 100 ∧
  ∀ p J, H p = none → Ex H J → BoxAt J p 0 → Q (.ref p) J
def S_Ltake (P : Program) (w : World) (K : PySem.W.Frag) : Sp := fun vs H Q _ => ∃ (b : Addr) (c many : Nat), vs = [.ref b, .int (many : Int)] ∧ BoxAt H b c ∧ c ≤ 100000 ∧ 0 < many ∧ many ≤ 1000000 ∧
  ∀ (r : Nat) J, r < many → Exb b H J → BoxAt J b (c + 1) → Q (.int (r : Int)) J
/-- the halves of ties, room by room: each once, with its other half -/
structure HalvesOk (hs : List (List (Nat × Nat))) : Prop where
  pos : 0 < hs.length
  few : hs.length ≤ 6
  short : ∀ l ∈ hs, l.length ≤ 24
  side : ∀ l ∈ hs, ∀ p ∈ l, p.2 ≤ 2
  once : ∀ (r d s e : Nat) (p : Nat × Nat), (hs.getD r [])[d]? = some p → (hs.getD s [])[e]? = some p → r = s ∧ d = e
  other : ∀ l ∈ hs, ∀ p ∈ l, ∃ m ∈ hs, (p.1, [1, 0, 2].getD p.2 0) ∈ m
def S_Ljoined (P : Program) (w : World) (K : PySem.W.Frag) : Sp := fun vs H Q _ => ∃ (G : Hp) (hs : List (List (Nat × Nat))), Ex G H ∧ DpAll K G vs [.list (hs.map fun l => .list (l.map eEnd))] ∧ HalvesOk hs ∧
  ∀ v (u : Web) G' H', WebOk u → u.length = hs.length → Nw G H G' H' → Dp K G' v (eWeb u) → Q v H'
def S_Ldoors_put (P : Program) (w : World) (K : PySem.W.Frag) : Sp := fun vs H Q _ => ∃ (G : Hp) (b : Addr) (q : V) (c many : Nat) (prs : List (Nat × Nat)), vs = [.ref b, q, .int (many : Int)] ∧ Ex G H ∧ G b = none ∧ BoxAt H b c ∧ c ≤ 50000 ∧ Dp K G q (.list (prs.map eEnd)) ∧
  prs.length ≤ 12 ∧ 0 < many ∧ many ≤ 6 ∧ (∀ p ∈ prs, p.1 < many ∧ p.2 ≤ many) ∧ ∀ v (u : Web) G' J, WebOk u → u.length = many → Nx b G H G' J → BoxAt J b (c + 24) → Dp K G' v (eWeb u) → Q v J
def S_Lweb (P : Program) (w : World) (K : PySem.W.Frag) : Sp := fun vs H Q _ => ∃ (G : Hp) (b : Addr) (c many most : Nat), vs = [.ref b, .int (many : Int), .int (most : Int)] ∧ Ex G H ∧ G b = none ∧ BoxAt H b c ∧ c ≤ 40000 ∧ 0 < many ∧ many ≤ 6 ∧ 2 ≤ most ∧ most ≤ 100 ∧
  ∀ v (u : Web) G' J, WebOk u → u.length = many → Nx b G H G' J → BoxAt J b (c + 100) → Dp K G' v (eWeb u) → Q v J
def S_Lring (P : Program) (w : World) (K : PySem.W.Frag) : Sp := fun vs H Q _ => ∃ (G : Hp) (n : Nat), vs = [.int (n : Int)] ∧ Ex G H ∧ 0 < n ∧ n ≤ 6 ∧ ∀ v (u : Web) G' J, WebOk u → u.length = n → Nw G H G' J → Dp K G' v (eWeb u) → Q v J
def S_Lline (P : Program) (w : World) (K : PySem.W.Frag) : Sp := fun vs H Q _ => ∃ (G : Hp) (n : Nat), vs = [.int (n : Int)] ∧ Ex G H ∧ 0 < n ∧ n ≤ 6 ∧ ∀ v (u : Web) G' J, WebOk u → u.length = n → Nw G H G' J → Dp K G' v (eWeb u) → Q v J
/-- the ties: the lesser end first -/
def endsM (w : Web) : List ((Nat × Nat) × (Nat × Nat)) := (List.range w.length).flatMap fun r => (List.range (deg w r)).filterMap fun d => if r < (there w r d).1 ∨ (r = (there w r d).1 ∧ d ≤ (there w r d).2) then some ((r, d), there w r d) else none
def S_Lends (P : Program) (w : World) (K : PySem.W.Frag) : Sp := spD K fun ds d => ∃ (w : Web), WebOk w ∧ ds = [eWeb w] ∧ d = .list ((endsM w).map eTie)
def S_Lreached (P : Program) (w : World) (K : PySem.W.Frag) : Sp := fun vs H Q _ => ∃ (G : Hp) (w : Web) (r : Nat), Ex G H ∧ DpAll K G vs [eWeb w, nI r] ∧ WebOk w ∧ r < w.length ∧ ∀ v (l : List Nat) G' H', Nw G H G' H' → Dp K G' v (eL l) → Q v H'
/-- a drawn order; own: its own back -/
structure TurnOk (t : List Nat) (n : Nat) (own : Bool) : Prop where
  len : t.length = n
  lt : ∀ x ∈ t, x < n
  nd : t.Nodup
  back : own = true → ∀ (k x : Nat), t[k]? = some x → t[x]? = some k
def S_Lsheeted (P : Program) (w : World) (K : PySem.W.Frag) : Sp := fun vs H Q _ => ∃ (G : Hp) (w : Web) (ts : List (List Nat)) (many : Nat), Ex G H ∧ DpAll K G vs [eWeb w, .list (ts.map eNs), nI many] ∧ WebOk w ∧ 0 < many ∧ many * w.length ≤ 6 ∧ ts.length = (endsM w).length ∧
  (∀ (i : Nat) (e : (Nat × Nat) × (Nat × Nat)) (t : List Nat), (endsM w)[i]? = some e → ts[i]? = some t → TurnOk t many (decide (e.1 = e.2))) ∧ ∀ v (u : Web) G' H', WebOk u → u.length = many * w.length → Nw G H G' H' → Dp K G' v (eWeb u) → Q v H'
def S_Lturn (P : Program) (w : World) (K : PySem.W.Frag) : Sp := fun vs H Q _ => ∃ (G : Hp) (b : Addr) (c many : Nat) (own : Bool), vs = [.ref b, .int (many : Int), .bl own] ∧ Ex G H ∧ G b = none ∧ BoxAt H b c ∧ c ≤ 60000 ∧ many ≤ 6 ∧
  ∀ v (t : List Nat) G' J, TurnOk t many own → Nx b G H G' J → BoxAt J b (c + 6) → Dp K G' v (eNs t) → Q v J
def S_Lcovered (P : Program) (w : World) (K : PySem.W.Frag) : Sp := fun vs H Q _ => ∃ (G : Hp) (b : Addr) (c many : Nat) (x : V) (w : Web), vs = [.ref b, x, .int (many : Int)] ∧ Ex G H ∧ G b = none ∧ BoxAt H b c ∧ c ≤ 40000 ∧ WebOk w ∧ Dp K G x (eWeb w) ∧ 0 < many ∧ many * w.length ≤ 6 ∧
  ∀ v (u : Web) G' J, WebOk u → Nx b G H G' J → BoxAt J b (c + 3000) → Dp K G' v (eWeb u) → Q v J
def S_Lfolded (P : Program) (w : World) (K : PySem.W.Frag) : Sp := fun vs H Q _ => ∃ (a : Addr) (ns : List Int), vs = [.ref a, .int 5] ∧ SqL K H a (ns.map V.int) ∧ ns.length ≤ 63 ∧ ∀ p J (cs : List Int), H p = none → Ex H J → J p = some (.lst (cs.map V.int)) → cs.length ≤ 5 → Q (.ref p) J
def S_Lway (P : Program) (w : World) (K : PySem.W.Frag) : Sp := fun vs H Q _ => ∃ (G : Hp) (b : Addr) (c r most : Nat) (x : V) (w : Web), vs = [.ref b, x, .int (r : Int), .int (most : Int)] ∧ Ex G H ∧ G b = none ∧ BoxAt H b c ∧ c ≤ 60000 ∧ most ≤ 100 ∧ WebOk w ∧ r < w.length ∧ Dp K G x (eWeb w) ∧
  ∀ v (p : List Nat) G' J, p.length ≤ most → (sees w r p).isSome = true → Nx b G H G' J → BoxAt J b (c + 200) → Dp K G' v (eNs p) → Q v J
def S_Lkinds (P : Program) (w : World) (K : PySem.W.Frag) : Sp := fun vs H Q _ => ∃ (G : Hp) (w : Web), Ex G H ∧ DpAll K G vs [eWeb w] ∧ WebOk w ∧ ∀ v (ms : List Nat) G' H', SameK w.length (rnd w w.length) ms → Nw G H G' H' → Dp K G' v (eL ms) → Q v H'
def S_Lsmall_web (P : Program) (w : World) (K : PySem.W.Frag) : Sp := fun vs H Q _ => ∃ (G : Hp) (b : Addr) (c : Nat), vs = [.ref b, .int 6] ∧ Ex G H ∧ G b = none ∧ BoxAt H b c ∧ c ≤ 10000 ∧ ∀ v (u : Web) G' J, WebOk u → Nx b G H G' J → BoxAt J b (c + 4000) → Dp K G' v (eWeb u) → Q v J
def eSight (n : Nat) (o : Option (List (Nat × Nat))) (g : Option Nat) : PyData := match o, g with
  | some l, some s => .tuple [.list (nI n :: l.map eEnd), nI s]
  | _, _ => .none
def S_Lsight (P : Program) (w : World) (K : PySem.W.Frag) : Sp := spD K fun ds d => ∃ (w : Web) (r : Nat) (p : List Nat), WebOk w ∧ r < w.length ∧ p.length ≤ 1000000 ∧ (ds = [eWeb w, nI r, eNs p] ∨ ds = [eWeb w, nI r, eL p]) ∧ d = eSight (deg w r) (sees w r p) (go1 w r p)
def S_Lfitting (P : Program) (w : World) (K : PySem.W.Frag) : Sp := spD K fun ds d => ∃ (w : Web) (st : Story), WebOk w ∧ st.2.length ≤ 1000 ∧ ds = [eWeb w, eStory st] ∧ d = .list ((standsM w st).map eEnd)
def S_Lleast (P : Program) (w : World) (K : PySem.W.Frag) : Sp := spD K fun ds d => ∃ (w : Web) (s : St2) (n : Nat) (ks : List Nat), WebOk w ∧ 0 < n ∧ n ≤ 4 ∧ InT w n s ∧ ks.length = n ∧ ds = [eWeb w, eSt s, eL ks] ∧ d = eO (tellM (kidsT w) s fun t => toldM ks t.2)
def S_Lhome (P : Program) (w : World) (K : PySem.W.Frag) : Sp := spD K fun ds d => ∃ (w : Web) (prs : List (Nat × Nat)) (q : List Nat), WebOk w ∧ prs ≠ [] ∧ prs.length ≤ 6 ∧ (∀ p ∈ prs, p.1 < w.length ∧ p.2 < w.length) ∧ walkQ (kidsH w) (prs.map (·.2)) q = some (prs.map (·.1)) ∧
  ds = [eWeb w, .list (prs.map eEnd)] ∧ d = eNs (homeM (kidsH w) (prs.map (·.2)) (prs.map (·.1)))
def S_Lhome_right (P : Program) (w : World) (K : PySem.W.Frag) : Sp := spD K fun ds d => ∃ (w : Web) (st : Story), WebOk w ∧ st.2.length ≤ 100 ∧ ds = [eWeb w, eStory st] ∧ d = .bool true
def S_Ltelling_right (P : Program) (w : World) (K : PySem.W.Frag) : Sp := spD K fun ds d => ∃ (w : Web) (some : List Nat), WebOk w ∧ some.length ≤ 4 ∧ (∀ s ∈ some, s < w.length) ∧ ds = [eWeb w, eL some] ∧ d = .bool true
def S_Lbent (P : Program) (w : World) (K : PySem.W.Frag) : Sp := fun vs H Q _ => ∃ (G : Hp) (b : Addr) (c : Nat) (x : V) (st : Story), vs = [.ref b, x] ∧ Ex G H ∧ G b = none ∧ BoxAt H b c ∧ c ≤ 60000 ∧ st.2.length ≤ 100 ∧ Dp K G x (eStory st) ∧
  ∀ v (st' : Story) G' J, st'.2.length = st.2.length → Nx b G H G' J → BoxAt J b (c + 2) → Dp K G' v (eStory st') → Q v J
def S_law (P : Program) (w : World) (K : PySem.W.Frag) : Sp := fun vs H Q _ => ∃ (a : Addr) (ns : List Int), vs = [.ref a] ∧ SqL K H a (ns.map V.int) ∧ ns.length ≤ 63 ∧ ∀ J, Q (.bl true) J
end Wk
/-! WTs -/
/-! The readings of the defs, printed by gen.py. -/
namespace Wk
open PySem PySem.Spec PyProof.Rows L2 Evl
/-! numbered_looks: 0 looks, 1 numbers, 2 look; level 1 -/
def t_numbered_looks (P : Program) (w : World) (K : PySem.W.Frag) : TS :=
  (tSeq (tAsg (fun σ H Q => tDNewK σ H Q ∨ tDNnew P w σ H Q) (gName 1))
  (tSeq (tFor (iList K (tVar 0)) (gName 2)
  (tIfS (fun σ H Q => tB (tDNotIn (tVar 2) (tVar 1)) σ H Q ∨ tTest (tOp (rDNnotin P w K) (tVar 2) (tVar 1)) σ H Q) (tAsg (fun σ H Q => tCB rLenD (tCons (tVar 1) tNil) σ H Q ∨ tCB (rDNlen P w K) (tCons (tVar 1) tNil) σ H Q) (gSub (tVar 1) (tVar 2) (fun o i v H Q => rDKput o i v H Q ∨ rDNput P w K o i v H Q))) tNext))
  (tRet (tLc (iList K (tVar 0)) (gName 2) tYes (fun σ H Q => tDGet (tVar 1) (tVar 2) σ H Q ∨ tOp (rDNget P w K) (tVar 1) (tVar 2) σ H Q) [2]))))
/-! finer_looks: 0 web, 1 numbers, 2 found, 3 room, 4 ends, 5 other, 6 door; level 1 -/
def t_finer_looks (P : Program) (w : World) (K : PySem.W.Frag) : TS :=
  (tSeq (tAsg (tLst tNil) (gName 2))
  (tSeq (tFor (iEnumT K (tCons (tVar 0) tNil)) (gTup K 2 (gCons (gName 3) (gCons (gName 4) gNil)))
  (tDrop (tBM K "list" rAppend (tVar 2) (tCons (tTup (tCons (tOp (rIx K) (tVar 1) (tVar 3)) (tCons (tCB (rTupC K) (tCons (tLc (iTup K (tVar 4)) (gTup K 2 (gCons (gName 5) (gCons (gName 6) gNil))) tYes (tTup (tCons (tVar 6) (tCons (tOp (rIx K) (tVar 1) (tVar 5)) tNil))) [5, 6]) tNil)) tNil))) tNil))))
  (tRet (tVar 2))))
/-! alike_by: 0 web, 1 many, 2 numbers, 3 turn, 4 finer, 5 ends; level 2 -/
def t_alike_by (P : Program) (w : World) (K : PySem.W.Frag) : TS :=
  (tSeq (tAsg (tCall (S_numbered_looks P w K) [] E0 (tCons (tLc (iTup K (tVar 0)) (gName 5) tYes (tCB (rLenC K) (tCons (tVar 5) tNil)) [5]) tNil)) (gName 2))
  (tSeq (tFor (iRng1 (tCons (tVar 1) tNil)) (gName 3)
  (tSeq (tAsg (tCall (S_numbered_looks P w K) [] E0 (tCons (tCall (S_finer_looks P w K) [] E0 (tCons (tVar 0) (tCons (tVar 2) tNil))) tNil)) (gName 4))
  (tSeq (tIfS (tTest (tOp (rEqD K) (tVar 4) (tVar 2))) (tRet (tVar 2)) tNext)
  (tAsg (tVar 4) (gName 2)))))
  (tRet (tVar 2))))
/-! kinds_by: 0 web, 1 many, 2 numbers, 3 found, 4 room, 5 number; level 3 -/
def t_kinds_by (P : Program) (w : World) (K : PySem.W.Frag) : TS :=
  (tSeq (tAsg (tCall (S_alike_by P w K) [] E0 (tCons (tVar 0) (tCons (tVar 1) tNil))) (gName 2))
  (tSeq (tAsg (tLc (iRng1 (tCons (tOp (rI0 fun i j => .int (i + j)) (tCB (rMax K) (tCons (tVar 2) tNil)) (tC (.int 1))) tNil)) (gName 5) tYes (tLst tNil) [5]) (gName 3))
  (tSeq (tFor (iEnum K (tCons (tVar 2) tNil)) (gTup K 2 (gCons (gName 4) (gCons (gName 5) gNil)))
  (tDrop (tBM K "list" rAppend (tOp (rIx K) (tVar 3) (tVar 5)) (tCons (tVar 4) tNil))))
  (tRet (tVar 3)))))
/-! kinds: 0 web; level 4 -/
def t_kinds (P : Program) (w : World) (K : PySem.W.Frag) : TS :=
  (tRet (tCall (S_kinds_by P w K) [] E0 (tCons (tVar 0) (tCons (tCB (rLenC K) (tCons (tVar 0) tNil)) tNil))))
/-! gone: 0 web, 1 room, 2 way, 3 came, 4 door; level 1 -/
def t_gone (P : Program) (w : World) (K : PySem.W.Frag) : TS :=
  (tSeq (tAsg (tC .non) (gName 3))
  (tSeq (tFor (iTup K (tVar 2)) (gName 4)
  (tSeq (tIfS (tTest (tOp (rI0 fun i j => .bl (decide (j ≤ i))) (tVar 4) (tCB (rLenC K) (tCons (tOp (rIx K) (tVar 0) (tVar 1)) tNil)))) (tRet (tC .non)) tNext)
  (tAsg (tOp (rIx K) (tOp (rIx K) (tVar 0) (tVar 1)) (tVar 4)) (gTup K 2 (gCons (gName 1) (gCons (gName 3) gNil))))))
  (tRet (tTup (tCons (tVar 1) (tCons (tVar 3) tNil))))))
/-! seen: 0 web, 1 room, 2 way, 3 told, 4 door, 5 came; level 1 -/
def t_seen (P : Program) (w : World) (K : PySem.W.Frag) : TS :=
  (tSeq (tAsg (tLst (tCons (tCB (rLenC K) (tCons (tOp (rIx K) (tVar 0) (tVar 1)) tNil)) tNil)) (gName 3))
  (tSeq (tFor (iTup K (tVar 2)) (gName 4)
  (tSeq (tIfS (tTest (tOp (rI0 fun i j => .bl (decide (j ≤ i))) (tVar 4) (tCB (rLenC K) (tCons (tOp (rIx K) (tVar 0) (tVar 1)) tNil)))) (tRet (tC .non)) tNext)
  (tSeq (tAsg (tOp (rIx K) (tOp (rIx K) (tVar 0) (tVar 1)) (tVar 4)) (gTup K 2 (gCons (gName 1) (gCons (gName 5) gNil))))
  (tDrop (tBM K "list" rAppend (tVar 3) (tCons (tTup (tCons (tVar 5) (tCons (tCB (rLenC K) (tCons (tOp (rIx K) (tVar 0) (tVar 1)) tNil)) tNil))) tNil))))))
  (tRet (tCB (rTupC K) (tCons (tVar 3) tNil)))))
/-! folds_by: 0 web, 1 numbers, 2 number, 3 some, 4 room; level 5 -/
def t_folds_by (P : Program) (w : World) (K : PySem.W.Frag) : TS :=
  (tSeq (tAsg (tOp rRep (tLst (tCons (tC (.int 0)) tNil)) (tCB (rLenC K) (tCons (tVar 0) tNil))) (gName 1))
  (tSeq (tFor (iEnum K (tCons (tCall (S_kinds P w K) [] E0 (tCons (tVar 0) tNil)) tNil)) (gTup K 2 (gCons (gName 2) (gCons (gName 3) gNil)))
  (tFor (iList K (tVar 3)) (gName 4)
  (tAsg (tVar 2) (gSub (tVar 1) (tVar 4) rSetL))))
  (tRet (tCB (rTupC K) (tCons (tVar 1) tNil)))))
/-! story_of: 0 web, 1 room, 2 way, 3 told, 4 door, 5 step; level 2 -/
def t_story_of (P : Program) (w : World) (K : PySem.W.Frag) : TS :=
  (tSeq (tAsg (tCall (S_seen P w K) [] E0 (tCons (tVar 0) (tCons (tVar 1) (tCons (tVar 2) tNil)))) (gName 3))
  (tRet (tTup (tCons (tOp (rIx K) (tVar 3) (tC (.int 0))) (tCons (tCB (rTupC K) (tCons (tLc (RZ.iZipA K (tCons (tVar 2) (tCons (tSl (rSlA K) (tVar 3) (tPart (tC (.int 1))) tNoPart) tNil))) (gTup K 2 (gCons (gName 4) (gCons (gName 5) gNil))) tYes (tOp (rCatA K) (tTup (tCons (tVar 4) tNil)) (tVar 5)) [4, 5]) tNil)) tNil)))))
/-! story_way: 0 story, 1 step; level 1 -/
def t_story_way (P : Program) (w : World) (K : PySem.W.Frag) : TS :=
  (tRet (tCB (rTupC K) (tCons (tLc (iTup K (tOp (rIx K) (tVar 0) (tC (.int 1)))) (gName 1) tYes (tOp (rIx K) (tVar 1) (tC (.int 0))) [1]) tNil)))
/-! story_sight: 0 story, 1 step; level 1 -/
def t_story_sight (P : Program) (w : World) (K : PySem.W.Frag) : TS :=
  (tRet (tOp (rCatA K) (tTup (tCons (tOp (rIx K) (tVar 0) (tC (.int 0))) tNil)) (tCB (rTupC K) (tCons (tLc (iTup K (tOp (rIx K) (tVar 0) (tC (.int 1)))) (gName 1) tYes (tCB (rTupC K) (tCons (tSl (rSlA K) (tVar 1) (tPart (tC (.int 1))) tNoPart) tNil)) [1]) tNil))))
/-! fits: 0 web, 1 room, 2 story; level 2 -/
def t_fits (P : Program) (w : World) (K : PySem.W.Frag) : TS :=
  (tRet (tOp (rEqD K) (tCall (S_seen P w K) [] E0 (tCons (tVar 0) (tCons (tVar 1) (tCons (tCall (S_story_way P w K) [] E0 (tCons (tVar 2) tNil)) tNil)))) (tCall (S_story_sight P w K) [] E0 (tCons (tVar 2) tNil))))
/-! stands: 0 web, 1 story, 2 way, 3 room; level 3 -/
def t_stands (P : Program) (w : World) (K : PySem.W.Frag) : TS :=
  (tSeq (tAsg (tCall (S_story_way P w K) [] E0 (tCons (tVar 1) tNil)) (gName 2))
  (tRet (tLc (iRng1 (tCons (tCB (rLenC K) (tCons (tVar 0) tNil)) tNil)) (gName 3) (tB (tCall (S_fits P w K) [] E0 (tCons (tVar 0) (tCons (tVar 3) (tCons (tVar 1) tNil))))) (tTup (tCons (tVar 3) (tCons (tOp (rIx K) (tCall (S_gone P w K) [] E0 (tCons (tVar 0) (tCons (tVar 3) (tCons (tVar 2) tNil)))) (tC (.int 0))) tNil))) [3])))
/-! doors_of_all: 0 web, 1 spots, 2 spot; level 1 -/
def t_doors_of_all (P : Program) (w : World) (K : PySem.W.Frag) : TS :=
  (tRet (tCB (rMin K) (tCons (tLc (iTup K (tVar 1)) (gName 2) tYes (tCB (rLenC K) (tCons (tOp (rIx K) (tVar 0) (tVar 2)) tNil)) [2]) tNil)))
/-! way_home: 0 web, 1 story, 2 open_pairs, 3 goals, 4 begin, 5 ways, 6 last, 7 further, 8 spots, 9 door, 10 there, 11 pair, 12 spot; level 4 -/
def t_way_home (P : Program) (w : World) (K : PySem.W.Frag) : TS :=
  (tSeq (tAsg (tCall (S_stands P w K) [] E0 (tCons (tVar 0) (tCons (tVar 1) tNil))) (gName 2))
  (tSeq (tIfS (tTest (tOp (rEqD K) (tCB (rLenC K) (tCons (tVar 2) tNil)) (tC (.int 0)))) (tRet (tC .non)) tNext)
  (tSeq (tAsg (tCB (rTupC K) (tCons (tLc (iList K (tVar 2)) (gName 11) tYes (tOp (rIx K) (tVar 11) (tC (.int 0))) [11]) tNil)) (gName 3))
  (tSeq (tAsg (tCB (rTupC K) (tCons (tLc (iList K (tVar 2)) (gName 11) tYes (tOp (rIx K) (tVar 11) (tC (.int 1))) [11]) tNil)) (gName 4))
  (tSeq (tAsg (tDNone P w K (tVar 4) (tTup tNil)) (gName 5))
  (tSeq (tAsg (tLst (tCons (tVar 4) tNil)) (gName 6))
  (tSeq (tWhile (tTest (tOp (rDNnotin P w K) (tVar 3) (tVar 5)))
  (tSeq (tAsg (tLst tNil) (gName 7))
  (tSeq (tFor (iList K (tVar 6)) (gName 8)
  (tFor (iRng1 (tCons (tCall (S_doors_of_all P w K) [] E0 (tCons (tVar 0) (tCons (tVar 8) tNil))) tNil)) (gName 9)
  (tSeq (tAsg (tCB (rTupC K) (tCons (tLc (iTup K (tVar 8)) (gName 12) tYes (tOp (rIx K) (tOp (rIx K) (tOp (rIx K) (tVar 0) (tVar 12)) (tVar 9)) (tC (.int 0))) [12]) tNil)) (gName 10))
  (tIfS (tTest (tOp (rDNnotin P w K) (tVar 10) (tVar 5))) (tSeq (tAsg (tOp (rCatA K) (tOp (rDNget P w K) (tVar 5) (tVar 8)) (tTup (tCons (tVar 9) tNil))) (gSub (tVar 5) (tVar 10) (rDNput P w K)))
  (tDrop (tBM K "list" rAppend (tVar 7) (tCons (tVar 10) tNil)))) tNext))))
  (tAsg (tVar 7) (gName 6)))))
  (tRet (tOp (rDNget P w K) (tVar 5) (tVar 3))))))))))
/-! parted_groups: 0 sights, 1 sight; level 1 -/
def t_parted_groups (P : Program) (w : World) (K : PySem.W.Frag) : TS :=
  (tRet (tCB (rTupC K) (tCons (tLc (iList K (tVar 0)) (gName 1) tYes (tBM K "list" (rIndexD K) (tVar 0) (tCons (tVar 1) tNil)) [1]) tNil)))
/-! is_told: 0 groups, 1 kinds_there, 2 place, 3 group; level 1 -/
def t_is_told (P : Program) (w : World) (K : PySem.W.Frag) : TS :=
  (tRet (tCB (rAll K) (tCons (tLc (iEnumT K (tCons (tVar 0) tNil)) (gTup K 2 (gCons (gName 2) (gCons (gName 3) gNil))) tYes (tOp (rEqD K) (tOp (rIx K) (tVar 1) (tVar 2)) (tOp (rIx K) (tVar 1) (tVar 3))) [2, 3]) tNil)))
/-! steps_on: 0 web, 1 spots, 2 groups, 3 found, 4 door, 5 ends, 6 sights, 7 spot, 8 group, 9 end; level 2 -/
def t_steps_on (P : Program) (w : World) (K : PySem.W.Frag) : TS :=
  (tSeq (tAsg (tLst tNil) (gName 3))
  (tSeq (tFor (iRng1 (tCons (tCall (S_doors_of_all P w K) [] E0 (tCons (tVar 0) (tCons (tVar 1) tNil))) tNil)) (gName 4)
  (tSeq (tAsg (tLc (iTup K (tVar 1)) (gName 7) tYes (tOp (rIx K) (tOp (rIx K) (tVar 0) (tVar 7)) (tVar 4)) [7]) (gName 5))
  (tSeq (tAsg (tLc (iZipM K (tCons (tVar 2) (tCons (tVar 5) tNil))) (gTup K 2 (gCons (gName 8) (gCons (gName 9) gNil))) tYes (tTup (tCons (tVar 8) (tCons (tOp (rIx K) (tVar 9) (tC (.int 1))) (tCons (tCB (rLenC K) (tCons (tOp (rIx K) (tVar 0) (tOp (rIx K) (tVar 9) (tC (.int 0)))) tNil)) tNil)))) [8, 9]) (gName 6))
  (tDrop (tBM K "list" rAppend (tVar 3) (tCons (tTup (tCons (tCB (rTupC K) (tCons (tLc (iList K (tVar 5)) (gName 9) tYes (tOp (rIx K) (tVar 9) (tC (.int 0))) [9]) tNil)) (tCons (tCall (S_parted_groups P w K) [] E0 (tCons (tVar 6) tNil)) tNil))) tNil))))))
  (tRet (tVar 3))))
/-! telling_way: 0 web, 1 some, 2 numbers, 3 kinds_there, 4 begin, 5 ways, 6 last, 7 further, 8 spots, 9 groups, 10 door, 11 there, 12 spot; level 6 -/
def t_telling_way (P : Program) (w : World) (K : PySem.W.Frag) : TS :=
  (tSeq (tIfS (tTest (tOp (rEqD K) (tCB (rLenC K) (tCons (tVar 1) tNil)) (tC (.int 0)))) (tRet (tTup tNil)) tNext)
  (tSeq (tAsg (tCall (S_folds_by P w K) [] E0 (tCons (tVar 0) tNil)) (gName 2))
  (tSeq (tAsg (tLc (iList K (tVar 1)) (gName 12) tYes (tOp (rIx K) (tVar 2) (tVar 12)) [12]) (gName 3))
  (tSeq (tAsg (tTup (tCons (tCB (rTupC K) (tCons (tVar 1) tNil)) (tCons (tCall (S_parted_groups P w K) [] E0 (tCons (tLc (iList K (tVar 1)) (gName 12) tYes (tCB (rLenC K) (tCons (tOp (rIx K) (tVar 0) (tVar 12)) tNil)) [12]) tNil)) tNil))) (gName 4))
  (tSeq (tAsg (tDNone P w K (tVar 4) (tTup tNil)) (gName 5))
  (tSeq (tAsg (tLst (tCons (tVar 4) tNil)) (gName 6))
  (tSeq (tWhile (tTest (tOp (rI0 fun i j => .bl (decide (j < i))) (tCB (rLenC K) (tCons (tVar 6) tNil)) (tC (.int 0))))
  (tSeq (tAsg (tLst tNil) (gName 7))
  (tSeq (tFor (iList K (tVar 6)) (gTup K 2 (gCons (gName 8) (gCons (gName 9) gNil)))
  (tSeq (tIfS (tB (tCall (S_is_told P w K) [] E0 (tCons (tVar 9) (tCons (tVar 3) tNil)))) (tRet (tOp (rDNget P w K) (tVar 5) (tTup (tCons (tVar 8) (tCons (tVar 9) tNil))))) tNext)
  (tFor (iEnum K (tCons (tCall (S_steps_on P w K) [] E0 (tCons (tVar 0) (tCons (tVar 8) (tCons (tVar 9) tNil)))) tNil)) (gTup K 2 (gCons (gName 10) (gCons (gName 11) gNil)))
  (tIfS (tTest (tOp (rDNnotin P w K) (tVar 11) (tVar 5))) (tSeq (tAsg (tOp (rCatA K) (tOp (rDNget P w K) (tVar 5) (tTup (tCons (tVar 8) (tCons (tVar 9) tNil)))) (tTup (tCons (tVar 10) tNil))) (gSub (tVar 5) (tVar 11) (rDNput P w K)))
  (tDrop (tBM K "list" rAppend (tVar 7) (tCons (tVar 11) tNil)))) tNext))))
  (tAsg (tVar 7) (gName 6)))))
  (tRet (tC .non)))))))))
/-! _law_box: 0 _law_script, 1 _law_k, 2 _law_cell; level 1 -/
def t_Lbox (P : Program) (w : World) (K : PySem.W.Frag) : TS :=
  (tSeq (tAsg (tOp (rIx K) (tOp rCat (tVar 0) (tOp rRep (tLst (tCons (tC (.int 0)) tNil)) (tOp (rI0 fun i j => .int (i + j)) (tVar 1) (tC (.int 1))))) (tVar 1)) (gName 2))
  (tRet (tLst (tCons (tOp (rI CMul fun i j => .int (i * j)) (tCB rAbsC (tCons (tVar 2) tNil)) (tCB rIntC (tCons (tOp (rI0 fun i j => .bl (decide (j ≤ i))) (tCB rAbsC (tCons (tVar 2) tNil)) (tOp (rI CPow fun i j => .int (i ^ j.toNat)) (tC (.int 10)) (tC (.int 18)))) tNil))) (tCons (tOp (rI (fun _ j => j ≠ 0) fun i j => .int (i.fmod j)) (tOp (rI CMul fun i j => .int (i * j)) (tOp (rI0 fun i j => .int (i + j)) (tOp (rI0 fun i j => .int (i + j)) (tOp (rI (fun _ j => j ≠ 0) fun i j => .int (i.fmod j)) (tVar 2) (tC (.int 2147483647))) (tOp (rI CMul fun i j => .int (i * j)) (tC (.int 7919)) (tVar 1))) (tC (.int 11))) (tC (.int 48271))) (tC (.int 2147483629))) (tCons (tC (.int 0)) tNil))))))
/-! _law_take: 0 _law_box_here, 1 _law_many, 2 _law_found, 3 _law_once; level 1 -/
def t_Ltake (P : Program) (w : World) (K : PySem.W.Frag) : TS :=
  (tSeq (tIfS (tTest (tOp (rI0 fun i j => .bl (decide (j < i))) (tOp (rIx K) (tVar 0) (tC (.int 0))) (tC (.int 0)))) (tSeq (tAsg (tCB rDivC (tCons (tOp (rIx K) (tVar 0) (tC (.int 0))) (tCons (tVar 1) tNil))) (gTup K 2 (gCons (gSub (tVar 0) (tC (.int 0)) rSetL) (gCons (gName 2) gNil))))
  (tRet (tVar 2))) tNext)
  (tSeq (tAsg (tOp (rI0 fun i j => .int (i + j)) (tOp (rIx K) (tVar 0) (tC (.int 2))) (tC (.int 1))) (gSub (tVar 0) (tC (.int 2)) rSetL))
  (tSeq (tAsg (tOp (rI (fun _ j => j ≠ 0) fun i j => .int (i.fmod j)) (tOp (rI CMul fun i j => .int (i * j)) (tOp (rI0 fun i j => .int (i + j)) (tOp (rIx K) (tVar 0) (tC (.int 1))) (tOp (rI CMul fun i j => .int (i * j)) (tC (.int 39373)) (tOp (rIx K) (tVar 0) (tC (.int 2))))) (tOp (rI0 fun i j => .int (i + j)) (tC (.int 48271)) (tOp (rIx K) (tVar 0) (tC (.int 2))))) (tC (.int 2147483647))) (gName 3))
  (tSeq (tAsg (tOp (rI (fun _ j => j ≠ 0) fun i j => .int (i.fmod j)) (tOp (rI0 fun i j => .int (i + j)) (tOp (rI CMul fun i j => .int (i * j)) (tVar 3) (tOp (rI0 fun i j => .int (i + j)) (tOp (rI (fun _ j => j ≠ 0) fun i j => .int (i.fmod j)) (tVar 3) (tC (.int 40009))) (tC (.int 7)))) (tOp (rIx K) (tVar 0) (tC (.int 2)))) (tC (.int 2147483629))) (gSub (tVar 0) (tC (.int 1)) rSetL))
  (tRet (tOp (rI (fun _ j => j ≠ 0) fun i j => .int (i.fmod j)) (tOp (rI CDiv fun i j => .int (i / j)) (tOp (rI (fun _ j => j ≠ 0) fun i j => .int (i.fmod j)) (tOp (rI CMul fun i j => .int (i * j)) (tOp (rIx K) (tVar 0) (tC (.int 1))) (tOp (rI0 fun i j => .int (i + j)) (tOp (rI (fun _ j => j ≠ 0) fun i j => .int (i.fmod j)) (tOp (rIx K) (tVar 0) (tC (.int 1))) (tC (.int 1009))) (tC (.int 3)))) (tC (.int 998244353))) (tC (.int 7))) (tVar 1)))))))
/-! _law_joined: 0 _law_halves, 1 _law_at, 2 _law_room, 3 _law_door, 4 _law_half, 5 _law_web_here, 6 _law_doors, 7 _law_tie, 8 _law_side; level 1 -/
def t_Ljoined (P : Program) (w : World) (K : PySem.W.Frag) : TS :=
  (tSeq (tAsg (tDNnew P w) (gName 1))
  (tSeq (tFor (iRng1 (tCons (tCB (rLenC K) (tCons (tVar 0) tNil)) tNil)) (gName 2)
  (tFor (iEnum K (tCons (tOp (rIx K) (tVar 0) (tVar 2)) tNil)) (gTup K 2 (gCons (gName 3) (gCons (gName 4) gNil)))
  (tAsg (tTup (tCons (tVar 2) (tCons (tVar 3) tNil))) (gSub (tVar 1) (tVar 4) (rDNput P w K)))))
  (tSeq (tAsg (tLst tNil) (gName 5))
  (tSeq (tFor (iList K (tVar 0)) (gName 6)
  (tDrop (tBM K "list" rAppend (tVar 5) (tCons (tCB (rTupC K) (tCons (tLc (iList K (tVar 6)) (gTup K 2 (gCons (gName 7) (gCons (gName 8) gNil))) tYes (tOp (rDNget P w K) (tVar 1) (tTup (tCons (tVar 7) (tCons (tOp (rIx K) (tLst (tCons (tC (.int 1)) (tCons (tC (.int 0)) (tCons (tC (.int 2)) tNil)))) (tVar 8)) tNil)))) [7, 8]) tNil)) tNil))))
  (tRet (tCB (rTupC K) (tCons (tVar 5) tNil)))))))
/-! _law_doors_put: 0 _law_box_here, 1 _law_pairs, 2 _law_many, 3 _law_halves, 4 _law_tie, 5 _law_one, 6 _law_other, 7 _law_sides, 8 _law_room, 9 _law_side; level 2 -/
def t_Ldoors_put (P : Program) (w : World) (K : PySem.W.Frag) : TS :=
  (tSeq (tAsg (tLc (iRng1 (tCons (tVar 2) tNil)) (gName 8) tYes (tLst tNil) [8]) (gName 3))
  (tSeq (tFor (iEnum K (tCons (tVar 1) tNil)) (gTup K 2 (gCons (gName 4) (gCons (gTup K 2 (gCons (gName 5) (gCons (gName 6) gNil))) gNil)))
  (tSeq (tAsg (tIf (tTest (tOp (rEqD K) (tVar 6) (tVar 2))) (tLst (tCons (tTup (tCons (tVar 5) (tCons (tC (.int 2)) tNil))) tNil)) (tLst (tCons (tTup (tCons (tVar 5) (tCons (tC (.int 0)) tNil))) (tCons (tTup (tCons (tVar 6) (tCons (tC (.int 1)) tNil))) tNil)))) (gName 7))
  (tFor (iList K (tVar 7)) (gTup K 2 (gCons (gName 8) (gCons (gName 9) gNil)))
  (tDrop (tBM K "list" rInsC (tOp (rIx K) (tVar 3) (tVar 8)) (tCons (tCall (S_Ltake P w K) [] E0 (tCons (tVar 0) (tCons (tOp (rI0 fun i j => .int (i + j)) (tCB (rLenC K) (tCons (tOp (rIx K) (tVar 3) (tVar 8)) tNil)) (tC (.int 1))) tNil))) (tCons (tTup (tCons (tVar 4) (tCons (tVar 9) tNil))) tNil)))))))
  (tRet (tCall (S_Ljoined P w K) [] E0 (tCons (tVar 3) tNil)))))
/-! _law_web: 0 _law_box_here, 1 _law_many, 2 _law_most, 3 _law_used, 4 _law_pairs, 5 _law_room, 6 _law_free, 7 _law_end, 8 _law_turn_here, 9 _law_pair, 10 _law_ends_here, 11 _law_one; level 3 -/
def t_Lweb (P : Program) (w : World) (K : PySem.W.Frag) : TS :=
  (tSeq (tAsg (tOp rRep (tLst (tCons (tC (.int 0)) tNil)) (tVar 1)) (gName 3))
  (tSeq (tAsg (tLst tNil) (gName 4))
  (tSeq (tFor (iRng2 (tCons (tC (.int 1)) (tCons (tVar 1) tNil))) (gName 5)
  (tSeq (tAsg (tLc (iRng1 (tCons (tVar 5) tNil)) (gName 11) (tTest (tOp (rI0 fun i j => .bl (decide (i < j))) (tOp (rIx K) (tVar 3) (tVar 11)) (tVar 2))) (tVar 11) [11]) (gName 6))
  (tSeq (tDrop (tBM K "list" rAppend (tVar 4) (tCons (tTup (tCons (tOp (rIx K) (tVar 6) (tCall (S_Ltake P w K) [] E0 (tCons (tVar 0) (tCons (tCB (rLenC K) (tCons (tVar 6) tNil)) tNil)))) (tCons (tVar 5) tNil))) tNil)))
  (tFor (iTup K (tOp (rIx K) (tVar 4) (tUn (rU fun i => .int (-i)) (tC (.int 1))))) (gName 7)
  (tAsg (tOp (rI0 fun i j => .int (i + j)) (tOp (rIx K) (tVar 3) (tVar 7)) (tC (.int 1))) (gSub (tVar 3) (tVar 7) rSetL))))))
  (tSeq (tFor (iRng1 (tCons (tCall (S_Ltake P w K) [] E0 (tCons (tVar 0) (tCons (tOp (rI0 fun i j => .int (i + j)) (tVar 1) (tC (.int 2))) tNil))) tNil)) (gName 8)
  (tSeq (tAsg (tTup (tCons (tCall (S_Ltake P w K) [] E0 (tCons (tVar 0) (tCons (tVar 1) tNil))) (tCons (tCall (S_Ltake P w K) [] E0 (tCons (tVar 0) (tCons (tOp (rI0 fun i j => .int (i + j)) (tVar 1) (tC (.int 1))) tNil))) tNil))) (gName 9))
  (tSeq (tAsg (tLc (iTup K (tVar 9)) (gName 7) (tTest (tOp (rI0 fun i j => .bl (decide (i < j))) (tVar 7) (tVar 1))) (tVar 7) [7]) (gName 10))
  (tIfS (tB (tCB (rAll K) (tCons (tLc (iList K (tVar 10)) (gName 7) tYes (tOp (rI0 fun i j => .bl (decide (i ≤ j))) (tOp (rI0 fun i j => .int (i + j)) (tOp (rIx K) (tVar 3) (tVar 7)) (tBM K "list" (rCntI K) (tVar 10) (tCons (tVar 7) tNil))) (tVar 2)) [7]) tNil))) (tSeq (tDrop (tBM K "list" rAppend (tVar 4) (tCons (tVar 9) tNil)))
  (tFor (iList K (tVar 10)) (gName 7)
  (tAsg (tOp (rI0 fun i j => .int (i + j)) (tOp (rIx K) (tVar 3) (tVar 7)) (tC (.int 1))) (gSub (tVar 3) (tVar 7) rSetL)))) tNext))))
  (tRet (tCall (S_Ldoors_put P w K) [] E0 (tCons (tVar 0) (tCons (tVar 4) (tCons (tVar 1) tNil)))))))))
/-! _law_ring: 0 _law_many, 1 _law_room; level 1 -/
def t_Lring (P : Program) (w : World) (K : PySem.W.Frag) : TS :=
  (tRet (tCB (rTupC K) (tCons (tLc (iRng1 (tCons (tVar 0) tNil)) (gName 1) tYes (tTup (tCons (tTup (tCons (tOp (rI (fun _ j => j ≠ 0) fun i j => .int (i.fmod j)) (tOp (rI0 fun i j => .int (i + j)) (tVar 1) (tC (.int 1))) (tVar 0)) (tCons (tC (.int 1)) tNil))) (tCons (tTup (tCons (tOp (rI (fun _ j => j ≠ 0) fun i j => .int (i.fmod j)) (tOp (rI0 fun i j => .int (i - j)) (tVar 1) (tC (.int 1))) (tVar 0)) (tCons (tC (.int 0)) tNil))) tNil))) [1]) tNil)))
/-! _law_ends: 0 _law_web_here, 1 _law_found, 2 _law_room, 3 _law_door; level 1 -/
def t_Lends (P : Program) (w : World) (K : PySem.W.Frag) : TS :=
  (tSeq (tAsg (tLst tNil) (gName 1))
  (tSeq (tFor (iRng1 (tCons (tCB (rLenC K) (tCons (tVar 0) tNil)) tNil)) (gName 2)
  (tFor (iRng1 (tCons (tCB (rLenC K) (tCons (tOp (rIx K) (tVar 0) (tVar 2)) tNil)) tNil)) (gName 3)
  (tIfS (tTest (tOp (rLeT K) (tTup (tCons (tVar 2) (tCons (tVar 3) tNil))) (tOp (rIx K) (tOp (rIx K) (tVar 0) (tVar 2)) (tVar 3)))) (tDrop (tBM K "list" rAppend (tVar 1) (tCons (tTup (tCons (tTup (tCons (tVar 2) (tCons (tVar 3) tNil))) (tCons (tOp (rIx K) (tOp (rIx K) (tVar 0) (tVar 2)) (tVar 3)) tNil))) tNil))) tNext)))
  (tRet (tVar 1))))
/-! _law_reached: 0 _law_web_here, 1 _law_room, 2 _law_found, 3 _law_at, 4 _law_other, 5 _law_door; level 1 -/
def t_Lreached (P : Program) (w : World) (K : PySem.W.Frag) : TS :=
  (tSeq (tAsg (tLst (tCons (tVar 1) tNil)) (gName 2))
  (tSeq (tAsg (tC (.int 0)) (gName 3))
  (tSeq (tWhile (tTest (tOp (rI0 fun i j => .bl (decide (i < j))) (tVar 3) (tCB (rLenC K) (tCons (tVar 2) tNil))))
  (tSeq (tFor (iTup K (tOp (rIx K) (tVar 0) (tOp (rIx K) (tVar 2) (tVar 3)))) (gTup K 2 (gCons (gName 4) (gCons (gName 5) gNil)))
  (tIfS (tTest (tOp (rIn K true) (tVar 4) (tVar 2))) (tDrop (tBM K "list" rAppend (tVar 2) (tCons (tVar 4) tNil))) tNext))
  (tAsg (tOp (rI0 fun i j => .int (i + j)) (tVar 3) (tC (.int 1))) (gName 3))))
  (tRet (tVar 2)))))
/-! _law_sheeted: 0 _law_web_here, 1 _law_turns, 2 _law_many, 3 _law_made, 4 _law_t, 5 _law_one, 6 _law_other, 7 _law_k, 8 _law_spot, 9 _law_there, 10 _law_n, 11 _law_room; level 2 -/
def t_Lsheeted (P : Program) (w : World) (K : PySem.W.Frag) : TS :=
  (tSeq (tAsg (tLc (iRng1 (tCons (tOp (rI CMul fun i j => .int (i * j)) (tVar 2) (tCB (rLenC K) (tCons (tVar 0) tNil))) tNil)) (gName 10) tYes (tOp rRep (tLst (tCons (tC .non) tNil)) (tCB (rLenC K) (tCons (tOp (rIx K) (tVar 0) (tOp (rI (fun _ j => j ≠ 0) fun i j => .int (i.fmod j)) (tVar 10) (tCB (rLenC K) (tCons (tVar 0) tNil)))) tNil))) [10]) (gName 3))
  (tSeq (tFor (iEnum K (tCons (tCall (S_Lends P w K) [] E0 (tCons (tVar 0) tNil)) tNil)) (gTup K 2 (gCons (gName 4) (gCons (gTup K 2 (gCons (gName 5) (gCons (gName 6) gNil))) gNil)))
  (tFor (iRng1 (tCons (tVar 2) tNil)) (gName 7)
  (tSeq (tAsg (tOp (rI0 fun i j => .int (i + j)) (tOp (rIx K) (tVar 5) (tC (.int 0))) (tOp (rI CMul fun i j => .int (i * j)) (tVar 7) (tCB (rLenC K) (tCons (tVar 0) tNil)))) (gName 8))
  (tSeq (tAsg (tOp (rI0 fun i j => .int (i + j)) (tOp (rIx K) (tVar 6) (tC (.int 0))) (tOp (rI CMul fun i j => .int (i * j)) (tOp (rIx K) (tOp (rIx K) (tVar 1) (tVar 4)) (tVar 7)) (tCB (rLenC K) (tCons (tVar 0) tNil)))) (gName 9))
  (tSeq (tAsg (tTup (tCons (tVar 9) (tCons (tOp (rIx K) (tVar 6) (tC (.int 1))) tNil))) (gSub (tOp (rIx K) (tVar 3) (tVar 8)) (tOp (rIx K) (tVar 5) (tC (.int 1))) rSetL))
  (tAsg (tTup (tCons (tVar 8) (tCons (tOp (rIx K) (tVar 5) (tC (.int 1))) tNil))) (gSub (tOp (rIx K) (tVar 3) (tVar 9)) (tOp (rIx K) (tVar 6) (tC (.int 1))) rSetL)))))))
  (tRet (tCB (rTupC K) (tCons (tLc (iList K (tVar 3)) (gName 11) tYes (tCB (rTupC K) (tCons (tVar 11) tNil)) [11]) tNil)))))
/-! _law_turn: 0 _law_box_here, 1 _law_many, 2 _law_own, 3 _law_order, 4 _law_k, 5 _law_turn_here; level 2 -/
def t_Lturn (P : Program) (w : World) (K : PySem.W.Frag) : TS :=
  (tSeq (tAsg (tLst tNil) (gName 3))
  (tSeq (tFor (iRng1 (tCons (tVar 1) tNil)) (gName 4)
  (tDrop (tBM K "list" rInsC (tVar 3) (tCons (tCall (S_Ltake P w K) [] E0 (tCons (tVar 0) (tCons (tOp (rI0 fun i j => .int (i + j)) (tVar 4) (tC (.int 1))) tNil))) (tCons (tVar 4) tNil)))))
  (tSeq (tIfS (tNot (tB (tVar 2))) (tRet (tCB (rTupC K) (tCons (tVar 3) tNil))) tNext)
  (tSeq (tAsg (tLstRg (tRg1 (tVar 1))) (gName 5))
  (tSeq (tFor (iRng3 (tCons (tC (.int 0)) (tCons (tOp (rI0 fun i j => .int (i - j)) (tVar 1) (tC (.int 1))) (tCons (tC (.int 2)) tNil)))) (gName 4)
  (tSeq (tAsg (tOp (rIx K) (tVar 3) (tOp (rI0 fun i j => .int (i + j)) (tVar 4) (tC (.int 1)))) (gSub (tVar 5) (tOp (rIx K) (tVar 3) (tVar 4)) rSetL))
  (tAsg (tOp (rIx K) (tVar 3) (tVar 4)) (gSub (tVar 5) (tOp (rIx K) (tVar 3) (tOp (rI0 fun i j => .int (i + j)) (tVar 4) (tC (.int 1)))) rSetL))))
  (tRet (tCB (rTupC K) (tCons (tVar 5) tNil))))))))
/-! _law_covered: 0 _law_box_here, 1 _law_web_here, 2 _law_many, 3 _law_turn_here, 4 _law_turns, 5 _law_one, 6 _law_other, 7 _law_made; level 3 -/
def t_Lcovered (P : Program) (w : World) (K : PySem.W.Frag) : TS :=
  (tSeq (tFor (iRng1 (tCons (tC (.int 3)) tNil)) (gName 3)
  (tSeq (tAsg (tLst tNil) (gName 4))
  (tSeq (tFor (iList K (tCall (S_Lends P w K) [] E0 (tCons (tVar 1) tNil))) (gTup K 2 (gCons (gName 5) (gCons (gName 6) gNil)))
  (tDrop (tBM K "list" rAppend (tVar 4) (tCons (tCall (S_Lturn P w K) [] E0 (tCons (tVar 0) (tCons (tVar 2) (tCons (tOp (rEqD K) (tVar 5) (tVar 6)) tNil)))) tNil))))
  (tSeq (tAsg (tCall (S_Lsheeted P w K) [] E0 (tCons (tVar 1) (tCons (tVar 4) (tCons (tVar 2) tNil)))) (gName 7))
  (tIfS (tTest (tOp (rEqD K) (tCB (rLenC K) (tCons (tCall (S_Lreached P w K) [] E0 (tCons (tVar 7) (tCons (tC (.int 0)) tNil))) tNil)) (tCB (rLenC K) (tCons (tVar 7) tNil)))) (tRet (tVar 7)) tNext)))))
  (tRet (tVar 1)))
/-! _law_folded: 0 _law_script, 1 _law_many, 2 _law_cells, 3 _law_k, 4 _law_cell; level 1 -/
def t_Lfolded (P : Program) (w : World) (K : PySem.W.Frag) : TS :=
  (tSeq (tAsg (tCB (rListC K) (tCons (tSl (rSlL K) (tVar 0) tNoPart (tPart (tVar 1))) tNil)) (gName 2))
  (tSeq (tFor (iEnum K (tCons (tSl (rSlL K) (tVar 0) (tPart (tVar 1)) (tPart (tC (.int 63)))) tNil)) (gTup K 2 (gCons (gName 3) (gCons (gName 4) gNil)))
  (tAsg (tOp (rI0 fun i j => .int (i + j)) (tOp (rIx K) (tVar 2) (tOp (rI (fun _ j => j ≠ 0) fun i j => .int (i.fmod j)) (tVar 3) (tVar 1))) (tOp (rI CMul fun i j => .int (i * j)) (tVar 4) (tOp (rI0 fun i j => .int (i + j)) (tVar 3) (tC (.int 2))))) (gSub (tVar 2) (tOp (rI (fun _ j => j ≠ 0) fun i j => .int (i.fmod j)) (tVar 3) (tVar 1)) rSetL)))
  (tRet (tVar 2))))
/-! _law_way: 0 _law_box_here, 1 _law_web_here, 2 _law_room, 3 _law_most, 4 _law_way_here, 5 _law_turn_here; level 2 -/
def t_Lway (P : Program) (w : World) (K : PySem.W.Frag) : TS :=
  (tSeq (tAsg (tLst tNil) (gName 4))
  (tSeq (tFor (iRng1 (tCons (tCall (S_Ltake P w K) [] E0 (tCons (tVar 0) (tCons (tOp (rI0 fun i j => .int (i + j)) (tVar 3) (tC (.int 1))) tNil))) tNil)) (gName 5)
  (tIfS (tTest (tOp (rI0 fun i j => .bl (decide (j < i))) (tCB (rLenC K) (tCons (tOp (rIx K) (tVar 1) (tVar 2)) tNil)) (tC (.int 0)))) (tSeq (tDrop (tBM K "list" rAppend (tVar 4) (tCons (tCall (S_Ltake P w K) [] E0 (tCons (tVar 0) (tCons (tCB (rLenC K) (tCons (tOp (rIx K) (tVar 1) (tVar 2)) tNil)) tNil))) tNil)))
  (tAsg (tOp (rIx K) (tOp (rIx K) (tOp (rIx K) (tVar 1) (tVar 2)) (tOp (rIx K) (tVar 4) (tUn (rU fun i => .int (-i)) (tC (.int 1))))) (tC (.int 0))) (gName 2))) tNext))
  (tRet (tCB (rTupC K) (tCons (tVar 4) tNil)))))
/-! _law_kinds: 0 _law_web_here, 1 _law_marks, 2 _law_turn_here, 3 _law_made, 4 _law_room, 5 _law_some, 6 _law_doors, 7 _law_one, 8 _law_other, 9 _law_door; level 1 -/
def t_Lkinds (P : Program) (w : World) (K : PySem.W.Frag) : TS :=
  (tSeq (tAsg (tLc (iTup K (tVar 0)) (gName 6) tYes (tCB (rLenC K) (tCons (tVar 6) tNil)) [6]) (gName 1))
  (tSeq (tFor (iRng1 (tCons (tCB (rLenC K) (tCons (tVar 0) tNil)) tNil)) (gName 2)
  (tSeq (tAsg (tLst tNil) (gName 3))
  (tSeq (tFor (iRng1 (tCons (tCB (rLenC K) (tCons (tVar 0) tNil)) tNil)) (gName 4)
  (tDrop (tBM K "list" rAppend (tVar 3) (tCons (tTup (tCons (tOp (rIx K) (tVar 1) (tVar 4)) (tCons (tCB (rTupC K) (tCons (tLc (iTup K (tOp (rIx K) (tVar 0) (tVar 4))) (gTup K 2 (gCons (gName 8) (gCons (gName 9) gNil))) tYes (tTup (tCons (tVar 9) (tCons (tOp (rIx K) (tVar 1) (tVar 8)) tNil))) [8, 9]) tNil)) tNil))) tNil))))
  (tSeq (tAsg (tSortSet P w K (tVar 3)) (gName 5))
  (tAsg (tLc (iList K (tVar 3)) (gName 7) tYes (tBM K "list" (rIndexD K) (tVar 5) (tCons (tVar 7) tNil)) [7]) (gName 1))))))
  (tRet (tVar 1))))
/-! _law_line: 0 _law_many, 1 _law_made, 2 _law_room, 3 _law_back, 4 _law_ahead; level 1 -/
def t_Lline (P : Program) (w : World) (K : PySem.W.Frag) : TS :=
  (tSeq (tAsg (tLst tNil) (gName 1))
  (tSeq (tFor (iRng1 (tCons (tVar 0) tNil)) (gName 2)
  (tSeq (tAsg (tIf (tTest (tOp (rI0 fun i j => .bl (decide (j < i))) (tVar 2) (tC (.int 0)))) (tTup (tCons (tOp (rI0 fun i j => .int (i - j)) (tVar 2) (tC (.int 1))) (tCons (tC (.int 1)) tNil))) (tTup (tCons (tC (.int 0)) (tCons (tC (.int 0)) tNil)))) (gName 3))
  (tSeq (tAsg (tIf (tTest (tOp (rI0 fun i j => .bl (decide (i < j))) (tVar 2) (tOp (rI0 fun i j => .int (i - j)) (tVar 0) (tC (.int 1))))) (tTup (tCons (tOp (rI0 fun i j => .int (i + j)) (tVar 2) (tC (.int 1))) (tCons (tC (.int 0)) tNil))) (tTup (tCons (tVar 2) (tCons (tC (.int 1)) tNil)))) (gName 4))
  (tDrop (tBM K "list" rAppend (tVar 1) (tCons (tTup (tCons (tVar 3) (tCons (tVar 4) tNil))) tNil))))))
  (tRet (tCB (rTupC K) (tCons (tVar 1) tNil)))))
/-! _law_small_web: 0 _law_box_here, 1 _law_most, 2 _law_way_here, 3 _law_base; level 4 -/
def t_Lsmall_web (P : Program) (w : World) (K : PySem.W.Frag) : TS :=
  (tSeq (tAsg (tCall (S_Ltake P w K) [] E0 (tCons (tVar 0) (tCons (tC (.int 6)) tNil))) (gName 2))
  (tSeq (tIfS (tTest (tOp (rEqD K) (tVar 2) (tC (.int 0)))) (tRet (tCall (S_Lring P w K) [] E0 (tCons (tOp (rI0 fun i j => .int (i + j)) (tC (.int 2)) (tCall (S_Ltake P w K) [] E0 (tCons (tVar 0) (tCons (tOp (rI0 fun i j => .int (i - j)) (tVar 1) (tC (.int 1))) tNil)))) tNil))) tNext)
  (tSeq (tIfS (tTest (tOp (rEqD K) (tVar 2) (tC (.int 1)))) (tRet (tCall (S_Lline P w K) [] E0 (tCons (tOp (rI0 fun i j => .int (i + j)) (tC (.int 2)) (tCall (S_Ltake P w K) [] E0 (tCons (tVar 0) (tCons (tOp (rI0 fun i j => .int (i - j)) (tVar 1) (tC (.int 1))) tNil)))) tNil))) tNext)
  (tSeq (tIfS (tTest (tOp (rEqD K) (tVar 2) (tC (.int 2)))) (tSeq (tAsg (tCall (S_Lweb P w K) [] E0 (tCons (tVar 0) (tCons (tOp (rI0 fun i j => .int (i + j)) (tC (.int 1)) (tCall (S_Ltake P w K) [] E0 (tCons (tVar 0) (tCons (tOp (rI CDiv fun i j => .int (i / j)) (tVar 1) (tC (.int 2))) tNil)))) (tCons (tOp (rI0 fun i j => .int (i + j)) (tC (.int 2)) (tCall (S_Ltake P w K) [] E0 (tCons (tVar 0) (tCons (tC (.int 2)) tNil)))) tNil)))) (gName 3))
  (tRet (tCall (S_Lcovered P w K) [] E0 (tCons (tVar 0) (tCons (tVar 3) (tCons (tOp (rI0 fun i j => .int (i + j)) (tC (.int 2)) (tCall (S_Ltake P w K) [] E0 (tCons (tVar 0) (tCons (tOp (rI0 fun i j => .int (i - j)) (tOp (rI CDiv fun i j => .int (i / j)) (tVar 1) (tCB (rLenC K) (tCons (tVar 3) tNil))) (tC (.int 1))) tNil)))) tNil)))))) tNext)
  (tRet (tCall (S_Lweb P w K) [] E0 (tCons (tVar 0) (tCons (tOp (rI0 fun i j => .int (i + j)) (tC (.int 2)) (tCall (S_Ltake P w K) [] E0 (tCons (tVar 0) (tCons (tOp (rI0 fun i j => .int (i - j)) (tVar 1) (tC (.int 1))) tNil)))) (tCons (tOp (rI0 fun i j => .int (i + j)) (tC (.int 2)) (tCall (S_Ltake P w K) [] E0 (tCons (tVar 0) (tCons (tC (.int 3)) tNil)))) tNil)))))))))
/-! _law_sight: 0 _law_web_here, 1 _law_room, 2 _law_way_here, 3 _law_found, 4 _law_door, 5 _law_came; level 1 -/
def t_Lsight (P : Program) (w : World) (K : PySem.W.Frag) : TS :=
  (tSeq (tAsg (tLst (tCons (tCB (rLenC K) (tCons (tOp (rIx K) (tVar 0) (tVar 1)) tNil)) tNil)) (gName 3))
  (tSeq (tFor (iSeq K (tVar 2)) (gName 4)
  (tSeq (tIfS (tTest (tOp (rI0 fun i j => .bl (decide (j ≤ i))) (tVar 4) (tCB (rLenC K) (tCons (tOp (rIx K) (tVar 0) (tVar 1)) tNil)))) (tRet (tC .non)) tNext)
  (tSeq (tAsg (tOp (rIx K) (tOp (rIx K) (tVar 0) (tVar 1)) (tVar 4)) (gTup K 2 (gCons (gName 1) (gCons (gName 5) gNil))))
  (tDrop (tBM K "list" rAppend (tVar 3) (tCons (tTup (tCons (tVar 5) (tCons (tCB (rLenC K) (tCons (tOp (rIx K) (tVar 0) (tVar 1)) tNil)) tNil))) tNil))))))
  (tRet (tTup (tCons (tVar 3) (tCons (tVar 1) tNil))))))
/-! _law_fitting: 0 _law_web_here, 1 _law_story, 2 _law_way_here, 3 _law_due, 4 _law_found, 5 _law_room, 6 _law_told, 7 _law_step; level 2 -/
def t_Lfitting (P : Program) (w : World) (K : PySem.W.Frag) : TS :=
  (tSeq (tAsg (tLc (iTup K (tOp (rIx K) (tVar 1) (tC (.int 1)))) (gName 7) tYes (tOp (rIx K) (tVar 7) (tC (.int 0))) [7]) (gName 2))
  (tSeq (tAsg (tOp rCat (tLst (tCons (tOp (rIx K) (tVar 1) (tC (.int 0))) tNil)) (tLc (iTup K (tOp (rIx K) (tVar 1) (tC (.int 1)))) (gName 7) tYes (tCB (rTupC K) (tCons (tSl (rSlA K) (tVar 7) (tPart (tC (.int 1))) tNoPart) tNil)) [7])) (gName 3))
  (tSeq (tAsg (tLst tNil) (gName 4))
  (tSeq (tFor (iRng1 (tCons (tCB (rLenC K) (tCons (tVar 0) tNil)) tNil)) (gName 5)
  (tSeq (tAsg (tCall (S_Lsight P w K) [] E0 (tCons (tVar 0) (tCons (tVar 5) (tCons (tVar 2) tNil)))) (gName 6))
  (tIfS (tAnd (tTest (tOp rNotNC (tVar 6) (tC .non))) (tTest (tOp (rEqD K) (tOp (rIx K) (tVar 6) (tC (.int 0))) (tVar 3)))) (tDrop (tBM K "list" rAppend (tVar 4) (tCons (tTup (tCons (tVar 5) (tCons (tOp (rIx K) (tVar 6) (tC (.int 1))) tNil))) tNil))) tNext)))
  (tRet (tVar 4))))))
/-! _law_least: 0 _law_web_here, 1 _law_begin, 2 _law_there, 3 _law_met, 4 _law_todo, 5 _law_state, 6 _law_way_here, 7 _law_spots, 8 _law_groups, 9 _law_door, 10 _law_ends_here, 11 _law_sights, 12 _law_further, 13 _law_k, 14 _law_group, 15 _law_spot, 16 _law_end, 17 _law_sight_here; level 1 -/
def t_Lleast (P : Program) (w : World) (K : PySem.W.Frag) : TS :=
  (tSeq (tAsg (tDNone P w K (tVar 1) (tC (.bl true))) (gName 3))
  (tSeq (tAsg (tLst (tCons (tTup (tCons (tVar 1) (tCons (tTup tNil) tNil))) tNil)) (gName 4))
  (tSeq (tWhile (tTest (tOp (rNeD K) (tVar 4) (tLst tNil)))
  (tSeq (tAsg (tBM K "list" rPopAt (tVar 4) (tCons (tC (.int 0)) tNil)) (gTup K 2 (gCons (gName 5) (gCons (gName 6) gNil))))
  (tSeq (tAsg (tVar 5) (gTup K 2 (gCons (gName 7) (gCons (gName 8) gNil))))
  (tSeq (tIfS (tB (tCB (rAll K) (tCons (tLc (iEnumT K (tCons (tVar 8) tNil)) (gTup K 2 (gCons (gName 13) (gCons (gName 14) gNil))) tYes (tOp (rEqD K) (tOp (rIx K) (tVar 2) (tVar 13)) (tOp (rIx K) (tVar 2) (tVar 14))) [13, 14]) tNil))) (tRet (tVar 6)) tNext)
  (tFor (iRng1 (tCons (tCB (rMin K) (tCons (tLc (iTup K (tVar 7)) (gName 15) tYes (tCB (rLenC K) (tCons (tOp (rIx K) (tVar 0) (tVar 15)) tNil)) [15]) tNil)) tNil)) (gName 9)
  (tSeq (tAsg (tLc (iTup K (tVar 7)) (gName 15) tYes (tOp (rIx K) (tOp (rIx K) (tVar 0) (tVar 15)) (tVar 9)) [15]) (gName 10))
  (tSeq (tAsg (tLc (iZipM K (tCons (tVar 8) (tCons (tVar 10) tNil))) (gTup K 2 (gCons (gName 14) (gCons (gName 16) gNil))) tYes (tTup (tCons (tVar 14) (tCons (tOp (rIx K) (tVar 16) (tC (.int 1))) (tCons (tCB (rLenC K) (tCons (tOp (rIx K) (tVar 0) (tOp (rIx K) (tVar 16) (tC (.int 0)))) tNil)) tNil)))) [14, 16]) (gName 11))
  (tSeq (tAsg (tTup (tCons (tCB (rTupC K) (tCons (tLc (iList K (tVar 10)) (gName 16) tYes (tOp (rIx K) (tVar 16) (tC (.int 0))) [16]) tNil)) (tCons (tCB (rTupC K) (tCons (tLc (iList K (tVar 11)) (gName 17) tYes (tBM K "list" (rIndexD K) (tVar 11) (tCons (tVar 17) tNil)) [17]) tNil)) tNil))) (gName 12))
  (tIfS (tTest (tOp (rDNnotin P w K) (tVar 12) (tVar 3))) (tSeq (tAsg (tC (.bl true)) (gSub (tVar 3) (tVar 12) (rDNput P w K)))
  (tDrop (tBM K "list" rAppend (tVar 4) (tCons (tTup (tCons (tVar 12) (tCons (tOp (rCatA K) (tVar 6) (tTup (tCons (tVar 9) tNil))) tNil))) tNil)))) tNext)))))))))
  (tRet (tC .non)))))
/-! _law_home: 0 _law_web_here, 1 _law_pairs, 2 _law_goals, 3 _law_met, 4 _law_todo, 5 _law_spots, 6 _law_way_here, 7 _law_door, 8 _law_pair, 9 _law_spot; level 1 -/
def t_Lhome (P : Program) (w : World) (K : PySem.W.Frag) : TS :=
  (tSeq (tAsg (tCB (rTupC K) (tCons (tLc (iList K (tVar 1)) (gName 8) tYes (tOp (rIx K) (tVar 8) (tC (.int 0))) [8]) tNil)) (gName 2))
  (tSeq (tAsg (tDNnew P w) (gName 3))
  (tSeq (tAsg (tLst (tCons (tTup (tCons (tCB (rTupC K) (tCons (tLc (iList K (tVar 1)) (gName 8) tYes (tOp (rIx K) (tVar 8) (tC (.int 1))) [8]) tNil)) (tCons (tTup tNil) tNil))) tNil)) (gName 4))
  (tSeq (tWhile (tTest (tOp (rNeD K) (tVar 4) (tLst tNil)))
  (tSeq (tAsg (tBM K "list" rPopAt (tVar 4) (tCons (tC (.int 0)) tNil)) (gTup K 2 (gCons (gName 5) (gCons (gName 6) gNil))))
  (tSeq (tIfS (tTest (tOp (rEqD K) (tVar 5) (tVar 2))) (tRet (tVar 6)) tNext)
  (tIfS (tTest (tOp (rDNnotin P w K) (tVar 5) (tVar 3))) (tSeq (tAsg (tC (.bl true)) (gSub (tVar 3) (tVar 5) (rDNput P w K)))
  (tFor (iRng1 (tCons (tCB (rMin K) (tCons (tLc (iTup K (tVar 5)) (gName 9) tYes (tCB (rLenC K) (tCons (tOp (rIx K) (tVar 0) (tVar 9)) tNil)) [9]) tNil)) tNil)) (gName 7)
  (tDrop (tBM K "list" rAppend (tVar 4) (tCons (tTup (tCons (tCB (rTupC K) (tCons (tLc (iTup K (tVar 5)) (gName 9) tYes (tOp (rIx K) (tOp (rIx K) (tOp (rIx K) (tVar 0) (tVar 9)) (tVar 7)) (tC (.int 0))) [9]) tNil)) (tCons (tOp (rCatA K) (tVar 6) (tTup (tCons (tVar 7) tNil))) tNil))) tNil))))) tNext))))
  (tRet (tC .non))))))
/-! _law_home_right: 0 _law_web_here, 1 _law_story, 2 _law_pairs, 3 _law_found, 4 _law_first, 5 _law_last; level 5 -/
def t_Lhome_right (P : Program) (w : World) (K : PySem.W.Frag) : TS :=
  (tSeq (tAsg (tCall (S_Lfitting P w K) [] E0 (tCons (tVar 0) (tCons (tVar 1) tNil))) (gName 2))
  (tSeq (tAsg (tCall (S_way_home P w K) [] E0 (tCons (tVar 0) (tCons (tVar 1) tNil))) (gName 3))
  (tSeq (tIfS (tTest (tOp (rNeD K) (tCall (S_stands P w K) [] E0 (tCons (tVar 0) (tCons (tVar 1) tNil))) (tVar 2))) (tRet (tC (.bl false))) tNext)
  (tSeq (tIfS (tTest (tOp (rEqD K) (tVar 2) (tLst tNil))) (tRet (tOp rIsNC (tVar 3) (tC .non))) tNext)
  (tSeq (tIfS (tOr (tNot (tB (tIsTup K (tVar 3)))) (tOr (tTest (tOp (rI0 fun i j => .bl (decide (j < i))) (tCB (rLenC K) (tCons (tVar 3) tNil)) (tCB (rLenC K) (tCons (tOp (rIx K) (tVar 1) (tC (.int 1))) tNil)))) (tTest (tOp (rNeD K) (tVar 3) (tCall (S_Lhome P w K) [] E0 (tCons (tVar 0) (tCons (tVar 2) tNil))))))) (tRet (tC (.bl false))) tNext)
  (tRet (tCB (rAll K) (tCons (tLc (iList K (tVar 2)) (gTup K 2 (gCons (gName 4) (gCons (gName 5) gNil))) tYes (tOp (rEqD K) (tOp (rIx K) (tCall (S_Lsight P w K) [] E0 (tCons (tVar 0) (tCons (tVar 5) (tCons (tVar 3) tNil)))) (tC (.int 1))) (tVar 4)) [4, 5]) tNil))))))))
/-! _law_telling_right: 0 _law_web_here, 1 _law_some, 2 _law_sorts, 3 _law_found, 4 _law_begin, 5 _law_room, 6 _law_doors; level 7 -/
def t_Ltelling_right (P : Program) (w : World) (K : PySem.W.Frag) : TS :=
  (tSeq (tAsg (tCall (S_Lkinds P w K) [] E0 (tCons (tVar 0) tNil)) (gName 2))
  (tSeq (tAsg (tCall (S_telling_way P w K) [] E0 (tCons (tVar 0) (tCons (tCB (rListC K) (tCons (tVar 1) tNil)) tNil))) (gName 3))
  (tSeq (tIfS (tTest (tOp (rI0 fun i j => .bl (decide (i < j))) (tCB (rLenC K) (tCons (tVar 1) tNil)) (tC (.int 2)))) (tRet (tOp (rEqD K) (tVar 3) (tTup tNil))) tNext)
  (tSeq (tAsg (tLc (iList K (tVar 1)) (gName 5) tYes (tCB (rLenC K) (tCons (tOp (rIx K) (tVar 0) (tVar 5)) tNil)) [5]) (gName 4))
  (tSeq (tAsg (tTup (tCons (tCB (rTupC K) (tCons (tVar 1) tNil)) (tCons (tCB (rTupC K) (tCons (tLc (iList K (tVar 4)) (gName 6) tYes (tBM K "list" (rIndexD K) (tVar 4) (tCons (tVar 6) tNil)) [6]) tNil)) tNil))) (gName 4))
  (tRet (tOp (rEqD K) (tVar 3) (tCall (S_Lleast P w K) [] E0 (tCons (tVar 0) (tCons (tVar 4) (tCons (tLc (iList K (tVar 1)) (gName 5) tYes (tOp (rIx K) (tVar 2) (tVar 5)) [5]) tNil)))))))))))
/-! _law_bent: 0 _law_box_here, 1 _law_story, 2 _law_told, 3 _law_k, 4 _law_way_here, 5 _law_came, 6 _law_doors; level 2 -/
def t_Lbent (P : Program) (w : World) (K : PySem.W.Frag) : TS :=
  (tSeq (tAsg (tCB (rListC K) (tCons (tOp (rIx K) (tVar 1) (tC (.int 1))) tNil)) (gName 2))
  (tSeq (tIfS (tTest (tOp (rEqD K) (tVar 2) (tLst tNil))) (tRet (tTup (tCons (tOp (rI0 fun i j => .int (i + j)) (tOp (rIx K) (tVar 1) (tC (.int 0))) (tC (.int 1))) (tCons (tOp (rIx K) (tVar 1) (tC (.int 1))) tNil)))) tNext)
  (tSeq (tAsg (tCall (S_Ltake P w K) [] E0 (tCons (tVar 0) (tCons (tCB (rLenC K) (tCons (tVar 2) tNil)) tNil))) (gName 3))
  (tSeq (tAsg (tOp (rIx K) (tVar 2) (tVar 3)) (gTup K 3 (gCons (gName 4) (gCons (gName 5) (gCons (gName 6) gNil)))))
  (tSeq (tAsg (tOp (rIx K) (tLst (tCons (tTup (tCons (tVar 4) (tCons (tOp (rI0 fun i j => .int (i + j)) (tVar 5) (tC (.int 1))) (tCons (tVar 6) tNil)))) (tCons (tTup (tCons (tVar 4) (tCons (tVar 5) (tCons (tOp (rI0 fun i j => .int (i + j)) (tVar 6) (tC (.int 1))) tNil)))) (tCons (tTup (tCons (tOp (rI0 fun i j => .int (i + j)) (tVar 4) (tC (.int 1))) (tCons (tVar 5) (tCons (tVar 6) tNil)))) tNil)))) (tCall (S_Ltake P w K) [] E0 (tCons (tVar 0) (tCons (tC (.int 3)) tNil)))) (gSub (tVar 2) (tVar 3) rSetL))
  (tRet (tTup (tCons (tOp (rIx K) (tVar 1) (tC (.int 0))) (tCons (tCB (rTupC K) (tCons (tVar 2) tNil)) tNil)))))))))
/-! law: 0 _law_script, 1 _law_cells, 2 _law_k, 3 _law_box_here, 4 _law_web_here, 5 _law_turn_here, 6 _law_room, 7 _law_story, 8 _law_order; level 8 -/
def t_law (P : Program) (w : World) (K : PySem.W.Frag) : TS :=
  (tSeq (tAsg (tCall (S_Lfolded P w K) [] E0 (tCons (tVar 0) (tCons (tC (.int 5)) tNil))) (gName 1))
  (tSeq (tFor (iRng1 (tCons (tOp (rI0 fun i j => .int (i + j)) (tCB rMin2C (tCons (tC (.int 5)) (tCons (tCB (rLenC K) (tCons (tVar 0) tNil)) tNil))) (tC (.int 1))) tNil)) (gName 2)
  (tSeq (tAsg (tCall (S_Lbox P w K) [] E0 (tCons (tVar 1) (tCons (tVar 2) tNil))) (gName 3))
  (tSeq (tAsg (tCall (S_Lsmall_web P w K) [] E0 (tCons (tVar 3) (tCons (tC (.int 6)) tNil))) (gName 4))
  (tFor (iRng1 (tCons (tC (.int 3)) tNil)) (gName 5)
  (tSeq (tAsg (tCall (S_Ltake P w K) [] E0 (tCons (tVar 3) (tCons (tCB (rLenC K) (tCons (tVar 4) tNil)) tNil))) (gName 6))
  (tSeq (tAsg (tCall (S_story_of P w K) [] E0 (tCons (tVar 4) (tCons (tVar 6) (tCons (tCall (S_Lway P w K) [] E0 (tCons (tVar 3) (tCons (tVar 4) (tCons (tVar 6) (tCons (tC (.int 8)) tNil))))) tNil)))) (gName 7))
  (tSeq (tIfS (tOr (tNot (tB (tCall (S_Lhome_right P w K) [] E0 (tCons (tVar 4) (tCons (tVar 7) tNil))))) (tNot (tB (tCall (S_Lhome_right P w K) [] E0 (tCons (tVar 4) (tCons (tCall (S_Lbent P w K) [] E0 (tCons (tVar 3) (tCons (tVar 7) tNil))) tNil)))))) (tRet (tC (.bl false))) tNext)
  (tSeq (tAsg (tCB (rListC K) (tCons (tCall (S_Lturn P w K) [] E0 (tCons (tVar 3) (tCons (tCB (rLenC K) (tCons (tVar 4) tNil)) (tCons (tC (.bl false)) tNil)))) tNil)) (gName 8))
  (tIfS (tNot (tB (tCall (S_Ltelling_right P w K) [] E0 (tCons (tVar 4) (tCons (tSl (rSlL K) (tVar 8) tNoPart (tPart (tCall (S_Ltake P w K) [] E0 (tCons (tVar 3) (tCons (tOp (rIx K) (tLst (tCons (tC (.int 5)) (tCons (tC (.int 4)) tNil))) (tCB rIntC (tCons (tOp (rI0 fun i j => .bl (decide (j < i))) (tCB (rLenC K) (tCons (tVar 4) tNil)) (tC (.int 5))) tNil))) tNil))))) tNil))))) (tRet (tC (.bl false))) tNext)))))))))
  (tRet (tC (.bl true)))))
end Wk
/-! WP0 -/
/-! Helpers for the readings. -/
namespace Wk
open PySem L2 Evl
abbrev st0 (n : Nat) (vs : List V) : L2.St := vs.map some ++ List.replicate (n - vs.length) none
abbrev Dd (Q : VK) : Ends := { nx := fun _ J => Q .non J, rt := Q }
section
variable {K : PySem.W.Frag} {σ : L2.St} {G H : Hp} {ta tb te : TE} {vs : List V} {a b c d : PyData}
theorem dps1 (h : DpAll K G vs [a]) : ∃ x, vs = [x] ∧ Dp K G x a := by
  cases h with
  | cons h t => cases t; exact ⟨_, rfl, h⟩
theorem dps2 (h : DpAll K G vs [a, b]) : ∃ x y, vs = [x, y] ∧ Dp K G x a ∧ Dp K G y b := by
  cases h with
  | cons h t =>
    obtain ⟨y, rfl, h2⟩ := dps1 t
    exact ⟨_, _, rfl, h, h2⟩
theorem dps3 (h : DpAll K G vs [a, b, c]) : ∃ x y z, vs = [x, y, z] ∧ Dp K G x a ∧ Dp K G y b ∧ Dp K G z c := by
  cases h with
  | cons h t =>
    obtain ⟨y, z, rfl, h2, h3⟩ := dps2 t
    exact ⟨_, _, _, rfl, h, h2, h3⟩
theorem spD_len {R : List PyData → PyData → Prop} {Q : VK} {E : XK} {n : Nat} (h : spD K R vs H Q E) (hR : ∀ ds d, R ds d → ds.length = n) : vs.length = n := by
  obtain ⟨G, ds, d, _, hd, r, _⟩ := h
  rw [dps_len hd, hR ds d r]
theorem ed_room {w : Web} {r : Nat} (hw : Ed K ta σ G (eWeb w)) (hr : Ed K tb σ G (nI r)) (h : r < w.length) : Ed K (tOp (rIx K) ta tb) σ G (eRoom (w.getD r [])) := ed_ixTn hw hr (web_get h)
theorem ed_door {l : List (Nat × Nat)} {i : Nat} {p : Nat × Nat} (he : Ed K ta σ G (eRoom l)) (hd : Ed K tb σ G (nI i)) (h : l[i]? = some p) : Ed K (tOp (rIx K) ta tb) σ G (eEnd p) := ed_ixTn he hd (room_get h)
theorem ed_fst {p : Nat × Nat} (he : Ed K ta σ G (eEnd p)) : Ed K (tOp (rIx K) ta (tC (.int 0))) σ G (nI p.1) := ed_ixTn (j := 0) he ed_int rfl
theorem ed_snd {p : Nat × Nat} (he : Ed K ta σ G (eEnd p)) : Ed K (tOp (rIx K) ta (tC (.int 1))) σ G (nI p.2) := ed_ixTn (j := 1) he ed_int rfl
theorem ed_degR {w : Web} {r : Nat} (he : Ed K ta σ G (eRoom (w.getD r []))) : Ed K (tCB (rLenC K) (tCons ta tNil)) σ G (nI (deg w r)) := by
  have := ed_lenT he
  rw [room_len] at this
  exact this
theorem ed_lenW {w : Web} (he : Ed K ta σ G (eWeb w)) : Ed K (tCB (rLenC K) (tCons ta tNil)) σ G (nI w.length) := by
  have := ed_lenT he
  rw [List.length_map] at this
  exact this
theorem dp_nI {v : V} {n : Nat} (h : Dp K G v (nI n)) : v = .int (n : Int) := dp_int_inv h
theorem dp_of_nI (n : Nat) : Dp K G (.int (n : Int)) (nI n) := .int _
theorem ed_nVar {i n : Nat} (h : σ[i]? = some (some (.int (n : Int)))) : Ed K (tVar i) σ G (nI n) := ed_var h (dp_of_nI n)
/-- a target of names takes a tuple apart -/
theorem ed_set2 {D : Ends} {i j : Nat} {d1 d2 : PyData} (h : Ed K te σ G (.tuple [d1, d2])) (e : Ex G H) (k : ∀ v w G1 H1, Nw G H G1 H1 → Dp K G1 v d1 → Dp K G1 w d2 → D.nx ((σ.set i (some v)).set j (some w)) H1) :
    tAsg te (gTup K 2 (gCons (gName i) (gCons (gName j) gNil))) D σ H := h H e _ fun v G1 H1 n1 hv => gt2n hv n1.gh fun a b ha hb => k a b G1 H1 n1 ha hb
theorem Nw.tr {G H G1 H1 G2 H2 : Hp} (a : Nw G H G1 H1) (b : Nw G1 H1 G2 H2) : Nw G H G2 H2 := a.trans b
end
end Wk
namespace Wk
open PySem L2 Evl
section
variable {K : PySem.W.Frag} {σ : L2.St} {G H : Hp} {ta tb te : TE} {vs : List V} {a b c d : PyData}
theorem qd_set2 {tz : TS} {D : Ends} {i j : Nat} {d1 d2 : PyData} (h : Ed K te σ G (.tuple [d1, d2])) (e : Ex G H) (k : ∀ v w G1 H1, Nw G H G1 H1 → Dp K G1 v d1 → Dp K G1 w d2 → tz D ((σ.set i (some v)).set j (some w)) H1) :
    tSeq (tAsg te (gTup K 2 (gCons (gName i) (gCons (gName j) gNil)))) tz D σ H := h H e _ fun v G1 H1 n1 hv => gt2n hv n1.gh fun a b ha hb => k a b G1 H1 n1 ha hb
theorem eSt_inj {a b : St2} (h : eSt a = eSt b) : a = b := by
  unfold eSt at h
  simp only [PyData.tuple.injEq, List.cons.injEq, and_true] at h
  exact Prod.ext (eNs_inj h.1) (eNs_inj h.2)
theorem drop_cons {α : Type} {p : List α} {i : Nat} {d : α} (h : p[i]? = some d) : p.drop i = d :: p.drop (i + 1) := by
  rw [← List.getElem_cons_drop (List.getElem?_eq_some_iff.mp h).1, (List.getElem?_eq_some_iff.mp h).2]
theorem take_snoc {α : Type} {p : List α} {i : Nat} {d : α} (h : p[i]? = some d) : p.take (i + 1) = p.take i ++ [d] := by
  rw [List.take_add_one, h]
  rfl
theorem range_some {n i a : Nat} (h : (List.range n)[i]? = some a) : a = i ∧ i < n := by
  have := (List.getElem?_eq_some_iff.mp h).1
  rw [List.length_range] at this
  rw [List.getElem?_range this] at h
  exact ⟨(Option.some.inj h).symm, this⟩
/-- a list that a loop fills: it stands at l, outside the region, with data ds -/
structure Gr (K : PySem.W.Frag) (G H : Hp) (l : Addr) (ds : List PyData) (xs : List V) : Prop where
  out : G l = none
  at_ : H l = some (.lst xs)
  ok : DpAll K G xs ds
theorem Gr.len {l : Addr} {ds : List PyData} {xs : List V} (g : Gr K G H l ds xs) : xs.length = ds.length := dps_len g.ok
theorem Gr.nw {G1 H1 : Hp} {l : Addr} {ds : List PyData} {xs : List V} (g : Gr K G H l ds xs) (n : Nw G H G1 H1) : Gr K G1 H1 l ds xs := ⟨(n.keep g.out g.at_).1, (n.keep g.out g.at_).2, dps_ex n.gg g.ok⟩
theorem Gr.new {l : Addr} (e : Ex G H) (h : H l = none) : Gr K G (upd H l (.lst [])) l [] [] := ⟨fresh_back e h, upd_same, .nil⟩
theorem Gr.push {G1 H1 : Hp} {l : Addr} {ds : List PyData} {xs : List V} {v : V} {d : PyData} (g : Gr K G H l ds xs) (n : Nw G H G1 H1) (hv : Dp K G1 v d) : Gr K G1 (upd H1 l (.lst (xs ++ [v]))) l (ds ++ [d]) (xs ++ [v]) :=
  ⟨(n.keep g.out g.at_).1, upd_same, dps_app (dps_ex n.gg g.ok) (dps_one hv)⟩
/-- the filled list joins the region -/
theorem Gr.join {l : Addr} {ds : List PyData} {xs : List V} (g : Gr K G H l ds xs) (e : Ex G H) : Ex G (upd G l (.lst xs)) ∧ Ex (upd G l (.lst xs)) H ∧ Dp K (upd G l (.lst xs)) (.ref l) (.list ds) :=
  ⟨Ex.new g.out, fun a u q => by
    by_cases ha : a = l
    · subst ha; rw [upd_same] at q; rw [g.at_]; exact q
    · rw [upd_ne ha] at q; exact e a u q, .lst (sq_of upd_same) (dps_ex (Ex.new g.out) g.ok)⟩
/-- over a base heap H0 that knows nothing of l -/
theorem Nw.mut {G0 H0 G H : Hp} (n : Nw G0 H0 G H) {l : Addr} {o : HO} (h0 : H0 l = none) (hg : G l = none) : Nw G0 H0 G (upd H l o) := ⟨n.gg, Ex.mut n.gh hg, Ex.mut n.hh h0, n.fr⟩
theorem Nw.join {G0 H0 G H : Hp} (n : Nw G0 H0 G H) {l : Addr} {ds : List PyData} {xs : List V} (h0 : H0 l = none) (g : Gr K G H l ds xs) : Nw G0 H0 (upd G l (.lst xs)) H := n.add g.out h0 g.at_
theorem ed_catA {ds es : List PyData} (ha : Ed K ta σ G (.tuple ds)) (hb : Ed K tb σ G (.tuple es)) (hz : ds.length + es.length ≤ 16000000) : Ed K (tOp (rCatA K) ta tb) σ G (.tuple (ds ++ es)) :=
  ed_op ha hb fun x y G1 _ hx hy => by
    obtain ⟨a, xs, rfl, hs, hd⟩ := dp_tup_inv hx
    obtain ⟨b, ys, rfl, ht, he⟩ := dp_tup_inv hy
    have l1 := dps_len hd
    have l2 := dps_len he
    refine fun H e Q q => ⟨a, b, xs, ys, rfl, rfl, ex_t e hs, ex_t e ht, sz8 (by omega), fun z => ?_, fun _ z => ?_, fun _ _ p hp => ?_⟩
    · subst z
      have : ds = [] := List.length_eq_zero_iff.mp (by rw [← l1]; rfl)
      subst this
      exact q _ _ _ (Nw.refl e) hy
    · subst z
      have : es = [] := List.length_eq_zero_iff.mp (by rw [← l2]; rfl)
      subst this
      rw [List.append_nil] at q
      exact q _ _ _ (Nw.refl e) hx
    · exact q _ _ _ (Nw.new e hp) (.tup (st_of upd_same) (dps_ex (Ex.new (fresh_back e hp)) (dps_app hd he)))
theorem cutD_1 (x : PyData) (xs : List PyData) : cutD (x :: xs) (some 1) none = xs := by
  unfold cutD
  rw [show HT.sIx (x :: xs).length 0 (some 1) = min 1 (x :: xs).length from HT.sIx_nat (x :: xs).length 0 1, HT.sIx_none, List.length_cons]
  rw [show min 1 (xs.length + 1) = 1 by omega, List.drop_succ_cons, List.drop_zero, Nat.add_sub_cancel, List.take_length]
theorem cutD_to (xs : List PyData) (n : Nat) : cutD xs none (some (n : Int)) = xs.take n := by
  unfold cutD
  rw [HT.sIx_none, show HT.sIx xs.length xs.length (some (n : Int)) = min n xs.length from HT.sIx_nat xs.length xs.length n, List.drop_zero, Nat.sub_zero]
  by_cases h : n ≤ xs.length
  · rw [Nat.min_eq_left h]
  · rw [Nat.min_eq_right (by omega), List.take_length, List.take_of_length_le (by omega)]
theorem ed_sl1 {x : PyData} {ds : List PyData} (h : Ed K te σ G (.tuple (x :: ds))) : Ed K (tSl (rSlA K) te (tPart (tC (.int 1))) tNoPart) σ G (.tuple ds) := by
  have := ed_slT h (eo_int (ed_int (i := 1))) (eo_non (K := K))
  rw [cutD_1] at this
  exact this
theorem gn1 {i : Nat} {v : V} {Q : L2.St → Hp → Prop} (k : Q (σ.set i (some v)) H) : gName i v σ H Q := k
end
end Wk
/-! WP1 -/
namespace Wk
open PySem L2 Evl
section
variable {P : Program} {w : World} {K : PySem.W.Frag} {vs : List V} {H : Hp} {Q : VK} {E : XK}
theorem rd_gone (h : S_gone P w K vs H Q E) : t_gone P w K (Dd Q) (st0 5 vs) H := by
  obtain ⟨G, ds, d, e, hd, ⟨u, r, p, W, hr, hp, rfl, rfl⟩, k⟩ := h
  obtain ⟨v1, v2, v3, rfl, h1, h2, h3⟩ := dps3 hd
  obtain rfl := dp_nI h2
  show t_gone P w K (Dd Q) [some v1, some (.int (r : Int)), some v3, none, none] H
  unfold t_gone
  refine qd_asg (K := K) ed_non e fun v G1 H1 n1 hv => ?_
  refine qd_for p nI (ei_tup (ed_var (i := 2) rfl (dp_ex n1.gg h3))) n1.gh
    (fun i G2 σ2 H2 => ∃ (r' : Nat) (c : Option Nat) (vc : V) (y : Option V), σ2 = [some v1, some (.int (r' : Int)), some v3, some vc, y] ∧ r' < u.length ∧ Dp K G2 vc (eCame c) ∧ gon u r none p = gon u r' c (p.drop i) ∧ Nw G H G2 H2)
    (fun G2 H2 n2 => ⟨r, none, v, none, rfl, hr, dp_ex n2.gg hv, rfl, n1.tr n2⟩) ?_ ?_
  · rintro G2 i d G3 σ3 H3 e2 hi e3 e4 ⟨r', c, vc, y, rfl, hr', hc, hg, n3⟩ x G4 H4 n4 hx
    obtain rfl := dp_nI hx
    show tSeq _ _ _ [some v1, some (.int (r' : Int)), some v3, some vc, some (.int (d : Int))] H4
    have m4 := n3.tr n4
    have hdr : p.drop i = d :: p.drop (i + 1) := by
      rw [← List.getElem_cons_drop (List.getElem?_eq_some_iff.mp hi).1, (List.getElem?_eq_some_iff.mp hi).2]
    refine qd_when (et_test (ed_ge (ed_nVar rfl) (ed_degR (ed_room (ed_var (i := 0) rfl (dp_ex m4.gg h1)) (ed_nVar rfl) hr')))) n4.gh (fun hb G5 H5 n5 => ?_) (fun hb G5 H5 n5 => ?_)
    · have hle : deg u r' ≤ d := by have := of_decide_eq_true hb; omega
      refine sd_ret (K := K) ed_non n5.gh fun v6 G6 H6 n6 h6 => k v6 G6 H6 ((m4.tr n5).tr n6) ?_
      rw [hg, hdr]
      simp only [gon, door_none hle]
      exact h6
    · have hlt : d < deg u r' := by have := of_decide_eq_false hb; omega
      obtain ⟨q, hq⟩ := door_lt.mp hlt
      have m5 := m4.tr n5
      refine ed_set2 (d1 := nI q.1) (d2 := nI q.2) (ed_door (ed_room (ed_var (i := 0) rfl (dp_ex m5.gg h1)) (ed_nVar rfl) hr') (ed_nVar rfl) hq) n5.gh fun a b G6 H6 n6 ha hb => ?_
      obtain rfl := dp_nI ha
      refine ⟨G6, ((e3.trans n4.gg).trans n5.gg).trans n6.gg, n6.gh, q.1, some q.2, b, _, rfl, W.inr r' d q.1 q.2 hq, hb, ?_, m5.tr n6⟩
      rw [hg, hdr]
      simp only [gon, hq]
  · rintro G2 σ2 H2 e2 e3 ⟨r', c, vc, y, rfl, hr', hc, hg, n2⟩
    refine sd_ret (ed_tup (ea_cons (ed_nVar (i := 1) rfl) (ea_cons (ed_var (i := 3) rfl hc) ea_nil))) e3 fun v6 G6 H6 n6 h6 => k v6 G6 H6 (n2.tr n6) ?_
    rw [hg, List.drop_length]
    exact h6
theorem rd_seen (h : S_seen P w K vs H Q E) : t_seen P w K (Dd Q) (st0 6 vs) H := by
  obtain ⟨G, ds, d, e, hd, ⟨u, r, p, W, hr, hp, rfl, rfl⟩, k⟩ := h
  obtain ⟨v1, v2, v3, rfl, h1, h2, h3⟩ := dps3 hd
  obtain rfl := dp_nI h2
  show t_seen P w K (Dd Q) [some v1, some (.int (r : Int)), some v3, none, none, none] H
  unfold t_seen
  refine qd_asgF (ef_lst (ea_cons (ed_degR (ed_room (ed_var (i := 0) rfl h1) (ed_nVar rfl) hr)) ea_nil)) e fun l xs G1 H1 n1 o1 f1 at1 hv => ?_
  refine qd_for p nI (ei_tup (ed_var (i := 2) rfl (dp_ex n1.gg h3))) n1.gh
    (fun i G2 σ2 H2 => ∃ (r' : Nat) (y z : Option V) (done : List (Nat × Nat)) (xs : List V), σ2 = [some v1, some (.int (r' : Int)), some v3, some (.ref l), y, z] ∧ r' < u.length ∧ Gr K G2 H2 l (nI (deg u r) :: done.map eEnd) xs ∧
      sees u r p = (sees u r' (p.drop i)).map (done ++ ·) ∧ done.length = i ∧ Nw G H G2 H2)
    (fun G2 H2 n2 => ⟨r, none, none, [], xs, rfl, hr, (Gr.mk o1 at1 hv).nw n2, by simp, rfl, n1.tr n2⟩) ?_ ?_
  · rintro G2 i d G3 σ3 H3 e2 hi e3 e4 ⟨r', y, z, done, xs, rfl, hr', g, hg, hdl, n3⟩ x G4 H4 n4 hx
    obtain rfl := dp_nI hx
    show tSeq _ _ _ [some v1, some (.int (r' : Int)), some v3, some (.ref l), some (.int (d : Int)), z] H4
    have m4 := n3.tr n4
    refine qd_when (et_test (ed_ge (ed_nVar rfl) (ed_degR (ed_room (ed_var (i := 0) rfl (dp_ex m4.gg h1)) (ed_nVar rfl) hr')))) n4.gh (fun hb G5 H5 n5 => ?_) (fun hb G5 H5 n5 => ?_)
    · have hle : deg u r' ≤ d := by have := of_decide_eq_true hb; omega
      refine sd_ret (K := K) ed_non n5.gh fun v6 G6 H6 n6 h6 => k v6 G6 H6 ((m4.tr n5).tr n6) ?_
      rw [hg, drop_cons hi]
      simp only [sees, door_none hle]
      exact h6
    · have hlt : d < deg u r' := by have := of_decide_eq_false hb; omega
      obtain ⟨q, hq⟩ := door_lt.mp hlt
      have m5 := m4.tr n5
      refine qd_set2 (d1 := nI q.1) (d2 := nI q.2) (ed_door (ed_room (ed_var (i := 0) rfl (dp_ex m5.gg h1)) (ed_nVar rfl) hr') (ed_nVar rfl) hq) n5.gh fun a b G6 H6 n6 ha hb => ?_
      obtain rfl := dp_nI ha
      show tDrop _ _ [some v1, some (.int (q.1 : Int)), some v3, some (.ref l), some (.int (d : Int)), some b] H6
      have hq1 := W.inr r' d q.1 q.2 hq
      have hil := (List.getElem?_eq_some_iff.mp hi).1
      have m6 := m5.tr n6
      have g6 := ((g.nw n4).nw n5).nw n6
      refine sd_app (j := 3) rfl g6.out g6.at_ (by rw [g6.len]; simp; omega) (d := eEnd (q.2, deg u q.1)) (ed_tup (ea_cons (ed_var (i := 5) rfl hb) (ea_cons (ed_degR (ed_room (ed_var (i := 0) rfl (dp_ex m6.gg h1)) (ed_nVar rfl) hq1)) ea_nil))) n6.gh fun v7 G7 H7 n7 h7 o7 e7 => ?_
      refine ⟨G7, ((((e3.trans n4.gg).trans n5.gg).trans n6.gg).trans n7.gg), e7, q.1, some (.int (d : Int)), some b, done ++ [(q.2, deg u q.1)], xs ++ [v7], rfl, hq1, ?_, ?_, by rw [List.length_append, hdl]; rfl, (m6.tr n7).mut f1 o7⟩
      · have := g6.push n7 h7
        rw [List.map_append]
        exact this
      · rw [hg, drop_cons hi]
        simp only [sees, hq]
        cases sees u q.1 (p.drop (i + 1)) with
        | none => rfl
        | some l => simp
  · rintro G2 σ2 H2 e2 e3 ⟨r', y, z, done, xs, rfl, hr', g, hg, hdl, n2⟩
    obtain ⟨j1, j2, j3⟩ := g.join e3
    refine sd_ret (ed_tupOfL (ed_var (i := 3) rfl j3)) j2 fun v6 G6 H6 n6 h6 => k v6 G6 H6 ((n2.join f1 g).tr n6) ?_
    rw [hg, List.drop_length]
    simp only [sees, Option.map_some, List.append_nil]
    exact h6
end
end Wk
/-! WP2 -/
namespace Wk
open PySem L2 Evl
section
variable {P : Program} {w : World} {K : PySem.W.Frag} {vs : List V} {H : Hp} {Q : VK} {E : XK}
theorem rd_story_way (h : S_story_way P w K vs H Q E) : t_story_way P w K (Dd Q) (st0 2 vs) H := by
  obtain ⟨G, ds, d, e, hd, ⟨st, hl, rfl, rfl⟩, k⟩ := h
  obtain ⟨v1, rfl, h1⟩ := dps1 hd
  show t_story_way P w K (Dd Q) [some v1, none] H
  unfold t_story_way
  refine sd_ret (ed_tupOfL (ed_lcm st.2 eStep (fun s => nI s.1) (ei_tup (ed_ixTn (j := 1) (ed_var (i := 0) rfl h1) ed_int rfl)) (by omega) fun i a ha x G1 H1 e1 e2 hx Q q => q _ rfl (ed_ixTn (j := 0) (ed_var (i := 1) rfl hx) ed_int rfl))) e fun v G1 H1 n hv => k v G1 H1 n ?_
  unfold eNs stWay
  rw [List.map_map]
  exact hv
theorem rd_story_sight (h : S_story_sight P w K vs H Q E) : t_story_sight P w K (Dd Q) (st0 2 vs) H := by
  obtain ⟨G, ds, d, e, hd, ⟨st, hl, rfl, rfl⟩, k⟩ := h
  obtain ⟨v1, rfl, h1⟩ := dps1 hd
  show t_story_sight P w K (Dd Q) [some v1, none] H
  unfold t_story_sight
  refine sd_ret (ed_catA (ed_tup (ea_cons (ed_ixTn (j := 0) (ed_var (i := 0) rfl h1) ed_int rfl) ea_nil))
    (ed_tupOfL (ed_lcm st.2 eStep (fun s => eEnd s.2) (ei_tup (ed_ixTn (j := 1) (ed_var (i := 0) rfl h1) ed_int rfl)) (by omega) fun i a ha x G1 H1 e1 e2 hx Q q => q _ rfl (ed_tupOfT (ed_sl1 (ed_var (i := 1) rfl hx))))) (by simp; omega)) e fun v G1 H1 n hv => k v G1 H1 n ?_
  show Dp K G1 v (.tuple (nI st.1 :: (stSight st).map eEnd))
  unfold stSight
  rw [List.map_map]
  exact hv
theorem sees_len {w : Web} : ∀ {p : List Nat} {r : Nat} {l : List (Nat × Nat)}, sees w r p = some l → l.length = p.length
  | [], r, l, h => by simp only [sees] at h; cases h; rfl
  | d :: p, r, l, h => by
    simp only [sees] at h
    cases q : door w r d with
    | none => rw [q] at h; cases h
    | some e =>
      rw [q] at h
      dsimp only at h
      cases q2 : sees w e.1 p with
      | none => rw [q2] at h; cases h
      | some l2 =>
        rw [q2] at h
        cases h
        rw [List.length_cons, List.length_cons, sees_len q2]
theorem pl_eSeen {n : Nat} (k : Nat) (o : Option (List (Nat × Nat))) : Pl (n + 2) (eSeen k o) := by
  cases o with
  | none => exact pl_none
  | some l =>
    refine pl_tup fun d hd => ?_
    rcases List.mem_cons.mp hd with rfl | hd
    · exact pl_nI
    · exact pl_map l (fun x _ => pl_eEnd x) d hd
theorem eSeen_inj {a b : Nat} {x y : Option (List (Nat × Nat))} (h : eSeen a x = eSeen b y) : x = y ∧ (x ≠ none → a = b) := by
  cases x with
  | none => cases y with
    | none => exact ⟨rfl, fun z => absurd rfl z⟩
    | some y => simp [eSeen] at h
  | some x => cases y with
    | none => simp [eSeen] at h
    | some y =>
      simp only [eSeen, PyData.tuple.injEq, List.cons.injEq] at h
      rw [map_inj (fun _ _ => eEnd_inj) h.2]
      exact ⟨rfl, fun _ => nI_inj h.1⟩
theorem rd_fits (h : S_fits P w K vs H Q E) : t_fits P w K (Dd Q) (st0 3 vs) H := by
  obtain ⟨G, ds, d, e, hd, ⟨u, r, st, W, hr, hl, rfl, rfl⟩, k⟩ := h
  obtain ⟨v1, v2, v3, rfl, h1, h2, h3⟩ := dps3 hd
  obtain rfl := dp_nI h2
  show t_fits P w K (Dd Q) [some v1, some (.int (r : Int)), some v3] H
  unfold t_fits
  have e1 : Ed K (tCall (S_story_way P w K) [] E0 (tCons (tVar 2) tNil)) [some v1, some (.int (r : Int)), some v3] G (eNs (stWay st)) := ed_callD (ea_cons (ed_var (i := 2) rfl h3) ea_nil) ⟨st, hl, rfl, rfl⟩
  refine sd_ret (ed_eqD (ed_callD (ea_cons (ed_var (i := 0) rfl h1) (ea_cons (ed_nVar (i := 1) rfl) (ea_cons e1 ea_nil))) ⟨u, r, stWay st, W, hr, by unfold stWay; rw [List.length_map]; exact hl, rfl, rfl⟩)
    (ed_callD (ea_cons (ed_var (i := 2) rfl h3) ea_nil) ⟨st, hl, rfl, rfl⟩) (pl_shaped (pl_eSeen (n := 0) _ _)) (pl_shaped (pl_eSeen (n := 0) _ _))) e fun v G1 H1 n hv => k v G1 H1 n ?_
  have : PyData.eqv (eSeen (deg u r) (sees u r (stWay st))) (eSeen st.1 (some (stSight st))) = fitsM u r st := by
    unfold fitsM
    by_cases hc : deg u r = st.1 ∧ sees u r (stWay st) = some (stSight st)
    · rw [decide_eq_true hc]
      exact eqv_same (pl_eSeen (n := 0) _ _) (pl_eSeen (n := 0) _ _) (by rw [hc.1, hc.2])
    · rw [decide_eq_false hc]
      refine eqv_other (pl_eSeen (n := 0) _ _) (pl_eSeen (n := 0) _ _) fun z => hc ?_
      have := eSeen_inj z
      exact ⟨this.2 (by rw [this.1]; simp), this.1⟩
  rw [this] at hv
  exact hv
theorem fits_gon {u : Web} {r : Nat} {st : Story} (h : fitsM u r st = true) : ∃ g, gon u r none (stWay st) = some g := by
  have h2 := (of_decide_eq_true h).2
  have : (go1 u r (stWay st)).isSome = true := by rw [← sees_gon, h2]; rfl
  unfold go1 at this
  rw [Option.isSome_map] at this
  exact Option.isSome_iff_exists.mp this
theorem rd_stands (h : S_stands P w K vs H Q E) : t_stands P w K (Dd Q) (st0 4 vs) H := by
  obtain ⟨G, ds, d, e, hd, ⟨u, st, W, hl, rfl, rfl⟩, k⟩ := h
  obtain ⟨v1, v2, rfl, h1, h2⟩ := dps2 hd
  show t_stands P w K (Dd Q) [some v1, some v2, none, none] H
  unfold t_stands
  refine qd_asg (ed_callD (ea_cons (ed_var (i := 1) rfl h2) ea_nil) ⟨st, hl, rfl, rfl⟩) e fun v3 G1 H1 n1 h3 => ?_
  show tRet _ _ [some v1, some v2, some v3, none] H1
  have hw : (stWay st).length ≤ 1000 := by unfold stWay; rw [List.length_map]; exact hl
  refine sd_ret (ed_lc (List.range u.length) (fun i => .int (i : Int)) (fun r => if fitsM u r st then (gon u r none (stWay st)).map fun g => eEnd (r, g.1) else none)
    (ei_rng1 (ed_lenW (ed_var (i := 0) rfl (dp_ex n1.gg h1))) (by have := W.few; omega)) (by rw [List.length_range]; have := W.few; omega) fun i r hi x G2 H2 e1 e2 hx Q q => ?_) n1.gh fun v G2 H2 n2 hv => k v G2 H2 (n1.tr n2) ?_
  · obtain ⟨rfl, hr⟩ := range_some hi
    obtain rfl := dp_int_inv hx
    have g1 := dp_ex (n1.gg.trans e1) h1
    have g2 := dp_ex (n1.gg.trans e1) h2
    have g3 := dp_ex e1 h3
    refine q _ rfl ?_ fun d hd => ?_
    · refine et_eq (et_B (ed_callD (ea_cons (ed_var (i := 0) rfl g1) (ea_cons (ed_nVar (i := 3) rfl) (ea_cons (ed_var (i := 1) rfl g2) ea_nil))) ⟨u, r, st, W, hr, hl, rfl, rfl⟩)) ?_
      cases hf : fitsM u r st with
      | false => simp
      | true =>
        obtain ⟨g, hg⟩ := fits_gon hf
        simp [hg]
    · cases hf : fitsM u r st with
      | false => rw [hf] at hd; simp at hd
      | true =>
        obtain ⟨g, hg⟩ := fits_gon hf
        rw [hf, hg] at hd
        simp only [if_true, Option.map_some, Option.some.injEq] at hd
        subst hd
        have e3 : Ed K (tCall (S_gone P w K) [] E0 (tCons (tVar 0) (tCons (tVar 3) (tCons (tVar 2) tNil)))) ((wipe [some v1, some v2, some v3, none] [3]).set 3 (some (.int (r : Int)))) G2 (.tuple [nI g.1, eCame g.2]) :=
          ed_is (ed_callD (ea_cons (ed_var (i := 0) rfl g1) (ea_cons (ed_nVar (i := 3) rfl) (ea_cons (ed_var (i := 2) rfl g3) ea_nil))) ⟨u, r, stWay st, W, hr, hw, rfl, rfl⟩) (by rw [hg]; rfl)
        exact ed_tup (ea_cons (ed_nVar (i := 3) rfl) (ea_cons (ed_ixTn (j := 0) e3 ed_int rfl) ea_nil))
  · unfold standsM
    rw [List.map_filterMap]
    have : (fun r => if fitsM u r st = true then (gon u r none (stWay st)).map fun g => eEnd (r, g.1) else none) = fun r => Option.map eEnd (if fitsM u r st = true then (gon u r none (stWay st)).map fun g => (r, g.1) else none) := by
      funext r
      split
      · rw [Option.map_map]; rfl
      · rfl
    rw [← this]
    exact hv
theorem rd_doors_of_all (h : S_doors_of_all P w K vs H Q E) : t_doors_of_all P w K (Dd Q) (st0 3 vs) H := by
  obtain ⟨G, ds, d, e, hd, ⟨u, sp, W, hne, hl, hlt, rfl, rfl⟩, k⟩ := h
  obtain ⟨v1, v2, rfl, h1, h2⟩ := dps2 hd
  show t_doors_of_all P w K (Dd Q) [some v1, some v2, none] H
  unfold t_doors_of_all
  have hm := minDeg_mem (w := u) hne
  refine sd_ret (ed_min (ns := (sp.map (deg u)).map fun n : Nat => (n : Int)) (m := (minDeg u sp : Int)) (ed_is (ed_lcm sp nI (fun s => nI (deg u s)) (ei_tup (ed_var (i := 1) rfl h2)) (by omega) fun i a ha x G1 H1 e1 e2 hx Q q => ?_) ?_) ?_ ?_) e k
  · obtain rfl := dp_nI hx
    exact q _ rfl (ed_degR (ed_room (ed_var (i := 0) rfl (dp_ex e1 h1)) (ed_nVar (i := 2) rfl) (hlt a (List.mem_of_getElem? ha))))
  · rw [List.map_map, List.map_map]
    rfl
  · exact List.mem_map.mpr ⟨_, hm.1, rfl⟩
  · intro y hy
    obtain ⟨z, hz, rfl⟩ := List.mem_map.mp hy
    exact Int.ofNat_le.mpr (hm.2 z hz)
end
end Wk
/-! WMp -/
/-! Dicts over data: what they hold, asked and filled. -/
namespace Wk
open PySem L2 Evl
/-- a heap less one address -/
def del (G : Hp) (m : Addr) : Hp := fun a => if a = m then none else G a
theorem del_same {G : Hp} {m : Addr} : del G m m = none := by unfold del; rw [if_pos rfl]
theorem del_ne {G : Hp} {m a : Addr} (h : a ≠ m) : del G m a = G a := by unfold del; rw [if_neg h]
theorem del_ex {G : Hp} {m : Addr} : Ex (del G m) G := fun a o h => by
  by_cases e : a = m
  · subst e; rw [del_same] at h; cases h
  · rw [del_ne e] at h; exact h
theorem ex_del {G G1 : Hp} {m : Addr} (e : Ex G G1) (h : G m = none) : Ex G (del G1 m) := fun a o q => by
  have : a ≠ m := fun z => by subst z; rw [h] at q; cases q
  rw [del_ne this]
  exact e a o q
theorem tk_del {K : PySem.W.Frag} {G : Hp} {m : Addr} (h : NoTup (G m)) : Tk K G (del G m) := fun b xs hb => by
  rcases hb with (hb | ⟨ob, hb⟩) | hb
  · refine .inl (.inl ?_)
    have : b ≠ m := fun z => (h xs).1 (z ▸ hb)
    rw [del_ne this]; exact hb
  · refine .inl (.inr ⟨ob, ?_⟩)
    have : b ≠ m := fun z => (h xs).2 ob (z ▸ hb)
    rw [del_ne this]; exact hb
  · exact .inr hb
/-- a thing that may change, taken into the region for a while -/
theorem ex_upd {G H : Hp} {m : Addr} {o : HO} (e : Ex G H) (h : H m = some o) : Ex (upd G m o) H := fun a u q => by
  by_cases ha : a = m
  · subst ha; rw [upd_same] at q; rw [h]; exact q
  · rw [upd_ne ha] at q; exact e a u q
theorem Nw.drop {G H G1 H1 : Hp} {m : Addr} {o : HO} (n : Nw (upd G m o) H G1 H1) (hg : G m = none) : Nw G H (del G1 m) H1 :=
  ⟨ex_del ((Ex.new hg).trans n.gg) hg, del_ex.trans n.gh, n.hh, fun a h1 h2 => by
    by_cases ha : a = m
    · subst ha; exact del_same
    · rw [del_ne ha]; exact n.fr a (by rw [upd_ne ha]; exact h1) h2⟩
theorem Nw.drop_at {G H G1 H1 : Hp} {m : Addr} {o : HO} (n : Nw (upd G m o) H G1 H1) : G1 m = some o := n.gg m o upd_same
theorem dp_drop {K : PySem.W.Frag} {G H G1 H1 : Hp} {m : Addr} {o : HO} {v : V} {d : PyData} (n : Nw (upd G m o) H G1 H1) (ho : ∀ xs, o ≠ .tup xs ∧ ∀ ob, o ≠ .frz ob (.tup xs)) (f : fz d = true) (h : Dp K G1 v d) : Dp K (del G1 m) v d :=
  dp_tk (tk_del (fun xs => by rw [n.drop_at]; exact ⟨fun e => (ho xs).1 (Option.some.inj e), fun ob e => (ho xs).2 ob (Option.some.inj e)⟩)) f h
theorem nt_lst {ys : List V} : ∀ xs, HO.lst ys ≠ .tup xs ∧ ∀ ob, HO.lst ys ≠ .frz ob (.tup xs) := fun xs => ⟨fun e => (by cases e), fun ob e => (by cases e)⟩
theorem nt_DN {P : Program} {w : World} {m : Addr} {kvs : KVs} : ∀ xs, DN P w m kvs ≠ .tup xs ∧ ∀ ob, DN P w m kvs ≠ .frz ob (.tup xs) := fun xs => ⟨fun e => (by cases e), fun ob e => (by cases e)⟩
/-- the heap grows, the region stays -/
theorem Nw.hx {G0 H0 G H J : Hp} (n : Nw G0 H0 G H) (e : Ex H J) : Nw G0 H0 G J := ⟨n.gg, n.gh.trans e, n.hh.trans e, n.fr⟩

section
variable {P : Program} {w : World} {K : PySem.W.Frag} {σ : L2.St} {G G1 H J : Hp} {ta tb te tk tv : TE} {m : Addr} {kvs : KVs}
/-- key and value, as data -/
structure Mp (K : PySem.W.Frag) (G : Hp) (kvs : KVs) (ents : List (NestedKey × PyData)) : Prop where
  keys : kvs.map (·.1) = ents.map (·.1)
  ok : KeysOk K G kvs
  vals : DpAll K G (kvs.map (·.2.2)) (ents.map (·.2))
theorem Mp.ex {ents : List (NestedKey × PyData)} (h : Mp K G kvs ents) (e : Ex G G1) : Mp K G1 kvs ents := ⟨h.keys, h.ok.ex e, dps_ex e h.vals⟩
theorem Mp.nil : Mp K G [] [] := ⟨rfl, fun _ h => (by cases h), .nil⟩
theorem Mp.snoc {ents : List (NestedKey × PyData)} {k : NestedKey} {b : Addr} {v : V} {d : PyData} (h : Mp K G kvs ents) (hk : KeyOk K G b k) (hv : Dp K G v d) : Mp K G (kvs ++ [(k, b, v)]) (ents ++ [(k, d)]) := by
  refine ⟨by rw [List.map_append, List.map_append, h.keys]; rfl, fun x hx => ?_, ?_⟩
  · rcases List.mem_append.mp hx with hx | hx
    · exact h.ok x hx
    · rw [List.mem_singleton.mp hx]; exact hk
  · rw [List.map_append, List.map_append]
    exact dps_app h.vals (dps_one hv)
theorem Mp.len {ents : List (NestedKey × PyData)} (h : Mp K G kvs ents) : kvs.length = ents.length := by
  have := congrArg List.length h.keys
  rw [List.length_map, List.length_map] at this
  exact this
theorem dnGet_none {k : NestedKey} (h : k ∉ kvs.map (·.1)) : dnGet kvs k = none := by
  unfold dnGet
  rw [Option.map_eq_none_iff, List.find?_eq_none]
  intro x hx hk
  exact h (List.mem_map.mpr ⟨x, hx, of_decide_eq_true hk⟩)
theorem dnGet_at {k : NestedKey} : ∀ {kvs : KVs} {i : Nat} {b : Addr} {v : V}, (kvs.map (·.1)).Nodup → kvs[i]? = some (k, b, v) → dnGet kvs k = some v
  | [], i, b, v, _, h => by simp at h
  | x :: kvs, 0, b, v, _, h => by
    simp at h
    subst h
    simp [dnGet]
  | x :: kvs, i + 1, b, v, hn, h => by
    rw [List.map_cons, List.nodup_cons] at hn
    have h' : kvs[i]? = some (k, b, v) := by simpa using h
    have hm : k ∈ kvs.map (·.1) := List.mem_map.mpr ⟨_, List.mem_of_getElem? h', rfl⟩
    have hne : ¬ x.1 = k := fun e => hn.1 (e ▸ hm)
    have ih := dnGet_at hn.2 h'
    unfold dnGet at ih ⊢
    rw [List.find?_cons, decide_eq_false hne]
    exact ih
theorem Mp.look {ents : List (NestedKey × PyData)} (h : Mp K G kvs ents) (hn : (ents.map (·.1)).Nodup) {k : NestedKey} {d : PyData} (hm : (k, d) ∈ ents) : ∃ v, dnGet kvs k = some v ∧ Dp K G v d := by
  obtain ⟨i, hi⟩ := List.mem_iff_getElem?.mp hm
  have h1 : (ents.map (·.2))[i]? = some d := by rw [List.getElem?_map, hi]; rfl
  obtain ⟨v, hv, hd⟩ := dps_get h.vals h1
  rw [List.getElem?_map] at hv
  cases q : kvs[i]? with
  | none => rw [q] at hv; cases hv
  | some x =>
    rw [q] at hv
    have hk : (kvs.map (·.1))[i]? = some x.1 := by rw [List.getElem?_map, q]; rfl
    rw [h.keys, List.getElem?_map, hi] at hk
    have e1 : k = x.1 := Option.some.inj hk
    have e2 : x.2.2 = v := Option.some.inj hv
    refine ⟨v, dnGet_at (i := i) (b := x.2.1) (by rw [h.keys]; exact hn) (by rw [q, e1, ← e2]), hd⟩
theorem Mp.miss {ents : List (NestedKey × PyData)} (h : Mp K G kvs ents) {k : NestedKey} (hm : k ∉ ents.map (·.1)) : dnGet kvs k = none := dnGet_none (by rw [h.keys]; exact hm)
theorem Mp.has {ents : List (NestedKey × PyData)} (h : Mp K G kvs ents) (k : NestedKey) : (dnGet kvs k).isSome = decide (k ∈ ents.map (·.1)) := by
  by_cases hm : k ∈ ents.map (·.1)
  · rw [decide_eq_true hm]
    rw [← h.keys] at hm
    obtain ⟨x, hx, e⟩ := List.mem_map.mp hm
    unfold dnGet
    rw [Option.isSome_map, List.find?_isSome]
    exact ⟨x, hx, decide_eq_true e⟩
  · rw [decide_eq_false hm, h.miss hm]
    rfl
/-- the dict at m, out of the region -/
structure Dc (P : Program) (w : World) (K : PySem.W.Frag) (G H : Hp) (m : Addr) (ents : List (NestedKey × PyData)) (kvs : KVs) : Prop where
  out : G m = none
  at_ : H m = some (DN P w m kvs)
  mp : Mp K G kvs ents
  nd : (ents.map (·.1)).Nodup
theorem Dc.nw {ents : List (NestedKey × PyData)} (g : Dc P w K G H m ents kvs) (n : Nw G H G1 J) : Dc P w K G1 J m ents kvs := ⟨(n.keep g.out g.at_).1, (n.keep g.out g.at_).2, g.mp.ex n.gg, g.nd⟩
theorem Dc.hx {ents : List (NestedKey × PyData)} (g : Dc P w K G H m ents kvs) (e : Ex H J) : Dc P w K G J m ents kvs := ⟨g.out, e _ _ g.at_, g.mp, g.nd⟩
theorem Dc.new (e : Ex G H) (h : H m = none) : Dc P w K G (upd H m (DN P w m [])) m [] [] := ⟨fresh_back e h, upd_same, Mp.nil, List.nodup_nil⟩
theorem dn_tup {k : NestedKey} {v : V} {ks : List NestedKey} (h : k = .tup ks) (hd : Dp K G v k.data) : ∃ b, v = .ref b := by
  subst h
  cases hd with
  | tup h a => exact ⟨_, rfl⟩
/-- k not in d -/
theorem et_notin {ents : List (NestedKey × PyData)} {k : NestedKey} {ks : List NestedKey} {j : Nat} (hk : Ed K tk σ G k.data) (ek : k = .tup ks) (hd : k.depth ≤ 8) (hj : σ[j]? = some (some (.ref m))) (mp : Mp K G kvs ents) (hm : G m = some (DN P w m kvs)) :
    EdT (tTest (tOp (rDNnotin P w K) tk (tVar j))) σ G (!decide (k ∈ ents.map (·.1))) := fun H e Q q => hk H e _ fun v G1 H1 n1 h1 => by
  obtain ⟨b, rfl⟩ := dn_tup ek h1
  refine ⟨_, hj, m, b, k, kvs, rfl, rfl, (n1.gg.trans n1.gh) _ _ hm, mp.ok.ex (n1.gg.trans n1.gh), ⟨dp_ex n1.gh h1, hd⟩, ?_⟩
  rw [mp.has]
  exact ⟨_, rfl, q G1 H1 n1⟩
/-- d[k] -/
theorem ed_get {ents : List (NestedKey × PyData)} {k : NestedKey} {ks : List NestedKey} {d : PyData} {j : Nat} (hk : Ed K tk σ G k.data) (ek : k = .tup ks) (hd : k.depth ≤ 8) (hj : σ[j]? = some (some (.ref m))) (mp : Mp K G kvs ents) (hn : (ents.map (·.1)).Nodup) (hm : G m = some (DN P w m kvs)) (hx : (k, d) ∈ ents) :
    Ed K (tOp (rDNget P w K) (tVar j) tk) σ G d := fun H e Q q => ⟨_, hj, hk H e _ fun v G1 H1 n1 h1 => by
  obtain ⟨b, rfl⟩ := dn_tup ek h1
  obtain ⟨z, hz, hzd⟩ := mp.look hn hx
  exact ⟨m, b, k, kvs, z, rfl, rfl, (n1.gg.trans n1.gh) _ _ hm, mp.ok.ex (n1.gg.trans n1.gh), ⟨dp_ex n1.gh h1, hd⟩, hz, q z G1 H1 n1 (dp_ex n1.gg hzd)⟩⟩
theorem ed_dlen {ents : List (NestedKey × PyData)} {j : Nat} (hj : σ[j]? = some (some (.ref m))) (mp : Mp K G kvs ents) (hm : G m = some (DN P w m kvs)) : Ed K (tCB (rDNlen P w K) (tCons (tVar j) tNil)) σ G (nI ents.length) := fun H e Q q =>
  ⟨_, hj, m, kvs, rfl, e _ _ hm, mp.ok.ex e, by
    have := q (.int ((kvs.length : Nat) : Int)) G H (Nw.refl e) (by rw [mp.len]; exact .int _)
    exact this⟩
/-- d[k] = e, k new: e over any region Gv, its data d frozen or the region without m -/
theorem sd_putG {D : Ends} {t : TSet} (ht : ∀ o i v H Q, rDNput P w K o i v H Q → t o i v H Q) {ents : List (NestedKey × PyData)} {k : NestedKey} {ks : List NestedKey} {d : PyData} {j : Nat} {Gv : Hp} (hv : Ed K tv σ Gv d) (ev : Ex Gv H) (hk : Ed K tk σ G k.data) (eg : Ex G H) (ek : k = .tup ks) (hdp : k.depth ≤ 8) (hj : σ[j]? = some (some (.ref m)))
    (g : Dc P w K G H m ents kvs) (hnew : k ∉ ents.map (·.1)) (hl : ents.length ≤ 15000000)
    (hfz : fz d = true) (hGv : ∀ a, G a = none → Gv a ≠ none → a = m) (hs : ∀ (kvs2 : KVs) (R : Hp) (H2 : Hp), Nw G H R H2 → Dc P w K R (upd H2 m (DN P w m kvs2)) m (ents ++ [(k, d)]) kvs2 → Ex R (upd H2 m (DN P w m kvs2)) → D.nx σ (upd H2 m (DN P w m kvs2))) :
    tAsg tv (gSub (tVar j) tk t) D σ H := hv H ev _ fun v Gv1 H1 nv hvd => ⟨_, hj, hk H1 (eg.trans nv.hh) _ fun x G2 H2 n2 hx => by
  obtain ⟨b, rfl⟩ := dn_tup ek hx
  have hm2 : H2 m = some (DN P w m kvs) := n2.hh _ _ (nv.hh _ _ g.at_)
  have hg2 : G2 m = none := n2.fr m g.out (by rw [nv.hh _ _ g.at_]; simp)
  refine ht _ _ _ _ _ ⟨m, b, k, kvs, rfl, rfl, hm2, (g.mp.ok.ex n2.gg).ex n2.gh, ⟨dp_ex n2.gh hx, hdp⟩, g.mp.miss hnew, by rw [g.mp.len]; exact sz8' (by omega), ?_⟩
  -- the region: that of the key, with what the value leans on
  have hnm : NoTup (Gv1 m) := by
    cases q : Gv1 m with
    | none => exact fun xs => ⟨fun e => (by simp at e), fun ob e => (by simp at e)⟩
    | some o =>
      have : H1 m = some o := nv.gh _ _ q
      rw [nv.hh _ _ g.at_] at this
      cases this
      exact fun xs => ⟨fun e => (by cases e), fun ob e => (by cases e)⟩
  have dv : Dp K (del Gv1 m) v d := dp_tk (tk_del hnm) hfz hvd
  have ea : Ex G2 H2 := n2.gh
  have eb : Ex (del Gv1 m) H2 := (del_ex.trans nv.gh).trans n2.hh
  have R : Nw G H (un G2 (del Gv1 m)) H2 := ⟨n2.gg.trans un_l, un_ex ea eb, nv.hh.trans n2.hh, fun a h1 h2 => by
    unfold un
    have z1 : H1 a ≠ none := fun z => h2 (fresh_back nv.hh z)
    rw [n2.fr a h1 z1]
    by_cases ha : a = m
    · subst ha; exact del_same
    · rw [del_ne ha]
      exact nv.fr a (Classical.byContradiction fun hz => ha (hGv a h1 hz)) h2⟩
  have Rm : un G2 (del Gv1 m) m = none := by
    unfold un
    rw [hg2]
    exact del_same
  have eR : ∀ kvs2 : KVs, Ex (un G2 (del Gv1 m)) (upd H2 m (DN P w m kvs2)) := fun kvs2 => Ex.mut R.gh Rm
  refine hs _ _ H2 R ⟨Rm, upd_same, ((g.mp.ex n2.gg).ex un_l).snoc ⟨dp_ex un_l hx, hdp⟩ (dp_ex (un_r ea eb) dv), ?_⟩ (eR _)
  rw [List.map_append, List.nodup_append]
  refine ⟨g.nd, by simp, fun a ha c hc z => hnew ?_⟩
  simp at hc
  rw [← hc, ← z]
  exact ha⟩
theorem sd_put {D : Ends} {ents : List (NestedKey × PyData)} {k : NestedKey} {ks : List NestedKey} {d : PyData} {j : Nat} {Gv : Hp} (hv : Ed K tv σ Gv d) (ev : Ex Gv H) (hk : Ed K tk σ G k.data) (eg : Ex G H) (ek : k = .tup ks) (hdp : k.depth ≤ 8) (hj : σ[j]? = some (some (.ref m)))
    (g : Dc P w K G H m ents kvs) (hnew : k ∉ ents.map (·.1)) (hl : ents.length ≤ 15000000)
    (hfz : fz d = true) (hGv : ∀ a, G a = none → Gv a ≠ none → a = m) (hs : ∀ (kvs2 : KVs) (R : Hp) (H2 : Hp), Nw G H R H2 → Dc P w K R (upd H2 m (DN P w m kvs2)) m (ents ++ [(k, d)]) kvs2 → Ex R (upd H2 m (DN P w m kvs2)) → D.nx σ (upd H2 m (DN P w m kvs2))) :
    tAsg tv (gSub (tVar j) tk (rDNput P w K)) D σ H := sd_putG (fun _ _ _ _ _ z => z) hv ev hk eg ek hdp hj g hnew hl hfz hGv hs
theorem qd_put {D : Ends} {tz : TS} {ents : List (NestedKey × PyData)} {k : NestedKey} {ks : List NestedKey} {d : PyData} {j : Nat} {Gv : Hp} (hv : Ed K tv σ Gv d) (ev : Ex Gv H) (hk : Ed K tk σ G k.data) (eg : Ex G H) (ek : k = .tup ks) (hdp : k.depth ≤ 8) (hj : σ[j]? = some (some (.ref m)))
    (g : Dc P w K G H m ents kvs) (hnew : k ∉ ents.map (·.1)) (hl : ents.length ≤ 15000000)
    (hfz : fz d = true) (hGv : ∀ a, G a = none → Gv a ≠ none → a = m) (hs : ∀ (kvs2 : KVs) (R : Hp) (H2 : Hp), Nw G H R H2 → Dc P w K R (upd H2 m (DN P w m kvs2)) m (ents ++ [(k, d)]) kvs2 → Ex R (upd H2 m (DN P w m kvs2)) → tz D σ (upd H2 m (DN P w m kvs2))) :
    tSeq (tAsg tv (gSub (tVar j) tk (rDNput P w K))) tz D σ H := sd_put (D := { D with nx := tz D }) hv ev hk eg ek hdp hj g hnew hl hfz hGv hs
theorem gv_same {a : Addr} (h : G a = none) (h2 : G a ≠ none) : a = m := absurd h h2
theorem gv_upd {o : HO} {a : Addr} (h : G a = none) (h2 : upd G m o a ≠ none) : a = m := Classical.byContradiction fun z => h2 (by rw [upd_ne z]; exact h)
theorem et_orR {t1 t2 : TT} {b : Bool} (h : EdT t2 σ G b) : EdT (fun σ H Q => t1 σ H Q ∨ t2 σ H Q) σ G b := fun H e Q q => Or.inr (h H e Q q)
theorem ed_orR {t1 t2 : TE} {d : PyData} (h : Ed K t2 σ G d) : Ed K (fun σ H Q => t1 σ H Q ∨ t2 σ H Q) σ G d := fun H e Q q => Or.inr (h H e Q q)
/-- the dict joins the region -/
theorem Dc.reg {ents : List (NestedKey × PyData)} (g : Dc P w K G H m ents kvs) (e : Ex G H) : Ex (upd G m (DN P w m kvs)) H ∧ Ex G (upd G m (DN P w m kvs)) ∧ Mp K (upd G m (DN P w m kvs)) kvs ents := ⟨ex_upd e g.at_, Ex.new g.out, g.mp.ex (Ex.new g.out)⟩
/-- d = {k: v} -/
theorem qd_dnone {D : Ends} {tz : TS} {i : Nat} {k : NestedKey} {ks : List NestedKey} {d : PyData} (hk : Ed K tk σ G k.data) (hv : Ed K tv σ G d) (e : Ex G H) (ek : k = .tup ks) (hdp : k.depth ≤ 8)
    (hs : ∀ (p : Addr) (kvs : KVs) (R J : Hp), Nw G H R J → H p = none → Dc P w K R J p [(k, d)] kvs → tz D (σ.set i (some (.ref p))) J) : tSeq (tAsg (tDNone P w K tk tv) (gName i)) tz D σ H := fun p hp =>
  hk _ (e.trans (Ex.new hp)) _ fun x G1 H1 n1 h1 => (hv.mono n1.gg) H1 n1.gh _ fun y G2 H2 n2 h2 => by
    obtain ⟨b, rfl⟩ := dn_tup ek h1
    have nn := n1.trans n2
    obtain ⟨g2, at2⟩ := nn.keep (m := p) (fresh_back e hp) upd_same
    refine ⟨b, k, rfl, ⟨dp_ex (n2.gg.trans n2.gh) h1, hdp⟩, at2, ?_⟩
    refine hs p [(k, b, y)] G2 _ ⟨nn.gg, Ex.mut nn.gh g2, Ex.mut ((Ex.new hp).trans nn.hh) hp, fun a h1 h2 => ?_⟩ hp ⟨g2, upd_same, (Mp.nil (K := K) (G := G2)).snoc (k := k) ⟨dp_ex n2.gg h1, hdp⟩ h2, by simp⟩
    refine nn.fr a h1 ?_
    have : a ≠ p := fun z => h2 (z ▸ hp)
    rw [upd_ne this]
    exact h2
/-- d = {} -/
theorem qd_dnew {D : Ends} {tz : TS} {i : Nat} (e : Ex G H) (hs : ∀ p, H p = none → Dc P w K G (upd H p (DN P w p [])) p [] [] → tz D (σ.set i (some (.ref p))) (upd H p (DN P w p []))) : tSeq (tAsg (tDNnew P w) (gName i)) tz D σ H := fun p hp => hs p hp (Dc.new e hp)
end
end Wk
/-! WP3 -/
namespace Wk
open PySem L2 Evl
/-! ### numbered_looks -/
def kEnd (p : Nat × Nat) : NestedKey := .tup [.num p.1, .num p.2]
def kLook (l : Look) : NestedKey := .tup [.num l.1, .tup (l.2.map kEnd)]
theorem datas_map {α : Type} (f : α → NestedKey) (g : α → PyData) (h : ∀ x, (f x).data = g x) : ∀ l : List α, NestedKey.datas (l.map f) = l.map g
  | [] => by simp [NestedKey.datas]
  | x :: l => by simp only [List.map_cons, NestedKey.datas, h x, datas_map f g h l]
theorem depths_map {α : Type} (f : α → NestedKey) (n : Nat) (h : ∀ x, (f x).depth ≤ n) : ∀ l : List α, NestedKey.depthAll (l.map f) ≤ n
  | [] => by simp [NestedKey.depthAll]
  | x :: l => by
    simp only [List.map_cons, NestedKey.depthAll]
    have := h x
    have := depths_map f n h l
    omega
theorem kEnd_data (p : Nat × Nat) : (kEnd p).data = eEnd p := by simp [kEnd, NestedKey.data, NestedKey.datas, eEnd, nI]
theorem kEnd_depth (p : Nat × Nat) : (kEnd p).depth ≤ 1 := by simp [kEnd, NestedKey.depth, NestedKey.depthAll]
theorem kLook_data (l : Look) : (kLook l).data = eLook l := by
  simp only [kLook, NestedKey.data, NestedKey.datas, eLook, nI]
  rw [datas_map kEnd eEnd kEnd_data]
theorem kLook_depth (l : Look) : (kLook l).depth ≤ 8 := by
  have := depths_map kEnd 1 kEnd_depth l.2
  simp only [kLook, NestedKey.depth, NestedKey.depthAll]
  omega
theorem kEnd_inj {a b : Nat × Nat} (h : kEnd a = kEnd b) : a = b := eEnd_inj (by rw [← kEnd_data, ← kEnd_data, h])
theorem eLook_inj {a b : Look} (h : eLook a = eLook b) : a = b := by
  unfold eLook at h
  simp only [PyData.tuple.injEq, List.cons.injEq, and_true] at h
  exact Prod.ext (nI_inj h.1) (map_inj (fun _ _ => eEnd_inj) h.2)
theorem kLook_inj {a b : Look} (h : kLook a = kLook b) : a = b := eLook_inj (by rw [← kLook_data, ← kLook_data, h])
/-- what the dict holds: the unlike looks with their numbers -/
def entsL (ks : List Look) : List (NestedKey × PyData) := ks.zipIdx.map fun p => (kLook p.1, nI p.2)
theorem entsL_keys (ks : List Look) : (entsL ks).map (·.1) = ks.map kLook := by
  unfold entsL
  rw [List.map_map]
  have : ((fun x : NestedKey × PyData => x.1) ∘ fun p : Look × Nat => (kLook p.1, nI p.2)) = kLook ∘ (fun p : Look × Nat => p.1) := rfl
  rw [this, ← List.map_map]
  congr 1
  exact List.zipIdx_map_fst 0 ks
theorem entsL_has {ks : List Look} {x : Look} : kLook x ∈ (entsL ks).map (·.1) ↔ x ∈ ks := by
  rw [entsL_keys]
  constructor
  · intro h
    obtain ⟨y, hy, e⟩ := List.mem_map.mp h
    rw [← kLook_inj e]
    exact hy
  · intro h
    exact List.mem_map.mpr ⟨x, h, rfl⟩
theorem entsL_snoc (ks : List Look) (x : Look) : entsL (ks ++ [x]) = entsL ks ++ [(kLook x, nI ks.length)] := by
  unfold entsL
  rw [List.zipIdx_append, List.map_append]
  simp
theorem entsL_get {ks : List Look} {x : Look} (h : x ∈ ks) : (kLook x, nI (@List.idxOf Look instBEqOfDecidableEq x ks)) ∈ entsL ks := by
  letI : BEq Look := instBEqOfDecidableEq
  unfold entsL
  refine List.mem_map.mpr ⟨(x, @List.idxOf Look instBEqOfDecidableEq x ks), ?_, rfl⟩
  rw [List.mem_zipIdx_iff_getElem?]
  rw [List.getElem?_eq_getElem (List.idxOf_lt_length_of_mem h), List.getElem_idxOf]
theorem entsL_len (ks : List Look) : (entsL ks).length = ks.length := by unfold entsL; simp
/-- the same for whole numbers -/
def kvI (ks : List Nat) : List (L2.Key × V) := ks.zipIdx.map fun p => (Sum.inl (p.1 : Int), V.int (p.2 : Int))
theorem kvI_len (ks : List Nat) : (kvI ks).length = ks.length := by unfold kvI; simp
theorem kvI_val {ks : List Nat} {x : Nat} (hn : ks.Nodup) : valV (kvI ks) (Sum.inl (x : Int)) = if x ∈ ks then some (V.int (ks.idxOf x : Int)) else none := by
  have gen : ∀ (ks : List Nat) (o : Nat), valV (ks.zipIdx o |>.map fun p => ((Sum.inl (p.1 : Int) : L2.Key), V.int (p.2 : Int))) (Sum.inl (x : Int)) = if x ∈ ks then some (V.int ((o + ks.idxOf x : Nat) : Int)) else none := by
    intro ks
    induction ks with
    | nil => intro o; simp [valV]
    | cons a ks ih =>
      intro o
      rw [List.zipIdx_cons, List.map_cons]
      unfold valV at ih ⊢
      rw [List.find?_cons]
      by_cases e : a = x
      · subst e
        simp
      · have e1 : decide ((Sum.inl (a : Int) : L2.Key) = Sum.inl (x : Int)) = false := decide_eq_false fun z => e (Int.ofNat.inj (Sum.inl.inj z))
        simp only [e1]
        rw [ih (o + 1)]
        have e2 : (x ∈ a :: ks) ↔ x ∈ ks := by
          rw [List.mem_cons]
          exact ⟨fun z => z.resolve_left fun q => e q.symm, .inr⟩
        by_cases hx : x ∈ ks
        · rw [if_pos hx, if_pos (e2.mpr hx), List.idxOf_cons, show (a == x) = false from beq_eq_false_iff_ne.mpr e]
          simp only [cond_false]
          congr 2
          omega
        · rw [if_neg hx, if_neg (fun z => hx (e2.mp z))]
  have := gen ks 0
  rw [Nat.zero_add] at this
  exact this
theorem kvI_put {ks : List Nat} {x : Nat} (hn : ks.Nodup) (hx : x ∉ ks) : putK (kvI ks) (Sum.inl (x : Int)) (V.int (ks.length : Int)) = kvI (ks ++ [x]) := by
  have e : (kvI ks).any (fun kv => decide (kv.1 = (Sum.inl (x : Int) : L2.Key))) = false := by
    rw [List.any_eq_false]
    intro kv hkv hd
    unfold kvI at hkv
    obtain ⟨p, hp, rfl⟩ := List.mem_map.mp hkv
    have h1 := List.mem_of_getElem? (List.mem_zipIdx_iff_getElem?.mp hp)
    have h2 := Int.ofNat.inj (Sum.inl.inj (of_decide_eq_true hd))
    exact hx (h2 ▸ h1)
  unfold putK
  rw [e, if_neg Bool.false_ne_true]
  unfold kvI
  rw [List.zipIdx_append, List.map_append]
  simp
section
variable {P : Program} {w : World} {K : PySem.W.Frag} {vs : List V} {H : Hp} {Q : VK} {E : XK}
theorem ints_map (l : List Nat) : l.map nI = (l.map fun n : Nat => (n : Int)).map PyData.int := by rw [List.map_map]; rfl
theorem rd_numbered_looks (h : S_numbered_looks P w K vs H Q E) : t_numbered_looks P w K (Dd Q) (st0 3 vs) H := by
  obtain ⟨G, ds, d, e, hd, ⟨ns, hl, rfl, rfl⟩ | ⟨ls, hl, rfl, rfl⟩, k⟩ := h
  · -- whole numbers
    obtain ⟨v1, rfl, h1⟩ := dps1 hd
    show t_numbered_looks P w K (Dd Q) [some v1, none, none] H
    unfold t_numbered_looks
    refine Or.inl fun p hp => ?_
    show tSeq _ _ _ [some v1, some (.ref p), none] _
    refine qd_for ns nI (ei_list (ed_var (i := 0) rfl h1)) (e.trans (Ex.new hp))
      (fun i G2 σ2 H2 => ∃ y, σ2 = [some v1, some (.ref p), y] ∧ H2 p = some (.dK (kvI (keysOf (ns.take i)))) ∧ G2 p = none ∧ Nw G H G2 H2)
      (fun G2 H2 n2 => ⟨none, rfl, n2.hh p _ (by rw [upd_same]; rfl), n2.fr p (fresh_back e hp) (by rw [upd_same]; simp), (Nw.out e hp).tr n2⟩) ?_ ?_
    · rintro G2 i d G3 σ3 H3 e2 hi e3 e4 ⟨y, rfl, hp3, o3, n3⟩ x G4 H4 n4 hx
      obtain rfl := dp_nI hx
      obtain ⟨o4, hp4⟩ := n4.keep o3 hp3
      refine gn1 ?_
      show tIfS _ _ _ _ [some v1, some (.ref p), some (.int (d : Int))] H4
      have hil := (List.getElem?_eq_some_iff.mp hi).1
      have tk : ns.take (i + 1) = ns.take i ++ [d] := take_snoc hi
      have kl : (keysOf (ns.take i)).length ≤ 100 := Nat.le_trans (keysOf_len _) (by rw [List.length_take]; omega)
      have nd := keysOf_nodup (ns.take i)
      refine Or.inl ⟨_, rfl, _, rfl, p, _, rfl, DGet.k (k := Sum.inl (d : Int)) hp4, _, rfl, ?_⟩
      rw [kvI_val nd]
      by_cases hm : d ∈ keysOf (ns.take i)
      · rw [if_pos hm]
        show ∃ G5, _
        refine ⟨G4, e3.trans n4.gg, n4.gh, _, rfl, ?_, o4, n3.tr n4⟩
        rw [tk, keysOf_snoc, if_pos hm]
        exact hp4
      · rw [if_neg hm]
        refine Or.inl ⟨_, rfl, p, _, rfl, hp4, ?_⟩
        refine ⟨_, rfl, _, rfl, Or.inl ⟨p, _, rfl, DPut.k (k := Sum.inl (d : Int)) hp4 (by rw [kvI_len]; exact sz8' (by omega)), ?_⟩⟩
        rw [kvI_len, kvI_put nd hm]
        refine ⟨G4, e3.trans n4.gg, Ex.mut n4.gh o4, _, rfl, ?_, o4, (n3.tr n4).mut hp o4⟩
        rw [tk, keysOf_snoc, if_neg hm]
        exact upd_same
    · rintro G2 σ2 H2 e2 e3 ⟨y, rfl, hp2, o2, n2⟩
      rw [List.take_length] at hp2
      have eU := ex_upd e3 hp2
      have eG : Ex G2 (upd G2 p (.dK (kvI (keysOf ns)))) := Ex.new o2
      refine sd_ret (ed_lcm ns nI (fun x => nI ((keysOf ns).idxOf x)) (ei_list (ed_var (i := 0) rfl (dp_ex (e2.trans eG) h1))) (by omega) fun i a ha x G4 H4 e4 e5 hx Q' q => ?_) eU fun v6 G6 H6 n6 h6 => k v6 G6 H6 ((n2.add o2 hp hp2).tr n6) ?_
      · obtain rfl := dp_nI hx
        refine q _ rfl fun H5 e6 Q5 q5 => Or.inl ⟨_, rfl, _, rfl, p, _, rfl, (by
          have z := DGet.k (k := Sum.inl (a : Int)) (e6 _ _ (e4 _ _ upd_same))
          rw [kvI_val (keysOf_nodup ns), if_pos ((keysOf_mem ns a).mpr (List.mem_of_getElem? ha))] at z
          exact z), q5 _ _ _ (Nw.refl e6) (.int _)⟩
      · unfold eL nl
        rw [List.map_map]
        exact h6
  · -- looks
    obtain ⟨v1, rfl, h1⟩ := dps1 hd
    show t_numbered_looks P w K (Dd Q) [some v1, none, none] H
    unfold t_numbered_looks
    refine Or.inr fun p hp => ?_
    show tSeq _ _ _ [some v1, some (.ref p), none] _
    have n0 := Nw.out (o := DN P w p []) e hp
    refine qd_for ls eLook (ei_list (ed_var (i := 0) rfl h1)) n0.gh
      (fun i G2 σ2 H2 => ∃ y kvs, σ2 = [some v1, some (.ref p), y] ∧ Dc P w K G2 H2 p (entsL (keysOf (ls.take i))) kvs ∧ Nw G H G2 H2)
      (fun G2 H2 n2 => ⟨none, [], rfl, (Dc.new e hp).nw n2, n0.tr n2⟩) ?_ ?_
    · rintro G2 i d G3 σ3 H3 e2 hi e3 e4 ⟨y, kvs, rfl, g3, n3⟩ x G4 H4 n4 hx
      have g4 := g3.nw n4
      refine gn1 ?_
      show tIfS _ _ _ _ [some v1, some (.ref p), some x] H4
      have hil := (List.getElem?_eq_some_iff.mp hi).1
      have tk : ls.take (i + 1) = ls.take i ++ [d] := take_snoc hi
      have kl : (keysOf (ls.take i)).length ≤ 100 := Nat.le_trans (keysOf_len _) (by rw [List.length_take]; omega)
      obtain ⟨u1, u2, u3⟩ := g4.reg n4.gh
      refine sd_when (et_orR (et_notin (k := kLook d) (by rw [kLook_data]; exact ed_var (i := 2) rfl (dp_ex u2 hx)) rfl (kLook_depth d) (j := 1) rfl u3 upd_same)) u1 (fun hb G5 H5 n5 => ?_) (fun hb G5 H5 n5 => ?_)
      · have hm : d ∉ keysOf (ls.take i) := fun z => by
          rw [decide_eq_true (entsL_has.mpr z)] at hb
          cases hb
        have g5 := g4.hx n5.hh
        have e5 := n4.gh.trans n5.hh
        obtain ⟨w1, w2, w3⟩ := g5.reg e5
        refine sd_putG (fun _ _ _ _ _ z => Or.inr z) (ed_orR (ed_dlen (j := 1) rfl w3 upd_same)) w1 (k := kLook d) (by rw [kLook_data]; exact ed_var (i := 2) rfl hx) e5 rfl (kLook_depth d) rfl g5 (fun z => hm (entsL_has.mp z)) (by rw [entsL_len]; omega) rfl
          (fun a z1 z2 => gv_upd z1 z2) fun kvs2 R H6 n6 g6 e6 => ?_
        refine ⟨R, (e3.trans n4.gg).trans n6.gg, e6, _, kvs2, rfl, ?_, (((n3.tr n4).hx n5.hh).tr n6).mut hp g6.out⟩
        rw [tk, keysOf_snoc, if_neg hm, entsL_snoc]
        rw [entsL_len] at g6
        exact g6
      · have hm : d ∈ keysOf (ls.take i) := Classical.byContradiction fun z => by
          rw [decide_eq_false (fun q => z (entsL_has.mp q))] at hb
          cases hb
        refine ⟨G4, e3.trans n4.gg, n4.gh.trans n5.hh, _, kvs, rfl, ?_, (n3.tr n4).hx n5.hh⟩
        rw [tk, keysOf_snoc, if_pos hm]
        exact g4.hx n5.hh
    · rintro G2 σ2 H2 e2 e3 ⟨y, kvs, rfl, g2, n2⟩
      rw [List.take_length] at g2
      obtain ⟨u1, u2, u3⟩ := g2.reg e3
      refine sd_ret (ed_lcm ls eLook (fun x => nI (@List.idxOf Look instBEqOfDecidableEq x (keysOf ls))) (ei_list (ed_var (i := 0) rfl (dp_ex (e2.trans u2) h1))) (by omega) fun i a ha x G4 H4 e4 e5 hx Q' q => ?_) u1 fun v6 G6 H6 n6 h6 => k v6 G6 H6 ((n2.add g2.out hp g2.at_).tr n6) ?_
      · exact q _ rfl (ed_orR (ed_get (k := kLook a) (by rw [kLook_data]; exact ed_var (i := 2) rfl hx) rfl (kLook_depth a) (j := 1) rfl (u3.ex e4) g2.nd (e4 _ _ upd_same) (entsL_get ((keysOf_mem ls a).mpr (List.mem_of_getElem? ha)))))
      · unfold eL nl
        rw [List.map_map]
        exact h6
end
end Wk
/-! WP4 -/
namespace Wk
open PySem L2 Evl
section
theorem zipD_map {α β : Type} (f : α → PyData) (g : β → PyData) (as : List α) (bs : List β) : zipD (as.map f) (bs.map g) = (as.zip bs).map fun x => .tuple [f x.1, g x.2] := by
  unfold zipD
  rw [List.zip_map, List.map_map]
  rfl
theorem enumD_map {α : Type} (f : α → PyData) (as : List α) : enumD (as.map f) = as.zipIdx.map fun x => .tuple [nI x.2, f x.1] := by
  unfold enumD
  rw [List.zipIdx_map, List.map_map]
  rfl
theorem getL {ns : List Nat} {r : Nat} (h : r < ns.length) : (ns.map nI)[r]? = some (nI (ns.getD r 0)) := by
  rw [List.getElem?_map, List.getElem?_eq_getElem h, List.getD_eq_getElem?_getD, List.getElem?_eq_getElem h]
  rfl
theorem zipIdx_some {α : Type} {l : List α} {i : Nat} {p : α × Nat} (h : l.zipIdx[i]? = some p) : p.2 = i ∧ l[i]? = some p.1 := by
  rw [List.getElem?_zipIdx] at h
  cases e : l[i]? with
  | none => rw [e] at h; simp at h
  | some x =>
    rw [e] at h
    simp at h
    subst h
    exact ⟨rfl, rfl⟩
end
section
variable {K : PySem.W.Frag} {σ : L2.St} {G H : Hp} {ta tb te : TE}
theorem ed_nth {ns : List Nat} {r : Nat} (ha : Ed K ta σ G (eL ns)) (hb : Ed K tb σ G (nI r)) (h : r < ns.length) : Ed K (tOp (rIx K) ta tb) σ G (nI (ns.getD r 0)) := ed_ixLn ha hb (getL h)
theorem ed_nthT {ns : List Nat} {r : Nat} (ha : Ed K ta σ G (eNs ns)) (hb : Ed K tb σ G (nI r)) (h : r < ns.length) : Ed K (tOp (rIx K) ta tb) σ G (nI (ns.getD r 0)) := ed_ixTn ha hb (getL h)
/-- l.append(e) where the loop fills l -/
theorem sd_push {D : Ends} {l : Addr} {ds : List PyData} {d : PyData} {xs : List V} {j : Nat} (hj : σ[j]? = some (some (.ref l))) (g : Gr K G H l ds xs) (hz : ds.length ≤ 15000000) (h : Ed K te σ G d) (e : Ex G H)
    (k : ∀ v G1 H1, Nw G H G1 H1 → Gr K G1 (upd H1 l (.lst (xs ++ [v]))) l (ds ++ [d]) (xs ++ [v]) → Ex G1 (upd H1 l (.lst (xs ++ [v]))) → D.nx σ (upd H1 l (.lst (xs ++ [v])))) : tDrop (tBM K "list" rAppend (tVar j) (tCons te tNil)) D σ H :=
  sd_app hj g.out g.at_ (by rw [g.len]; exact hz) h e fun v G1 H1 n hv o1 e1 => k v G1 H1 n (g.push n hv) e1
theorem qd_push {D : Ends} {tz : TS} {l : Addr} {ds : List PyData} {d : PyData} {xs : List V} {j : Nat} (hj : σ[j]? = some (some (.ref l))) (g : Gr K G H l ds xs) (hz : ds.length ≤ 15000000) (h : Ed K te σ G d) (e : Ex G H)
    (k : ∀ v G1 H1, Nw G H G1 H1 → Gr K G1 (upd H1 l (.lst (xs ++ [v]))) l (ds ++ [d]) (xs ++ [v]) → Ex G1 (upd H1 l (.lst (xs ++ [v]))) → tz D σ (upd H1 l (.lst (xs ++ [v])))) : tSeq (tDrop (tBM K "list" rAppend (tVar j) (tCons te tNil))) tz D σ H := sd_push (D := { D with nx := tz D }) hj g hz h e k
end
section
variable {P : Program} {w : World} {K : PySem.W.Frag} {vs : List V} {H : Hp} {Q : VK} {E : XK}
theorem rd_story_of (h : S_story_of P w K vs H Q E) : t_story_of P w K (Dd Q) (st0 6 vs) H := by
  obtain ⟨G, ds, d, e, hd, ⟨u, r, p, l, W, hr, hp, hs, rfl, rfl⟩, k⟩ := h
  obtain ⟨v1, v2, v3, rfl, h1, h2, h3⟩ := dps3 hd
  obtain rfl := dp_nI h2
  show t_story_of P w K (Dd Q) [some v1, some (.int (r : Int)), some v3, none, none, none] H
  unfold t_story_of
  refine qd_asg (d := .tuple (nI (deg u r) :: l.map eEnd)) (ed_callD (ea_cons (ed_var (i := 0) rfl h1) (ea_cons (ed_nVar (i := 1) rfl) (ea_cons (ed_var (i := 2) rfl h3) ea_nil))) ⟨u, r, p, W, hr, hp, rfl, by rw [hs]; rfl⟩) e fun v4 G1 H1 n1 h4 => ?_
  show tRet _ _ [some v1, some (.int (r : Int)), some v3, some v4, none, none] H1
  refine sd_ret (ed_tup (ea_cons (ed_ixTn (j := 0) (ed_var (i := 3) rfl h4) ed_int rfl) (ea_cons (ed_tupOfL (ed_lcm (p.zip l) (fun x => .tuple [nI x.1, eEnd x.2]) (fun x => eStep (x.1, x.2.1, x.2.2)) ?_ ?_ fun i a ha x G2 H2 e1 e2 hx Q q => gt2n hx e2 fun v5 v6 h5 h6 => q _ rfl ?_)) ea_nil))) n1.gh fun v7 G7 H7 n7 h7 => k v7 G7 H7 (n1.tr n7) ?_
  · rw [← zipD_map]
    exact ei_zipT (ed_var (i := 2) rfl (dp_ex n1.gg h3)) (ed_sl1 (ed_var (i := 3) rfl h4))
  · rw [List.length_zip]; omega
  · exact ed_catA (ed_tup (ea_cons (ed_var (i := 4) rfl h5) ea_nil)) (ed_var (i := 5) rfl h6) (by simp)
  · unfold eStory zipSteps
    rw [List.map_map]
    exact h7
theorem finer_enc (u : Web) (ns : List Nat) : (u.zipIdx.map fun p => eLook (ns.getD p.2 0, p.1.map fun q => (q.2, ns.getD q.1 0))) = (finer u ns).map eLook := by
  unfold finer
  rw [List.map_map]
  refine List.ext_getElem? fun i => ?_
  rw [List.getElem?_map, List.getElem?_map, List.getElem?_zipIdx]
  by_cases hi : i < u.length
  · rw [List.getElem?_eq_getElem hi, List.getElem?_range hi]
    simp [List.getElem?_eq_getElem hi]
  · rw [List.getElem?_eq_none (by omega), List.getElem?_eq_none (by rw [List.length_range]; omega)]
    rfl
theorem mem_getD {u : Web} {i : Nat} {l : List (Nat × Nat)} (h : u[i]? = some l) : l = u.getD i [] := by
  rw [List.getD_eq_getElem?_getD, h]; rfl
theorem rd_finer_looks (h : S_finer_looks P w K vs H Q E) : t_finer_looks P w K (Dd Q) (st0 7 vs) H := by
  obtain ⟨G, ds, d, e, hd, ⟨u, ns, W, hn, rfl, rfl⟩, k⟩ := h
  obtain ⟨v1, v2, rfl, h1, h2⟩ := dps2 hd
  show t_finer_looks P w K (Dd Q) [some v1, some v2, none, none, none, none, none] H
  unfold t_finer_looks
  refine qd_new fun l hl => ?_
  show tSeq _ _ _ [some v1, some v2, some (.ref l), none, none, none, none] _
  have n0 := Nw.out (o := .lst []) e hl
  have few := W.few
  refine qd_for u.zipIdx (fun p => .tuple [nI p.2, eRoom p.1]) (by rw [← enumD_map]; exact ei_enumT (ed_var (i := 0) rfl h1)) n0.gh
    (fun i G2 σ2 H2 => ∃ y z o d xs, σ2 = [some v1, some v2, some (.ref l), y, z, o, d] ∧ Gr K G2 H2 l ((u.zipIdx.take i).map fun p => eLook (ns.getD p.2 0, p.1.map fun q => (q.2, ns.getD q.1 0))) xs ∧ Nw G H G2 H2)
    (fun G2 H2 n2 => ⟨none, none, none, none, [], rfl, ⟨n2.fr l (fresh_back e hl) (by rw [upd_same]; simp), n2.hh l _ upd_same, .nil⟩, n0.tr n2⟩) ?_ ?_
  · rintro G2 i ⟨rm, i'⟩ G3 σ3 H3 e2 hi e3 e4 ⟨y, z, o, d, xs, rfl, g3, n3⟩ x G4 H4 n4 hx
    obtain ⟨rfl, hri⟩ := zipIdx_some hi
    dsimp only at hri
    have hil : i' < u.length := (List.getElem?_eq_some_iff.mp hri).1
    have m4 := n3.tr n4
    refine gt2n hx n4.gh fun a b ha hb => ?_
    obtain rfl := dp_nI ha
    show tDrop _ _ [some v1, some v2, some (.ref l), some (.int (i' : Int)), some b, o, d] H4
    refine sd_push (j := 2) (d := eLook (ns.getD i' 0, rm.map fun q => (q.2, ns.getD q.1 0))) rfl (g3.nw n4) (by rw [List.length_map, List.length_take, List.length_zipIdx]; omega) (ed_tup (ea_cons (ed_nth (ed_var (i := 1) rfl (dp_ex m4.gg h2)) (ed_nVar (i := 3) rfl) (by omega)) (ea_cons (ed_is (ed_tupOfL (ed_lcm rm eEnd (fun q => eEnd (q.2, ns.getD q.1 0)) (ei_tup (ed_var (i := 4) rfl hb)) ?_ fun i a ha x G5 H5 e1 e2 hx Q q => gt2n hx e2 fun v5 v6 h5 h6 => ?_)) ?_) ea_nil))) n4.gh ?_
    · have := W.deg i'
      rw [mem_getD hri]
      unfold deg at this
      omega
    · obtain rfl := dp_nI h5
      refine q _ rfl (ed_tup (ea_cons (ed_var (i := 6) rfl h6) (ea_cons (ed_nth (ed_var (i := 1) rfl (dp_ex (m4.gg.trans e1) h2)) (ed_nVar (i := 5) rfl) ?_) ea_nil)))
      rw [hn]
      exact room_inr W i' a (by rw [← mem_getD hri]; exact List.mem_of_getElem? ha)
    · rw [List.map_map]; rfl
    · intro v5 G5 H5 n5 g5 e5
      refine ⟨G5, (e3.trans n4.gg).trans n5.gg, e5, _, _, _, _, xs ++ [v5], rfl, ?_, (m4.tr n5).mut hl g5.out⟩
      rw [take_snoc hi, List.map_append]
      exact g5
  · rintro G2 σ2 H2 e2 e3 ⟨y, z, o, d, xs, rfl, g2, n2⟩
    obtain ⟨j1, j2, j3⟩ := g2.join e3
    refine sd_ret (ed_var (i := 2) rfl j3) j2 fun v6 G6 H6 n6 h6 => k v6 G6 H6 ((n2.join hl g2).tr n6) ?_
    rw [List.take_length, finer_enc] at h6
    exact h6
theorem rd_alike_by (h : S_alike_by P w K vs H Q E) : t_alike_by P w K (Dd Q) (st0 6 vs) H := by
  obtain ⟨G, ds, d, e, hd, ⟨u, m, W, hm, rfl, rfl⟩, k⟩ := h
  obtain ⟨v1, v2, rfl, h1, h2⟩ := dps2 hd
  obtain rfl := dp_nI h2
  show t_alike_by P w K (Dd Q) [some v1, some (.int (m : Int)), none, none, none, none] H
  unfold t_alike_by
  have few := W.few
  have e0 : Ed K (tLc (iTup K (tVar 0)) (gName 5) tYes (tCB (rLenC K) (tCons (tVar 5) tNil)) [5]) [some v1, some (.int (m : Int)), none, none, none, none] G (eL (u.map (·.length))) := by
    refine ed_is (ed_lcm u eRoom (fun r => nI r.length) (ei_tup (ed_var (i := 0) rfl h1)) (by omega) fun i a ha x G5 H5 e1 e2 hx Q q => q _ rfl ?_) (by unfold eL; rw [List.map_map]; rfl)
    have := ed_lenT (ed_var (σ := (wipe [some v1, some (.int (m : Int)), none, none, none, none] [5]).set 5 (some x)) (i := 5) rfl hx)
    rw [List.length_map] at this
    exact this
  refine qd_asg (ed_callD (ea_cons e0 ea_nil) (.inl ⟨_, by rw [List.length_map]; omega, rfl, rfl⟩)) e fun v3 G1 H1 n1 h3 => ?_
  refine qd_for (K := K) (List.range m) (fun i => .int (i : Int)) (ei_rng1 (ed_nVar (i := 1) rfl) (by omega)) n1.gh
    (fun i G2 σ2 H2 => ∃ y z vn, σ2 = [some v1, some (.int (m : Int)), some vn, y, z, none] ∧ Dp K G2 vn (eL (rnd u i)) ∧ Nw G H G2 H2)
    (fun G2 H2 n2 => ⟨none, none, v3, rfl, dp_ex n2.gg h3, n1.tr n2⟩) ?_ ?_
  · rintro G2 i i' G3 σ3 H3 e2 hi e3 e4 ⟨y, z, vn, rfl, hvn, n3⟩ x G4 H4 n4 hx
    obtain ⟨rfl, him⟩ := range_some hi
    obtain rfl := dp_int_inv hx
    refine gn1 ?_
    show tSeq _ _ _ [some v1, some (.int (m : Int)), some vn, some (.int (i' : Int)), z, none] H4
    have m4 := n3.tr n4
    refine qd_asg (d := eL (rnd u (i' + 1))) (ed_callD (ea_cons (ed_callD (ea_cons (ed_var (i := 0) rfl (dp_ex m4.gg h1)) (ea_cons (ed_var (i := 2) rfl (dp_ex n4.gg hvn)) ea_nil)) ⟨u, rnd u i', W, rnd_len u i', rfl, rfl⟩) ea_nil) (.inr ⟨_, by rw [finer_len]; omega, rfl, rfl⟩)) n4.gh fun v5 G5 H5 n5 h5 => ?_
    show tSeq _ _ _ [some v1, some (.int (m : Int)), some vn, some (.int (i' : Int)), some v5, none] H5
    have m5 := m4.tr n5
    have hvn5 := dp_ex (n4.gg.trans n5.gg) hvn
    have hq := eqv_dec (f := eL) (fun _ _ => eL_inj) (n := 1) (m := 1) (x := rnd u (i' + 1)) (y := rnd u i') (pl_eL _) (pl_eL _)
    refine qd_when (et_eq (et_test (ed_eqD (ed_var (i := 4) rfl h5) (ed_var (i := 2) rfl hvn5) (pl_shaped (pl_eL (n := 0) _)) (pl_shaped (pl_eL (n := 0) _)))) hq) n5.gh (fun hb G6 H6 n6 => ?_) (fun hb G6 H6 n6 => ?_)
    · have hst := rnd_still (of_decide_eq_true hb) (m - i')
      rw [show i' + (m - i') = m by omega] at hst
      refine sd_ret (ed_var (i := 2) rfl (dp_ex n6.gg hvn5)) n6.gh fun v7 G7 H7 n7 h7 => k v7 G7 H7 ((m5.tr n6).tr n7) ?_
      rw [hst]
      exact h7
    · refine sd_asg (ed_var (i := 4) rfl (dp_ex n6.gg h5)) n6.gh fun v7 G7 H7 n7 h7 => ?_
      exact ⟨G7, (((e3.trans n4.gg).trans n5.gg).trans n6.gg).trans n7.gg, n7.gh, _, _, _, rfl, h7, (m5.tr n6).tr n7⟩
  · rintro G2 σ2 H2 e2 e3 ⟨y, z, vn, rfl, hvn, n2⟩
    rw [List.length_range] at hvn
    exact sd_ret (ed_var (i := 2) rfl hvn) e3 fun v6 G6 H6 n6 h6 => k v6 G6 H6 (n2.tr n6) h6
theorem rd_kinds (h : S_kinds P w K vs H Q E) : t_kinds P w K (Dd Q) (st0 1 vs) H := by
  obtain ⟨G, ds, d, e, hd, ⟨u, W, rfl, rfl⟩, k⟩ := h
  obtain ⟨v1, rfl, h1⟩ := dps1 hd
  show t_kinds P w K (Dd Q) [some v1] H
  unfold t_kinds
  have few := W.few
  exact sd_ret (ed_callD (ea_cons (ed_var (i := 0) rfl h1) (ea_cons (ed_lenW (ed_var (i := 0) rfl h1)) ea_nil)) ⟨u, u.length, W, by omega, rfl, rfl⟩) e k
theorem rd_is_told (h : S_is_told P w K vs H Q E) : t_is_told P w K (Dd Q) (st0 4 vs) H := by
  obtain ⟨G, ds, d, e, hd, ⟨gr, ks, hl, hz, hg, rfl, rfl⟩, k⟩ := h
  obtain ⟨v1, v2, rfl, h1, h2⟩ := dps2 hd
  show t_is_told P w K (Dd Q) [some v1, some v2, none, none] H
  unfold t_is_told
  refine sd_ret (ed_all (bs := gr.zipIdx.map fun p => decide (ks.getD p.2 0 = ks.getD p.1 0)) (ed_is (ed_lcm gr.zipIdx (fun x => .tuple [nI x.2, nI x.1]) (fun p => .bool (decide (ks.getD p.2 0 = ks.getD p.1 0))) ?_ (by rw [List.length_zipIdx]; omega) fun i a ha x G2 H2 e1 e2 hx Q q => gt2n hx e2 fun v5 v6 h5 h6 => ?_) ?_)) e fun v7 G7 H7 n7 h7 => k v7 G7 H7 n7 ?_
  · rw [← enumD_map]
    exact ei_enumT (ed_var (i := 0) rfl h1)
  · obtain rfl := dp_nI h5
    obtain rfl := dp_nI h6
    obtain ⟨hi, ha⟩ := zipIdx_some ha
    have h2' := dp_ex e1 h2
    have hil := (List.getElem?_eq_some_iff.mp ha).1
    refine q _ rfl (ed_is (ed_eqD (ed_nth (ed_var (i := 1) rfl h2') (ed_nVar (i := 2) rfl) (by omega)) (ed_nth (ed_var (i := 1) rfl h2') (ed_nVar (i := 3) rfl) (hg _ (List.mem_of_getElem? ha))) (pl_shaped (pl_nI (n := 0))) (pl_shaped (pl_nI (n := 0)))) ?_)
    rw [eqv_dec (f := nI) (fun _ _ => nI_inj) (n := 1) (m := 1) pl_nI pl_nI]
  · rw [List.map_map]; rfl
  · have : (gr.zipIdx.map fun p => decide (ks.getD p.2 0 = ks.getD p.1 0)).all id = toldM ks gr := by
      unfold toldM
      rw [List.all_map]
      rfl
    rw [this] at h7
    exact h7
end
end Wk
/-! WLL -/
/-! Lists of lists that a loop changes; the box beside the region. -/
namespace Wk
open PySem L2 Evl
section
variable {P : Program} {w : World} {K : PySem.W.Frag} {σ : L2.St} {G G1 H J : Hp} {ta tb te : TE} {l : Addr} {ps : List Addr} {dss : List (List PyData)} {α : Type}
theorem dps_of_get : ∀ {vs : List V} {ds : List PyData}, vs.length = ds.length → (∀ (i : Nat) (v : V) (d : PyData), vs[i]? = some v → ds[i]? = some d → Dp K G v d) → DpAll K G vs ds
  | [], [], _, _ => .nil
  | [], _ :: _, h, _ => by simp at h
  | _ :: _, [], h, _ => by simp at h
  | v :: vs, d :: ds, h, k => .cons (k 0 v d rfl rfl) (dps_of_get (by simpa using h) fun i v d h1 h2 => k (i + 1) v d (by simpa using h1) (by simpa using h2))
structure LL (K : PySem.W.Frag) (G H : Hp) (l : Addr) (ps : List Addr) (dss : List (List PyData)) : Prop where
  lo : G l = none
  la : H l = some (.lst (ps.map V.ref))
  nd : ps.Nodup
  ne : l ∉ ps
  out : ∀ p ∈ ps, G p = none
  row : ∀ (i : Nat) (p : Addr), ps[i]? = some p → ∃ xs ds, H p = some (.lst xs) ∧ dss[i]? = some ds ∧ DpAll K G xs ds
  len : ps.length = dss.length
theorem LL.keep (g : LL K G H l ps dss) (gg : Ex G G1) (kk : ∀ a o, a ∈ l :: ps → G a = none → H a = some o → G1 a = none ∧ J a = some o) : LL K G1 J l ps dss where
  lo := (kk l _ (List.mem_cons_self ..) g.lo g.la).1
  la := (kk l _ (List.mem_cons_self ..) g.lo g.la).2
  nd := g.nd
  ne := g.ne
  out := fun p hp => by
    obtain ⟨i, hi⟩ := List.mem_iff_getElem?.mp hp
    obtain ⟨xs, ds, h1, h2, h3⟩ := g.row i p hi
    exact (kk p _ (List.mem_cons_of_mem _ hp) (g.out p hp) h1).1
  row := fun i p hi => by
    obtain ⟨xs, ds, h1, h2, h3⟩ := g.row i p hi
    have hp := List.mem_of_getElem? hi
    exact ⟨xs, ds, (kk p _ (List.mem_cons_of_mem _ hp) (g.out p hp) h1).2, h2, dps_ex gg h3⟩
  len := g.len
theorem LL.nw (g : LL K G H l ps dss) (n : Nw G H G1 J) : LL K G1 J l ps dss := g.keep n.gg fun a o _ h1 h2 => n.keep h1 h2
theorem LL.get (g : LL K G H l ps dss) {i : Nat} {ds : List PyData} (h : dss[i]? = some ds) : ∃ p xs, ps[i]? = some p ∧ p ∈ ps ∧ G p = none ∧ H p = some (.lst xs) ∧ DpAll K G xs ds := by
  have hi : i < ps.length := by rw [g.len]; exact (List.getElem?_eq_some_iff.mp h).1
  obtain ⟨xs, ds', h1, h2, h3⟩ := g.row i _ (List.getElem?_eq_getElem hi)
  rw [h] at h2
  cases h2
  exact ⟨_, xs, List.getElem?_eq_getElem hi, List.getElem_mem hi, g.out _ (List.getElem_mem hi), h1, h3⟩
theorem LL.put (g : LL K G H l ps dss) {i : Nat} {p : Addr} (hp : ps[i]? = some p) {xs : List V} {ds : List PyData} (hd : DpAll K G xs ds) : LL K G (upd H p (.lst xs)) l ps (dss.set i ds) where
  lo := g.lo
  la := by
    have : l ≠ p := fun z => g.ne (z ▸ List.mem_of_getElem? hp)
    rw [upd_ne this]; exact g.la
  nd := g.nd
  ne := g.ne
  out := g.out
  row := fun j q hq => by
    by_cases e : j = i
    · subst e
      rw [hp] at hq
      cases hq
      refine ⟨xs, ds, upd_same, ?_, hd⟩
      rw [List.getElem?_set_self]
      rw [← g.len]
      exact (List.getElem?_eq_some_iff.mp hp).1
    · obtain ⟨xs', ds', h1, h2, h3⟩ := g.row j q hq
      have : q ≠ p := fun z => e ((List.getElem?_inj (List.getElem?_eq_some_iff.mp hq).1 g.nd).mp (by rw [hq, hp, z]))
      exact ⟨xs', ds', by rw [upd_ne this]; exact h1, by rw [List.getElem?_set_ne (Ne.symm e)]; exact h2, h3⟩
  len := by rw [List.length_set]; exact g.len
/-- a row more -/
theorem LL.snoc (g : LL K G H l ps dss) {p : Addr} {xs : List V} {ds : List PyData} (h1 : G p = none) (h2 : H p = some (.lst xs)) (h3 : p ∉ ps) (h4 : p ≠ l) (hd : DpAll K G xs ds) : LL K G (upd H l (.lst (ps.map V.ref ++ [.ref p]))) l (ps ++ [p]) (dss ++ [ds]) where
  lo := g.lo
  la := by rw [upd_same, List.map_append]; rfl
  nd := by
    rw [List.nodup_append]
    refine ⟨g.nd, by simp, fun a ha b hb e => h3 ?_⟩
    simp at hb
    rw [← hb, ← e]; exact ha
  ne := fun h => by
    rcases List.mem_append.mp h with h | h
    · exact g.ne h
    · simp at h; exact h4 h.symm
  out := fun q hq => by
    rcases List.mem_append.mp hq with h | h
    · exact g.out q h
    · simp at h; rw [h]; exact h1
  row := fun i q hi => by
    by_cases e : i < ps.length
    · rw [List.getElem?_append_left e] at hi
      obtain ⟨xs', ds', a1, a2, a3⟩ := g.row i q hi
      have : q ≠ l := fun z => g.ne (z ▸ List.mem_of_getElem? hi)
      exact ⟨xs', ds', by rw [upd_ne this]; exact a1, by rw [List.getElem?_append_left (by rw [← g.len]; exact e)]; exact a2, a3⟩
    · rw [List.getElem?_append_right (by omega)] at hi
      have : i - ps.length = 0 := by
        have := (List.getElem?_eq_some_iff.mp hi).1
        simp at this
        omega
      rw [this] at hi
      simp at hi
      subst hi
      refine ⟨xs, ds, by rw [upd_ne h4]; exact h2, ?_, hd⟩
      rw [List.getElem?_append_right (by rw [← g.len]; omega), ← g.len, this]
      rfl
  len := by rw [List.length_append, List.length_append, g.len]; rfl
/-- the region with all of them -/
def wth (G H : Hp) (as : List Addr) : Hp := fun a => if a ∈ as then H a else G a
theorem LL.join (g : LL K G H l ps dss) (e : Ex G H) : Ex G (wth G H (l :: ps)) ∧ Ex (wth G H (l :: ps)) H ∧ Dp K (wth G H (l :: ps)) (.ref l) (.list (dss.map PyData.list)) := by
  have hout : ∀ a ∈ l :: ps, G a = none := fun a ha => by
    rcases List.mem_cons.mp ha with rfl | ha
    · exact g.lo
    · exact g.out a ha
  have e1 : Ex G (wth G H (l :: ps)) := fun a o h => by
    unfold wth
    rw [if_neg (fun z => by rw [hout a z] at h; cases h)]
    exact h
  refine ⟨e1, fun a o h => ?_, .lst (sq_of (by unfold wth; rw [if_pos (List.mem_cons_self ..)]; exact g.la)) (dps_of_get (by rw [List.length_map, List.length_map, g.len]) fun i v d hv hd => ?_)⟩
  · unfold wth at h
    split at h
    · exact h
    · exact e a o h
  · rw [List.getElem?_map] at hv hd
    cases q : ps[i]? with
    | none => rw [q] at hv; cases hv
    | some p =>
      obtain ⟨xs, ds, h1, h2, h3⟩ := g.row i p q
      rw [q] at hv
      rw [h2] at hd
      cases hv
      cases hd
      exact .lst (sq_of (by unfold wth; rw [if_pos (List.mem_cons_of_mem _ (List.mem_of_getElem? q))]; exact h1)) (dps_ex e1 h3)
theorem Nw.joinLL {G0 H0 : Hp} (n : Nw G0 H0 G H) (g : LL K G H l ps dss) (hf : ∀ p ∈ l :: ps, H0 p = none) : Nw G0 H0 (wth G H (l :: ps)) H :=
  ⟨n.gg.trans (g.join n.gh).1, (g.join n.gh).2.1, n.hh, fun a h1 h2 => by
    unfold wth
    rw [if_neg (fun z => h2 (hf a z))]
    exact n.fr a h1 h2⟩
/-- [te for x in l], te a fresh list -/
theorem el_lcm {ti : TI} {g : TG} {vs : List Nat} (l : List α) (enc : α → PyData) (res : α → List PyData) (h : EdI K ti σ G (l.map enc)) (hz : l.length ≤ 15000000)
    (he : ∀ (i : Nat) (a : α), l[i]? = some a → ∀ x G' H', Ex G G' → Ex G' H' → Dp K G' x (enc a) → ∀ Q : L2.St → Hp → Prop, (∀ σ2, wipe σ2 vs = wipe σ vs → EdF K te σ2 G' (res a) → Q σ2 H') → g x (wipe σ vs) H' Q)
    {H : Hp} (e : Ex G H) {Q : VK} (q : ∀ D ps G' H', Nw G H G' H' → LL K G' H' D ps (l.map res) → (∀ p ∈ D :: ps, H p = none) → Q (.ref D) H') : tLc ti g tYes te vs σ H Q := h H e _ fun J G1 H1 n1 hy D hD => by
  refine ⟨fun i m H' => m = l.length - i ∧ i ≤ l.length ∧ ∃ G' ps, Nw G1 H1 G' H' ∧ LL K G' H' D ps ((l.take i).map res) ∧ (∀ p ∈ ps, H1 p = none),
    ⟨l.length, by simp, Nat.zero_le _, G1, [], Nw.out n1.gh hD, ⟨fresh_back n1.gh hD, upd_same, List.nodup_nil, by simp, by simp, by simp, rfl⟩, by simp⟩, ?_⟩
  rintro i m H' ⟨rfl, hi, G', ps, n2, g2, f2⟩
  have key := hy i H' n2.ex
  by_cases hlt : i < l.length
  · obtain ⟨a, ha⟩ : ∃ a, l[i]? = some a := ⟨l[i], List.getElem?_eq_getElem hlt⟩
    obtain ⟨k1, k2⟩ := key.1 (enc a) (by rw [List.getElem?_map, ha]; rfl)
    refine .inr ⟨k1, fun H3 => ∃ G' ps, Nw G1 H1 G' H3 ∧ LL K G' H3 D ps ((l.take (i + 1)).map res) ∧ (∀ p ∈ ps, H1 p = none), fun H3 hp => ⟨l.length - (i + 1), by omega, rfl, hlt, hp⟩, fun x H3 hx => ?_⟩
    obtain ⟨G3, n3, hxd⟩ := k2 x H3 hx G' n2.gg n2.gh
    have m3 := n2.trans n3
    have g3 := g2.nw n3
    refine he i a ha x G3 H3 (n1.gg.trans m3.gg) n3.gh hxd _ fun σ2 hw hel => ⟨hw, ?_⟩
    show te σ2 H3 _
    refine hel H3 n3.gh _ fun p xs G5 H5 n5 o5 f5 at5 hd5 => ?_
    have g5 := g3.nw n5
    have m5 := m3.trans n5
    have hpD : p ≠ D := fun z => by
      have := g3.la
      rw [← z, f5] at this
      cases this
    have hpp : p ∉ ps := fun z => by
      obtain ⟨i, hi⟩ := List.mem_iff_getElem?.mp z
      obtain ⟨xs, ds, h1, _⟩ := g3.row i p hi
      rw [f5] at h1
      cases h1
    refine ⟨_, g5.la, sz8' ?_, G5, ps ++ [p], ⟨m5.gg, Ex.mut m5.gh g5.lo, Ex.mut m5.hh hD, m5.fr⟩, ?_, fun r hr => ?_⟩
    · rw [List.length_map, g5.len, List.length_map, List.length_take]
      omega
    · rw [take_snoc ha, List.map_append]
      exact g5.snoc o5 at5 hpp hpD hd5
    · rcases List.mem_append.mp hr with hr | hr
      · exact f2 r hr
      · simp at hr
        rw [hr]
        exact fresh_back m3.hh f5
  · have ei : i = l.length := by omega
    subst ei
    refine .inl ⟨key.2 (by simp), ?_⟩
    rw [List.take_length] at g2
    exact q D ps G' H' (n1.trans n2) g2 fun p hp => by
      rcases List.mem_cons.mp hp with rfl | hp
      · exact fresh_back n1.hh hD
      · exact fresh_back n1.hh (f2 p hp)
theorem qd_asgR {D : Ends} {tz : TS} {i : Nat} (h : te σ H fun v J => tz D (σ.set i (some v)) J) : tSeq (tAsg te (gName i)) tz D σ H := h
theorem sd_asgR {D : Ends} {i : Nat} (h : te σ H fun v J => D.nx (σ.set i (some v)) J) : tAsg te (gName i) D σ H := h
/-- l[i], a row -/
theorem rx_row (g : LL K G H l ps dss) {i : Nat} {p : Addr} (hp : ps[i]? = some p) {Q : VK} (q : Q (.ref p) H) : rIx K (.ref l) (.int (i : Int)) H Q :=
  .inl ⟨l, ps.map V.ref, (i : Int), .ref p, rfl, rfl, sq_of g.la, by
    unfold atI
    rw [ixn (by rw [List.length_map]; exact (List.getElem?_eq_some_iff.mp hp).1)]
    show (ps.map V.ref)[i]? = _
    rw [List.getElem?_map, hp]
    rfl, q⟩
/-- l[i].append(e) -/
theorem sd_appR {D : Ends} {d : PyData} {j i : Nat} {ds : List PyData} (hj : σ[j]? = some (some (.ref l))) (hi : Ed K tb σ G (.int (i : Nat))) (g : LL K G H l ps dss) (hd : dss[i]? = some ds) (hz : ds.length ≤ 15000000) (h : Ed K te σ G d) (e : Ex G H)
    (k : ∀ p xs G1 H1, Nw G H G1 H1 → p ∈ ps → LL K G1 (upd H1 p (.lst xs)) l ps (dss.set i (ds ++ [d])) → G1 p = none → Ex G1 (upd H1 p (.lst xs)) → D.nx σ (upd H1 p (.lst xs))) : tDrop (tBM K "list" rAppend (tOp (rIx K) (tVar j) tb) (tCons te tNil)) D σ H :=
  ⟨_, hj, hi H e _ fun v G1 H1 n1 hv => by
    have g1 := g.nw n1
    obtain ⟨p, xs, hp, hm, _, hx, hxd⟩ := g1.get hd
    obtain rfl := dp_int_inv hv
    refine rx_row g1 hp ⟨.inl ⟨rfl, xs, sq_of hx⟩, (h.mono n1.gg) H1 n1.gh _ fun v G2 H2 n2 hv => ?_⟩
    have g2 := g1.nw n2
    have o2 := g2.out p hm
    refine ⟨p, xs, v, rfl, rfl, n2.hh _ _ hx, sz8' (by rw [dps_len hxd]; omega), k p _ G2 H2 (n1.trans n2) hm (g2.put hp (dps_app (dps_ex n2.gg hxd) (dps_one hv))) o2 (Ex.mut n2.gh o2)⟩⟩
end
end Wk
/-! WP5 -/
namespace Wk
open PySem L2 Evl
section
theorem max_of {l : List Nat} (h : l ≠ []) : ∃ m, l.max? = some m ∧ m ∈ l ∧ ∀ y ∈ l, y ≤ m := by
  cases e : l.max? with
  | none => rw [List.max?_eq_none_iff] at e; exact absurd e h
  | some m =>
    rw [List.max?_eq_some_iff] at e
    exact ⟨m, rfl, e.1, e.2⟩
theorem nl_lt {α : Type} [DecidableEq α] (l : List α) : ∀ x ∈ nl l, x < l.length := fun x hx => by
  unfold nl at hx
  obtain ⟨y, hy, rfl⟩ := List.mem_map.mp hx
  exact Nat.lt_of_lt_of_le (List.idxOf_lt_length_of_mem ((keysOf_mem l y).mpr hy)) (keysOf_len l)
theorem rnd_lt (w : Web) : ∀ t, ∀ x ∈ rnd w t, x < w.length
  | 0 => fun x hx => by
    have := nl_lt _ x hx
    rw [List.length_map] at this
    exact this
  | t + 1 => fun x hx => by
    have := nl_lt _ x hx
    rw [finer_len] at this
    exact this
def inK (ns : List Nat) (i k : Nat) : List Nat := (List.range i).filter fun r => decide (ns.getD r 0 = k)
theorem inK_succ (ns : List Nat) (i k : Nat) : inK ns (i + 1) k = if ns.getD i 0 = k then inK ns i k ++ [i] else inK ns i k := by
  unfold inK
  rw [List.range_succ, List.filter_append, List.filter_cons]
  by_cases h : ns.getD i 0 = k
  · rw [if_pos h, if_pos (decide_eq_true h)]; rfl
  · rw [if_neg h, if_neg (by simpa using h)]; simp
theorem kinds_step (ns : List Nat) (M i n : Nat) (hn : ns.getD i 0 = n) (hM : n < M) : (((List.range M).map fun k => (inK ns i k).map nI).set n ((inK ns i n).map nI ++ [nI i])) = (List.range M).map fun k => (inK ns (i + 1) k).map nI := by
  refine List.ext_getElem? fun j => ?_
  by_cases hj : j < M
  · rw [range_get, if_pos hj]
    by_cases e : j = n
    · subst e
      rw [List.getElem?_set_self (by simpa using hM), inK_succ, if_pos hn, List.map_append]
      rfl
    · rw [List.getElem?_set_ne (Ne.symm e), range_get, if_pos hj, inK_succ, if_neg (fun z => e (by omega))]
  · rw [range_get, if_neg hj]
    exact List.getElem?_eq_none (by simpa using hj)
theorem kindsM_eq {u : Web} {ns : List Nat} : (kindsM u ns).map eL = ((List.range ((ns.max?).getD 0 + 1)).map fun k => (inK ns u.length k).map nI).map PyData.list := by
  unfold kindsM inK eL
  rw [List.map_map, List.map_map]
  rfl
end
section
variable {P : Program} {w : World} {K : PySem.W.Frag} {vs : List V} {H : Hp} {Q : VK} {E : XK}
theorem rd_kinds_by (h : S_kinds_by P w K vs H Q E) : t_kinds_by P w K (Dd Q) (st0 6 vs) H := by
  obtain ⟨G, ds, d, e, hd, ⟨u, kk, W, hkk, rfl, rfl⟩, k⟩ := h
  obtain ⟨v1, v2, rfl, h1, h2⟩ := dps2 hd
  obtain rfl := dp_nI h2
  show t_kinds_by P w K (Dd Q) [some v1, some (.int (kk : Int)), none, none, none, none] H
  unfold t_kinds_by
  have few := W.few
  have pos := W.pos
  refine qd_asg (d := eL (rnd u kk)) (ed_callD (ea_cons (ed_var (i := 0) rfl h1) (ea_cons (ed_nVar (i := 1) rfl) ea_nil)) ⟨u, kk, W, hkk, rfl, rfl⟩) e fun v3 G1 H1 n1 h3 => ?_
  show tSeq _ _ _ [some v1, some (.int (kk : Int)), some v3, none, none, none] H1
  rw [kindsM_eq] at k
  have hl := rnd_len u kk
  have hlt := rnd_lt u kk
  generalize rnd u kk = ns at *
  obtain ⟨M, hM, hMm, hMl⟩ := max_of (l := ns) (fun z => by rw [z] at hl; simp at hl; omega)
  rw [hM] at k
  dsimp only [Option.getD_some] at k
  have hmax : Ed K (tCB (rMax K) (tCons (tVar 2) tNil)) [some v1, some (.int (kk : Int)), some v3, none, none, none] G1 (nI M) := by
    refine ed_max (ns := ns.map fun n : Nat => (n : Int)) (m := (M : Int)) (ed_is (ed_var (i := 2) rfl h3) (by unfold eL; rw [ints_map])) (List.mem_map.mpr ⟨M, hMm, rfl⟩) fun y hy => ?_
    obtain ⟨z, hz, rfl⟩ := List.mem_map.mp hy
    exact Int.ofNat_le.mpr (hMl z hz)
  have hns : ns.length ≤ 6 := by omega
  have hM6 := hlt M hMm
  refine qd_asgR (el_lcm (List.range (M + 1)) (fun i => .int (i : Int)) (fun _ => []) (ei_rng1 (n := M + 1) (ed_add hmax (ed_int (i := 1))) (by omega)) (by rw [List.length_range]; omega) (fun i a ha x G5 H5 e1 e2 hx Q q => q (([some v1, some (.int (kk : Int)), some v3, none, none, none] : L2.St).set 5 (some x)) rfl (ef_lst ea_nil)) n1.gh fun D ps G2 H2 n2 g2 f2 => ?_)
  show tSeq _ _ _ [some v1, some (.int (kk : Int)), some v3, some (.ref D), none, none] H2
  have f0 : ∀ p ∈ D :: ps, H p = none := fun p hp => fresh_back n1.hh (f2 p hp)
  refine qd_for ns.zipIdx (fun p => .tuple [nI p.2, nI p.1]) (by rw [← enumD_map]; exact ei_enum (ed_var (i := 2) rfl (dp_ex n2.gg h3))) n2.gh
    (fun i G3 σ3 H3 => ∃ y z, σ3 = [some v1, some (.int (kk : Int)), some v3, some (.ref D), y, z] ∧ LL K G3 H3 D ps ((List.range (M + 1)).map fun k => (inK ns i k).map nI) ∧ Nw G H G3 H3)
    (fun G3 H3 n3 => ⟨none, none, rfl, by
      have z : ((List.range (M + 1)).map fun k => (inK ns 0 k).map nI) = (List.range (M + 1)).map fun _ => [] := rfl
      rw [z]
      exact g2.nw n3, (n1.tr n2).tr n3⟩) ?_ ?_
  · rintro G3 i ⟨n, i'⟩ G4 σ4 H4 e2 hi e3 e4 ⟨y, z, rfl, g4, n4⟩ x G5 H5 n5 hx
    obtain ⟨rfl, hn⟩ := zipIdx_some hi
    dsimp only at hn
    have hil := (List.getElem?_eq_some_iff.mp hn).1
    refine gt2n hx n5.gh fun a b ha hb => ?_
    obtain rfl := dp_nI ha
    obtain rfl := dp_nI hb
    have hnM := hMl n (List.mem_of_getElem? hn)
    have hgn : ns.getD i' 0 = n := by rw [List.getD_eq_getElem?_getD, hn]; rfl
    show tDrop _ _ [some v1, some (.int (kk : Int)), some v3, some (.ref D), some (.int (i' : Int)), some (.int (n : Int))] H5
    refine sd_appR (j := 3) (i := n) rfl (ed_nVar (i := 5) rfl) (g4.nw n5) (ds := (inK ns i' n).map nI) (by rw [range_get, if_pos (by omega)]) ?_ (ed_nVar (i := 4) rfl) n5.gh fun p xs G6 H6 n6 hp g6 o6 e6 => ?_
    · rw [List.length_map]
      have := List.length_filter_le (fun r => decide (ns.getD r 0 = n)) (List.range i')
      rw [List.length_range] at this
      unfold inK
      omega
    · refine ⟨G6, (e3.trans n5.gg).trans n6.gg, e6, _, _, rfl, ?_, ((n4.tr n5).tr n6).mut (f0 p (List.mem_cons_of_mem _ hp)) o6⟩
      rw [← kinds_step ns (M + 1) i' n hgn (by omega)]
      exact g6
  · rintro G3 σ3 H3 e2 e3 ⟨y, z, rfl, g3, n3⟩
    rw [List.length_zipIdx, hl] at g3
    obtain ⟨j1, j2, j3⟩ := g3.join e3
    exact sd_ret (ed_var (i := 3) rfl j3) j2 fun v6 G6 H6 n6 h6 => k v6 G6 H6 ((n3.joinLL g3 f0).tr n6) h6
end
end Wk
/-! WP6 -/
namespace Wk
open PySem L2 Evl
section
def foldM (ns : List Nat) (n i : Nat) (S : List Nat) : List PyData := (List.range n).map fun r => if ns.getD r 0 < i ∨ r ∈ S then nI (ns.getD r 0) else nI 0
theorem foldM_len (ns : List Nat) (n i : Nat) (S : List Nat) : (foldM ns n i S).length = n := by unfold foldM; simp
theorem foldM_set (ns : List Nat) (n i r : Nat) (S : List Nat) (hr : r < n) (hi : ns.getD r 0 = i) : (foldM ns n i S).set r (nI i) = foldM ns n i (S ++ [r]) := by
  refine List.ext_getElem? fun j => ?_
  unfold foldM
  by_cases hj : j < n
  · rw [range_get, if_pos hj]
    by_cases e : j = r
    · subst e
      rw [List.getElem?_set_self (by simpa using hj), if_pos (Or.inr (by simp)), hi]
    · rw [List.getElem?_set_ne (Ne.symm e), range_get, if_pos hj]
      have : (j ∈ S ++ [r]) ↔ j ∈ S := by simp [e]
      simp only [this]
  · rw [range_get, if_neg hj]
    exact List.getElem?_eq_none (by simpa using hj)
theorem foldM_next (ns : List Nat) (n i : Nat) : foldM ns n i (inK ns n i) = foldM ns n (i + 1) [] := by
  unfold foldM
  refine List.map_congr_left fun r hr => ?_
  have hr := List.mem_range.mp hr
  have e : (ns.getD r 0 < i ∨ r ∈ inK ns n i) ↔ (ns.getD r 0 < i + 1 ∨ r ∈ ([] : List Nat)) := by
    unfold inK
    rw [List.mem_filter]
    simp [hr]
    omega
  simp only [e]
theorem foldM_end (ns : List Nat) (n i : Nat) (hn : ns.length = n) (h : ∀ x ∈ ns, x < i) : foldM ns n i [] = ns.map nI := by
  refine List.ext_getElem? fun j => ?_
  unfold foldM
  rw [range_get]
  by_cases hj : j < n
  · rw [if_pos hj, getL (by omega), if_pos (Or.inl ?_)]
    rw [List.getD_eq_getElem?_getD, List.getElem?_eq_getElem (by omega)]
    exact h _ (List.getElem_mem _)
  · rw [if_neg hj, List.getElem?_map, List.getElem?_eq_none (by omega)]
    rfl
theorem kindsM_get {u : Web} {ns : List Nat} {i : Nat} {l : List Nat} (h : (kindsM u ns)[i]? = some l) : l = inK ns u.length i := by
  unfold kindsM at h
  rw [range_get] at h
  split at h
  · exact (Option.some.inj h).symm
  · cases h
theorem kindsM_len (u : Web) (ns : List Nat) : (kindsM u ns).length = (ns.max?).getD 0 + 1 := by unfold kindsM; simp
theorem grp_ok {α : Type} [DecidableEq α] {f : α → PyData} (hf : ∀ x y, f x = f y → x = y) (l : List α) : ∀ (i g : Nat) (x : PyData), (l.map f)[i]? = some x → (grp l)[i]? = some g → (l.map f)[g]? = some x ∧ ∀ j, j < g → (l.map f)[j]? ≠ some x := by
  intro i g x hx hg
  unfold grp at hg
  rw [List.getElem?_map] at hx hg
  cases q : l[i]? with
  | none => rw [q] at hx; cases hx
  | some a =>
    rw [q] at hx hg
    cases hx
    cases hg
    have hm := List.mem_of_getElem? q
    have hlt := List.idxOf_lt_length_of_mem hm
    refine ⟨?_, fun j hj hx => ?_⟩
    · rw [List.getElem?_map, List.getElem?_eq_getElem hlt, List.getElem_idxOf]
      rfl
    · rw [List.getElem?_map] at hx
      cases q2 : l[j]? with
      | none => rw [q2] at hx; cases hx
      | some b =>
        rw [q2] at hx
        have := hf _ _ (Option.some.inj hx)
        subst this
        have hjl := (List.getElem?_eq_some_iff.mp q2)
        have := List.not_of_lt_findIdx (p := (· == b)) (xs := l) (i := j) hj
        simp [hjl.2] at this
theorem eStep_inj {a b : Nat × Nat × Nat} (h : eStep a = eStep b) : a = b := by
  unfold eStep at h
  simp only [PyData.tuple.injEq, List.cons.injEq, and_true] at h
  exact Prod.ext (nI_inj h.1) (Prod.ext (nI_inj h.2.1) (nI_inj h.2.2))
theorem pl_eStep {n : Nat} (p : Nat × Nat × Nat) : Pl (n + 1) (eStep p) := pl_tup fun d hd => by
  simp only [List.mem_cons, List.not_mem_nil, or_false] at hd
  rcases hd with rfl | rfl | rfl <;> exact pl_nI
end
section
variable {P : Program} {w : World} {K : PySem.W.Frag} {vs : List V} {H : Hp} {Q : VK} {E : XK}
theorem rd_parted_groups (h : S_parted_groups P w K vs H Q E) : t_parted_groups P w K (Dd Q) (st0 2 vs) H := by
  obtain ⟨G, ds, d, e, hd, ⟨xs, gs, hl, hp, rfl, hg, hgs, rfl⟩, k⟩ := h
  obtain ⟨v1, rfl, h1⟩ := dps1 hd
  show t_parted_groups P w K (Dd Q) [some v1, none] H
  unfold t_parted_groups
  have e1 : (xs.zip gs).map (·.1) = xs := List.map_fst_zip (by omega)
  have e2 : (xs.zip gs).map (fun x => nI x.2) = gs.map nI := by
    have z : (xs.zip gs).map (fun x => nI x.2) = ((xs.zip gs).map (·.2)).map nI := by rw [List.map_map]; rfl
    rw [z, List.map_snd_zip (by omega)]
  refine sd_ret (ed_tupOfL (ed_is (ed_lcm (xs.zip gs) (fun x => x.1) (fun x => nI x.2) (by rw [e1]; exact ei_list (ed_var (i := 0) rfl h1)) (by rw [List.length_zip]; omega) fun i a ha x G5 H5 e3 e4 hx Q q => ?_) (by rw [e2]))) e k
  rw [List.getElem?_zip_eq_some] at ha
  obtain ⟨z1, z2⟩ := hgs i a.2 a.1 ha.1 ha.2
  have pl := hp a.1 (List.mem_of_getElem? ha.1)
  exact q _ rfl (ed_index (ed_var (i := 0) rfl (dp_ex e3 h1)) (ed_var (i := 1) rfl hx) (pl_shaped (pl_lst hp)) (pl_shaped pl) z1 (eqv_same pl pl rfl) fun m z' hm hz => eqv_other (hp z' (List.mem_of_getElem? hz)) pl fun z => z2 m hm (z ▸ hz))
theorem rd_folds_by (h : S_folds_by P w K vs H Q E) : t_folds_by P w K (Dd Q) (st0 5 vs) H := by
  obtain ⟨G, ds, d, e, hd, ⟨u, W, rfl, rfl⟩, k⟩ := h
  obtain ⟨v1, rfl, h1⟩ := dps1 hd
  show t_folds_by P w K (Dd Q) [some v1, none, none, none, none] H
  unfold t_folds_by
  have few := W.few
  have pos := W.pos
  refine qd_asgF (ef_rep (n := u.length) (ef_lst (ea_cons (ed_int (i := 0)) ea_nil)) (ed_lenW (ed_var (i := 0) rfl h1)) (by omega)) e fun l xs G1 H1 n1 o1 f1 at1 hx1 => ?_
  show tSeq _ _ _ [some v1, some (.ref l), none, none, none] H1
  have hl := rnd_len u u.length
  have hlt := rnd_lt u u.length
  have hS : Ed K (tCall (S_kinds P w K) [] E0 (tCons (tVar 0) tNil)) [some v1, some (.ref l), none, none, none] G1 (.list ((kindsM u (rnd u u.length)).map eL)) := ed_callD (ea_cons (ed_var (i := 0) rfl (dp_ex n1.gg h1)) ea_nil) ⟨u, W, rfl, rfl⟩
  generalize rnd u u.length = ns at *
  obtain ⟨M, hM, hMm, hMl⟩ := max_of (l := ns) (fun z => by rw [z] at hl; simp at hl; omega)
  have hkl : (kindsM u ns).length = M + 1 := by rw [kindsM_len, hM]; rfl
  have e0 : List.replicate u.length (PyData.int 0) = foldM ns u.length 0 [] := by
    unfold foldM
    refine List.ext_getElem? fun j => ?_
    rw [range_get]
    by_cases hj : j < u.length
    · rw [if_pos hj, List.getElem?_replicate, if_pos hj]
      simp [nI]
    · rw [if_neg hj, List.getElem?_replicate, if_neg hj]
  rw [e0] at hx1
  refine qd_for (kindsM u ns).zipIdx (fun p => .tuple [nI p.2, eL p.1]) (by rw [← enumD_map]; exact ei_enum hS) n1.gh
    (fun i G3 σ3 H3 => ∃ y z o xs, σ3 = [some v1, some (.ref l), y, z, o] ∧ Gr K G3 H3 l (foldM ns u.length i []) xs ∧ Nw G H G3 H3)
    (fun G3 H3 n3 => ⟨none, none, none, xs, rfl, (Gr.mk o1 at1 hx1).nw n3, n1.tr n3⟩) ?_ ?_
  · rintro G3 i ⟨some', i'⟩ G4 σ4 H4 e2 hi e3 e4 ⟨y, z, o, xs, rfl, g4, n4⟩ x G5 H5 n5 hx
    obtain ⟨rfl, hn⟩ := zipIdx_some hi
    dsimp only at hn
    have hsm := kindsM_get hn
    refine gt2n hx n5.gh fun a b ha hb => ?_
    obtain rfl := dp_nI ha
    show tFor _ _ _ _ [some v1, some (.ref l), some (.int (i' : Int)), some b, o] H5
    have e35 := e3.trans n5.gg
    refine sd_for some' nI (ei_list (ed_var (i := 3) rfl hb)) n5.gh
      (fun j G6 σ6 H6 => ∃ o xs, σ6 = [some v1, some (.ref l), some (.int (i' : Int)), some b, o] ∧ Gr K G6 H6 l (foldM ns u.length i' (some'.take j)) xs ∧ Nw G H G6 H6)
      (fun G6 H6 n6 => ⟨o, xs, rfl, (g4.nw n5).nw n6, (n4.tr n5).tr n6⟩) ?_ ?_
    · rintro G6 j r G7 σ7 H7 e6 hj e7 e8 ⟨o, xs, rfl, g7, n7⟩ x G8 H8 n8 hx
      obtain rfl := dp_nI hx
      refine gn1 ?_
      show tAsg _ _ _ [some v1, some (.ref l), some (.int (i' : Int)), some b, some (.int (r : Int))] H8
      have hr := List.mem_of_getElem? hj
      rw [hsm] at hr
      unfold inK at hr
      rw [List.mem_filter] at hr
      have hrn := List.mem_range.mp hr.1
      have hrk := of_decide_eq_true hr.2
      have g8 := g7.nw n8
      refine sd_set (K := K) (j := 1) (i := r) rfl g8.at_ (ed_nVar (i := 2) rfl) n8.gh (ed_nVar (i := 4) rfl) n8.gh (by rw [g8.len, foldM_len]; exact hrn) fun v G9 H9 n9 hv H10 e10 => ?_
      have o9 := (n9.keep g8.out g8.at_).1
      refine ⟨G9, (e7.trans n8.gg).trans n9.gg, Ex.mut (n9.gh.trans e10) o9, _, xs.set r v, rfl, ⟨o9, upd_same, ?_⟩, ((n7.tr n8).tr (n9.hx e10)).mut f1 o9⟩
      rw [take_snoc hj, ← foldM_set ns u.length i' r _ hrn hrk]
      exact dps_set hv r (dps_ex n9.gg g8.ok)
    · rintro G6 σ6 H6 e6 e7 ⟨o, xs, rfl, g6, n6⟩
      rw [List.take_length, hsm, foldM_next] at g6
      exact ⟨G6, (e3.trans n5.gg).trans e6, e7, _, _, _, xs, rfl, g6, n6⟩
  · rintro G3 σ3 H3 e2 e3 ⟨y, z, o, xs, rfl, g3, n3⟩
    rw [List.length_zipIdx, hkl, foldM_end ns u.length (M + 1) hl fun x hx => by have := hMl x hx; omega] at g3
    obtain ⟨j1, j2, j3⟩ := g3.join e3
    exact sd_ret (ed_tupOfL (ed_var (i := 1) rfl j3)) j2 fun v6 G6 H6 n6 h6 => k v6 G6 H6 ((n3.join f1 g3).tr n6) h6
theorem ed_there {σ : L2.St} {G : Hp} {ta tb tc : TE} {u : Web} {s dr : Nat} (W : WebOk u) (hw : Ed K ta σ G (eWeb u)) (hs : Ed K tb σ G (nI s)) (hdr : Ed K tc σ G (nI dr)) (h1 : s < u.length) (h2 : dr < deg u s) : Ed K (tOp (rIx K) (tOp (rIx K) ta tb) tc) σ G (eEnd (there u s dr)) :=
  ed_door (ed_room hw hs h1) hdr (there_door h2)
theorem rd_steps_on (h : S_steps_on P w K vs H Q E) : t_steps_on P w K (Dd Q) (st0 10 vs) H := by
  obtain ⟨G, ds, d, e, hd, ⟨u, s, n, W, hn0, hn6, hs, rfl, rfl⟩, k⟩ := h
  obtain ⟨v1, v2, v3, rfl, h1, h2, h3⟩ := dps3 hd
  show t_steps_on P w K (Dd Q) [some v1, some v2, some v3, none, none, none, none, none, none, none] H
  unfold t_steps_on
  have few := W.few
  have hne : s.1 ≠ [] := fun z => by have := hs.1.1; rw [z] at this; simp at this; omega
  have hdeg : minDeg u s.1 ≤ 24 := by
    obtain ⟨x, hx⟩ := List.exists_mem_of_ne_nil _ hne
    exact Nat.le_trans (minDeg_le hx) (W.deg x)
  have hl1 := hs.1.1
  have hl2 := hs.2.1
  refine qd_new fun l hl => ?_
  show tSeq _ _ _ [some v1, some v2, some v3, some (.ref l), none, none, none, none, none, none] _
  have n0 := Nw.out (o := .lst []) e hl
  refine qd_for (List.range (minDeg u s.1)) (fun i => .int (i : Int)) (ei_rng1 (ed_callD (ea_cons (ed_var (i := 0) rfl h1) (ea_cons (ed_var (i := 1) rfl h2) ea_nil)) ⟨u, s.1, W, hne, by omega, hs.1.2, rfl, rfl⟩) (by omega)) n0.gh
    (fun i G3 σ3 H3 => ∃ y z o xs, σ3 = [some v1, some v2, some v3, some (.ref l), y, z, o, none, none, none] ∧ Gr K G3 H3 l (((List.range i).map (nextT u s)).map eSt) xs ∧ Nw G H G3 H3)
    (fun G3 H3 n3 => ⟨none, none, none, [], rfl, ⟨n3.fr l (fresh_back e hl) (by rw [upd_same]; simp), n3.hh l _ upd_same, .nil⟩, n0.tr n3⟩) ?_ ?_
  · rintro G3 i i' G4 σ4 H4 e2 hi e3 e4 ⟨y, z, o, xs, rfl, g4, n4⟩ x G5 H5 n5 hx
    obtain ⟨rfl, him⟩ := range_some hi
    obtain rfl := dp_int_inv hx
    refine gn1 ?_
    show tSeq _ _ _ [some v1, some v2, some v3, some (.ref l), some (.int (i' : Int)), z, o, none, none, none] H5
    have hdr : ∀ r ∈ s.1, i' < deg u r := fun r hr => Nat.lt_of_lt_of_le him (minDeg_le hr)
    have m5 := n4.tr n5
    refine qd_asg (d := .list ((s.1.map fun r => there u r i').map eEnd)) (ed_is (ed_lcm s.1 nI (fun r => eEnd (there u r i')) (ei_tup (ed_var (i := 1) rfl (dp_ex m5.gg h2))) (by omega) fun j a ha x G6 H6 e5 e6 hx Q q => ?_) (by rw [List.map_map]; rfl)) n5.gh fun v6 G6 H6 n6 h6 => ?_
    · obtain rfl := dp_nI hx
      have ham := List.mem_of_getElem? ha
      exact q _ rfl (ed_there W (ed_var (i := 0) rfl (dp_ex (m5.gg.trans e5) h1)) (ed_nVar (i := 7) rfl) (ed_nVar (i := 4) rfl) (hs.1.2 a ham) (hdr a ham))
    · show tSeq _ _ _ [some v1, some v2, some v3, some (.ref l), some (.int (i' : Int)), some v6, o, none, none, none] H6
      have m6 := m5.tr n6
      refine qd_asg (d := .list ((sightsM u s.2 (s.1.map fun r => there u r i')).map eStep)) (ed_is (ed_lcm (s.2.zip (s.1.map fun r => there u r i')) (fun x => .tuple [nI x.1, eEnd x.2]) (fun x => eStep (x.1, x.2.2, deg u x.2.1)) (by rw [← zipD_map]; exact ei_zipM (ed_var (i := 2) rfl (dp_ex m6.gg h3)) (ed_var (i := 5) rfl h6) (by simp; omega)) (by rw [List.length_zip]; omega) fun j a ha x G7 H7 e5 e6 hx Q q => gt2n hx e6 fun v7 v8 h7 h8 => ?_) (by unfold sightsM; rw [List.map_map]; rfl)) n6.gh fun v7 G7 H7 n7 h7 => ?_
      · rw [List.getElem?_zip_eq_some, List.getElem?_map] at ha
        have hlt : a.2.1 < u.length := by
          cases q2 : s.1[j]? with
          | none => rw [q2] at ha; simp at ha
          | some r =>
            rw [q2] at ha
            have := Option.some.inj ha.2
            rw [← this]
            exact there_lt W r i'
        exact q _ rfl (ed_tup (ea_cons (ed_var (i := 8) rfl h7) (ea_cons (ed_snd (ed_var (i := 9) rfl h8)) (ea_cons (ed_degR (ed_room (ed_var (i := 0) rfl (dp_ex (m6.gg.trans e5) h1)) (ed_fst (ed_var (i := 9) rfl h8)) hlt)) ea_nil))))
      · show tDrop _ _ [some v1, some v2, some v3, some (.ref l), some (.int (i' : Int)), some v6, some v7, none, none, none] H7
        have h6' := dp_ex n7.gg h6
        have ea : Ed K (tCB (rTupC K) (tCons (tLc (iList K (tVar 5)) (gName 9) tYes (tOp (rIx K) (tVar 9) (tC (.int 0))) [9]) tNil)) [some v1, some v2, some v3, some (.ref l), some (.int (i' : Int)), some v6, some v7, none, none, none] G7 (eNs (nextH u s.1 i')) := by
          refine ed_is (ed_tupOfL (ed_lcm (s.1.map fun r => there u r i') eEnd (fun p => nI p.1) (ei_list (ed_var (i := 5) rfl h6')) (by simp; omega) fun j a ha x G8 H8 e5 e6 hx Q q => q _ rfl (ed_fst (ed_var (i := 9) rfl hx)))) ?_
          unfold eNs nextH
          rw [List.map_map, List.map_map]
          rfl
        have eb : Ed K (tCall (S_parted_groups P w K) [] E0 (tCons (tVar 6) tNil)) [some v1, some v2, some v3, some (.ref l), some (.int (i' : Int)), some v6, some v7, none, none, none] G7 (eNs (grp (sightsM u s.2 (s.1.map fun r => there u r i')))) := by
          refine ed_callD (ea_cons (ed_var (i := 6) rfl h7) ea_nil) ⟨_, _, ?_, fun x hx => ?_, rfl, ?_, grp_ok (fun _ _ => eStep_inj) _, rfl⟩
          · unfold sightsM; simp; omega
          · obtain ⟨z, _, rfl⟩ := List.mem_map.mp hx
            exact pl_eStep z
          · rw [grp_len, List.length_map]
        refine sd_push (j := 3) (d := eSt (nextT u s i')) rfl (((g4.nw n5).nw n6).nw n7) (by simp; omega) (ed_tup (ea_cons ea (ea_cons eb ea_nil))) n7.gh fun v8 G8 H8 n8 g8 e8 => ?_
        refine ⟨G8, (((e3.trans n5.gg).trans n6.gg).trans n7.gg).trans n8.gg, e8, _, _, _, xs ++ [v8], rfl, ?_, ((m6.tr n7).tr n8).mut hl g8.out⟩
        rw [List.range_succ, List.map_append, List.map_append]
        exact g8
  · rintro G3 σ3 H3 e2 e3 ⟨y, z, o, xs, rfl, g3, n3⟩
    rw [List.length_range] at g3
    obtain ⟨j1, j2, j3⟩ := g3.join e3
    exact sd_ret (ed_var (i := 3) rfl j3) j2 fun v6 G6 H6 n6 h6 => k v6 G6 H6 ((n3.join hl g3).tr n6) h6
end
end Wk
/-! WBf -/
/-! The search as the code goes through it. -/
namespace Wk
open PySem L2 Evl
section
variable {S : Type} [DecidableEq S]
def mid (R cs : List (Ent S)) (d : Nat) : List (Ent S) := R ++ push R (cs.take d)
theorem mid_zero (R cs : List (Ent S)) : mid R cs 0 = R := by unfold mid; simp [push]
theorem mid_succ {R cs : List (Ent S)} {d : Nat} {c : Ent S} (h : cs[d]? = some c) : mid R cs (d + 1) = if c.1 ∈ (mid R cs d).map (·.1) then mid R cs d else mid R cs d ++ [c] := by
  unfold mid
  rw [take_snoc h, push_append]
  simp only [push]
  split
  · rw [List.append_nil]
  · rw [List.append_assoc]
theorem mid_all (R cs : List (Ent S)) : mid R cs cs.length = R ++ push R cs := by unfold mid; rw [List.take_length]
theorem mid_mem {R cs : List (Ent S)} {d : Nat} {e : Ent S} (h : e ∈ R) : e ∈ mid R cs d := List.mem_append_left _ h
theorem mid_le (R cs : List (Ent S)) (d : Nat) : (mid R cs d).length ≤ (R ++ push R cs).length := by
  have : push R cs = push R (cs.take d) ++ push (R ++ push R (cs.take d)) (cs.drop d) := by rw [← push_append, List.take_append_drop]
  unfold mid
  rw [this, List.length_append, List.length_append, List.length_append]
  omega
theorem mid_nodup {R cs : List (Ent S)} {d : Nat} (h : (R.map (·.1)).Nodup) : ((mid R cs d).map (·.1)).Nodup := push_nodup h
theorem mid_ge (R cs : List (Ent S)) (d : Nat) : R.length ≤ (mid R cs d).length := by unfold mid; rw [List.length_append]; omega
theorem cand_get {kids : S → List S} {e : Ent S} {d : Nat} {t : S} (h : (kids e.1)[d]? = some t) : (cand kids e)[d]? = some (t, e.2 ++ [d]) := by
  unfold cand
  rw [List.getElem?_map, List.getElem?_zipIdx, h]
  simp
theorem cand_len (kids : S → List S) (e : Ent S) : (cand kids e).length = (kids e.1).length := by unfold cand; simp
theorem runQ_past {kids : S → List S} {b : S} {n : Nat} (h : (runQ kids b n).length ≤ n) : ∀ m, n ≤ m → runQ kids b m = runQ kids b n := by
  intro m hm
  induction m with
  | zero => rw [show n = 0 by omega]
  | succ m ih =>
    by_cases e : n = m + 1
    · rw [e]
    · have z := ih (by omega)
      show (match (runQ kids b m)[m]? with | none => runQ kids b m | some e => _) = _
      rw [z, List.getElem?_eq_none (by omega)]
def entsW (key : S → NestedKey) (W : List (Ent S)) : List (NestedKey × PyData) := W.map fun e => (key e.1, eNs e.2)
theorem entsW_keys (key : S → NestedKey) (W : List (Ent S)) : (entsW key W).map (·.1) = (W.map (·.1)).map key := by
  unfold entsW
  rw [List.map_map, List.map_map]
  rfl
theorem entsW_has {key : S → NestedKey} (hk : ∀ a b, key a = key b → a = b) {W : List (Ent S)} {s : S} : key s ∈ (entsW key W).map (·.1) ↔ s ∈ W.map (·.1) := by
  rw [entsW_keys]
  constructor
  · intro h
    obtain ⟨t, ht, e⟩ := List.mem_map.mp h
    rw [← hk _ _ e]
    exact ht
  · exact fun h => List.mem_map.mpr ⟨s, h, rfl⟩
theorem entsW_get {key : S → NestedKey} {W : List (Ent S)} {s : S} {p : List Nat} (h : (s, p) ∈ W) : (key s, eNs p) ∈ entsW key W := List.mem_map.mpr ⟨(s, p), h, rfl⟩
theorem entsW_len (key : S → NestedKey) (W : List (Ent S)) : (entsW key W).length = W.length := by unfold entsW; simp
theorem entsW_snoc (key : S → NestedKey) (W : List (Ent S)) (c : Ent S) : entsW key (W ++ [c]) = entsW key W ++ [(key c.1, eNs c.2)] := by unfold entsW; simp
end
def kNs (l : List Nat) : NestedKey := .tup (l.map fun n : Nat => .num n)
theorem kNs_data (l : List Nat) : (kNs l).data = eNs l := by
  unfold kNs eNs
  simp only [NestedKey.data]
  rw [datas_map (fun n : Nat => NestedKey.num n) nI (fun n => by simp [NestedKey.data, nI])]
theorem kNs_depth (l : List Nat) : (kNs l).depth ≤ 8 := by
  have := depths_map (fun n : Nat => NestedKey.num n) 0 (fun n => by simp [NestedKey.depth]) l
  simp only [kNs, NestedKey.depth]
  omega
theorem kNs_depth1 (l : List Nat) : (kNs l).depth ≤ 1 := by
  have := depths_map (fun n : Nat => NestedKey.num n) 0 (fun n => by simp [NestedKey.depth]) l
  simp only [kNs, NestedKey.depth]
  omega
theorem kNs_inj (a b : List Nat) (h : kNs a = kNs b) : a = b := eNs_inj (by rw [← kNs_data, ← kNs_data, h])
def kSt (s : St2) : NestedKey := .tup [kNs s.1, kNs s.2]
theorem kSt_data (s : St2) : (kSt s).data = eSt s := by
  simp only [kSt, NestedKey.data, NestedKey.datas, eSt, kNs_data]
theorem kSt_depth (s : St2) : (kSt s).depth ≤ 8 := by
  have h1 := kNs_depth1 s.1
  have h2 := kNs_depth1 s.2
  simp only [kSt, NestedKey.depth, NestedKey.depthAll]
  omega
theorem kSt_inj (a b : St2) (h : kSt a = kSt b) : a = b := eSt_inj (by rw [← kSt_data, ← kSt_data, h])
theorem fzs_nI : ∀ l : List Nat, fzs (l.map nI) = true
  | [] => rfl
  | n :: l => by simp only [List.map_cons, fzs, nI, fz, fzs_nI l, Bool.true_and]
theorem fz_eNs (l : List Nat) : fz (eNs l) = true := by unfold eNs; simp only [fz, fzs_nI]
section
variable {P : Program} {w : World} {K : PySem.W.Frag} {σ : L2.St} {G H : Hp}
theorem Gr.up {l m : Addr} {ds : List PyData} {xs : List V} {o : HO} (g : Gr K G H l ds xs) (h : l ≠ m) : Gr K G (upd H m o) l ds xs := ⟨g.out, by rw [upd_ne h]; exact g.at_, g.ok⟩
theorem Dc.up {l m : Addr} {ents : List (NestedKey × PyData)} {kvs : KVs} {o : HO} (g : Dc P w K G H m ents kvs) (h : m ≠ l) : Dc P w K G (upd H l o) m ents kvs := ⟨g.out, by rw [upd_ne h]; exact g.at_, g.mp, g.nd⟩
theorem Gr.hx {J : Hp} {l : Addr} {ds : List PyData} {xs : List V} (g : Gr K G H l ds xs) (e : Ex H J) : Gr K G J l ds xs := ⟨g.out, e _ _ g.at_, g.ok⟩
theorem Gr.new2 {l : Addr} (e : Ex G H) (h : H l = none) : Gr K G (upd H l (.lst [])) l [] [] := ⟨fresh_back e h, upd_same, .nil⟩
end
theorem stands_mem {u : Web} {st : Story} {p : Nat × Nat} (h : p ∈ standsM u st) : p.1 < u.length ∧ fitsM u p.1 st = true ∧ go1 u p.1 (stWay st) = some p.2 := by
  unfold standsM at h
  obtain ⟨r, hr, hp⟩ := List.mem_filterMap.mp h
  have hr := List.mem_range.mp hr
  split at hp
  · rename_i hf
    cases q : gon u r none (stWay st) with
    | none => rw [q] at hp; cases hp
    | some g =>
      rw [q] at hp
      cases hp
      exact ⟨hr, hf, by unfold go1; rw [q]; rfl⟩
  · cases hp
theorem go1_lt {u : Web} (W : WebOk u) : ∀ {p : List Nat} {r s : Nat}, r < u.length → go1 u r p = some s → s < u.length
  | [], r, s, h, e => by unfold go1 gon at e; cases e; exact h
  | d :: p, r, s, h, e => by
    rw [go1_cons] at e
    cases q : door u r d with
    | none => rw [q] at e; cases e
    | some x =>
      rw [q] at e
      exact go1_lt W (W.inr r d x.1 x.2 q) e
theorem stands_walk {u : Web} (W : WebOk u) {st : Story} (h : standsM u st ≠ []) : walkQ (kidsH u) ((standsM u st).map (·.2)) ((stSight st).map (·.1)).reverse = some ((standsM u st).map (·.1)) := by
  refine walkH_of (by simpa using h) ?_
  rw [List.map_map, List.map_map]
  refine List.map_congr_left fun p hp => ?_
  obtain ⟨h1, h2, h3⟩ := stands_mem hp
  exact back_home W (of_decide_eq_true h2).2 h3
theorem stands_len (u : Web) (st : Story) : (standsM u st).length ≤ u.length := by
  unfold standsM
  have := List.length_filterMap_le (fun r => if fitsM u r st = true then (gon u r none (stWay st)).map fun g => (r, g.1) else none) (List.range u.length)
  rw [List.length_range] at this
  exact this
end Wk
/-! WP7 -/
namespace Wk
open PySem L2 Evl
section
variable {P : Program} {w : World} {K : PySem.W.Frag} {vs : List V} {H : Hp} {Q : VK} {E : XK}
theorem ed_nextH {σ : L2.St} {G : Hp} {u : Web} {sp : List Nat} {dr a b c i : Nat} {n : Nat} (hb : InH u n sp) (hn : sp.length ≤ 1000) (hdr : dr < minDeg u sp)
    (hw : ∀ (x : V) (G' : Hp), Ex G G' → Ed K (tVar a) ((wipe σ [i]).set i (some x)) G' (eWeb u)) (hs : Ed K (tVar b) σ G (eNs sp)) (hd : ∀ (x : V) (G' : Hp), Ex G G' → Ed K (tVar c) ((wipe σ [i]).set i (some x)) G' (nI dr)) (hi : ∀ x : V, (((wipe σ [i]).set i (some x)))[i]? = some (some x)) (hwp : ∀ x : V, wipe ((wipe σ [i]).set i (some x)) [i] = wipe σ [i]) (W : WebOk u) :
    Ed K (tCB (rTupC K) (tCons (tLc (iTup K (tVar b)) (gName i) tYes (tOp (rIx K) (tOp (rIx K) (tOp (rIx K) (tVar a) (tVar i)) (tVar c)) (tC (.int 0))) [i]) tNil)) σ G (eNs (nextH u sp dr)) := by
  refine ed_is (ed_tupOfL (ed_lcm sp nI (fun r => nI (there u r dr).1) (ei_tup hs) (by omega) fun j r hr x G8 H8 e5 e6 hx Q q => ?_)) ?_
  · obtain rfl := dp_nI hx
    have hm := List.mem_of_getElem? hr
    exact q _ (hwp _) (ed_fst (ed_there W (hw _ G8 e5) (ed_nVar (hi _)) (hd _ G8 e5) (hb.2 r hm) (Nat.lt_of_lt_of_le hdr (minDeg_le hm))))
  · unfold eNs nextH
    rw [List.map_map]
    rfl
theorem rd_way_home (h : S_way_home P w K vs H Q E) : t_way_home P w K (Dd Q) (st0 13 vs) H := by
  obtain ⟨G, ds, d, e, hd, ⟨u, st, W, hl, rfl, rfl⟩, k⟩ := h
  obtain ⟨v1, v2, rfl, h1, h2⟩ := dps2 hd
  show t_way_home P w K (Dd Q) [some v1, some v2, none, none, none, none, none, none, none, none, none, none, none] H
  unfold t_way_home
  have few := W.few
  refine qd_asg (d := .list ((standsM u st).map eEnd)) (ed_callD (ea_cons (ed_var (i := 0) rfl h1) (ea_cons (ed_var (i := 1) rfl h2) ea_nil)) ⟨u, st, W, by omega, rfl, rfl⟩) e fun v3 G1 H1 n1 h3 => ?_
  show tSeq _ _ _ [some v1, some v2, some v3, none, none, none, none, none, none, none, none, none, none] H1
  have slen := stands_len u st
  have swalk := stands_walk (st := st) W
  have smem : ∀ p ∈ standsM u st, p.1 < u.length ∧ p.2 < u.length := fun p hp => by
    obtain ⟨a1, a2, a3⟩ := stands_mem hp
    exact ⟨a1, go1_lt W a1 a3⟩
  unfold homeD at k
  generalize standsM u st = prs at *
  generalize ((stSight st).map (·.1)).reverse = bk at *
  have hq : PyData.eqv (nI prs.length) (nI 0) = decide (prs.length = 0) := eqv_dec (f := nI) (fun _ _ => nI_inj) (n := 0) (m := 0) pl_nI pl_nI
  have hlen : Ed K (tCB (rLenC K) (tCons (tVar 2) tNil)) [some v1, some v2, some v3, none, none, none, none, none, none, none, none, none, none] G1 (nI prs.length) := by
    have := ed_len (ed_var (σ := [some v1, some v2, some v3, none, none, none, none, none, none, none, none, none, none]) (i := 2) rfl h3)
    rw [List.length_map] at this
    exact this
  refine qd_when (et_eq (et_test (ed_eqD hlen (ed_int (i := 0)) (pl_shaped (pl_nI (n := 0))) (pl_shaped (pl_nI (n := 0) (k := 0))))) hq) n1.gh (fun hb G2 H2 n2 => ?_) (fun hb G2 H2 n2 => ?_)
  · have hz : prs = [] := List.length_eq_zero_iff.mp (of_decide_eq_true hb)
    refine sd_ret (K := K) ed_non n2.gh fun v6 G6 H6 n6 h6 => k v6 G6 H6 ((n1.tr n2).tr n6) ?_
    rw [if_pos hz]
    exact h6
  have hne : prs ≠ [] := fun z => by rw [z] at hb; simp at hb
  rw [if_neg hne] at k
  replace swalk := swalk hne
  have m2 := n1.tr n2
  refine qd_asg (d := eNs (prs.map (·.1))) (ed_is (ed_tupOfL (ed_lcm prs eEnd (fun p => nI p.1) (ei_list (ed_var (i := 2) rfl (dp_ex n2.gg h3))) (by omega) fun j a ha x G8 H8 e5 e6 hx Q q => q _ rfl (ed_fst (ed_var (i := 11) rfl hx)))) (by unfold eNs; rw [List.map_map]; rfl)) n2.gh fun v4 G3 H3 n3 h4 => ?_
  show tSeq _ _ _ [some v1, some v2, some v3, some v4, none, none, none, none, none, none, none, none, none] H3
  refine qd_asg (d := eNs (prs.map (·.2))) (ed_is (ed_tupOfL (ed_lcm prs eEnd (fun p => nI p.2) (ei_list (ed_var (i := 2) rfl (dp_ex (n2.gg.trans n3.gg) h3))) (by omega) fun j a ha x G8 H8 e5 e6 hx Q q => q _ rfl (ed_snd (ed_var (i := 11) rfl hx)))) (by unfold eNs; rw [List.map_map]; rfl)) n3.gh fun v5 G4 H4 n4 h5 => ?_
  show tSeq _ _ _ [some v1, some v2, some v3, some v4, some v5, none, none, none, none, none, none, none, none] H4
  have m4 := (m2.tr n3).tr n4
  have hbI : InH u prs.length (prs.map (·.2)) := ⟨by simp, fun x hx => by
    obtain ⟨p, hp, rfl⟩ := List.mem_map.mp hx
    exact (smem p hp).2⟩
  generalize hgo : prs.map (·.1) = goals at *
  generalize hbe : prs.map (·.2) = b at *
  have hlb : b.length = prs.length := hbI.1
  have hP : ∀ n, ∀ x ∈ runQ (kidsH u) b n, InH u prs.length x.1 := runQ_P _ hbI (inH_kids W)
  have hfew : ∀ n, (runQ (kidsH u) b n).length ≤ 46656 := fun n => few_H W (by omega) hbI n
  have hpl : 0 < prs.length := List.length_pos_iff.mpr hne
  refine qd_dnone (k := kNs b) (d := eNs []) (by rw [kNs_data]; exact ed_var (i := 4) rfl h5) (ed_tup ea_nil) n4.gh rfl (kNs_depth b) fun m kvs G5 H5 n5 f5 g5 => ?_
  show tSeq _ _ _ [some v1, some v2, some v3, some v4, some v5, some (.ref m), none, none, none, none, none, none, none] H5
  have m5 := m4.tr n5
  refine qd_asg (d := .list (([(b, [])] : List (Ent (List Nat))).map fun x => eNs x.1)) (ed_lst (ea_cons (ed_var (i := 4) rfl (dp_ex n5.gg h5)) ea_nil)) n5.gh fun v6 G6 H6 n6 h6 => ?_
  show tSeq _ _ _ [some v1, some v2, some v3, some v4, some v5, some (.ref m), some v6, none, none, none, none, none, none] H6
  have m6 := m5.tr n6
  have f0 : H m = none := fresh_back m4.hh f5
  have hd1 := dp_ex m6.gg h1
  have hd4 := dp_ex ((n4.gg.trans n5.gg).trans n6.gg) h4
  refine qd_while (fun t σ2 H2 => ∃ (n : Nat) (G2 : Hp) (kvs : KVs) (vl : V) (y1 y2 y3 y4 : Option V), t = 46657 - n ∧ n ≤ (runQ (kidsH u) b n).length ∧ σ2 = [some v1, some v2, some v3, some v4, some v5, some (.ref m), some vl, y1, y2, y3, y4, none, none] ∧
      Nw G H G2 H2 ∧ Ex G6 G2 ∧ Dc P w K G2 H2 m (entsW kNs (runQ (kidsH u) b n)) kvs ∧ Dp K G2 vl (.list (((runQ (kidsH u) b n).drop n).map fun x => eNs x.1))) 46657 ?_ ?_
  · exact ⟨0, G6, kvs, v6, none, none, none, none, rfl, Nat.zero_le _, rfl, m6, Ex.refl _, by simpa [entsW, runQ] using g5.nw n6, h6⟩
  rintro t σ2 H2 ⟨n, G2, kvs, vl, y1, y2, y3, y4, rfl, hn, rfl, n7, e7, g7, h7⟩
  obtain ⟨a1, a2, a3⟩ := g7.reg n7.gh
  refine ⟨_, _, a1, et_notin (k := kNs goals) (by rw [kNs_data]; exact ed_var (i := 3) rfl (dp_ex (e7.trans a2) hd4)) rfl (kNs_depth _) (j := 5) rfl a3 upd_same, fun hb G8 H8 n8 => ?_, fun hb G8 H8 n8 => ?_⟩
  · -- one more layer
    have hnot : goals ∉ (runQ (kidsH u) b n).map (·.1) := fun z => by
      rw [decide_eq_true ((entsW_has kNs_inj).mpr z)] at hb
      cases hb
    have hlt : n < (runQ (kidsH u) b n).length := by
      rcases Nat.lt_or_eq_of_le hn with z | z
      · exact z
      · exact absurd (runQ_all (n := n) (List.getElem?_eq_none (by omega)) bk b goals (runQ_base _ _ _) swalk) hnot
    have n9 := n7.hx n8.hh
    have g9 := g7.hx n8.hh
    refine qd_new fun lf hlf => ?_
    show tSeq _ _ _ [some v1, some v2, some v3, some v4, some v5, some (.ref m), some vl, some (.ref lf), y2, y3, y4, none, none] _
    have hml : m ≠ lf := fun z => by
      have := g9.at_
      rw [z, hlf] at this
      cases this
    have f1 : H lf = none := fresh_back n9.hh hlf
    have n10 := n9.tr (Nw.out (o := .lst []) n9.gh hlf)
    have N := runQ (kidsH u) b n
    refine qd_for ((runQ (kidsH u) b n).drop n) (fun x => eNs x.1) (ei_list (ed_var (i := 6) rfl h7)) n10.gh
      (fun j G3 σ3 H3 => ∃ (kvs : KVs) (xs : List V) (y2 y3 y4 : Option V), σ3 = [some v1, some v2, some v3, some v4, some v5, some (.ref m), some vl, some (.ref lf), y2, y3, y4, none, none] ∧
        Nw G H G3 H3 ∧ Dc P w K G3 H3 m (entsW kNs (runQ (kidsH u) b (n + j))) kvs ∧ Gr K G3 H3 lf (((runQ (kidsH u) b (n + j)).drop (runQ (kidsH u) b n).length).map fun x => eNs x.1) xs)
      (fun G3 H3 n3 => ⟨kvs, [], y2, y3, y4, rfl, n10.tr n3, (g9.up hml).nw ((Nw.refl n10.gh).tr n3), by
        rw [Nat.add_zero, List.drop_length]
        exact (Gr.mk (fresh_back n9.gh hlf) upd_same .nil).nw n3⟩) ?_ ?_
    · rintro G11 j ⟨sp, wy⟩ G12 σ3 H12 e11 hj e12 e13 ⟨kvs, xs, y2, y3, y4, rfl, n12, g12, r12⟩ x G13 H13 n13 hx
      refine gn1 ?_
      show tFor _ _ _ _ [some v1, some v2, some v3, some v4, some v5, some (.ref m), some vl, some (.ref lf), some x, y3, y4, none, none] H13
      have hj' : (runQ (kidsH u) b n)[n + j]? = some (sp, wy) := by rw [List.getElem?_drop] at hj; exact hj
      have hin : (runQ (kidsH u) b (n + j))[n + j]? = some (sp, wy) := runQ_get hj' (by omega)
      have hstep := runQ_step hin
      have hge : (runQ (kidsH u) b n).length ≤ (runQ (kidsH u) b (n + j)).length := by
        obtain ⟨t, ht⟩ := runQ_mono (kidsH u) b (n := n) (m := n + j) (by omega)
        rw [ht, List.length_append]
        omega
      have hspI : InH u prs.length sp := hP _ _ (List.mem_of_getElem? hin)
      have hspne : sp ≠ [] := fun z => by have := hspI.1; rw [z] at this; simp at this; omega
      have hmd : minDeg u sp ≤ 24 := by
        have := kidsH_len W hspne
        unfold kidsH at this
        simpa using this
      have hew : (sp, wy) ∈ runQ (kidsH u) b (n + j) := List.mem_of_getElem? hin
      have hbig := hfew (n + j + 1)
      have hwy : wy.length ≤ 46656 := by
        have := runQ_lt hew
        have := hfew (n + j)
        dsimp only at *
        omega
      rw [hstep, ← mid_all, cand_len] at hbig
      have hnd := runQ_nodup (kidsH u) b (n + j)
      generalize runQ (kidsH u) b (n + j) = R at *
      rw [show n + (j + 1) = n + j + 1 by omega, hstep, ← mid_all, cand_len]
      have m13 := n12.tr n13
      have e613 : Ex G6 G13 := (((e7.trans e11).trans e12)).trans n13.gg
      refine sd_for (List.range (minDeg u sp)) (fun i => .int (i : Int)) (ei_rng1 (ed_callD (ea_cons (ed_var (i := 0) rfl (dp_ex e613 hd1)) (ea_cons (ed_var (i := 8) rfl hx) ea_nil)) ⟨u, sp, W, hspne, by rw [hspI.1]; omega, hspI.2, rfl, rfl⟩) (by omega)) n13.gh
        (fun d G3 σ3 H3 => ∃ (kvs : KVs) (xs : List V) (y3 y4 : Option V), σ3 = [some v1, some v2, some v3, some v4, some v5, some (.ref m), some vl, some (.ref lf), some x, y3, y4, none, none] ∧
          Nw G H G3 H3 ∧ Dc P w K G3 H3 m (entsW kNs (mid R (cand (kidsH u) (sp, wy)) d)) kvs ∧ Gr K G3 H3 lf (((mid R (cand (kidsH u) (sp, wy)) d).drop (runQ (kidsH u) b n).length).map fun x => eNs x.1) xs)
        (fun G3 H3 n3 => ⟨kvs, xs, y3, y4, rfl, m13.tr n3, by rw [mid_zero]; exact (g12.nw n13).nw n3, by rw [mid_zero]; exact (r12.nw n13).nw n3⟩) ?_ ?_
      · rintro G14 d d' G15 σ3 H15 e14 hd' e15 e16 ⟨kvs, xs, y3, y4, rfl, n15, g15, r15⟩ z G16 H16 n16 hz
        obtain ⟨rfl, hdm⟩ := range_some hd'
        obtain rfl := dp_int_inv hz
        refine gn1 ?_
        show tSeq _ _ _ [some v1, some v2, some v3, some v4, some v5, some (.ref m), some vl, some (.ref lf), some x, some (.int (d' : Int)), y4, none, none] H16
        have e616 : Ex G6 G16 := ((e613.trans e14).trans e15).trans n16.gg
        have hx16 := dp_ex ((e14.trans e15).trans n16.gg) hx
        refine qd_asg (d := eNs (nextH u sp d')) (ed_nextH hspI (by rw [hspI.1]; omega) hdm (fun x G' e' => ed_var (i := 0) rfl (dp_ex (e616.trans e') hd1)) (ed_var (i := 8) rfl hx16) (fun x G' e' => ed_nVar (i := 9) rfl) (fun x => rfl) (fun x => rfl) W) n16.gh fun vt G17 H17 n17 ht => ?_
        show tIfS _ _ _ _ [some v1, some v2, some v3, some v4, some v5, some (.ref m), some vl, some (.ref lf), some x, some (.int (d' : Int)), some vt, none, none] H17
        have n17' := (n15.tr n16).tr n17
        have g17 := (g15.nw n16).nw n17
        have r17 := (r15.nw n16).nw n17
        have hc : (cand (kidsH u) (sp, wy))[d']? = some (nextH u sp d', wy ++ [d']) := cand_get (by unfold kidsH; rw [range_get, if_pos hdm])
        have hms := mid_succ (R := R) hc
        have hmem : (sp, wy) ∈ mid R (cand (kidsH u) (sp, wy)) d' := mid_mem hew
        have hmle := mid_le R (cand (kidsH u) (sp, wy)) d'
        rw [← mid_all, cand_len] at hmle
        have hmge := mid_ge R (cand (kidsH u) (sp, wy)) d'
        have hmln : (mid R (cand (kidsH u) (sp, wy)) d').length ≤ 46656 := Nat.le_trans hmle hbig
        dsimp only at hms
        generalize mid R (cand (kidsH u) (sp, wy)) d' = M at *
        obtain ⟨b1, b2, b3⟩ := g17.reg n17'.gh
        have eG : Ex G14 G17 := (e15.trans n16.gg).trans n17.gg
        refine sd_when (et_notin (k := kNs (nextH u sp d')) (by rw [kNs_data]; exact ed_var (i := 10) rfl (dp_ex b2 ht)) rfl (kNs_depth _) (j := 5) rfl b3 upd_same) b1 (fun hb G18 H18 n18 => ?_) (fun hb G18 H18 n18 => ?_)
        · have hnew : nextH u sp d' ∉ M.map (·.1) := fun z => by
            rw [decide_eq_true ((entsW_has kNs_inj).mpr z)] at hb
            cases hb
          rw [if_neg hnew] at hms
          have n18' := n17'.hx n18.hh
          have g18 := g17.hx n18.hh
          have r18 := r17.hx n18.hh
          obtain ⟨c1, c2, c3⟩ := g18.reg n18'.gh
          refine qd_put (d := eNs (wy ++ [d'])) (k := kNs (nextH u sp d')) (ed_is (ed_catA (ed_get (k := kNs sp) (by rw [kNs_data]; exact ed_var (i := 8) rfl (dp_ex (n17.gg.trans c2) hx16)) rfl (kNs_depth _) (j := 5) rfl c3 g18.nd upd_same (entsW_get hmem)) (ed_tup (ea_cons (ed_nVar (i := 9) rfl) ea_nil)) ?_) (by unfold eNs; rw [List.map_append]; rfl)) c1 (by rw [kNs_data]; exact ed_var (i := 10) rfl ht) n18'.gh rfl (kNs_depth _) rfl g18 (fun z => hnew ((entsW_has kNs_inj).mp z)) (by rw [entsW_len]; omega) (fz_eNs _) (fun a z1 z2 => gv_upd z1 z2) fun kvs2 R2 J n19 g19 e19 => ?_
          · simp
            omega
          · have r19 := (r18.nw n19).up (o := DN P w m kvs2) (Ne.symm hml)
            refine sd_push (j := 7) (d := eNs (nextH u sp d')) rfl r19 (by rw [List.length_map, List.length_drop]; omega) (ed_var (i := 10) rfl (dp_ex n19.gg ht)) e19 fun vp G20 H20 n20 r20 e20 => ?_
            have n20' := ((n18'.tr n19).mut f0 g19.out).tr n20
            refine ⟨G20, (eG.trans n19.gg).trans n20.gg, e20, kvs2, xs ++ [vp], _, _, rfl, n20'.mut f1 r20.out, ?_, ?_⟩
            · rw [hms, entsW_snoc]
              exact (g19.nw n20).up hml
            · rw [hms, List.drop_append_of_le_length (by omega), List.map_append]
              exact r20
        · have hold : nextH u sp d' ∈ M.map (·.1) := Classical.byContradiction fun z => by
            rw [decide_eq_false (fun q => z ((entsW_has kNs_inj).mp q))] at hb
            cases hb
          rw [if_pos hold] at hms
          refine ⟨G17, eG, n17'.gh.trans n18.hh, kvs, xs, _, _, rfl, n17'.hx n18.hh, ?_, ?_⟩
          · rw [hms]; exact g17.hx n18.hh
          · rw [hms]; exact r17.hx n18.hh
      · rintro G14 σ3 H14 e14 e15 ⟨kvs, xs, y3, y4, rfl, n14, g14, r14⟩
        rw [List.length_range] at g14 r14
        have hkl : (kidsH u (sp, wy).1).length = minDeg u sp := by unfold kidsH; simp
        rw [← hkl] at g14 r14
        exact ⟨G14, (e12.trans n13.gg).trans e14, e15, kvs, xs, _, _, _, rfl, n14, g14, r14⟩
    · rintro G11 σ3 H11 e11 e12 ⟨kvs, xs, y2, y3, y4, rfl, n11, g11, r11⟩
      have hdl : n + ((runQ (kidsH u) b n).drop n).length = (runQ (kidsH u) b n).length := by rw [List.length_drop]; omega
      rw [hdl] at g11 r11
      obtain ⟨c1, c2, c3⟩ := r11.join e12
      refine sd_asg (ed_var (i := 7) rfl c3) c2 fun vn G12 H12 n12 h12 => ?_
      have hmn : lf ≠ m := Ne.symm hml
      refine ⟨46657 - (runQ (kidsH u) b n).length, by have := hfew n; omega, (runQ (kidsH u) b n).length, G12, kvs, vn, _, _, _, _, rfl, ?_, rfl, (n11.join f1 r11).tr n12, ((e7.trans e11).trans c1).trans n12.gg, ?_, h12⟩
      · obtain ⟨t, ht⟩ := runQ_mono (kidsH u) b (n := n) (m := (runQ (kidsH u) b n).length) (by omega)
        have := congrArg List.length ht
        rw [List.length_append] at this
        omega
      · refine Dc.nw ⟨?_, g11.at_, g11.mp.ex c1, g11.nd⟩ n12
        rw [upd_ne hml]
        exact g11.out
  · -- there
    have hyes : goals ∈ (runQ (kidsH u) b n).map (·.1) := Classical.byContradiction fun z => by
      rw [decide_eq_false (fun q => z ((entsW_has kNs_inj).mp q))] at hb
      cases hb
    obtain ⟨⟨g', p⟩, hp, rfl⟩ := List.mem_map.mp hyes
    have hh : homeM (kidsH u) b g' = p := home_eq ⟨n, hp⟩
    have g9 := g7.hx n8.hh
    have n9 := n7.hx n8.hh
    obtain ⟨c1, c2, c3⟩ := g9.reg n9.gh
    refine sd_ret (ed_get (k := kNs g') (by rw [kNs_data]; exact ed_var (i := 3) rfl (dp_ex (e7.trans c2) hd4)) rfl (kNs_depth _) (j := 5) rfl c3 g9.nd upd_same (entsW_get hp)) c1 fun v9 G9 H9 n10 h9 => k v9 G9 H9 ((n9.add g9.out f0 g9.at_).tr n10) ?_
    dsimp only
    rw [hh]
    exact h9
end
end Wk
/-! WP8 -/
namespace Wk
open PySem L2 Evl
section
variable {P : Program} {w : World} {K : PySem.W.Frag} {vs : List V} {H : Hp} {Q : VK} {E : XK}
theorem begin_inT {u : Web} {some' : List Nat} (hlt : ∀ s ∈ some', s < u.length) : InT u some'.length (some', grp (some'.map (deg u))) :=
  ⟨⟨rfl, hlt⟩, by rw [grp_len, List.length_map], fun g hg => by have := grp_lt g hg; rw [List.length_map] at this; exact this⟩
theorem rd_telling_way (h : S_telling_way P w K vs H Q E) : t_telling_way P w K (Dd Q) (st0 13 vs) H := by
  obtain ⟨G, ds, d, e, hd, ⟨u, some', W, hl, hlt, rfl, rfl⟩, k⟩ := h
  obtain ⟨v1, v2, rfl, h1, h2⟩ := dps2 hd
  show t_telling_way P w K (Dd Q) [some v1, some v2, none, none, none, none, none, none, none, none, none, none, none] H
  unfold t_telling_way
  have few := W.few
  have hq : PyData.eqv (nI some'.length) (nI 0) = decide (some'.length = 0) := eqv_dec (f := nI) (fun _ _ => nI_inj) (n := 0) (m := 0) pl_nI pl_nI
  have hlen : Ed K (tCB (rLenC K) (tCons (tVar 1) tNil)) [some v1, some v2, none, none, none, none, none, none, none, none, none, none, none] G (nI some'.length) := by
    have := ed_len (ed_var (σ := [some v1, some v2, none, none, none, none, none, none, none, none, none, none, none]) (i := 1) rfl h2)
    rw [List.length_map] at this
    exact this
  refine qd_when (et_eq (et_test (ed_eqD hlen (ed_int (i := 0)) (pl_shaped (pl_nI (n := 0))) (pl_shaped (pl_nI (n := 0) (k := 0))))) hq) e (fun hb G2 H2 n2 => ?_) (fun hb G2 H2 n2 => ?_)
  · have hz : some' = [] := List.length_eq_zero_iff.mp (of_decide_eq_true hb)
    refine sd_ret (K := K) (ed_tup ea_nil) n2.gh fun v6 G6 H6 n6 h6 => k v6 G6 H6 (n2.tr n6) ?_
    rw [if_pos hz]
    exact h6
  have hne : some' ≠ [] := fun z => by rw [z] at hb; simp at hb
  have hpl : 0 < some'.length := List.length_pos_iff.mpr hne
  rw [if_neg hne] at k
  unfold tellD at k
  refine qd_asg (d := eNs (rnd u u.length)) (ed_callD (ea_cons (ed_var (i := 0) rfl (dp_ex n2.gg h1)) ea_nil) ⟨u, W, rfl, rfl⟩) n2.gh fun v3 G3 H3 n3 h3 => ?_
  show tSeq _ _ _ [some v1, some v2, some v3, none, none, none, none, none, none, none, none, none, none] H3
  have m3 := n2.tr n3
  have hrl := rnd_len u u.length
  refine qd_asg (d := eL (some'.map fun r => (rnd u u.length).getD r 0)) (ed_is (ed_lcm some' nI (fun r => nI ((rnd u u.length).getD r 0)) (ei_list (ed_var (i := 1) rfl (dp_ex m3.gg h2))) (by omega) fun j a ha x G8 H8 e5 e6 hx Q q => ?_) (by unfold eL; rw [List.map_map]; rfl)) n3.gh fun v4 G4 H4 n4 h4 => ?_
  · obtain rfl := dp_nI hx
    exact q _ rfl (ed_nthT (ed_var (i := 2) rfl (dp_ex e5 h3)) (ed_nVar (i := 12) rfl) (by rw [hrl]; exact hlt a (List.mem_of_getElem? ha)))
  show tSeq _ _ _ [some v1, some v2, some v3, some v4, none, none, none, none, none, none, none, none, none] H4
  have hks : (some'.map fun r => (rnd u u.length).getD r 0).length = some'.length := by simp
  generalize (some'.map fun r => (rnd u u.length).getD r 0) = ks at *
  have m4 := m3.tr n4
  have hbI := begin_inT hlt
  have eb : Ed K (tTup (tCons (tCB (rTupC K) (tCons (tVar 1) tNil)) (tCons (tCall (S_parted_groups P w K) [] E0 (tCons (tLc (iList K (tVar 1)) (gName 12) tYes (tCB (rLenC K) (tCons (tOp (rIx K) (tVar 0) (tVar 12)) tNil)) [12]) tNil)) tNil))) [some v1, some v2, some v3, some v4, none, none, none, none, none, none, none, none, none] G4 (eSt (some', grp (some'.map (deg u)))) := by
    refine ed_tup (ea_cons (ed_tupOfL (ed_var (i := 1) rfl (dp_ex m4.gg h2))) (ea_cons (ed_callD (ea_cons (ed_is (ed_lcm some' nI (fun r => nI (deg u r)) (ei_list (ed_var (i := 1) rfl (dp_ex m4.gg h2))) (by omega) fun j a ha x G8 H8 e5 e6 hx Q q => ?_) rfl) ea_nil) ⟨some'.map fun r => nI (deg u r), grp (some'.map (deg u)), by simp; omega, fun x hx => ?_, rfl, ?_, ?_, rfl⟩) ea_nil))
    · obtain rfl := dp_nI hx
      exact q _ rfl (ed_degR (ed_room (ed_var (i := 0) rfl (dp_ex (m4.gg.trans e5) h1)) (ed_nVar (i := 12) rfl) (hlt a (List.mem_of_getElem? ha))))
    · obtain ⟨z, _, rfl⟩ := List.mem_map.mp hx
      exact pl_nI
    · rw [grp_len, List.length_map, List.length_map]
    · have := grp_ok (f := nI) (fun _ _ => nI_inj) (some'.map (deg u))
      rw [List.map_map] at this
      exact this
  refine qd_asg eb n4.gh fun v5 G5 H5 n5 h5 => ?_
  show tSeq _ _ _ [some v1, some v2, some v3, some v4, some v5, none, none, none, none, none, none, none, none] H5
  generalize hbe : (some', grp (some'.map (deg u))) = b at *
  have hP : ∀ n, ∀ x ∈ runQ (kidsT u) b n, InT u some'.length x.1 := runQ_P _ hbI (inT_kids W)
  have hfew : ∀ n, (runQ (kidsT u) b n).length ≤ 1679616 := fun n => few_T W hl hbI n
  have m5 := m4.tr n5
  refine qd_dnone (k := kSt b) (d := eNs []) (by rw [kSt_data]; exact ed_var (i := 4) rfl h5) (ed_tup ea_nil) n5.gh rfl (kSt_depth b) fun m kvs G6 H6 n6 f6 g6 => ?_
  show tSeq _ _ _ [some v1, some v2, some v3, some v4, some v5, some (.ref m), none, none, none, none, none, none, none] H6
  have m6 := m5.tr n6
  refine qd_asg (d := .list (([(b, [])] : List (Ent St2)).map fun x => eSt x.1)) (ed_lst (ea_cons (ed_var (i := 4) rfl (dp_ex n6.gg h5)) ea_nil)) n6.gh fun v6 G7 H7 n7 h7 => ?_
  show tSeq _ _ _ [some v1, some v2, some v3, some v4, some v5, some (.ref m), some v6, none, none, none, none, none, none] H7
  have m7 := m6.tr n7
  have f0 : H m = none := fresh_back m5.hh f6
  have hd1 := dp_ex m7.gg h1
  have hd4 := dp_ex ((n5.gg.trans n6.gg).trans n7.gg) h4
  refine qd_while (fun t σ2 H2 => ∃ (n : Nat) (G2 : Hp) (kvs : KVs) (vl : V) (y1 y2 y3 y4 y5 : Option V), t = 1679617 - n ∧ n ≤ (runQ (kidsT u) b n).length ∧ σ2 = [some v1, some v2, some v3, some v4, some v5, some (.ref m), some vl, y1, y2, y3, y4, y5, none] ∧
      Nw G H G2 H2 ∧ Ex G7 G2 ∧ Dc P w K G2 H2 m (entsW kSt (runQ (kidsT u) b n)) kvs ∧ Dp K G2 vl (.list (((runQ (kidsT u) b n).drop n).map fun x => eSt x.1)) ∧ ∀ j, j < n → ∃ e, (runQ (kidsT u) b j)[j]? = some e ∧ toldM ks e.1.2 = false) 1679617 ?_ ?_
  · exact ⟨0, G7, kvs, v6, none, none, none, none, none, rfl, Nat.zero_le _, rfl, m7, Ex.refl _, by simpa [entsW, runQ] using g6.nw n7, h7, fun j hj => absurd hj (Nat.not_lt_zero _)⟩
  rintro t σ2 H2 ⟨n, G2, kvs, vl, y1, y2, y3, y4, y5, rfl, hn, rfl, n7, e7, g7, h7, hT⟩
  have hlast : Ed K (tCB (rLenC K) (tCons (tVar 6) tNil)) [some v1, some v2, some v3, some v4, some v5, some (.ref m), some vl, y1, y2, y3, y4, y5, none] G2 (nI ((runQ (kidsT u) b n).length - n)) := by
    have := ed_len (ed_var (σ := [some v1, some v2, some v3, some v4, some v5, some (.ref m), some vl, y1, y2, y3, y4, y5, none]) (i := 6) rfl h7)
    rw [List.length_map, List.length_drop] at this
    exact this
  refine ⟨_, _, n7.gh, et_test (ed_gt hlast (ed_int (i := 0))), fun hb G8 H8 n8 => ?_, fun hb G8 H8 n8 => ?_⟩
  · -- one more layer
    have hlt' : n < (runQ (kidsT u) b n).length := by have := of_decide_eq_true hb; omega
    have n9 := n7.hx n8.hh
    have g9 := g7.hx n8.hh
    refine qd_new fun lf hlf => ?_
    show tSeq _ _ _ [some v1, some v2, some v3, some v4, some v5, some (.ref m), some vl, some (.ref lf), y2, y3, y4, y5, none] _
    have hml : m ≠ lf := fun z => by
      have := g9.at_
      rw [z, hlf] at this
      cases this
    have f1 : H lf = none := fresh_back n9.hh hlf
    have n10 := n9.tr (Nw.out (o := .lst []) n9.gh hlf)
    refine qd_for ((runQ (kidsT u) b n).drop n) (fun x => eSt x.1) (ei_list (ed_var (i := 6) rfl h7)) n10.gh
      (fun j G3 σ3 H3 => ∃ (kvs : KVs) (xs : List V) (y2 y3 y4 y5 : Option V), σ3 = [some v1, some v2, some v3, some v4, some v5, some (.ref m), some vl, some (.ref lf), y2, y3, y4, y5, none] ∧
        Nw G H G3 H3 ∧ Dc P w K G3 H3 m (entsW kSt (runQ (kidsT u) b (n + j))) kvs ∧ Gr K G3 H3 lf (((runQ (kidsT u) b (n + j)).drop (runQ (kidsT u) b n).length).map fun x => eSt x.1) xs ∧
        ∀ i, i < n + j → ∃ e, (runQ (kidsT u) b i)[i]? = some e ∧ toldM ks e.1.2 = false)
      (fun G3 H3 n3 => ⟨kvs, [], y2, y3, y4, y5, rfl, n10.tr n3, (g9.up hml).nw ((Nw.refl n10.gh).tr n3), by
        rw [Nat.add_zero, List.drop_length]
        exact (Gr.mk (fresh_back n9.gh hlf) upd_same .nil).nw n3, hT⟩) ?_ ?_
    · rintro G11 j ⟨s, wy⟩ G12 σ3 H12 e11 hj e12 e13 ⟨kvs, xs, y2, y3, y4, y5, rfl, n12, g12, r12, hT12⟩ x G13 H13 n13 hx
      refine gt2n hx n13.gh fun xa xb hxa hxb => ?_
      show tSeq _ _ _ [some v1, some v2, some v3, some v4, some v5, some (.ref m), some vl, some (.ref lf), some xa, some xb, y4, y5, none] H13
      have hj' : (runQ (kidsT u) b n)[n + j]? = some (s, wy) := by rw [List.getElem?_drop] at hj; exact hj
      have hin : (runQ (kidsT u) b (n + j))[n + j]? = some (s, wy) := runQ_get hj' (by omega)
      have hstep := runQ_step hin
      have hge : (runQ (kidsT u) b n).length ≤ (runQ (kidsT u) b (n + j)).length := by
        obtain ⟨t, ht⟩ := runQ_mono (kidsT u) b (n := n) (m := n + j) (by omega)
        rw [ht, List.length_append]
        omega
      have hsI : InT u some'.length s := hP _ _ (List.mem_of_getElem? hin)
      have hsne : s.1 ≠ [] := fun z => by have := hsI.1.1; rw [z] at this; simp at this; omega
      have hmd : minDeg u s.1 ≤ 24 := by
        have := kidsH_len W hsne
        unfold kidsH at this
        simpa using this
      have hew : (s, wy) ∈ runQ (kidsT u) b (n + j) := List.mem_of_getElem? hin
      have hbig := hfew (n + j + 1)
      have hwy : wy.length ≤ 1679616 := by
        have := runQ_lt hew
        have := hfew (n + j)
        dsimp only at *
        omega
      rw [hstep, ← mid_all, cand_len] at hbig
      have m13 := n12.tr n13
      have e713 : Ex G7 G13 := (((e7.trans e11).trans e12)).trans n13.gg
      have g13 := g12.nw n13
      obtain ⟨a1, a2, a3⟩ := g13.reg m13.gh
      -- told?
      refine qd_when (et_B (ed_callD (R := fun ds d => ∃ (gr ks : List Nat), gr.length = ks.length ∧ ks.length ≤ 100 ∧ (∀ g ∈ gr, g < ks.length) ∧ ds = [eNs gr, eL ks] ∧ d = .bool (toldM ks gr)) (d := .bool (toldM ks s.2)) (ea_cons (ed_var (i := 9) rfl hxb) (ea_cons (ed_var (i := 3) rfl (dp_ex e713 hd4)) ea_nil)) ⟨s.2, ks, by rw [hsI.2.1, hks], by omega, by rw [hks]; exact hsI.2.2, rfl, rfl⟩)) m13.gh (fun hb G14 H14 n14 => ?_) (fun hb G14 H14 n14 => ?_)
      · have g14 := g13.nw n14
        have m14 := m13.tr n14
        obtain ⟨c1, c2, c3⟩ := g14.reg m14.gh
        refine sd_ret (ed_get (k := kSt s) (by rw [kSt_data]; exact ed_tup (ea_cons (ed_var (i := 8) rfl (dp_ex (n14.gg.trans c2) hxa)) (ea_cons (ed_var (i := 9) rfl (dp_ex (n14.gg.trans c2) hxb)) ea_nil))) rfl (kSt_depth _) (j := 5) rfl c3 g14.nd upd_same (entsW_get hew)) c1 fun v9 G9 H9 n10 h9 => k v9 G9 H9 ((m14.add g14.out f0 g14.at_).tr n10) ?_
        have ht : tellM (kidsT u) b (fun t => toldM ks t.2) = some wy := tell_eq ⟨n + j, hT12, by rw [hin]; exact ⟨hb, rfl⟩⟩
        rw [ht]
        exact h9
      have hT13 : ∀ i, i < n + j + 1 → ∃ e, (runQ (kidsT u) b i)[i]? = some e ∧ toldM ks e.1.2 = false := fun i hi => by
        rcases Nat.lt_or_eq_of_le (Nat.le_of_lt_succ hi) with z | z
        · exact hT12 i z
        · rw [z]; exact ⟨_, hin, hb⟩
      have g14 := g13.nw n14
      have r14 := (r12.nw n13).nw n14
      have m14 := m13.tr n14
      have e714 := e713.trans n14.gg
      have hxa14 := dp_ex n14.gg hxa
      have hxb14 := dp_ex n14.gg hxb
      rw [show n + (j + 1) = n + j + 1 by omega, hstep, ← mid_all, cand_len]
      generalize runQ (kidsT u) b (n + j) = R at *
      refine sd_for (kidsT u s).zipIdx (fun p => .tuple [nI p.2, eSt p.1]) (by
          rw [← enumD_map]
          exact ei_enum (ed_callD (ea_cons (ed_var (i := 0) rfl (dp_ex e714 hd1)) (ea_cons (ed_var (i := 8) rfl hxa14) (ea_cons (ed_var (i := 9) rfl hxb14) ea_nil))) ⟨u, s, some'.length, W, hpl, by omega, hsI, rfl, rfl⟩)) m14.gh
        (fun d G3 σ3 H3 => ∃ (kvs : KVs) (xs : List V) (y4 y5 : Option V), σ3 = [some v1, some v2, some v3, some v4, some v5, some (.ref m), some vl, some (.ref lf), some xa, some xb, y4, y5, none] ∧
          Nw G H G3 H3 ∧ Dc P w K G3 H3 m (entsW kSt (mid R (cand (kidsT u) (s, wy)) d)) kvs ∧ Gr K G3 H3 lf (((mid R (cand (kidsT u) (s, wy)) d).drop (runQ (kidsT u) b n).length).map fun x => eSt x.1) xs)
        (fun G3 H3 n3 => ⟨kvs, xs, y4, y5, rfl, m14.tr n3, by rw [mid_zero]; exact g14.nw n3, by rw [mid_zero]; exact r14.nw n3⟩) ?_ ?_
      · rintro G15 d ⟨s', d'⟩ G16 σ3 H16 e15 hd' e16 e17 ⟨kvs, xs, y4, y5, rfl, n16, g16, r16⟩ z G17 H17 n17 hz
        obtain ⟨rfl, hkid⟩ := zipIdx_some hd'
        dsimp only at hkid
        refine gt2n hz n17.gh fun za zb hza hzb => ?_
        obtain rfl := dp_nI hza
        show tIfS _ _ _ _ [some v1, some v2, some v3, some v4, some v5, some (.ref m), some vl, some (.ref lf), some xa, some xb, some (.int (d' : Int)), some zb, none] H17
        have eG : Ex G15 G17 := e16.trans n17.gg
        have n17' := n16.tr n17
        have g17 := g16.nw n17
        have r17 := r16.nw n17
        have hxa17 := dp_ex (e15.trans eG) hxa14
        have hxb17 := dp_ex (e15.trans eG) hxb14
        have hc : (cand (kidsT u) (s, wy))[d']? = some (s', wy ++ [d']) := cand_get hkid
        have hms := mid_succ (R := R) hc
        have hmem : (s, wy) ∈ mid R (cand (kidsT u) (s, wy)) d' := mid_mem hew
        have hmle := mid_le R (cand (kidsT u) (s, wy)) d'
        rw [← mid_all, cand_len] at hmle
        have hmge := mid_ge R (cand (kidsT u) (s, wy)) d'
        have hmln : (mid R (cand (kidsT u) (s, wy)) d').length ≤ 1679616 := Nat.le_trans hmle hbig
        dsimp only at hms
        generalize mid R (cand (kidsT u) (s, wy)) d' = M at *
        obtain ⟨b1, b2, b3⟩ := g17.reg n17'.gh
        refine sd_when (et_notin (k := kSt s') (by rw [kSt_data]; exact ed_var (i := 11) rfl (dp_ex b2 hzb)) rfl (kSt_depth _) (j := 5) rfl b3 upd_same) b1 (fun hb G18 H18 n18 => ?_) (fun hb G18 H18 n18 => ?_)
        · have hnew : s' ∉ M.map (·.1) := fun z => by
            rw [decide_eq_true ((entsW_has kSt_inj).mpr z)] at hb
            cases hb
          rw [if_neg hnew] at hms
          have n18' := n17'.hx n18.hh
          have g18 := g17.hx n18.hh
          have r18 := r17.hx n18.hh
          obtain ⟨c1, c2, c3⟩ := g18.reg n18'.gh
          refine qd_put (d := eNs (wy ++ [d'])) (k := kSt s') (ed_is (ed_catA (ed_get (k := kSt s) (by rw [kSt_data]; exact ed_tup (ea_cons (ed_var (i := 8) rfl (dp_ex c2 hxa17)) (ea_cons (ed_var (i := 9) rfl (dp_ex c2 hxb17)) ea_nil))) rfl (kSt_depth _) (j := 5) rfl c3 g18.nd upd_same (entsW_get hmem)) (ed_tup (ea_cons (ed_nVar (i := 10) rfl) ea_nil)) ?_) (by unfold eNs; rw [List.map_append]; rfl)) c1 (by rw [kSt_data]; exact ed_var (i := 11) rfl hzb) n18'.gh rfl (kSt_depth _) rfl g18 (fun z => hnew ((entsW_has kSt_inj).mp z)) (by rw [entsW_len]; omega) (fz_eNs _) (fun a z1 z2 => gv_upd z1 z2) fun kvs2 R2 J n19 g19 e19 => ?_
          · simp
            omega
          · have r19 := (r18.nw n19).up (o := DN P w m kvs2) (Ne.symm hml)
            refine sd_push (j := 7) (d := eSt s') rfl r19 (by rw [List.length_map, List.length_drop]; omega) (ed_var (i := 11) rfl (dp_ex n19.gg hzb)) e19 fun vp G20 H20 n20 r20 e20 => ?_
            have n20' := ((n18'.tr n19).mut f0 g19.out).tr n20
            refine ⟨G20, (eG.trans n19.gg).trans n20.gg, e20, kvs2, xs ++ [vp], _, _, rfl, n20'.mut f1 r20.out, ?_, ?_⟩
            · rw [hms, entsW_snoc]
              exact (g19.nw n20).up hml
            · rw [hms, List.drop_append_of_le_length (by omega), List.map_append]
              exact r20
        · have hold : s' ∈ M.map (·.1) := Classical.byContradiction fun z => by
            rw [decide_eq_false (fun q => z ((entsW_has kSt_inj).mp q))] at hb
            cases hb
          rw [if_pos hold] at hms
          refine ⟨G17, eG, n17'.gh.trans n18.hh, kvs, xs, _, _, rfl, n17'.hx n18.hh, ?_, ?_⟩
          · rw [hms]; exact g17.hx n18.hh
          · rw [hms]; exact r17.hx n18.hh
      · rintro G15 σ3 H15 e15 e16 ⟨kvs, xs, y4, y5, rfl, n15, g15, r15⟩
        rw [List.length_zipIdx] at g15 r15
        exact ⟨G15, ((e12.trans n13.gg).trans n14.gg).trans e15, e16, kvs, xs, _, _, _, _, rfl, n15, g15, r15, hT13⟩
    · rintro G11 σ3 H11 e11 e12 ⟨kvs, xs, y2, y3, y4, y5, rfl, n11, g11, r11, hT11⟩
      have hdl : n + ((runQ (kidsT u) b n).drop n).length = (runQ (kidsT u) b n).length := by rw [List.length_drop]; omega
      rw [hdl] at g11 r11 hT11
      obtain ⟨c1, c2, c3⟩ := r11.join e12
      refine sd_asg (ed_var (i := 7) rfl c3) c2 fun vn G12 H12 n12 h12 => ?_
      refine ⟨1679617 - (runQ (kidsT u) b n).length, by have := hfew n; omega, (runQ (kidsT u) b n).length, G12, kvs, vn, _, _, _, _, _, rfl, ?_, rfl, (n11.join f1 r11).tr n12, ((e7.trans e11).trans c1).trans n12.gg, ?_, h12, hT11⟩
      · obtain ⟨t, ht⟩ := runQ_mono (kidsT u) b (n := n) (m := (runQ (kidsT u) b n).length) (by omega)
        have := congrArg List.length ht
        rw [List.length_append] at this
        omega
      · refine Dc.nw ⟨?_, g11.at_, g11.mp.ex c1, g11.nd⟩ n12
        rw [upd_ne hml]
        exact g11.out
  · -- all gone through
    have hle : (runQ (kidsT u) b n).length ≤ n := by have := of_decide_eq_false hb; omega
    have ht : tellM (kidsT u) b (fun t => toldM ks t.2) = none := tell_eq ⟨n, hT, by rw [List.getElem?_eq_none hle]⟩
    refine sd_ret (K := K) ed_non n8.gh fun v9 G9 H9 n10 h9 => k v9 G9 H9 ((n7.tr n8).tr n10) ?_
    rw [ht]
    exact h9
end
end Wk
/-! WP9 -/
namespace Wk
open PySem L2 Evl
section
variable {P : Program} {w : World} {K : PySem.W.Frag} {vs : List V} {H : Hp} {Q : VK} {E : XK}
theorem rd_Lsight (h : S_Lsight P w K vs H Q E) : t_Lsight P w K (Dd Q) (st0 6 vs) H := by
  obtain ⟨G, ds, d, e, hd, ⟨u, r, p, W, hr, hp, hds, rfl⟩, k⟩ := h
  obtain ⟨v1, v2, v3, rfl, h1, h2, h3⟩ : ∃ x y z, vs = [x, y, z] ∧ Dp K G x (eWeb u) ∧ Dp K G y (nI r) ∧ (Dp K G z (eNs p) ∨ Dp K G z (eL p)) := by
    rcases hds with rfl | rfl
    · obtain ⟨v1, v2, v3, rfl, h1, h2, h3⟩ := dps3 hd
      exact ⟨v1, v2, v3, rfl, h1, h2, .inl h3⟩
    · obtain ⟨v1, v2, v3, rfl, h1, h2, h3⟩ := dps3 hd
      exact ⟨v1, v2, v3, rfl, h1, h2, .inr h3⟩
  obtain rfl := dp_nI h2
  show t_Lsight P w K (Dd Q) [some v1, some (.int (r : Int)), some v3, none, none, none] H
  unfold t_Lsight
  refine qd_asgF (ef_lst (ea_cons (ed_degR (ed_room (ed_var (i := 0) rfl h1) (ed_nVar rfl) hr)) ea_nil)) e fun l xs G1 H1 n1 o1 f1 at1 hv => ?_
  have hit : EdI K (iSeq K (tVar 2)) ([some v1, some (.int (r : Int)), some v3, some (.ref l), none, none] : L2.St) G1 (p.map nI) := by
    rcases h3 with h3 | h3
    · exact ei_seqT (ed_var (i := 2) rfl (dp_ex n1.gg h3))
    · exact ei_seqL (ed_var (i := 2) rfl (dp_ex n1.gg h3))
  refine qd_for p nI hit n1.gh
    (fun i G2 σ2 H2 => ∃ (r' : Nat) (y z : Option V) (done : List (Nat × Nat)) (xs : List V), σ2 = [some v1, some (.int (r' : Int)), some v3, some (.ref l), y, z] ∧ r' < u.length ∧ Gr K G2 H2 l (nI (deg u r) :: done.map eEnd) xs ∧
      sees u r p = (sees u r' (p.drop i)).map (done ++ ·) ∧ go1 u r p = go1 u r' (p.drop i) ∧ done.length = i ∧ Nw G H G2 H2)
    (fun G2 H2 n2 => ⟨r, none, none, [], xs, rfl, hr, (Gr.mk o1 at1 hv).nw n2, by simp, rfl, rfl, n1.tr n2⟩) ?_ ?_
  · rintro G2 i d G3 σ3 H3 e2 hi e3 e4 ⟨r', y, z, done, xs, rfl, hr', g, hg, hgo, hdl, n3⟩ x G4 H4 n4 hx
    obtain rfl := dp_nI hx
    show tSeq _ _ _ [some v1, some (.int (r' : Int)), some v3, some (.ref l), some (.int (d : Int)), z] H4
    have m4 := n3.tr n4
    refine qd_when (et_test (ed_ge (ed_nVar rfl) (ed_degR (ed_room (ed_var (i := 0) rfl (dp_ex m4.gg h1)) (ed_nVar rfl) hr')))) n4.gh (fun hb G5 H5 n5 => ?_) (fun hb G5 H5 n5 => ?_)
    · have hle : deg u r' ≤ d := by have := of_decide_eq_true hb; omega
      refine sd_ret (K := K) ed_non n5.gh fun v6 G6 H6 n6 h6 => k v6 G6 H6 ((m4.tr n5).tr n6) ?_
      rw [hg, drop_cons hi]
      simp only [sees, door_none hle]
      exact h6
    · have hlt : d < deg u r' := by have := of_decide_eq_false hb; omega
      obtain ⟨q, hq⟩ := door_lt.mp hlt
      have m5 := m4.tr n5
      refine qd_set2 (d1 := nI q.1) (d2 := nI q.2) (ed_door (ed_room (ed_var (i := 0) rfl (dp_ex m5.gg h1)) (ed_nVar rfl) hr') (ed_nVar rfl) hq) n5.gh fun a b G6 H6 n6 ha hb => ?_
      obtain rfl := dp_nI ha
      show tDrop _ _ [some v1, some (.int (q.1 : Int)), some v3, some (.ref l), some (.int (d : Int)), some b] H6
      have hq1 := W.inr r' d q.1 q.2 hq
      have hil := (List.getElem?_eq_some_iff.mp hi).1
      have m6 := m5.tr n6
      have g6 := ((g.nw n4).nw n5).nw n6
      refine sd_push (j := 3) rfl g6 (by simp; omega) (d := eEnd (q.2, deg u q.1)) (ed_tup (ea_cons (ed_var (i := 5) rfl hb) (ea_cons (ed_degR (ed_room (ed_var (i := 0) rfl (dp_ex m6.gg h1)) (ed_nVar rfl) hq1)) ea_nil))) n6.gh fun v7 G7 H7 n7 g7 e7 => ?_
      refine ⟨G7, ((((e3.trans n4.gg).trans n5.gg).trans n6.gg).trans n7.gg), e7, q.1, some (.int (d : Int)), some b, done ++ [(q.2, deg u q.1)], xs ++ [v7], rfl, hq1, ?_, ?_, ?_, by rw [List.length_append, hdl]; rfl, (m6.tr n7).mut f1 g7.out⟩
      · rw [List.map_append]
        exact g7
      · rw [hg, drop_cons hi]
        simp only [sees, hq]
        cases sees u q.1 (p.drop (i + 1)) with
        | none => rfl
        | some l => simp
      · rw [hgo, drop_cons hi, go1_cons, hq]
        rfl
  · rintro G2 σ2 H2 e2 e3 ⟨r', y, z, done, xs, rfl, hr', g, hg, hgo, hdl, n2⟩
    obtain ⟨j1, j2, j3⟩ := g.join e3
    refine sd_ret (ed_tup (ea_cons (ed_var (i := 3) rfl j3) (ea_cons (ed_nVar (i := 1) rfl) ea_nil))) j2 fun v6 G6 H6 n6 h6 => k v6 G6 H6 ((n2.join f1 g).tr n6) ?_
    rw [hg, hgo, List.drop_length]
    simp only [sees, Option.map_some, List.append_nil, go1, gon]
    exact h6
theorem fit_sight {u : Web} {r : Nat} {st : Story} {l : List (Nat × Nat)} (h : sees u r (stWay st) = some l) : PyData.eqv (.list (nI (deg u r) :: l.map eEnd)) (.list (nI st.1 :: (stSight st).map eEnd)) = fitsM u r st := by
  have pl : ∀ (n : Nat) (l : List (Nat × Nat)), Pl 2 (.list (nI n :: l.map eEnd)) := fun n l => pl_lst fun d hd => by
    rcases List.mem_cons.mp hd with rfl | hd
    · exact pl_nI
    · exact pl_map l (fun x _ => pl_eEnd x) d hd
  unfold fitsM
  rw [h]
  by_cases hc : deg u r = st.1 ∧ some l = some (stSight st)
  · rw [decide_eq_true hc]
    exact eqv_same (pl _ _) (pl _ _) (by rw [hc.1, Option.some.inj hc.2])
  · rw [decide_eq_false hc]
    refine eqv_other (pl _ _) (pl _ _) fun z => hc ?_
    simp only [PyData.list.injEq, List.cons.injEq] at z
    exact ⟨nI_inj z.1, by rw [map_inj (fun _ _ => eEnd_inj) z.2]⟩
def standF (u : Web) (st : Story) (r : Nat) : Option (Nat × Nat) := if fitsM u r st then (go1 u r (stWay st)).map fun s => (r, s) else none
theorem stands_eq (u : Web) (st : Story) : standsM u st = (List.range u.length).filterMap (standF u st) := by
  unfold standsM
  congr 1
  funext r
  unfold standF go1
  split
  · rw [Option.map_map]; rfl
  · rfl
theorem rd_Lfitting (h : S_Lfitting P w K vs H Q E) : t_Lfitting P w K (Dd Q) (st0 8 vs) H := by
  obtain ⟨G, ds, d, e, hd, ⟨u, st, W, hl, rfl, rfl⟩, k⟩ := h
  obtain ⟨v1, v2, rfl, h1, h2⟩ := dps2 hd
  show t_Lfitting P w K (Dd Q) [some v1, some v2, none, none, none, none, none, none] H
  unfold t_Lfitting
  have few := W.few
  refine qd_asg (d := eL (stWay st)) (ed_is (ed_lcm st.2 eStep (fun s => nI s.1) (ei_tup (ed_ixTn (j := 1) (ed_var (i := 1) rfl h2) ed_int rfl)) (by omega) fun i a ha x G1 H1 e1 e2 hx Q q => q _ rfl (ed_ixTn (j := 0) (ed_var (i := 7) rfl hx) ed_int rfl)) (by unfold eL stWay; rw [List.map_map]; rfl)) e fun v3 G1 H1 n1 h3 => ?_
  show tSeq _ _ _ [some v1, some v2, some v3, none, none, none, none, none] H1
  have h21 := dp_ex n1.gg h2
  refine qd_asg (d := .list (nI st.1 :: (stSight st).map eEnd)) (ed_is (ed_ofF (ef_cat (ef_lst (ea_cons (ed_ixTn (j := 0) (ed_var (i := 1) rfl h21) ed_int rfl) ea_nil)) (ef_lcm st.2 eStep (fun s => eEnd s.2) (ei_tup (ed_ixTn (j := 1) (ed_var (i := 1) rfl h21) ed_int rfl)) (by omega) fun i a ha x G1 H1 e1 e2 hx Q q => q _ rfl (ed_tupOfT (ed_sl1 (ed_var (i := 7) rfl hx)))) (by simp; omega))) (by unfold stSight; rw [List.map_map]; rfl)) n1.gh fun v4 G2 H2 n2 h4 => ?_
  show tSeq _ _ _ [some v1, some v2, some v3, some v4, none, none, none, none] H2
  have m2 := n1.tr n2
  refine qd_new fun l hlf => ?_
  show tSeq _ _ _ [some v1, some v2, some v3, some v4, some (.ref l), none, none, none] _
  have n3 := m2.tr (Nw.out (o := .lst []) n2.gh hlf)
  have f1 : H l = none := fresh_back m2.hh hlf
  rw [stands_eq] at k
  have hway : (stWay st).length ≤ 1000 := by unfold stWay; rw [List.length_map]; exact hl
  refine qd_for (List.range u.length) (fun i => .int (i : Int)) (ei_rng1 (ed_lenW (ed_var (i := 0) rfl (dp_ex m2.gg h1))) (by omega)) n3.gh
    (fun i G3 σ3 H3 => ∃ (y z : Option V) (xs : List V), σ3 = [some v1, some v2, some v3, some v4, some (.ref l), y, z, none] ∧ Gr K G3 H3 l (((List.range i).filterMap (standF u st)).map eEnd) xs ∧ Nw G H G3 H3 ∧ Ex G2 G3)
    (fun G3 H3 n4 => ⟨none, none, [], rfl, (Gr.mk (fresh_back n2.gh hlf) upd_same .nil).nw n4, n3.tr n4, n4.gg⟩) ?_ ?_
  · rintro G3 i i' G4 σ4 H4 e2 hi e3 e4 ⟨y, z, xs, rfl, g4, n4, eg4⟩ x G5 H5 n5 hx
    obtain ⟨rfl, hil⟩ := range_some hi
    obtain rfl := dp_int_inv hx
    refine gn1 ?_
    show tSeq _ _ _ [some v1, some v2, some v3, some v4, some (.ref l), some (.int (i' : Int)), z, none] H5
    have m5 := n4.tr n5
    have eg5 := eg4.trans n5.gg
    refine qd_asg (d := eSight (deg u i') (sees u i' (stWay st)) (go1 u i' (stWay st))) (ed_callD (ea_cons (ed_var (i := 0) rfl (dp_ex m5.gg h1)) (ea_cons (ed_nVar (i := 5) rfl) (ea_cons (ed_var (i := 2) rfl (dp_ex (n2.gg.trans eg5) h3)) ea_nil))) ⟨u, i', stWay st, W, hil, by omega, .inr rfl, rfl⟩) n5.gh fun v6 G6 H6 n6 h6 => ?_
    show tIfS _ _ _ _ [some v1, some v2, some v3, some v4, some (.ref l), some (.int (i' : Int)), some v6, none] H6
    have m6 := m5.tr n6
    have g6 := (g4.nw n5).nw n6
    have h46 := dp_ex (eg5.trans n6.gg) h4
    have hr1 : (List.range (i' + 1)).filterMap (standF u st) = (List.range i').filterMap (standF u st) ++ (match standF u st i' with | some p => [p] | none => []) := by
      rw [List.range_succ, List.filterMap_append]
      congr 1
      cases q : standF u st i' <;> simp [q]
    have hlen : (((List.range i').filterMap (standF u st)).map eEnd).length ≤ 100 := by
      rw [List.length_map]
      have := List.length_filterMap_le (standF u st) (List.range i')
      rw [List.length_range] at this
      omega
    have hsg := sees_gon (w := u) (p := stWay st) (r := i')
    cases hs : sees u i' (stWay st) with
    | none =>
      rw [hs] at h6
      have hF : standF u st i' = none := by
        unfold standF fitsM
        rw [hs]
        simp
      refine sd_when (et_and (b := false) (et_test (ed_notN (ed_var (i := 6) rfl h6))) (fun z => by cases z)) n6.gh (fun hb G7 H7 n7 => by cases hb) (fun hb G7 H7 n7 => ?_)
      refine ⟨G7, ((e3.trans n5.gg).trans n6.gg).trans n7.gg, n7.gh, _, _, xs, rfl, ?_, m6.tr n7, (eg5.trans n6.gg).trans n7.gg⟩
      rw [hr1, hF, List.append_nil]
      exact g6.nw n7
    | some ll =>
      rw [hs] at hsg
      cases hg : go1 u i' (stWay st) with
      | none => rw [hg] at hsg; cases hsg
      | some s =>
        rw [hs, hg] at h6
        replace h6 : Dp K G6 v6 (.tuple [.list (nI (deg u i') :: ll.map eEnd), nI s]) := h6
        have hfs := fit_sight hs
        have pl : ∀ (n : Nat) (l : List (Nat × Nat)), Pl 2 (.list (nI n :: l.map eEnd)) := fun n l => pl_lst fun d hd => by
          rcases List.mem_cons.mp hd with rfl | hd
          · exact pl_nI
          · exact pl_map l (fun x _ => pl_eEnd x) d hd
        refine sd_when (et_and (et_test (ed_notN (ed_var (i := 6) rfl h6))) (fun _ => et_eq (et_test (ed_eqD (ed_ixTn (j := 0) (ed_var (i := 6) rfl h6) ed_int rfl) (ed_var (i := 3) rfl h46) (pl_shaped (pl _ _)) (pl_shaped (pl _ _)))) hfs)) n6.gh (fun hb G7 H7 n7 => ?_) (fun hb G7 H7 n7 => ?_)
        · have hf : fitsM u i' st = true := by simpa using hb
          have hF : standF u st i' = some (i', s) := by unfold standF; rw [if_pos hf, hg]; rfl
          refine sd_push (j := 4) (d := eEnd (i', s)) rfl (g6.nw n7) (by omega) (ed_tup (ea_cons (ed_nVar (i := 5) rfl) (ea_cons (ed_ixTn (j := 1) (ed_var (i := 6) rfl (dp_ex n7.gg h6)) ed_int rfl) ea_nil))) n7.gh fun v8 G8 H8 n8 g8 e8 => ?_
          refine ⟨G8, (((e3.trans n5.gg).trans n6.gg).trans n7.gg).trans n8.gg, e8, _, _, xs ++ [v8], rfl, ?_, ((m6.tr n7).tr n8).mut f1 g8.out, ((eg5.trans n6.gg).trans n7.gg).trans n8.gg⟩
          rw [hr1, hF, List.map_append]
          exact g8
        · have hf : fitsM u i' st = false := by simpa using hb
          have hF : standF u st i' = none := by unfold standF; rw [if_neg (by rw [hf]; simp)]
          refine ⟨G7, ((e3.trans n5.gg).trans n6.gg).trans n7.gg, n7.gh, _, _, xs, rfl, ?_, m6.tr n7, (eg5.trans n6.gg).trans n7.gg⟩
          rw [hr1, hF, List.append_nil]
          exact g6.nw n7
  · rintro G3 σ3 H3 e2 e3 ⟨y, z, xs, rfl, g3, n4, eg⟩
    rw [List.length_range] at g3
    obtain ⟨j1, j2, j3⟩ := g3.join e3
    exact sd_ret (ed_var (i := 4) rfl j3) j2 fun v6 G6 H6 n6 h6 => k v6 G6 H6 ((n4.join f1 g3).tr n6) h6
end
end Wk
/-! WP10 -/
namespace Wk
open PySem L2 Evl
section
variable {P : Program} {w : World} {K : PySem.W.Frag} {σ : L2.St} {G H : Hp}
def eEnt (x : Ent (List Nat)) : PyData := .tuple [eNs x.1, eNs x.2]
def eEntT (x : Ent St2) : PyData := .tuple [eSt x.1, eNs x.2]
theorem pl_eSt {n : Nat} (s : St2) : Pl (n + 2) (eSt s) := pl_two (pl_eNs _) (pl_eNs _)
theorem pl_eEnt {n : Nat} (x : Ent (List Nat)) : Pl (n + 2) (eEnt x) := pl_two (pl_eNs _) (pl_eNs _)
theorem pl_eEntT {n : Nat} (x : Ent St2) : Pl (n + 3) (eEntT x) := pl_two (pl_eSt _) (pl_mono (pl_eNs (n := 0) _) (by omega))
def entsM {S : Type} (key : S → NestedKey) (L : List S) : List (NestedKey × PyData) := L.map fun s => (key s, .bool true)
theorem entsM_has {S : Type} {key : S → NestedKey} (hk : ∀ a b, key a = key b → a = b) {L : List S} {s : S} : key s ∈ (entsM key L).map (·.1) ↔ s ∈ L := by
  unfold entsM
  rw [List.map_map]
  constructor
  · intro h
    obtain ⟨t, ht, e⟩ := List.mem_map.mp h
    rw [← hk _ _ e]
    exact ht
  · exact fun h => List.mem_map.mpr ⟨s, h, rfl⟩
theorem entsM_len {S : Type} (key : S → NestedKey) (L : List S) : (entsM key L).length = L.length := by unfold entsM; simp
theorem entsM_snoc {S : Type} (key : S → NestedKey) (L : List S) (s : S) : entsM key (L ++ [s]) = entsM key L ++ [(key s, .bool true)] := by unfold entsM; simp
/-- a, b = l.pop(0) -/
theorem qd_pop2 {tz : TS} {D : Ends} {l : Addr} {d1 d2 : PyData} {ds : List PyData} {xs : List V} {j a b : Nat} (hj : σ[j]? = some (some (.ref l))) (g : Gr K G H l (.tuple [d1, d2] :: ds) xs) (e : Ex G H)
    (k : ∀ v w ys, Dp K G v d1 → Dp K G w d2 → Gr K G (upd H l (.lst ys)) l ds ys → tz D ((σ.set a (some v)).set b (some w)) (upd H l (.lst ys))) :
    tSeq (tAsg (tBM K "list" rPopAt (tVar j) (tCons (tC (.int 0)) tNil)) (gTup K 2 (gCons (gName a) (gCons (gName b) gNil)))) tz D σ H := by
  obtain ⟨h1, h2, h3⟩ := g
  cases h3 with
  | cons hx ht =>
    rename_i x ys
    refine ⟨_, hj, .inl ⟨rfl, _, sq_of h2⟩, l, x :: ys, 0, 0, x, rfl, rfl, h2, by decide, by decide, ?_, rfl, ?_⟩
    · unfold seqIndex?
      simp
    · exact gt2n hx (Ex.mut e h1) fun v w hv hw => k v w ys hv hw ⟨h1, upd_same, ht⟩
/-- l != [] -/
theorem et_some {α : Type} {l : Addr} {enc : α → PyData} {as : List α} {xs : List V} {j : Nat} {n : Nat} (hn : n ≤ 60) (hp : ∀ a, Pl n (enc a)) (hj : σ[j]? = some (some (.ref l))) (g : Gr K G H l (as.map enc) xs) : EdT (tTest (tOp (rNeD K) (tVar j) (tLst tNil))) σ (upd G l (.lst xs)) (!decide (as = [])) := by
  have hd : Dp K (upd G l (.lst xs)) (.ref l) (.list (as.map enc)) := .lst (sq_of upd_same) (dps_ex (Ex.new g.out) g.ok)
  have pl1 : Pl (n + 1) (.list (as.map enc)) := pl_lst (pl_map as fun x _ => hp x)
  have pl2 : Pl 1 (.list []) := pl_lst (by simp)
  refine et_eq (et_test (ed_neD (ed_var hj hd) (ed_lst ea_nil) (pl_shaped pl1 (by omega)) (pl_shaped pl2))) ?_
  congr 1
  by_cases h : as = []
  · rw [decide_eq_true h]
    exact eqv_same pl1 pl2 (by rw [h]; rfl)
  · rw [decide_eq_false h]
    exact eqv_other pl1 pl2 fun z => h (by simpa using z)
end
end Wk
/-! WP11 -/
namespace Wk
open PySem L2 Evl
section
variable {S : Type} [DecidableEq S]
/-- the queue of the law, beside the search -/
theorem queue_old {kids : S → List S} {b : S} {n : Nat} {c : Ent S} {rest : List (Ent S)} (h : push ((runQ kids b n).take n) (c :: rest) = (runQ kids b n).drop n) (hm : c.1 ∈ ((runQ kids b n).take n).map (·.1)) : push ((runQ kids b n).take n) rest = (runQ kids b n).drop n := by
  unfold push at h
  rw [if_pos hm] at h
  exact h
theorem queue_new {kids : S → List S} {b : S} {n : Nat} {c : Ent S} {rest : List (Ent S)} (h : push ((runQ kids b n).take n) (c :: rest) = (runQ kids b n).drop n) (hm : c.1 ∉ ((runQ kids b n).take n).map (·.1)) :
    (runQ kids b n)[n]? = some c ∧ (runQ kids b (n + 1)).take (n + 1) = (runQ kids b n).take n ++ [c] ∧ push ((runQ kids b (n + 1)).take (n + 1)) (rest ++ cand kids c) = (runQ kids b (n + 1)).drop (n + 1) := by
  unfold push at h
  rw [if_neg hm] at h
  have hc : (runQ kids b n)[n]? = some c := by
    have : ((runQ kids b n).drop n)[0]? = some c := by rw [← h]; rfl
    rw [List.getElem?_drop] at this
    exact this
  have hn := (List.getElem?_eq_some_iff.mp hc).1
  have hs := runQ_step hc
  have ht : (runQ kids b (n + 1)).take (n + 1) = (runQ kids b n).take n ++ [c] := by
    rw [hs, List.take_append_of_le_length (by omega), take_snoc hc]
  refine ⟨hc, ht, ?_⟩
  have hd : push ((runQ kids b n).take n ++ [c]) rest = (runQ kids b n).drop (n + 1) := by
    have := drop_cons hc
    rw [this] at h
    exact (List.cons.inj h).2
  rw [ht, push_append, hd, ← take_snoc hc, List.take_append_drop, hs, List.drop_append_of_le_length (by omega)]
end
section
variable {P : Program} {w : World} {K : PySem.W.Frag} {vs : List V} {H : Hp} {Q : VK} {E : XK}
theorem rd_Lhome (h : S_Lhome P w K vs H Q E) : t_Lhome P w K (Dd Q) (st0 10 vs) H := by
  obtain ⟨G, ds, d, e, hd, ⟨u, prs, bk, W, hne, hpl6, smem, swalk, rfl, rfl⟩, k⟩ := h
  obtain ⟨v1, v2, rfl, h1, h2⟩ := dps2 hd
  show t_Lhome P w K (Dd Q) [some v1, some v2, none, none, none, none, none, none, none, none] H
  unfold t_Lhome
  have few := W.few
  have hpl : 0 < prs.length := List.length_pos_iff.mpr hne
  refine qd_asg (d := eNs (prs.map (·.1))) (ed_is (ed_tupOfL (ed_lcm prs eEnd (fun p => nI p.1) (ei_list (ed_var (i := 1) rfl h2)) (by omega) fun j a ha x G8 H8 e5 e6 hx Q q => q _ rfl (ed_fst (ed_var (i := 8) rfl hx)))) (by unfold eNs; rw [List.map_map]; rfl)) e fun v3 G1 H1 n1 h3 => ?_
  show tSeq _ _ _ [some v1, some v2, some v3, none, none, none, none, none, none, none] H1
  refine qd_dnew (K := K) n1.gh fun m fm g1 => ?_
  show tSeq _ _ _ [some v1, some v2, some v3, some (.ref m), none, none, none, none, none, none] _
  have f0 : H m = none := fresh_back n1.hh fm
  have n2 := n1.tr (Nw.out (o := DN P w m []) n1.gh fm)
  have hbI : InH u prs.length (prs.map (·.2)) := ⟨by simp, fun x hx => by
    obtain ⟨p, hp, rfl⟩ := List.mem_map.mp hx
    exact (smem p hp).2⟩
  have ebg : Ed K (tCB (rTupC K) (tCons (tLc (iList K (tVar 1)) (gName 8) tYes (tOp (rIx K) (tVar 8) (tC (.int 1))) [8]) tNil)) [some v1, some v2, some v3, some (.ref m), none, none, none, none, none, none] G1 (eNs (prs.map (·.2))) :=
    ed_is (ed_tupOfL (ed_lcm prs eEnd (fun p => nI p.2) (ei_list (ed_var (i := 1) rfl (dp_ex n1.gg h2))) (by omega) fun j a ha x G8 H8 e5 e6 hx Q q => q _ rfl (ed_snd (ed_var (i := 8) rfl hx)))) (by unfold eNs; rw [List.map_map]; rfl)
  generalize hgo : prs.map (·.1) = goals at *
  generalize hbe : prs.map (·.2) = b at *
  have hP : ∀ n, ∀ x ∈ runQ (kidsH u) b n, InH u prs.length x.1 := runQ_P _ hbI (inH_kids W)
  have hfew : ∀ n, (runQ (kidsH u) b n).length ≤ 46656 := fun n => few_H W (by omega) hbI n
  refine qd_asgF (ef_lst (ds := [(b, [])].map eEnt) (ea_cons (ed_tup (ea_cons ebg (ea_cons (ed_tup ea_nil) ea_nil))) ea_nil)) n2.gh fun l xs G3 H3 n3 o3 f3 at3 hx3 => ?_
  show tSeq _ _ _ [some v1, some v2, some v3, some (.ref m), some (.ref l), none, none, none, none, none] H3
  have hml : m ≠ l := fun z => by rw [← z, upd_same] at f3; cases f3
  have f1 : H l = none := fresh_back n2.hh f3
  have n3' := n2.tr n3
  have hd1 := dp_ex n3'.gg h1
  have hd3 := dp_ex n3.gg h3
  refine qd_while (fun t σ2 H2 => ∃ (n : Nat) (G2 : Hp) (kvs : KVs) (xs : List V) (todo : List (Ent (List Nat))) (y1 y2 y3 : Option V), t = todo.length + 25 * (46657 - n) ∧ n ≤ (runQ (kidsH u) b n).length ∧ todo.length ≤ 1 + 24 * n ∧ σ2 = [some v1, some v2, some v3, some (.ref m), some (.ref l), y1, y2, y3, none, none] ∧
      Nw G H G2 H2 ∧ Ex G3 G2 ∧ Dc P w K G2 H2 m (entsM kNs (((runQ (kidsH u) b n).take n).map (·.1))) kvs ∧ Gr K G2 H2 l (todo.map eEnt) xs ∧ push ((runQ (kidsH u) b n).take n) todo = (runQ (kidsH u) b n).drop n ∧ goals ∉ ((runQ (kidsH u) b n).take n).map (·.1)) (1 + 25 * 46657) ?_ ?_
  · exact ⟨0, G3, [], xs, [(b, [])], none, none, none, rfl, Nat.zero_le _, by simp, rfl, n3', Ex.refl _, g1.nw ⟨n3.gg, n3.gh, n3.hh, fun a z1 z2 => n3.fr a z1 z2⟩, ⟨o3, at3, hx3⟩, by simp [push, runQ], by simp⟩
  rintro t σ2 H2 ⟨n, G2, kvs, xs, todo, y1, y2, y3, rfl, hn, htl, rfl, n7, e7, g7, r7, hpush, hgl⟩
  obtain ⟨a1, a2, a3⟩ := r7.join n7.gh
  refine ⟨_, _, a2, et_some (n := 2) (by decide) (fun x => pl_eEnt x) (j := 4) rfl r7, fun hb G8 H8 n8 => ?_, fun hb G8 H8 n8 => ?_⟩
  · have n9 := n7.hx n8.hh
    have g9 := g7.hx n8.hh
    have r9 := r7.hx n8.hh
    cases todo with
    | nil => simp at hb
    | cons c rest =>
    obtain ⟨sp, wy⟩ := c
    have hnlen : n ≤ 46656 := Nat.le_trans hn (hfew n)
    rw [List.length_cons] at htl
    refine qd_pop2 (j := 4) rfl r9 n9.gh fun xa xb ys hxa hxb r10 => ?_
    show tSeq _ _ _ [some v1, some v2, some v3, some (.ref m), some (.ref l), some xa, some xb, y3, none, none] _
    have n10 := n9.mut f1 r9.out (o := .lst ys)
    have g10 := g9.up (o := .lst ys) hml
    have hwq : PyData.eqv (eNs sp) (eNs goals) = decide (sp = goals) := eqv_dec (f := eNs) (fun _ _ => eNs_inj) (n := 1) (m := 1) (pl_eNs _) (pl_eNs _)
    refine qd_when (et_eq (et_test (ed_eqD (ed_var (i := 5) rfl hxa) (ed_var (i := 2) rfl (dp_ex e7 hd3)) (pl_shaped (pl_eNs (n := 0) _)) (pl_shaped (pl_eNs (n := 0) _)))) hwq) n10.gh (fun hb G11 H11 n11 => ?_) (fun hb G11 H11 n11 => ?_)
    · have hsg := of_decide_eq_true hb
      have hnew : sp ∉ ((runQ (kidsH u) b n).take n).map (·.1) := by rw [hsg]; exact hgl
      obtain ⟨q1, q2, q3⟩ := queue_new hpush hnew
      refine sd_ret (ed_var (i := 6) rfl (dp_ex n11.gg hxb)) n11.gh fun v9 G9 H9 n12 h9 => k v9 G9 H9 ((n10.tr n11).tr n12) ?_
      have hh : homeM (kidsH u) b goals = wy := home_eq ⟨n, by rw [← hsg]; exact List.mem_of_getElem? q1⟩
      rw [hh]
      exact h9
    · have hsg := of_decide_eq_false hb
      have n11' := n10.tr n11
      have g11 := g10.nw n11
      have r11 := r10.nw n11
      have hxa11 := dp_ex n11.gg hxa
      have hxb11 := dp_ex n11.gg hxb
      have e711 := e7.trans n11.gg
      obtain ⟨b1, b2, b3⟩ := g11.reg n11'.gh
      refine sd_when (et_notin (k := kNs sp) (by rw [kNs_data]; exact ed_var (i := 5) rfl (dp_ex b2 hxa11)) rfl (kNs_depth _) (j := 3) rfl b3 upd_same) b1 (fun hb G12 H12 n12 => ?_) (fun hb G12 H12 n12 => ?_)
      · have hnew : sp ∉ ((runQ (kidsH u) b n).take n).map (·.1) := fun z => by
          rw [decide_eq_true ((entsM_has kNs_inj).mpr z)] at hb
          cases hb
        obtain ⟨q1, q2, q3⟩ := queue_new hpush hnew
        have hspI : InH u prs.length sp := hP _ _ (List.mem_of_getElem? q1)
        have hspne : sp ≠ [] := fun z => by have := hspI.1; rw [z] at this; simp at this; omega
        have hkl := kidsH_len W hspne
        have hmd : minDeg u sp ≤ 24 := by unfold kidsH at hkl; simpa using hkl
        have hwy : wy.length ≤ 46656 := by
          have := runQ_lt (List.mem_of_getElem? q1)
          have := hfew n
          dsimp only at *
          omega
        have n12' := n11'.hx n12.hh
        have g12 := g11.hx n12.hh
        have r12 := r11.hx n12.hh
        refine qd_put (d := .bool true) (k := kNs sp) (K := K) ed_bl n12'.gh (by rw [kNs_data]; exact ed_var (i := 5) rfl hxa11) n12'.gh rfl (kNs_depth _) rfl g12 (fun z => hnew ((entsM_has kNs_inj).mp z)) (by rw [entsM_len, List.length_map, List.length_take]; omega) rfl (fun a z1 z2 => gv_same z1 z2) fun kvs2 R2 J n13 g13 e13 => ?_
        have n13' := (n12'.tr n13).mut f0 g13.out (o := DN P w m kvs2)
        have r13 := (r12.nw n13).up (o := DN P w m kvs2) (Ne.symm hml)
        have hxa13 := dp_ex n13.gg hxa11
        have e713 := e711.trans n13.gg
        have hdm : Ed K (tCB (rMin K) (tCons (tLc (iTup K (tVar 5)) (gName 9) tYes (tCB (rLenC K) (tCons (tOp (rIx K) (tVar 0) (tVar 9)) tNil)) [9]) tNil)) [some v1, some v2, some v3, some (.ref m), some (.ref l), some xa, some xb, y3, none, none] R2 (nI (minDeg u sp)) := by
          have hm := minDeg_mem (w := u) hspne
          refine ed_min (ns := (sp.map (deg u)).map fun n : Nat => (n : Int)) (m := (minDeg u sp : Int)) (ed_is (ed_lcm sp nI (fun s => nI (deg u s)) (ei_tup (ed_var (i := 5) rfl hxa13)) (by rw [hspI.1]; omega) fun i a ha x G1 H1 e1 e2 hx Q q => ?_) ?_) ?_ ?_
          · obtain rfl := dp_nI hx
            exact q _ rfl (ed_degR (ed_room (ed_var (i := 0) rfl (dp_ex (e713.trans e1) hd1)) (ed_nVar (i := 9) rfl) (hspI.2 a (List.mem_of_getElem? ha))))
          · rw [List.map_map, List.map_map]
            rfl
          · exact List.mem_map.mpr ⟨_, hm.1, rfl⟩
          · intro y hy
            obtain ⟨z, hz, rfl⟩ := List.mem_map.mp hy
            exact Int.ofNat_le.mpr (hm.2 z hz)
        refine sd_for (List.range (minDeg u sp)) (fun i => .int (i : Int)) (ei_rng1 hdm (by omega)) e13
          (fun d G3 σ3 H3 => ∃ (xs : List V) (y3 : Option V), σ3 = [some v1, some v2, some v3, some (.ref m), some (.ref l), some xa, some xb, y3, none, none] ∧
            Nw G H G3 H3 ∧ Dc P w K G3 H3 m (entsM kNs (((runQ (kidsH u) b n).take n).map (·.1)) ++ [(kNs sp, .bool true)]) kvs2 ∧ Gr K G3 H3 l ((rest ++ (cand (kidsH u) (sp, wy)).take d).map eEnt) xs)
          (fun G3 H3 n3 => ⟨ys, y3, rfl, n13'.tr n3, g13.nw n3, by
            rw [List.take_zero, List.append_nil]
            exact r13.nw n3⟩) ?_ ?_
        · rintro G14 d d' G15 σ3 H15 e14 hd' e15 e16 ⟨xs, y3, rfl, n15, g15, r15⟩ z G16 H16 n16 hz
          obtain ⟨rfl, hdm'⟩ := range_some hd'
          obtain rfl := dp_int_inv hz
          refine gn1 ?_
          show tDrop _ _ [some v1, some v2, some v3, some (.ref m), some (.ref l), some xa, some xb, some (.int (d' : Int)), none, none] H16
          have hxa16 := dp_ex ((e14.trans e15).trans n16.gg) hxa13
          have hxb16 := dp_ex (((n13.gg.trans e14).trans e15).trans n16.gg) hxb11
          have e716 := ((e713.trans e14).trans e15).trans n16.gg
          have hc : (cand (kidsH u) (sp, wy))[d']? = some (nextH u sp d', wy ++ [d']) := cand_get (by unfold kidsH; rw [range_get, if_pos hdm'])
          refine sd_push (j := 4) (d := eEnt (nextH u sp d', wy ++ [d'])) rfl (r15.nw n16) ?_ (ed_tup (ea_cons (ed_nextH hspI (by rw [hspI.1]; omega) hdm' (fun x G' e' => ed_var (i := 0) rfl (dp_ex (e716.trans e') hd1)) (ed_var (i := 5) rfl hxa16) (fun x G' e' => ed_nVar (i := 7) rfl) (fun x => rfl) (fun x => rfl) W)
            (ea_cons (ed_is (ed_catA (ed_var (i := 6) rfl hxb16) (ed_tup (ea_cons (ed_nVar (i := 7) rfl) ea_nil)) (by simp; omega)) (by unfold eNs; rw [List.map_append]; rfl)) ea_nil))) n16.gh fun vp G20 H20 n20 r20 e20 => ?_
          · rw [List.length_map, List.length_append, List.length_take]
            omega
          · refine ⟨G20, (e15.trans n16.gg).trans n20.gg, e20, xs ++ [vp], _, rfl, ((n15.tr n16).tr n20).mut f1 r20.out, ((g15.nw n16).nw n20).up hml, ?_⟩
            rw [take_snoc hc, ← List.append_assoc, List.map_append (l₂ := [_])]
            exact r20
        · rintro G14 σ3 H14 e14 e15 ⟨xs, y3, rfl, n14, g14, r14⟩
          have hcl : (cand (kidsH u) (sp, wy)).length = minDeg u sp := by rw [cand_len]; unfold kidsH; simp
          rw [List.length_range, ← hcl, List.take_length] at r14
          refine ⟨(rest ++ cand (kidsH u) (sp, wy)).length + 25 * (46657 - (n + 1)), ?_, n + 1, G14, kvs2, xs, rest ++ cand (kidsH u) (sp, wy), _, _, _, rfl, ?_, ?_, rfl, n14, ((e711.trans n13.gg)).trans e14, ?_, r14, q3, ?_⟩
          · rw [List.length_append, hcl, List.length_cons]
            omega
          · have := (List.getElem?_eq_some_iff.mp q1).1
            obtain ⟨t, ht⟩ := runQ_succ (kidsH u) b n
            rw [ht, List.length_append]
            omega
          · rw [List.length_append, hcl]
            omega
          · rw [q2, List.map_append, List.map_singleton, entsM_snoc]
            exact g14
          · rw [q2, List.map_append]
            intro z
            rcases List.mem_append.mp z with z | z
            · exact hgl z
            · simp at z
              exact hsg z.symm
      · have hold : sp ∈ ((runQ (kidsH u) b n).take n).map (·.1) := Classical.byContradiction fun z => by
          rw [decide_eq_false (fun q => z ((entsM_has kNs_inj).mp q))] at hb
          cases hb
        exact ⟨rest.length + 25 * (46657 - n), by rw [List.length_cons]; omega, n, G11, kvs, ys, rest, _, _, _, rfl, hn, by omega, rfl, n11'.hx n12.hh, e711, g11.hx n12.hh, r11.hx n12.hh, queue_old hpush hold, hgl⟩
  · -- never so
    have ht : todo = [] := by simpa using hb
    subst ht
    rw [push] at hpush
    have hle : (runQ (kidsH u) b n).length ≤ n := by
      have := congrArg List.length hpush
      rw [List.length_drop] at this
      simp at this
      omega
    have := runQ_all (n := n) (List.getElem?_eq_none hle) bk b goals (runQ_base _ _ _) swalk
    rw [List.take_of_length_le hle] at hgl
    exact absurd this hgl
end
end Wk
/-! WP12 -/
namespace Wk
open PySem L2 Evl
section
variable {P : Program} {w : World} {K : PySem.W.Frag} {vs : List V} {H : Hp} {Q : VK} {E : XK}
theorem ed_grp {σ : L2.St} {G : Hp} {α : Type} [DecidableEq α] {f : α → PyData} {n : Nat} (hf : ∀ x y, f x = f y → x = y) (hp : ∀ x, Pl n (f x)) (hn : n ≤ 60) (l : List α) (hl : l.length ≤ 1000) {a i : Nat}
    (hs : Ed K (tVar a) σ G (.list (l.map f))) (hs2 : ∀ (x : V) (G' : Hp), Ex G G' → Ed K (tVar a) ((wipe σ [i]).set i (some x)) G' (.list (l.map f))) (hi : ∀ x : V, (((wipe σ [i]).set i (some x)))[i]? = some (some x)) (hwp : ∀ x : V, wipe ((wipe σ [i]).set i (some x)) [i] = wipe σ [i]) :
    Ed K (tCB (rTupC K) (tCons (tLc (iList K (tVar a)) (gName i) tYes (tBM K "list" (rIndexD K) (tVar a) (tCons (tVar i) tNil)) [i]) tNil)) σ G (eNs (grp l)) := by
  have hgl := grp_len l
  have hgs := grp_ok hf l
  have e1 : ((l.map f).zip (grp l)).map (·.1) = l.map f := List.map_fst_zip (by rw [List.length_map]; omega)
  have e2 : ((l.map f).zip (grp l)).map (fun x => nI x.2) = (grp l).map nI := by
    have z : ((l.map f).zip (grp l)).map (fun x => nI x.2) = (((l.map f).zip (grp l)).map (·.2)).map nI := by rw [List.map_map]; rfl
    rw [z, List.map_snd_zip (by rw [List.length_map]; omega)]
  refine ed_is (ed_tupOfL (ed_lcm ((l.map f).zip (grp l)) (fun x => x.1) (fun x => nI x.2) (by rw [e1]; exact ei_list hs) (by rw [List.length_zip, List.length_map]; omega) fun j b hb x G5 H5 e3 e4 hx Q q => ?_)) (by rw [e2]; rfl)
  rw [List.getElem?_zip_eq_some] at hb
  obtain ⟨z1, z2⟩ := hgs j b.2 b.1 hb.1 hb.2
  have hpm : ∀ d ∈ l.map f, Pl n d := pl_map l fun x _ => hp x
  have pl := hpm b.1 (List.mem_of_getElem? hb.1)
  exact q _ (hwp x) (ed_index (hs2 x G5 e3) (ed_var (hi x) hx) (pl_shaped (pl_lst hpm) (by omega)) (pl_shaped pl (by omega)) z1 (eqv_same pl pl rfl) fun m z' hm hz => eqv_other (hpm z' (List.mem_of_getElem? hz)) pl fun z => z2 m hm (z ▸ hz))
theorem toldAll {σ : L2.St} {G : Hp} {gr ks : List Nat} {a b i j : Nat} (hl : gr.length = ks.length) (hz : ks.length ≤ 100) (hg : ∀ g ∈ gr, g < ks.length) (hs : Ed K (tVar a) σ G (eNs gr))
    (hk : ∀ (x y : V) (G' : Hp), Ex G G' → Ed K (tVar b) (((wipe σ [i, j]).set i (some x)).set j (some y)) G' (eL ks))
    (hi : ∀ x y : V, ((((wipe σ [i, j]).set i (some x)).set j (some y)))[i]? = some (some x)) (hj : ∀ x y : V, ((((wipe σ [i, j]).set i (some x)).set j (some y)))[j]? = some (some y)) (hwp : ∀ x y : V, wipe (((wipe σ [i, j]).set i (some x)).set j (some y)) [i, j] = wipe σ [i, j]) :
    Ed K (tCB (rAll K) (tCons (tLc (iEnumT K (tCons (tVar a) tNil)) (gTup K 2 (gCons (gName i) (gCons (gName j) gNil))) tYes (tOp (rEqD K) (tOp (rIx K) (tVar b) (tVar i)) (tOp (rIx K) (tVar b) (tVar j))) [i, j]) tNil)) σ G (.bool (toldM ks gr)) := by
  refine ed_is (ed_all (bs := gr.zipIdx.map fun p => decide (ks.getD p.2 0 = ks.getD p.1 0)) (ed_is (ed_lcm gr.zipIdx (fun x => .tuple [nI x.2, nI x.1]) (fun p => .bool (decide (ks.getD p.2 0 = ks.getD p.1 0))) ?_ (by rw [List.length_zipIdx]; omega) fun m c hc x G2 H2 e1 e2 hx Q q => gt2n hx e2 fun v5 v6 h5 h6 => ?_) ?_)) ?_
  · rw [← enumD_map]
    exact ei_enumT hs
  · obtain rfl := dp_nI h5
    obtain rfl := dp_nI h6
    obtain ⟨hi', hc⟩ := zipIdx_some hc
    have hil := (List.getElem?_eq_some_iff.mp hc).1
    refine q _ (hwp _ _) (ed_is (ed_eqD (ed_nth (hk _ _ G2 e1) (ed_nVar (hi _ _)) (by omega)) (ed_nth (hk _ _ G2 e1) (ed_nVar (hj _ _)) (hg _ (List.mem_of_getElem? hc))) (pl_shaped (pl_nI (n := 0))) (pl_shaped (pl_nI (n := 0)))) ?_)
    rw [eqv_dec (f := nI) (fun _ _ => nI_inj) (n := 1) (m := 1) pl_nI pl_nI]
  · rw [List.map_map]; rfl
  · unfold toldM
    rw [List.all_map]
    rfl
theorem rd_Lleast (h : S_Lleast P w K vs H Q E) : t_Lleast P w K (Dd Q) (st0 18 vs) H := by
  obtain ⟨G, ds, d, e, hd, ⟨u, b, nn, ks, W, hn0, hn4, hbI, hks, rfl, rfl⟩, k⟩ := h
  obtain ⟨v1, v2, v3, rfl, h1, h2, h3⟩ := dps3 hd
  show t_Lleast P w K (Dd Q) [some v1, some v2, some v3, none, none, none, none, none, none, none, none, none, none, none, none, none, none, none] H
  unfold t_Lleast
  have few := W.few
  refine qd_dnone (k := kSt b) (d := .bool true) (K := K) (by rw [kSt_data]; exact ed_var (i := 1) rfl h2) ed_bl e rfl (kSt_depth b) fun m kvs G1 H1 n1 f0 g1 => ?_
  show tSeq _ _ _ [some v1, some v2, some v3, some (.ref m), none, none, none, none, none, none, none, none, none, none, none, none, none, none] H1
  have hP : ∀ n, ∀ x ∈ runQ (kidsT u) b n, InT u nn x.1 := runQ_P _ hbI (inT_kids W)
  have hfew : ∀ n, (runQ (kidsT u) b n).length ≤ 1679616 := fun n => few_T W hn4 hbI n
  refine qd_asgF (ef_lst (ds := [(b, [])].map eEntT) (ea_cons (ed_tup (ea_cons (ed_var (i := 1) rfl (dp_ex n1.gg h2)) (ea_cons (ed_tup ea_nil) ea_nil))) ea_nil)) n1.gh fun l xs G3 H3 n3 o3 f3 at3 hx3 => ?_
  show tSeq _ _ _ [some v1, some v2, some v3, some (.ref m), some (.ref l), none, none, none, none, none, none, none, none, none, none, none, none, none] H3
  have hml : m ≠ l := fun z => by
    have := g1.at_
    rw [z, f3] at this
    cases this
  have f1 : H l = none := fresh_back n1.hh f3
  have n3' := n1.tr n3
  have hd1 := dp_ex n3'.gg h1
  have hd3 := dp_ex n3'.gg h3
  refine qd_while (fun t σ2 H2 => ∃ (n : Nat) (G2 : Hp) (kvs : KVs) (xs : List V) (y5 y6 y7 y8 y9 y10 y11 y12 : Option V), t = 1679617 - n ∧ n ≤ (runQ (kidsT u) b n).length ∧ σ2 = [some v1, some v2, some v3, some (.ref m), some (.ref l), y5, y6, y7, y8, y9, y10, y11, y12, none, none, none, none, none] ∧
      Nw G H G2 H2 ∧ Ex G3 G2 ∧ Dc P w K G2 H2 m (entsM kSt ((runQ (kidsT u) b n).map (·.1))) kvs ∧ Gr K G2 H2 l (((runQ (kidsT u) b n).drop n).map eEntT) xs ∧ ∀ j, j < n → ∃ e, (runQ (kidsT u) b j)[j]? = some e ∧ toldM ks e.1.2 = false) 1679617 ?_ ?_
  · exact ⟨0, G3, kvs, xs, none, none, none, none, none, none, none, none, rfl, Nat.zero_le _, rfl, n3', Ex.refl _, g1.nw n3, ⟨o3, at3, hx3⟩, fun j hj => absurd hj (Nat.not_lt_zero _)⟩
  rintro t σ2 H2 ⟨n, G2, kvs, xs, y5, y6, y7, y8, y9, y10, y11, y12, rfl, hn, rfl, n7, e7, g7, r7, hT⟩
  obtain ⟨a1, a2, a3⟩ := r7.join n7.gh
  refine ⟨_, _, a2, et_some (n := 3) (by decide) (fun x => pl_eEntT x) (j := 4) rfl r7, fun hb G8 H8 n8 => ?_, fun hb G8 H8 n8 => ?_⟩
  · have n9 := n7.hx n8.hh
    have g9 := g7.hx n8.hh
    have r9 := r7.hx n8.hh
    have hlt : n < (runQ (kidsT u) b n).length := by
      rcases Nat.lt_or_eq_of_le hn with z | z
      · exact z
      · rw [List.drop_of_length_le (by omega)] at hb; simp at hb
    obtain ⟨⟨s, wy⟩, hc0⟩ : ∃ c, (runQ (kidsT u) b n)[n]? = some c := ⟨_, List.getElem?_eq_getElem hlt⟩
    rw [drop_cons hc0, List.map_cons] at r9
    have hstep := runQ_step hc0
    have hsI : InT u nn s := hP _ _ (List.mem_of_getElem? hc0)
    have hsne : s.1 ≠ [] := fun z => by have := hsI.1.1; rw [z] at this; simp at this; omega
    have hmd : minDeg u s.1 ≤ 24 := by
      have := kidsH_len W hsne
      unfold kidsH at this
      simpa using this
    have hwy : wy.length ≤ 1679616 := by
      have := runQ_lt (List.mem_of_getElem? hc0)
      have := hfew n
      dsimp only at *
      omega
    have hbig := hfew (n + 1)
    rw [hstep, ← mid_all, cand_len] at hbig
    refine qd_pop2 (j := 4) rfl r9 n9.gh fun xa xb ys hxa hxb r10 => ?_
    show tSeq _ _ _ [some v1, some v2, some v3, some (.ref m), some (.ref l), some xa, some xb, y7, y8, y9, y10, y11, y12, none, none, none, none, none] _
    have n10 := n9.mut f1 r9.out (o := .lst ys)
    have g10 := g9.up (o := .lst ys) hml
    refine qd_set2 (d1 := eNs s.1) (d2 := eNs s.2) (ed_var (i := 5) rfl hxa) n10.gh fun va vb G11 H11 n11 hva hvb => ?_
    show tSeq _ _ _ [some v1, some v2, some v3, some (.ref m), some (.ref l), some xa, some xb, some va, some vb, y9, y10, y11, y12, none, none, none, none, none] H11
    have n11' := n10.tr n11
    have g11 := g10.nw n11
    have r11 := r10.nw n11
    have hxb11 := dp_ex n11.gg hxb
    have e711 := e7.trans n11.gg
    refine qd_when (et_B (toldAll (ks := ks) (gr := s.2) (by rw [hsI.2.1, hks]) (by omega) (by rw [hks]; exact hsI.2.2) (ed_var (i := 8) rfl hvb) (fun x y G' e' => ed_var (i := 2) rfl (dp_ex (e711.trans e') hd3)) (fun _ _ => rfl) (fun _ _ => rfl) (fun _ _ => rfl))) n11'.gh (fun hb G12 H12 n12 => ?_) (fun hb G12 H12 n12 => ?_)
    · refine sd_ret (ed_var (i := 6) rfl (dp_ex n12.gg hxb11)) n12.gh fun v9 G9 H9 n13 h9 => k v9 G9 H9 ((n11'.tr n12).tr n13) ?_
      have ht : tellM (kidsT u) b (fun t => toldM ks t.2) = some wy := tell_eq ⟨n, hT, by rw [hc0]; exact ⟨hb, rfl⟩⟩
      rw [ht]
      exact h9
    have hT1 : ∀ i, i < n + 1 → ∃ e, (runQ (kidsT u) b i)[i]? = some e ∧ toldM ks e.1.2 = false := fun i hi => by
      rcases Nat.lt_or_eq_of_le (Nat.le_of_lt_succ hi) with z | z
      · exact hT i z
      · rw [z]; exact ⟨_, hc0, hb⟩
    have n12' := n11'.tr n12
    have g12 := g11.nw n12
    have r12 := r11.nw n12
    have hva12 := dp_ex n12.gg hva
    have hvb12 := dp_ex n12.gg hvb
    have hxb12 := dp_ex n12.gg hxb11
    have e712 := e711.trans n12.gg
    have hdm : Ed K (tCB (rMin K) (tCons (tLc (iTup K (tVar 7)) (gName 15) tYes (tCB (rLenC K) (tCons (tOp (rIx K) (tVar 0) (tVar 15)) tNil)) [15]) tNil)) [some v1, some v2, some v3, some (.ref m), some (.ref l), some xa, some xb, some va, some vb, y9, y10, y11, y12, none, none, none, none, none] G12 (nI (minDeg u s.1)) := by
      have hm := minDeg_mem (w := u) hsne
      refine ed_min (ns := (s.1.map (deg u)).map fun n : Nat => (n : Int)) (m := (minDeg u s.1 : Int)) (ed_is (ed_lcm s.1 nI (fun s => nI (deg u s)) (ei_tup (ed_var (i := 7) rfl hva12)) (by rw [hsI.1.1]; omega) fun i a ha x G1 H1 e1 e2 hx Q q => ?_) ?_) ?_ ?_
      · obtain rfl := dp_nI hx
        exact q _ rfl (ed_degR (ed_room (ed_var (i := 0) rfl (dp_ex (e712.trans e1) hd1)) (ed_nVar (i := 15) rfl) (hsI.1.2 a (List.mem_of_getElem? ha))))
      · rw [List.map_map, List.map_map]
        rfl
      · exact List.mem_map.mpr ⟨_, hm.1, rfl⟩
      · intro y hy
        obtain ⟨z, hz, rfl⟩ := List.mem_map.mp hy
        exact Int.ofNat_le.mpr (hm.2 z hz)
    have hl1 := hsI.1.1
    have hl2 := hsI.2.1
    refine sd_for (List.range (minDeg u s.1)) (fun i => .int (i : Int)) (ei_rng1 hdm (by omega)) n12'.gh
      (fun d G3 σ3 H3 => ∃ (kvs : KVs) (xs : List V) (y9 y10 y11 y12 : Option V), σ3 = [some v1, some v2, some v3, some (.ref m), some (.ref l), some xa, some xb, some va, some vb, y9, y10, y11, y12, none, none, none, none, none] ∧
        Nw G H G3 H3 ∧ Dc P w K G3 H3 m (entsM kSt ((mid (runQ (kidsT u) b n) (cand (kidsT u) (s, wy)) d).map (·.1))) kvs ∧ Gr K G3 H3 l (((mid (runQ (kidsT u) b n) (cand (kidsT u) (s, wy)) d).drop (n + 1)).map eEntT) xs)
      (fun G3 H3 n3 => ⟨kvs, ys, y9, y10, y11, y12, rfl, n12'.tr n3, by rw [mid_zero]; exact g12.nw n3, by rw [mid_zero]; exact r12.nw n3⟩) ?_ ?_
    · rintro G14 d d' G15 σ3 H15 e14 hd' e15 e16 ⟨kvs, xs, y9, y10, y11, y12, rfl, n15, g15, r15⟩ z G16 H16 n16 hz
      obtain ⟨rfl, hdm'⟩ := range_some hd'
      obtain rfl := dp_int_inv hz
      refine gn1 ?_
      show tSeq _ _ _ [some v1, some v2, some v3, some (.ref m), some (.ref l), some xa, some xb, some va, some vb, some (.int (d' : Int)), y10, y11, y12, none, none, none, none, none] H16
      have hdr : ∀ r ∈ s.1, d' < deg u r := fun r hr => Nat.lt_of_lt_of_le hdm' (minDeg_le hr)
      have n16' := n15.tr n16
      have ee16 := (e14.trans e15).trans n16.gg
      have e716 := e712.trans ee16
      refine qd_asg (d := .list ((s.1.map fun r => there u r d').map eEnd)) (ed_is (ed_lcm s.1 nI (fun r => eEnd (there u r d')) (ei_tup (ed_var (i := 7) rfl (dp_ex ee16 hva12))) (by omega) fun j a ha x G6 H6 e5 e6 hx Q q => ?_) (by rw [List.map_map]; rfl)) n16'.gh fun v6 G17 H17 n17 h6 => ?_
      · obtain rfl := dp_nI hx
        have ham := List.mem_of_getElem? ha
        exact q _ rfl (ed_there W (ed_var (i := 0) rfl (dp_ex (e716.trans e5) hd1)) (ed_nVar (i := 15) rfl) (ed_nVar (i := 9) rfl) (hsI.1.2 a ham) (hdr a ham))
      show tSeq _ _ _ [some v1, some v2, some v3, some (.ref m), some (.ref l), some xa, some xb, some va, some vb, some (.int (d' : Int)), some v6, y11, y12, none, none, none, none, none] H17
      have n17' := n16'.tr n17
      have ee17 := ee16.trans n17.gg
      have e717 := e716.trans n17.gg
      refine qd_asg (d := .list ((sightsM u s.2 (s.1.map fun r => there u r d')).map eStep)) (ed_is (ed_lcm (s.2.zip (s.1.map fun r => there u r d')) (fun x => .tuple [nI x.1, eEnd x.2]) (fun x => eStep (x.1, x.2.2, deg u x.2.1)) (by rw [← zipD_map]; exact ei_zipM (ed_var (i := 8) rfl (dp_ex ee17 hvb12)) (ed_var (i := 10) rfl h6) (by simp; omega)) (by rw [List.length_zip]; omega) fun j a ha x G7 H7 e5 e6 hx Q q => gt2n hx e6 fun v7 v8 h7 h8 => ?_) (by unfold sightsM; rw [List.map_map]; rfl)) n17'.gh fun v7 G18 H18 n18 h7 => ?_
      · rw [List.getElem?_zip_eq_some, List.getElem?_map] at ha
        have hlt : a.2.1 < u.length := by
          cases q2 : s.1[j]? with
          | none => rw [q2] at ha; simp at ha
          | some r =>
            rw [q2] at ha
            have := Option.some.inj ha.2
            rw [← this]
            exact there_lt W r d'
        exact q _ rfl (ed_tup (ea_cons (ed_var (i := 14) rfl h7) (ea_cons (ed_snd (ed_var (i := 16) rfl h8)) (ea_cons (ed_degR (ed_room (ed_var (i := 0) rfl (dp_ex (e717.trans e5) hd1)) (ed_fst (ed_var (i := 16) rfl h8)) hlt)) ea_nil))))
      show tSeq _ _ _ [some v1, some v2, some v3, some (.ref m), some (.ref l), some xa, some xb, some va, some vb, some (.int (d' : Int)), some v6, some v7, y12, none, none, none, none, none] H18
      have n18' := n17'.tr n18
      have h6' := dp_ex n18.gg h6
      have ea : Ed K (tCB (rTupC K) (tCons (tLc (iList K (tVar 10)) (gName 16) tYes (tOp (rIx K) (tVar 16) (tC (.int 0))) [16]) tNil)) [some v1, some v2, some v3, some (.ref m), some (.ref l), some xa, some xb, some va, some vb, some (.int (d' : Int)), some v6, some v7, y12, none, none, none, none, none] G18 (eNs (nextH u s.1 d')) := by
        refine ed_is (ed_tupOfL (ed_lcm (s.1.map fun r => there u r d') eEnd (fun p => nI p.1) (ei_list (ed_var (i := 10) rfl h6')) (by simp; omega) fun j a ha x G8 H8 e5 e6 hx Q q => q _ rfl (ed_fst (ed_var (i := 16) rfl hx)))) ?_
        unfold eNs nextH
        rw [List.map_map, List.map_map]
        rfl
      have hsl : (sightsM u s.2 (s.1.map fun r => there u r d')).length ≤ 1000 := by unfold sightsM; simp; omega
      refine qd_asg (d := eSt (nextT u s d')) (ed_tup (ea_cons ea (ea_cons (ed_grp (fun _ _ => eStep_inj) (n := 1) (fun x => pl_eStep x) (by decide) _ hsl (ed_var (i := 11) rfl h7) (fun x G' e' => ed_var (i := 11) rfl (dp_ex e' h7)) (fun _ => rfl) (fun _ => rfl)) ea_nil))) n18'.gh fun vt G19 H19 n19 ht => ?_
      show tIfS _ _ _ _ [some v1, some v2, some v3, some (.ref m), some (.ref l), some xa, some xb, some va, some vb, some (.int (d' : Int)), some v6, some v7, some vt, none, none, none, none, none] H19
      have n19' := n18'.tr n19
      have nn19 := ((n16.tr n17).tr n18).tr n19
      have g19 := g15.nw nn19
      have r19 := r15.nw nn19
      have hc : (cand (kidsT u) (s, wy))[d']? = some (nextT u s d', wy ++ [d']) := cand_get (by unfold kidsT; rw [range_get, if_pos hdm'])
      have hms := mid_succ (R := runQ (kidsT u) b n) hc
      have hmle := mid_le (runQ (kidsT u) b n) (cand (kidsT u) (s, wy)) d'
      rw [← mid_all, cand_len] at hmle
      have hmge := mid_ge (runQ (kidsT u) b n) (cand (kidsT u) (s, wy)) d'
      have hmln : (mid (runQ (kidsT u) b n) (cand (kidsT u) (s, wy)) d').length ≤ 1679616 := Nat.le_trans hmle hbig
      dsimp only at hms
      generalize mid (runQ (kidsT u) b n) (cand (kidsT u) (s, wy)) d' = M at *
      obtain ⟨b1, b2, b3⟩ := g19.reg n19'.gh
      have eG : Ex G14 G19 := e15.trans nn19.gg
      refine sd_when (et_notin (k := kSt (nextT u s d')) (by rw [kSt_data]; exact ed_var (i := 12) rfl (dp_ex b2 ht)) rfl (kSt_depth _) (j := 3) rfl b3 upd_same) b1 (fun hb G20 H20 n20 => ?_) (fun hb G20 H20 n20 => ?_)
      · have hnew : nextT u s d' ∉ M.map (·.1) := fun z => by
          rw [decide_eq_true ((entsM_has kSt_inj).mpr z)] at hb
          cases hb
        rw [if_neg hnew] at hms
        have n20' := n19'.hx n20.hh
        have g20 := g19.hx n20.hh
        have r20 := r19.hx n20.hh
        refine qd_put (d := .bool true) (k := kSt (nextT u s d')) (K := K) ed_bl n20'.gh (by rw [kSt_data]; exact ed_var (i := 12) rfl ht) n20'.gh rfl (kSt_depth _) rfl g20 (fun z => hnew ((entsM_has kSt_inj).mp z)) (by rw [entsM_len, List.length_map]; omega) rfl (fun a z1 z2 => gv_same z1 z2) fun kvs2 R2 J n21 g21 e21 => ?_
        have r21 := (r20.nw n21).up (o := DN P w m kvs2) (Ne.symm hml)
        have ee21 := (ee17.trans n18.gg).trans (n19.gg.trans n21.gg)
        refine sd_push (j := 4) (d := eEntT (nextT u s d', wy ++ [d'])) rfl r21 (by rw [List.length_map, List.length_drop]; omega) (ed_tup (ea_cons (ed_var (i := 12) rfl (dp_ex n21.gg ht)) (ea_cons (ed_is (ed_catA (ed_var (i := 6) rfl (dp_ex ee21 hxb12)) (ed_tup (ea_cons (ed_nVar (i := 9) rfl) ea_nil)) (by simp; omega)) (by unfold eNs; rw [List.map_append]; rfl)) ea_nil))) e21 fun vp G22 H22 n22 r22 e22 => ?_
        have n22' := ((n20'.tr n21).mut f0 g21.out).tr n22
        refine ⟨G22, (eG.trans n21.gg).trans n22.gg, e22, kvs2, xs ++ [vp], _, _, _, _, rfl, n22'.mut f1 r22.out, ?_, ?_⟩
        · rw [hms, List.map_append, List.map_singleton, entsM_snoc]
          exact (g21.nw n22).up hml
        · rw [hms, List.drop_append_of_le_length (by omega), List.map_append]
          exact r22
      · have hold : nextT u s d' ∈ M.map (·.1) := Classical.byContradiction fun z => by
          rw [decide_eq_false (fun q => z ((entsM_has kSt_inj).mp q))] at hb
          cases hb
        rw [if_pos hold] at hms
        refine ⟨G19, eG, n19'.gh.trans n20.hh, kvs, xs, _, _, _, _, rfl, n19'.hx n20.hh, ?_, ?_⟩
        · rw [hms]; exact g19.hx n20.hh
        · rw [hms]; exact r19.hx n20.hh
    · rintro G14 σ3 H14 e14 e15 ⟨kvs, xs, y9, y10, y11, y12, rfl, n14, g14, r14⟩
      have hkl : (kidsT u (s, wy).1).length = minDeg u s.1 := by unfold kidsT; simp
      rw [List.length_range, ← hkl, ← cand_len, mid_all, ← hstep] at g14 r14
      refine ⟨1679617 - (n + 1), by have := hfew n; omega, n + 1, G14, kvs, xs, _, _, _, _, _, _, _, _, rfl, ?_, rfl, n14, e712.trans e14, g14, r14, hT1⟩
      obtain ⟨t, ht⟩ := runQ_succ (kidsT u) b n
      rw [ht, List.length_append]
      omega
  · have hle : (runQ (kidsT u) b n).length ≤ n := by
      have hz : (runQ (kidsT u) b n).drop n = [] := by simpa using hb
      have := congrArg List.length hz
      rw [List.length_drop] at this
      simp at this
      omega
    have ht : tellM (kidsT u) b (fun t => toldM ks t.2) = none := tell_eq ⟨n, hT, by rw [List.getElem?_eq_none hle]⟩
    refine sd_ret (K := K) ed_non (n7.gh.trans n8.hh) fun v9 G9 H9 n10 h9 => k v9 G9 H9 ((n7.hx n8.hh).tr n10) ?_
    rw [ht]
    exact h9
end
end Wk
/-! WP13 -/
namespace Wk
open PySem L2 Evl
section
variable {S : Type} [DecidableEq S]
theorem tell_congr {kids : S → List S} {b : S} {t1 t2 : S → Bool} (h : ∀ n, ∀ e ∈ runQ kids b n, t1 e.1 = t2 e.1) : tellM kids b t1 = tellM kids b t2 := by
  have key : ∀ r, TellIs kids b t1 r ↔ TellIs kids b t2 r := by
    have go : ∀ {t1 t2 : S → Bool}, (∀ n, ∀ e ∈ runQ kids b n, t1 e.1 = t2 e.1) → ∀ r, TellIs kids b t1 r → TellIs kids b t2 r := by
      rintro t1 t2 h r ⟨i, hi, hr⟩
      refine ⟨i, fun j hj => ?_, ?_⟩
      · obtain ⟨e, he, ht⟩ := hi j hj
        exact ⟨e, he, by rw [← h j e (List.mem_of_getElem? he)]; exact ht⟩
      · cases q : (runQ kids b i)[i]? with
        | none => rw [q] at hr; exact hr
        | some e =>
          rw [q] at hr
          exact ⟨by rw [← h i e (List.mem_of_getElem? q)]; exact hr.1, hr.2⟩
    exact fun r => ⟨go h r, go (fun n e he => (h n e he).symm) r⟩
  have : TellIs kids b t1 = TellIs kids b t2 := funext fun r => propext (key r)
  unfold tellM
  rw [this]
end
section
variable {P : Program} {w : World} {K : PySem.W.Frag} {vs : List V} {H : Hp} {Q : VK} {E : XK}
theorem ed_isTup' {σ : L2.St} {G : Hp} {te : TE} {ds : List PyData} (h : Ed K te σ G (.tuple ds)) : Ed K (tIsTup K te) σ G (.bool true) := fun H e Q q => h H e _ fun v G1 H1 n1 h1 => by
  obtain ⟨a, xs, rfl, hs, hd⟩ := dp_tup_inv h1
  have ty : TyX K H1 (.ref a) (.type "tuple") := by
    rcases ex_t n1.gh hs with (z | ⟨ob, z⟩) | ⟨o, its, n, z1, z2, z3⟩
    · exact .base (.tup z)
    · exact .fTuple z
    · exact .kTuple z1 z2
  exact ⟨.ref a, .ty "tuple", .type "tuple", .type "tuple", true, rfl, .ty _, ty, by unfold PySem.W.kitOne; simp, q _ G1 H1 n1 (.bl true)⟩
theorem home_is {u : Web} {b g q : List Nat} (h : walkQ (kidsH u) b q = some g) : HomeIs (kidsH u) b g (homeM (kidsH u) b g) := by
  obtain ⟨n, e, he, h1, h2⟩ := runQ_least (kidsH u) b q.length q g rfl h
  have hi : HomeIs (kidsH u) b g e.2 := ⟨n, by rw [← h1]; exact he⟩
  rw [home_eq hi]
  exact hi
theorem rd_Lhome_right (h : S_Lhome_right P w K vs H Q E) : t_Lhome_right P w K (Dd Q) (st0 6 vs) H := by
  obtain ⟨G, ds, d, e, hd, ⟨u, st, W, hl, rfl, rfl⟩, k⟩ := h
  obtain ⟨v1, v2, rfl, h1, h2⟩ := dps2 hd
  show t_Lhome_right P w K (Dd Q) [some v1, some v2, none, none, none, none] H
  unfold t_Lhome_right
  have few := W.few
  refine qd_asg (d := .list ((standsM u st).map eEnd)) (ed_callD (ea_cons (ed_var (i := 0) rfl h1) (ea_cons (ed_var (i := 1) rfl h2) ea_nil)) ⟨u, st, W, by omega, rfl, rfl⟩) e fun v3 G1 H1 n1 h3 => ?_
  show tSeq _ _ _ [some v1, some v2, some v3, none, none, none] H1
  refine qd_asg (d := homeD u st) (ed_callD (ea_cons (ed_var (i := 0) rfl (dp_ex n1.gg h1)) (ea_cons (ed_var (i := 1) rfl (dp_ex n1.gg h2)) ea_nil)) ⟨u, st, W, hl, rfl, rfl⟩) n1.gh fun v4 G2 H2 n2 h4 => ?_
  show tSeq _ _ _ [some v1, some v2, some v3, some v4, none, none] H2
  have m2 := n1.tr n2
  have plp : ∀ l : List (Nat × Nat), Pl 2 (.list (l.map eEnd)) := fun l => pl_lst (pl_map l fun x _ => pl_eEnd x)
  have plN : Pl 1 (.list []) := pl_lst (by simp)
  have h3' := dp_ex n2.gg h3
  refine qd_when (et_eq (et_test (ed_neD (ed_callD (R := fun ds d => ∃ (w : Web) (st : Story), WebOk w ∧ st.2.length ≤ 1000 ∧ ds = [eWeb w, eStory st] ∧ d = .list ((standsM w st).map eEnd)) (d := .list ((standsM u st).map eEnd)) (ea_cons (ed_var (i := 0) rfl (dp_ex m2.gg h1)) (ea_cons (ed_var (i := 1) rfl (dp_ex m2.gg h2)) ea_nil)) ⟨u, st, W, by omega, rfl, rfl⟩) (ed_var (i := 2) rfl h3') (pl_shaped (plp _)) (pl_shaped (plp _)))) (b' := false) (by rw [eqv_same (plp _) (plp _) rfl]; rfl)) n2.gh (fun hb G3 H3 n3 => by cases hb) (fun _ G3 H3 n3 => ?_)
  have m3 := m2.tr n3
  have h33 := dp_ex n3.gg h3'
  have h43 := dp_ex n3.gg h4
  have hq : PyData.eqv (.list ((standsM u st).map eEnd)) (.list []) = decide (standsM u st = []) := by
    by_cases z : standsM u st = []
    · rw [decide_eq_true z]
      exact eqv_same (plp _) plN (by rw [z]; rfl)
    · rw [decide_eq_false z]
      exact eqv_other (plp _) plN fun y => z (by simpa using y)
  refine qd_when (et_eq (et_test (ed_eqD (ed_var (i := 2) rfl h33) (ed_lst ea_nil) (pl_shaped (plp _)) (pl_shaped plN))) hq) n3.gh (fun hb G4 H4 n4 => ?_) (fun hb G4 H4 n4 => ?_)
  · have hz := of_decide_eq_true hb
    have hhd : homeD u st = .none := by unfold homeD; rw [if_pos hz]
    rw [hhd] at h43
    exact sd_ret (ed_isN (ed_var (i := 3) rfl (dp_ex n4.gg h43))) n4.gh fun v6 G6 H6 n6 h6 => k v6 G6 H6 ((m3.tr n4).tr n6) h6
  have hne := of_decide_eq_false hb
  have swalk := stands_walk W hne
  have smem : ∀ p ∈ standsM u st, p.1 < u.length ∧ p.2 < u.length := fun p hp => by
    obtain ⟨a1, a2, a3⟩ := stands_mem hp
    exact ⟨a1, go1_lt W a1 a3⟩
  have slen := stands_len u st
  have hhd : homeD u st = eNs (homeM (kidsH u) ((standsM u st).map (·.2)) ((standsM u st).map (·.1))) := by unfold homeD; rw [if_neg hne]
  rw [hhd] at h43
  have hi := home_is swalk
  have hple := home_least hi swalk
  have hbl : ((stSight st).map (·.1)).reverse.length = st.2.length := by unfold stSight; simp
  have hback := walkH_inv (home_walk hi) (by simpa using hne)
  generalize hpe : homeM (kidsH u) ((standsM u st).map (·.2)) ((standsM u st).map (·.1)) = hp at *
  have hpl : hp.length ≤ st.2.length := by omega
  have m4 := m3.tr n4
  have h34 := dp_ex n4.gg h33
  have h44 := dp_ex n4.gg h43
  have hd1 := dp_ex m4.gg h1
  have hd2 := dp_ex m4.gg h2
  have lenF : Ed K (tCB (rLenC K) (tCons (tVar 3) tNil)) [some v1, some v2, some v3, some v4, none, none] G4 (nI hp.length) := by
    have := ed_lenT (ed_var (σ := [some v1, some v2, some v3, some v4, none, none]) (i := 3) rfl h44)
    rw [List.length_map] at this
    exact this
  have lenS : Ed K (tCB (rLenC K) (tCons (tOp (rIx K) (tVar 1) (tC (.int 1))) tNil)) [some v1, some v2, some v3, some v4, none, none] G4 (nI st.2.length) := by
    have := ed_lenT (ed_ixTn (j := 1) (ed_var (σ := [some v1, some v2, some v3, some v4, none, none]) (i := 1) rfl hd2) ed_int rfl)
    rw [List.length_map] at this
    exact this
  have eH : Ed K (tCall (S_Lhome P w K) [] E0 (tCons (tVar 0) (tCons (tVar 2) tNil))) [some v1, some v2, some v3, some v4, none, none] G4 (eNs hp) := by
    refine ed_callD (ea_cons (ed_var (i := 0) rfl hd1) (ea_cons (ed_var (i := 2) rfl h34) ea_nil)) ⟨u, standsM u st, _, W, hne, by omega, smem, swalk, rfl, ?_⟩
    rw [hpe]
  have t2 : EdT (tTest (tOp (rI0 fun i j => .bl (decide (j < i))) (tCB (rLenC K) (tCons (tVar 3) tNil)) (tCB (rLenC K) (tCons (tOp (rIx K) (tVar 1) (tC (.int 1))) tNil)))) [some v1, some v2, some v3, some v4, none, none] G4 false :=
    et_eq (et_test (ed_gt lenF lenS)) (decide_eq_false (by omega))
  have t3 : EdT (tTest (tOp (rNeD K) (tVar 3) (tCall (S_Lhome P w K) [] E0 (tCons (tVar 0) (tCons (tVar 2) tNil))))) [some v1, some v2, some v3, some v4, none, none] G4 false :=
    et_eq (et_test (ed_neD (ed_var (i := 3) rfl h44) eH (pl_shaped (pl_eNs (n := 0) _)) (pl_shaped (pl_eNs (n := 0) _)))) (by rw [eqv_same (pl_eNs (n := 0) _) (pl_eNs (n := 0) _) rfl]; rfl)
  refine qd_when (b := false) (et_or (et_not (et_B (ed_isTup' (ed_var (i := 3) rfl h44)))) fun _ => et_or t2 fun _ => t3) n4.gh (fun hb G5 H5 n5 => by cases hb) (fun _ G5 H5 n5 => ?_)
  have m5 := m4.tr n5
  refine sd_ret (ed_is (ed_all (bs := (standsM u st).map fun _ => true) (ed_is (ed_lcm (standsM u st) eEnd (fun _ => .bool true) (ei_list (ed_var (i := 2) rfl (dp_ex n5.gg h34))) (by omega) fun i a ha x G6 H6 e1 e2 hx Q q => gt2n hx e2 fun v5 v6 h5 h6 => ?_) (by rw [List.map_map]; rfl))) (by simp)) n5.gh fun v6 G6 H6 n6 h6 => k v6 G6 H6 (m5.tr n6) h6
  obtain rfl := dp_nI h5
  obtain rfl := dp_nI h6
  have ham := List.mem_of_getElem? ha
  obtain ⟨q1, q2⟩ := smem a ham
  have hgo : go1 u a.2 hp = some a.1 := by
    rw [List.map_map, List.map_map] at hback
    have := List.map_eq_map_iff.mp hback a ham
    exact this
  have hsg := sees_gon (w := u) (p := hp) (r := a.2)
  rw [hgo] at hsg
  obtain ⟨ll, hll⟩ := Option.isSome_iff_exists.mp hsg
  refine q _ rfl (ed_is (ed_eqD (ed_ixTn (j := 1) (ds := [.list (nI (deg u a.2) :: ll.map eEnd), nI a.1]) (ed_callD (ea_cons (ed_var (i := 0) rfl (dp_ex ((n5.gg).trans e1) hd1)) (ea_cons (ed_nVar (i := 5) rfl) (ea_cons (ed_var (i := 3) rfl (dp_ex (n5.gg.trans e1) h44)) ea_nil))) ⟨u, a.2, hp, W, q2, by omega, .inl rfl, by rw [hll, hgo]; rfl⟩) ed_int rfl) (ed_nVar (i := 4) rfl) (pl_shaped (pl_nI (n := 0))) (pl_shaped (pl_nI (n := 0)))) ?_)
  rw [eqv_same (pl_nI (n := 0)) (pl_nI (n := 0)) rfl]
end
end Wk
/-! WP14 -/
namespace Wk
open PySem L2 Evl
section
variable {P : Program} {w : World} {K : PySem.W.Frag} {vs : List V} {H : Hp} {Q : VK} {E : XK}
theorem grp_one {α : Type} [DecidableEq α] (x : α) : grp [x] = [0] := by unfold grp; simp
theorem told_one (k : Nat) : toldM [k] [0] = true := by unfold toldM; simp
theorem rd_Ltelling_right (h : S_Ltelling_right P w K vs H Q E) : t_Ltelling_right P w K (Dd Q) (st0 7 vs) H := by
  obtain ⟨G, ds, d, e, hd, ⟨u, some', W, hl, hlt, rfl, rfl⟩, k⟩ := h
  obtain ⟨v1, v2, rfl, h1, h2⟩ := dps2 hd
  show t_Ltelling_right P w K (Dd Q) [some v1, some v2, none, none, none, none, none] H
  unfold t_Ltelling_right
  have few := W.few
  refine qd_asgR ⟨v1, rfl, ⟨G, u, e, dps_one h1, W, fun v3 ms G1 H1 sk n1 h3 => ?_⟩⟩
  show tSeq _ _ _ [some v1, some v2, some v3, none, none, none, none] H1
  refine qd_asg (d := if some' = [] then eNs [] else tellD u (some'.map fun r => (rnd u u.length).getD r 0) some') (ed_callD (ea_cons (ed_var (i := 0) rfl (dp_ex n1.gg h1)) (ea_cons (ed_ofF (ef_listOfL (ed_var (i := 1) rfl (dp_ex n1.gg h2)))) ea_nil)) ⟨u, some', W, hl, hlt, rfl, rfl⟩) n1.gh fun v4 G2 H2 n2 h4 => ?_
  show tSeq _ _ _ [some v1, some v2, some v3, some v4, none, none, none] H2
  have m2 := n1.tr n2
  have hlen : Ed K (tCB (rLenC K) (tCons (tVar 1) tNil)) [some v1, some v2, some v3, some v4, none, none, none] G2 (nI some'.length) := by
    have := ed_len (ed_var (σ := [some v1, some v2, some v3, some v4, none, none, none]) (i := 1) rfl (dp_ex m2.gg h2))
    rw [List.length_map] at this
    exact this
  refine qd_when (et_test (ed_lt hlen (ed_int (i := 2)))) n2.gh (fun hb G3 H3 n3 => ?_) (fun hb G3 H3 n3 => ?_)
  · have hlt2 : some'.length < 2 := by have := of_decide_eq_true hb; omega
    have hd4 : (if some' = [] then eNs [] else tellD u (some'.map fun r => (rnd u u.length).getD r 0) some') = eNs [] := by
      cases some' with
      | nil => rw [if_pos rfl]
      | cons r rest =>
        cases rest with
        | nil =>
          rw [if_neg (by simp)]
          unfold tellD
          rw [List.map_singleton, List.map_singleton, grp_one, tell_eq (r := some []) ⟨0, fun j hj => absurd hj (Nat.not_lt_zero _), ?_⟩]
          · rfl
          · show toldM _ [0] = true ∧ _
            exact ⟨told_one _, rfl⟩
        | cons _ _ => exact absurd hlt2 (by simp only [List.length_cons]; omega)
    rw [hd4] at h4
    refine sd_ret (ed_is (ed_eqD (ed_var (i := 3) rfl (dp_ex n3.gg h4)) (ed_tup ea_nil) (pl_shaped (pl_eNs (n := 0) _)) (pl_shaped (pl_eNs (n := 0) []))) (by show PyData.bool (PyData.eqv (eNs []) (eNs [])) = _; rw [eqv_same (pl_eNs (n := 0) []) (pl_eNs (n := 0) []) rfl])) n3.gh fun v6 G6 H6 n6 h6 => k v6 G6 H6 ((m2.tr n3).tr n6) h6
  have hge : 2 ≤ some'.length := by have := of_decide_eq_false hb; omega
  have hne : some' ≠ [] := fun z => by rw [z] at hge; simp at hge
  rw [if_neg hne] at h4
  unfold tellD at h4
  have m3 := m2.tr n3
  have hd1 := dp_ex m3.gg h1
  have hd2 := dp_ex m3.gg h2
  have h33 := dp_ex (n2.gg.trans n3.gg) h3
  have h43 := dp_ex n3.gg h4
  refine qd_asg (d := .list ((some'.map (deg u)).map nI)) (ed_is (ed_lcm some' nI (fun r => nI (deg u r)) (ei_list (ed_var (i := 1) rfl hd2)) (by omega) fun j a ha x G8 H8 e5 e6 hx Q q => ?_) (by rw [List.map_map]; rfl)) n3.gh fun v5 G4 H4 n4 h5 => ?_
  · obtain rfl := dp_nI hx
    exact q _ rfl (ed_degR (ed_room (ed_var (i := 0) rfl (dp_ex e5 hd1)) (ed_nVar (i := 5) rfl) (hlt a (List.mem_of_getElem? ha))))
  show tSeq _ _ _ [some v1, some v2, some v3, some v4, some v5, none, none] H4
  refine qd_asg (d := eSt (some', grp (some'.map (deg u)))) (ed_tup (ea_cons (ed_tupOfL (ed_var (i := 1) rfl (dp_ex n4.gg hd2))) (ea_cons (ed_grp (fun _ _ => nI_inj) (n := 0) (fun x => pl_nI) (by decide) _ (by simp; omega) (ed_var (i := 4) rfl h5) (fun x G' e' => ed_var (i := 4) rfl (dp_ex e' h5)) (fun _ => rfl) (fun _ => rfl)) ea_nil))) n4.gh fun v6 G5 H5 n5 h6 => ?_
  show tRet _ _ [some v1, some v2, some v3, some v4, some v6, none, none] H5
  have m5 := (m3.tr n4).tr n5
  have e35 := n4.gg.trans n5.gg
  obtain ⟨sk1, sk2, sk3⟩ := sk
  have hks : Ed K (tLc (iList K (tVar 1)) (gName 5) tYes (tOp (rIx K) (tVar 2) (tVar 5)) [5]) [some v1, some v2, some v3, some v4, some v6, none, none] G5 (eL (some'.map fun r => ms.getD r 0)) := by
    refine ed_is (ed_lcm some' nI (fun r => nI (ms.getD r 0)) (ei_list (ed_var (i := 1) rfl (dp_ex e35 hd2))) (by omega) fun j a ha x G8 H8 e5 e6 hx Q q => ?_) (by unfold eL; rw [List.map_map]; rfl)
    obtain rfl := dp_nI hx
    exact q _ rfl (ed_nth (ed_var (i := 2) rfl (dp_ex (e35.trans e5) h33)) (ed_nVar (i := 5) rfl) (by rw [sk2]; exact hlt a (List.mem_of_getElem? ha)))
  have hbI := begin_inT (u := u) hlt
  have hq : tellM (kidsT u) (some', grp (some'.map (deg u))) (fun s => toldM (some'.map fun r => (rnd u u.length).getD r 0) s.2) = tellM (kidsT u) (some', grp (some'.map (deg u))) (fun t => toldM (some'.map fun r => ms.getD r 0) t.2) :=
    tell_congr fun n e he => by
      have hI := runQ_P _ hbI (inT_kids W) n e he
      exact toldM_same ⟨sk1, sk2, sk3⟩ hlt rfl hI.2
  refine sd_ret (ed_is (ed_eqD (ed_var (i := 3) rfl (dp_ex e35 h43)) (ed_callD (ea_cons (ed_var (i := 0) rfl (dp_ex e35 hd1)) (ea_cons (ed_var (i := 4) rfl h6) (ea_cons hks ea_nil))) ⟨u, _, some'.length, _, W, by omega, hl, hbI, by simp, rfl, rfl⟩) (pl_shaped (pl_eO (n := 0) _)) (pl_shaped (pl_eO (n := 0) _))) ?_) n5.gh fun v6 G6 H6 n6 h6 => k v6 G6 H6 (m5.tr n6) h6
  rw [eqv_same (pl_eO (n := 0) _) (pl_eO (n := 0) _) (by rw [hq])]
theorem looks_of : ∀ {L : List NestedKey} {F : List Look}, (∀ k ∈ L, k ∈ F.map kLook) → ∃ ls : List Look, L = ls.map kLook ∧ ∀ l ∈ ls, l ∈ F
  | [], F, _ => ⟨[], rfl, by simp⟩
  | k :: L, F, h => by
    obtain ⟨l, hl, rfl⟩ := List.mem_map.mp (h k (List.mem_cons_self ..))
    obtain ⟨ls, rfl, h2⟩ := looks_of (F := F) fun k hk => h k (List.mem_cons_of_mem _ hk)
    exact ⟨l :: ls, rfl, fun x hx => by
      rcases List.mem_cons.mp hx with rfl | hx
      · exact hl
      · exact h2 x hx⟩
theorem pl_eLook {n : Nat} (l : Look) : Pl (n + 3) (eLook l) := pl_two pl_nI (pl_tup (pl_map l.2 fun x _ => pl_eEnd x))
theorem ends_num : ∀ l : List (Nat × Nat), numOnlyAll (l.map kEnd) = true
  | [] => by simp [numOnlyAll]
  | p :: l => by simp only [List.map_cons, numOnlyAll, ends_num l, kEnd, numOnly, Bool.and_true]
theorem kLook_num (l : Look) : numOnly (kLook l) = true := by
  simp only [kLook, numOnly, numOnlyAll, ends_num, Bool.and_true]
theorem ends_alike : ∀ l m : List (Nat × Nat), PySem.W.alikeAll (l.map eEnd) (m.map eEnd) = true
  | [], _ => by simp [PySem.W.alikeAll]
  | _ :: _, [] => by simp [PySem.W.alikeAll]
  | p :: l, q :: m => by
    simp only [List.map_cons, PySem.W.alikeAll, ends_alike l m, Bool.and_true]
    simp [eEnd, nI, PySem.W.alike, PySem.W.alikeAll]
theorem look_alike (l m : Look) : PySem.W.alike (eLook l) (eLook m) = true := by
  simp only [eLook, nI, PySem.W.alike, PySem.W.alikeAll, ends_alike, Bool.and_true]
theorem dps_pick {G : Hp} : ∀ {L : List (V × NestedKey)}, (∀ q ∈ L, Dp K G q.1 q.2.data) → DpAll K G (L.map (·.1)) (L.map (·.2.data))
  | [], _ => .nil
  | q :: L, h => .cons (h q (List.mem_cons_self ..)) (dps_pick fun x hx => h x (List.mem_cons_of_mem _ hx))
theorem dps_zip {G : Hp} : ∀ {xs : List V} {ks : List NestedKey}, DpAll K G xs (NestedKey.datas ks) → ∀ q ∈ xs.zip ks, Dp K G q.1 q.2.data
  | [], _, _, q, h => by simp at h
  | _ :: _, [], _, q, h => by simp at h
  | x :: xs, k :: ks, hd, q, h => by
    rw [NestedKey.datas] at hd
    cases hd with
    | cons h1 h2 =>
      rw [List.zip_cons_cons] at h
      rcases List.mem_cons.mp h with rfl | h
      · exact h1
      · exact dps_zip h2 q h
theorem idx_get {α : Type} [DecidableEq α] {l : List α} {a : α} (h : a ∈ l) : l.idxOf a < l.length ∧ l[l.idxOf a]? = some a ∧ ∀ m, m < l.idxOf a → l[m]? ≠ some a := by
  have hl := List.idxOf_lt_length_of_mem h
  refine ⟨hl, by rw [List.getElem?_eq_getElem hl, List.getElem_idxOf], fun m hm z => ?_⟩
  have hjl := (List.getElem?_eq_some_iff.mp z)
  have := List.not_of_lt_findIdx (p := (· == a)) (xs := l) (i := m) hm
  simp [hjl.2] at this
abbrev ixL (ls : List Look) (l : Look) : Nat := @List.idxOf Look instBEqOfDecidableEq l ls
theorem getD_map_idx {ls F : List Look} {i : Nat} (h : i < F.length) : (F.map fun l => ixL ls l).getD i 0 = ixL ls F[i] := by
  rw [List.getD_eq_getElem?_getD, List.getElem?_map, List.getElem?_eq_getElem h]
  rfl
theorem rd_Lkinds (h : S_Lkinds P w K vs H Q E) : t_Lkinds P w K (Dd Q) (st0 10 vs) H := by
  obtain ⟨G, u, e, hd, W, k⟩ := h
  obtain ⟨v1, rfl, h1⟩ := dps1 hd
  show t_Lkinds P w K (Dd Q) [some v1, none, none, none, none, none, none, none, none, none] H
  unfold t_Lkinds
  have few := W.few
  refine qd_asg (d := eL (u.map (·.length))) (ed_is (ed_lcm u eRoom (fun r => nI r.length) (ei_tup (ed_var (i := 0) rfl h1)) (by omega) fun i a ha x G5 H5 e1 e2 hx Q q => q _ rfl (ed_is (ed_lenT (ed_var (i := 6) rfl hx)) (by rw [List.length_map]; rfl))) (by unfold eL; rw [List.map_map]; rfl)) e fun v2 G1 H1 n1 h2 => ?_
  show tSeq _ _ _ [some v1, some v2, none, none, none, none, none, none, none, none] H1
  refine qd_for (List.range u.length) (fun i => .int (i : Int)) (ei_rng1 (ed_lenW (ed_var (i := 0) rfl (dp_ex n1.gg h1))) (by omega)) n1.gh
    (fun t G2 σ2 H2 => ∃ (ms : List Nat) (vm : V) (y2 y3 y4 y5 : Option V), σ2 = [some v1, some vm, y2, y3, y4, y5, none, none, none, none] ∧ SameK u.length (rnd u t) ms ∧ Dp K G2 vm (eL ms) ∧ Nw G H G2 H2)
    (fun G2 H2 n2 => ⟨u.map (·.length), v2, none, none, none, none, rfl, by
      have := samek_nl (l := u.map (·.length))
      rw [List.length_map] at this
      exact this, dp_ex n2.gg h2, n1.tr n2⟩) ?_ ?_
  · rintro G2 t t' G3 σ3 H3 e2 ht e3 e4 ⟨ms, vm, y2, y3, y4, y5, rfl, sk, hm, n3⟩ x G4 H4 n4 hx
    obtain ⟨rfl, htm⟩ := range_some ht
    obtain rfl := dp_int_inv hx
    refine gn1 ?_
    show tSeq _ _ _ [some v1, some vm, some (.int (t' : Int)), y3, y4, y5, none, none, none, none] H4
    refine qd_new fun lf hlf => ?_
    show tSeq _ _ _ [some v1, some vm, some (.int (t' : Int)), some (.ref lf), y4, y5, none, none, none, none] _
    have m4 := n3.tr n4
    have n5 := m4.tr (Nw.out (o := .lst []) n4.gh hlf)
    have f1 : H lf = none := fresh_back m4.hh hlf
    have hm4 := dp_ex n4.gg hm
    obtain ⟨sk1, sk2, sk3⟩ := sk
    refine qd_for (List.range u.length) (fun i => .int (i : Int)) (ei_rng1 (ed_lenW (ed_var (i := 0) rfl (dp_ex m4.gg h1))) (by omega)) n5.gh
      (fun i G5 σ5 H5 => ∃ (xs : List V) (y4 : Option V), σ5 = [some v1, some vm, some (.int (t' : Int)), some (.ref lf), y4, y5, none, none, none, none] ∧ Gr K G5 H5 lf (((finer u ms).take i).map eLook) xs ∧ Nw G H G5 H5 ∧ Ex G4 G5)
      (fun G5 H5 n6 => ⟨[], y4, rfl, (Gr.mk (fresh_back n4.gh hlf) upd_same .nil).nw n6, n5.tr n6, n6.gg⟩) ?_ ?_
    · rintro G5 i i' G6 σ6 H6 e6 hi e7 e8 ⟨xs, y4, rfl, g6, n6, e46⟩ x G7 H7 n7 hx
      obtain ⟨rfl, him⟩ := range_some hi
      obtain rfl := dp_int_inv hx
      refine gn1 ?_
      show tDrop _ _ [some v1, some vm, some (.int (t' : Int)), some (.ref lf), some (.int (i' : Int)), y5, none, none, none, none] H7
      have n7' := n6.tr n7
      have hf : (finer u ms)[i']? = some (ms.getD i' 0, (u.getD i' []).map fun p => (p.2, ms.getD p.1 0)) := by unfold finer; rw [range_get, if_pos him]
      refine sd_push (j := 3) (d := eLook (ms.getD i' 0, (u.getD i' []).map fun p => (p.2, ms.getD p.1 0))) rfl (g6.nw n7) (by rw [List.length_map, List.length_take, finer_len]; omega) (ed_tup (ea_cons (ed_nth (ed_var (i := 1) rfl (dp_ex (e46.trans n7.gg) hm4)) (ed_nVar (i := 4) rfl) (by rw [sk2]; exact him)) (ea_cons (ed_is (ed_tupOfL (ed_lcm (u.getD i' []) eEnd (fun q => eEnd (q.2, ms.getD q.1 0)) (ei_tup (ed_room (ed_var (i := 0) rfl (dp_ex n7'.gg h1)) (ed_nVar (i := 4) rfl) him)) ?_ fun j a ha x G8 H8 e9 e10 hx Q q => gt2n hx e10 fun v5 v6 h5 h6 => ?_)) ?_) ea_nil))) n7'.gh ?_
      · have := W.deg i'
        unfold deg at this
        omega
      · obtain rfl := dp_nI h5
        refine q _ rfl (ed_tup (ea_cons (ed_var (i := 9) rfl h6) (ea_cons (ed_nth (ed_var (i := 1) rfl (dp_ex ((e46.trans n7.gg).trans e9) hm4)) (ed_nVar (i := 8) rfl) ?_) ea_nil)))
        rw [sk2]
        exact room_inr W i' a (List.mem_of_getElem? ha)
      · rw [List.map_map]; rfl
      · intro v8 G8 H8 n8 g8 e9
        refine ⟨G8, (e7.trans n7.gg).trans n8.gg, e9, xs ++ [v8], _, rfl, ?_, (n7'.tr n8).mut f1 g8.out, (e46.trans n7.gg).trans n8.gg⟩
        rw [take_snoc hf, List.map_append]
        exact g8
    · rintro G5 σ5 H5 e6 e7 ⟨xs, y4, rfl, g5, n6, e45⟩
      rw [List.length_range, List.take_of_length_le (by rw [finer_len]; omega)] at g5
      obtain ⟨j1, j2, j3⟩ := g5.join e7
      have n6' := n6.join f1 g5
      have hfd : (finer u ms).map eLook = NestedKey.datas ((finer u ms).map kLook) := by rw [datas_map kLook eLook kLook_data]
      refine qd_asgR ⟨_, rfl, lf, xs, (finer u ms).map kLook, rfl, sq_of g5.at_, by rw [g5.len, List.length_map, finer_len]; omega, by rw [← hfd]; exact dps_ex (j1.trans j2) g5.ok, fun k hk => ?_, fun k hk q hq => ?_, fun p L hp hL1 hL2 => ?_⟩
      · obtain ⟨l, _, rfl⟩ := List.mem_map.mp hk
        refine ⟨kLook_depth l, ?_, kLook_num l, ?_⟩
        · rw [kLook_data]
          exact Nat.le_trans (pl_shape (pl_eLook (n := 0) l)).2 (by decide)
        · rw [kLook_data]
          exact ⟨_, _, rfl⟩
      · obtain ⟨l, _, rfl⟩ := List.mem_map.mp hk
        obtain ⟨m, _, rfl⟩ := List.mem_map.mp hq
        rw [kLook_data, kLook_data]
        exact look_alike l m
      show tAsg _ _ _ [some v1, some vm, some (.int (t' : Int)), some (.ref lf), y4, some (.ref p), none, none, none, none] _
      obtain ⟨ls, hls, hlF⟩ := looks_of (L := L.map (·.2)) (F := finer u ms) fun k hk => by
        obtain ⟨q, hq, rfl⟩ := List.mem_map.mp hk
        exact List.of_mem_zip (hL1 q hq) |>.2
      have hFl : ∀ l ∈ finer u ms, l ∈ ls := fun l hl => by
        obtain ⟨q, hq, e⟩ := hL2 (kLook l) (List.mem_map.mpr ⟨l, hl, rfl⟩)
        have : kLook l ∈ ls.map kLook := by rw [← hls, ← e]; exact List.mem_map.mpr ⟨q, hq, rfl⟩
        obtain ⟨l', hl', e'⟩ := List.mem_map.mp this
        rw [← kLook_inj e']
        exact hl'
      have hLd : L.map (·.2.data) = ls.map eLook := by
        have : L.map (·.2.data) = (L.map (·.2)).map NestedKey.data := by rw [List.map_map]; rfl
        rw [this, hls, List.map_map]
        exact List.map_congr_left fun l _ => kLook_data l
      have dL := dps_pick (K := K) (G := upd G5 lf (.lst xs)) (L := L) fun q hq => dps_zip (by rw [← hfd]; exact dps_ex j1 g5.ok) q (hL1 q hq)
      rw [hLd] at dL
      have n8 := n6'.tr (Nw.new j2 (o := .lst (L.map (·.1))) hp)
      have hp' : (upd G5 lf (.lst xs)) p = none := fresh_back j2 hp
      have hsome : Dp K (upd (upd G5 lf (.lst xs)) p (.lst (L.map (·.1)))) (.ref p) (.list (ls.map eLook)) := .lst (sq_of upd_same) (dps_ex (Ex.new hp') dL)
      have hmade := dp_ex (Ex.new (o := .lst (L.map (·.1))) hp') j3
      have plF : ∀ l : List Look, Pl 4 (.list (l.map eLook)) := fun l => pl_lst (pl_map l fun x _ => pl_eLook x)
      refine sd_asg (d := eL ((finer u ms).map fun l => ixL ls l)) (ed_is (ed_lcm (finer u ms) eLook (fun l => nI (ixL ls l)) (ei_list (ed_var (i := 3) rfl hmade)) (by rw [finer_len]; omega) fun i a ha x G9 H9 e10 e11 hx Q q => ?_) (by unfold eL; rw [List.map_map]; rfl)) n8.gh fun v9 G9 H9 n9 h9 => ?_
      · have ham := hFl a (List.mem_of_getElem? ha)
        obtain ⟨hil, hig, hin⟩ := idx_get ham
        refine q _ rfl (ed_index (z := eLook a) (ed_var (i := 5) rfl (dp_ex e10 hsome)) (ed_var (i := 7) rfl hx) (pl_shaped (plF _)) (pl_shaped (pl_eLook (n := 0) a)) ?_ (eqv_same (pl_eLook (n := 0) a) (pl_eLook (n := 0) a) rfl) fun m z' hm hz => ?_)
        · show (ls.map eLook)[ixL ls a]? = _
          rw [List.getElem?_map, show ls[ixL ls a]? = some a from hig]
          rfl
        · rw [List.getElem?_map] at hz
          cases q2 : ls[m]? with
          | none => rw [q2] at hz; cases hz
          | some b =>
            rw [q2] at hz
            cases hz
            refine eqv_other (pl_eLook (n := 0) b) (pl_eLook (n := 0) a) fun z => ?_
            exact hin m hm (by rw [q2, eLook_inj z])
      · refine ⟨G9, (((e3.trans n4.gg).trans (e45.trans j1)).trans (Ex.new hp')).trans n9.gg, n9.gh, _, v9, _, _, _, _, rfl, ?_, h9, n8.tr n9⟩
        refine samek_step W ⟨sk1, sk2, sk3⟩ (by rw [List.length_map, finer_len]) fun i j hi hj => ?_
        have hi' : i < (finer u ms).length := by rw [finer_len]; exact hi
        have hj' : j < (finer u ms).length := by rw [finer_len]; exact hj
        rw [getD_map_idx hi', getD_map_idx hj']
        exact ⟨fun z => idxOf_inj (hFl _ (List.getElem_mem hi')) (hFl _ (List.getElem_mem hj')) z, fun z => by rw [z]⟩
  · rintro G2 σ2 H2 e2 e3 ⟨ms, vm, y2, y3, y4, y5, rfl, sk, hm, n2⟩
    rw [List.length_range] at sk
    exact sd_ret (ed_var (i := 1) rfl hm) e3 fun v6 G6 H6 n6 h6 => k v6 ms G6 H6 sk (n2.tr n6) h6
end
end Wk
/-! WH -/
/-! What comes to data at one heap; things that change, read for a while. -/
namespace Wk
open PySem L2 Evl
def EdH (K : PySem.W.Frag) (te : TE) (σ : L2.St) (G H : Hp) (d : PyData) : Prop := ∀ Q : VK, (∀ v G' H', Nw G H G' H' → Dp K G' v d → Q v H') → te σ H Q
def EtH (tt : TT) (σ : L2.St) (G H : Hp) (b : Bool) : Prop := ∀ Q : Bool → Hp → Prop, (∀ G' H', Nw G H G' H' → Q b H') → tt σ H Q
def EiH (K : PySem.W.Frag) (ti : TI) (σ : L2.St) (G H : Hp) (es : List PyData) : Prop := ∀ R : It → Hp → Prop, (∀ J G1 H1, Nw G H G1 H1 → Yl K J G1 es → R J H1) → ti σ H R
section
variable {P : Program} {w : World} {K : PySem.W.Frag} {σ : L2.St} {G H : Hp} {te : TE} {tt : TT} {ti : TI} {d : PyData} {tu tz : TS} {g : TG} {D : Ends}
theorem Ed.at (h : Ed K te σ G d) (e : Ex G H) : EdH K te σ G H d := fun Q q => h H e Q q
theorem EdT.at {b : Bool} (h : EdT tt σ G b) (e : Ex G H) : EtH tt σ G H b := fun Q q => h H e Q q
theorem EdI.at {es : List PyData} (h : EdI K ti σ G es) (e : Ex G H) : EiH K ti σ G H es := fun R q => h H e R q
theorem EdH.drop {l : Addr} {o : HO} (h : EdH K te σ (upd G l o) H d) (hl : G l = none) (ho : ∀ xs, o ≠ .tup xs ∧ ∀ ob, o ≠ .frz ob (.tup xs)) (f : fz d = true) : EdH K te σ G H d := fun Q q => h Q fun v G' H' n hd => q v (del G' l) H' (n.drop hl) (dp_drop n ho f hd)
theorem EtH.drop {l : Addr} {o : HO} {b : Bool} (h : EtH tt σ (upd G l o) H b) (hl : G l = none) : EtH tt σ G H b := fun Q q => h Q fun G' H' n => q (del G' l) H' (n.drop hl)
theorem eih_tup {es : List PyData} (h : EdH K te σ G H (.tuple es)) : EiH K (iTup K te) σ G H es := fun R q => h _ fun v G1 H1 n1 h1 => by
  obtain ⟨a, xs, rfl, hs, hd⟩ := dp_tup_inv h1
  exact ⟨a, rfl, ⟨xs, ex_t n1.gh hs⟩, q _ G1 H1 n1 (yl_tup hs hd)⟩
theorem sd_forH {α : Type} (l : List α) (enc : α → PyData) (h : EiH K ti σ G H (l.map enc)) (Pv : Nat → Hp → L2.St → Hp → Prop) (h0 : ∀ G1 H1, Nw G H G1 H1 → Pv 0 G1 σ H1)
    (hs : ∀ (G1 : Hp) (i : Nat) (a : α) (G2 : Hp) (σ2 : L2.St) (H2 : Hp), Ex G G1 → l[i]? = some a → Ex G1 G2 → Ex G2 H2 → Pv i G2 σ2 H2 → ∀ x G3 H3, Nw G2 H2 G3 H3 → Dp K G3 x (enc a) →
      g x σ2 H3 fun σ4 H4 => tu { D with nx := fun σ5 H5 => ∃ G5, Ex G1 G5 ∧ Ex G5 H5 ∧ Pv (i + 1) G5 σ5 H5, ct := fun σ5 H5 => ∃ G5, Ex G1 G5 ∧ Ex G5 H5 ∧ Pv (i + 1) G5 σ5 H5, bk := D.nx } σ4 H4)
    (hd : ∀ G2 σ2 H2, Ex G G2 → Ex G2 H2 → Pv l.length G2 σ2 H2 → D.nx σ2 H2) : tFor ti g tu D σ H := h _ fun J G1 H1 n1 hy => by
  refine ⟨fun i m σ2 H2 => m = l.length - i ∧ i ≤ l.length ∧ ∃ G2, Ex G1 G2 ∧ Ex G2 H2 ∧ Pv i G2 σ2 H2, ⟨l.length, by simp, Nat.zero_le _, G1, Ex.refl G1, n1.gh, h0 G1 H1 n1⟩, ?_⟩
  rintro i m σ2 H2 ⟨rfl, hi, G2, e1, e2, hp⟩
  have key := hy i H2 (e1.trans e2)
  by_cases hlt : i < l.length
  · obtain ⟨a, ha⟩ : ∃ a, l[i]? = some a := ⟨l[i], List.getElem?_eq_getElem hlt⟩
    obtain ⟨k1, k2⟩ := key.1 (enc a) (by rw [List.getElem?_map, ha]; rfl)
    refine .inr ⟨k1, fun σ5 H5 => ∃ G5, Ex G1 G5 ∧ Ex G5 H5 ∧ Pv (i + 1) G5 σ5 H5, fun σ5 H5 hq => ⟨l.length - (i + 1), by omega, rfl, hlt, hq⟩, fun x H3 hx => ?_⟩
    obtain ⟨G3, n3, hxd⟩ := k2 x H3 hx G2 e1 e2
    exact hs G1 i a G2 σ2 H2 n1.gg ha e1 e2 hp x G3 H3 n3 hxd
  · have ei : i = l.length := by omega
    subst ei
    exact .inl ⟨key.2 (by simp), hd G2 σ2 H2 (n1.gg.trans e1) e2 hp⟩
theorem qd_forH {α : Type} (l : List α) (enc : α → PyData) (h : EiH K ti σ G H (l.map enc)) (Pv : Nat → Hp → L2.St → Hp → Prop) (h0 : ∀ G1 H1, Nw G H G1 H1 → Pv 0 G1 σ H1)
    (hs : ∀ (G1 : Hp) (i : Nat) (a : α) (G2 : Hp) (σ2 : L2.St) (H2 : Hp), Ex G G1 → l[i]? = some a → Ex G1 G2 → Ex G2 H2 → Pv i G2 σ2 H2 → ∀ x G3 H3, Nw G2 H2 G3 H3 → Dp K G3 x (enc a) →
      g x σ2 H3 fun σ4 H4 => tu { D with nx := fun σ5 H5 => ∃ G5, Ex G1 G5 ∧ Ex G5 H5 ∧ Pv (i + 1) G5 σ5 H5, ct := fun σ5 H5 => ∃ G5, Ex G1 G5 ∧ Ex G5 H5 ∧ Pv (i + 1) G5 σ5 H5, bk := tz D } σ4 H4)
    (hd : ∀ G2 σ2 H2, Ex G G2 → Ex G2 H2 → Pv l.length G2 σ2 H2 → tz D σ2 H2) : tSeq (tFor ti g tu) tz D σ H := sd_forH (D := { D with nx := tz D }) l enc h Pv h0 hs hd
theorem sd_whenH {b : Bool} (h : EtH tt σ G H b) (h1 : b = true → ∀ G1 H1, Nw G H G1 H1 → tu D σ H1) (h2 : b = false → ∀ G1 H1, Nw G H G1 H1 → D.nx σ H1) : tIfS tt tu tNext D σ H := h _ fun G1 H1 n => by
  cases b with
  | true =>
    show tu D σ H1
    exact h1 rfl G1 H1 n
  | false =>
    show tNext D σ H1
    exact h2 rfl G1 H1 n
theorem qd_whenH {b : Bool} (h : EtH tt σ G H b) (h1 : b = true → ∀ G1 H1, Nw G H G1 H1 → tu { D with nx := tz D } σ H1) (h2 : b = false → ∀ G1 H1, Nw G H G1 H1 → tz D σ H1) : tSeq (tIfS tt tu tNext) tz D σ H := sd_whenH (D := { D with nx := tz D }) h h1 h2
theorem qd_asgH {i : Nat} (h : EdH K te σ G H d) (k : ∀ v G1 H1, Nw G H G1 H1 → Dp K G1 v d → tz D (σ.set i (some v)) H1) : tSeq (tAsg te (gName i)) tz D σ H := h _ k
theorem sd_asgH {i : Nat} (h : EdH K te σ G H d) (k : ∀ v G1 H1, Nw G H G1 H1 → Dp K G1 v d → D.nx (σ.set i (some v)) H1) : tAsg te (gName i) D σ H := h _ k
/-- l.append(e) where the loop fills l and e reads what changes -/
theorem sd_pushH {l : Addr} {ds : List PyData} {xs : List V} {j : Nat} (hj : σ[j]? = some (some (.ref l))) (r : Gr K G H l ds xs) (hz : ds.length ≤ 15000000) (h : EdH K te σ G H d)
    (k : ∀ v G1 H1, Nw G H G1 H1 → Gr K G1 (upd H1 l (.lst (xs ++ [v]))) l (ds ++ [d]) (xs ++ [v]) → Ex G1 (upd H1 l (.lst (xs ++ [v]))) → D.nx σ (upd H1 l (.lst (xs ++ [v])))) : tDrop (tBM K "list" rAppend (tVar j) (tCons te tNil)) D σ H :=
  ⟨_, hj, .inl ⟨rfl, xs, sq_of r.at_⟩, h _ fun v G1 H1 n hv => ⟨l, xs, v, rfl, rfl, (n.keep r.out r.at_).2, sz8' (by rw [r.len]; omega), k v G1 H1 n (r.push n hv) (Ex.mut n.gh (n.keep r.out r.at_).1)⟩⟩
theorem fz_nI (n : Nat) : fz (nI n) = true := rfl
theorem fz_eEnd (p : Nat × Nat) : fz (eEnd p) = true := rfl
theorem fzs_map {α : Type} {f : α → PyData} (h : ∀ x, fz (f x) = true) : ∀ l : List α, fzs (l.map f) = true
  | [] => rfl
  | x :: l => by simp only [List.map_cons, fzs, h x, fzs_map h l, Bool.true_and]
theorem fz_eRoom (r : List (Nat × Nat)) : fz (eRoom r) = true := by unfold eRoom; simp only [fz, fzs_map fz_eEnd]
theorem fz_eWeb (u : Web) : fz (eWeb u) = true := by unfold eWeb; simp only [fz, fzs_map fz_eRoom]
theorem fz_eStep (p : Nat × Nat × Nat) : fz (eStep p) = true := rfl
theorem fz_eStory (st : Story) : fz (eStory st) = true := by unfold eStory; simp only [fz, fzs, fzs_map fz_eStep, nI, Bool.and_true]
end
/-! ### webs that are right -/
theorem webOk_of {u : Web} (h0 : 0 < u.length) (h6 : u.length ≤ 6) (hd : ∀ r, r < u.length → deg u r ≤ 24) (h : ∀ r d s j, r < u.length → door u r d = some (s, j) → s < u.length ∧ door u s j = some (r, d)) : WebOk u := by
  have hr : ∀ r d s j, door u r d = some (s, j) → r < u.length := fun r d s j e => by
    rcases Nat.lt_or_ge r u.length with z | z
    · exact z
    · unfold door at e
      rw [List.getD_eq_getElem?_getD, List.getElem?_eq_none z] at e
      simp at e
  refine ⟨h0, h6, fun r => ?_, fun r d s j e => (h r d s j (hr r d s j e) e).1, fun r d s j e => (h r d s j (hr r d s j e) e).2⟩
  rcases Nat.lt_or_ge r u.length with z | z
  · exact hd r z
  · unfold deg
    rw [List.getD_eq_getElem?_getD, List.getElem?_eq_none z]
    simp
def webOkB (u : Web) : Bool := decide (0 < u.length) && decide (u.length ≤ 6) && (List.range u.length).all fun r => decide (deg u r ≤ 24) && (List.range (deg u r)).all fun d => decide ((there u r d).1 < u.length) && decide (door u (there u r d).1 (there u r d).2 = some (r, d))
theorem webOkB_ok {u : Web} (h : webOkB u = true) : WebOk u := by
  unfold webOkB at h
  simp only [Bool.and_eq_true, decide_eq_true_eq, List.all_eq_true, List.mem_range] at h
  obtain ⟨⟨h0, h6⟩, h⟩ := h
  refine webOk_of h0 h6 (fun r hr => (h r hr).1) fun r d s j hr e => ?_
  have hd : d < deg u r := door_lt.mpr ⟨_, e⟩
  have := (h r hr).2 d hd
  have ht : there u r d = (s, j) := by unfold there; rw [e]; rfl
  rw [ht] at this
  exact this
def ringM (n : Nat) : Web := (List.range n).map fun r => [((r + 1) % n, 1), ((r + n - 1) % n, 0)]
def lineM (n : Nat) : Web := (List.range n).map fun r => [if 0 < r then (r - 1, 1) else (0, 0), if r + 1 < n then (r + 1, 0) else (r, 1)]
theorem ring_ok {n : Nat} (h : 0 < n) (h6 : n ≤ 6) : WebOk (ringM n) := by
  have : n = 1 ∨ n = 2 ∨ n = 3 ∨ n = 4 ∨ n = 5 ∨ n = 6 := by omega
  rcases this with rfl | rfl | rfl | rfl | rfl | rfl <;> exact webOkB_ok (by decide)
theorem line_ok {n : Nat} (h : 0 < n) (h6 : n ≤ 6) : WebOk (lineM n) := by
  have : n = 1 ∨ n = 2 ∨ n = 3 ∨ n = 4 ∨ n = 5 ∨ n = 6 := by omega
  rcases this with rfl | rfl | rfl | rfl | rfl | rfl <;> exact webOkB_ok (by decide)
end Wk
/-! WP15 -/
namespace Wk
open PySem L2 Evl
section
variable {P : Program} {w : World} {K : PySem.W.Frag} {vs : List V} {H : Hp} {Q : VK} {E : XK}
theorem ed_modN {σ : L2.St} {G : Hp} {ta tb : TE} {i : Int} {m n : Nat} (ha : Ed K ta σ G (.int i)) (hb : Ed K tb σ G (nI n)) (hn : 0 < n) (hm : i % (n : Int) = (m : Int)) : Ed K (tOp (rI (fun _ j => j ≠ 0) fun i j => .int (i.fmod j)) ta tb) σ G (nI m) :=
  ed_opI ha hb (by omega) fun _ => by
    rw [Int.fmod_eq_emod_of_nonneg _ (by omega), hm]
    exact .int _
theorem rd_Lring (h : S_Lring P w K vs H Q E) : t_Lring P w K (Dd Q) (st0 2 vs) H := by
  obtain ⟨G, n, rfl, e, hn, hn6, k⟩ := h
  show t_Lring P w K (Dd Q) [some (.int (n : Int)), none] H
  unfold t_Lring
  refine sd_ret (d := eWeb (ringM n)) (ed_is (ed_tupOfL (ed_lcm (List.range n) (fun i => .int (i : Int)) (fun r => eRoom [((r + 1) % n, 1), ((r + n - 1) % n, 0)]) (ei_rng1 (ed_nVar (i := 0) rfl) (by omega)) (by rw [List.length_range]; omega) fun i r hi x G2 H2 e1 e2 hx Q q => ?_)) (by unfold eWeb ringM; rw [List.map_map]; rfl)) e fun v G1 H1 n1 h1 => k v _ G1 H1 (ring_ok hn hn6) (by unfold ringM; simp) n1 h1
  obtain ⟨rfl, hr⟩ := range_some hi
  obtain rfl := dp_int_inv hx
  refine q ((wipe ([some (.int (n : Int)), none] : L2.St) [1]).set 1 (some (.int (r : Int)))) rfl (ed_tup (ea_cons (ed_tup (ea_cons (ed_modN (n := n) (ed_add (ed_nVar (i := 1) rfl) (ed_int (i := 1))) (ed_nVar (i := 0) rfl) hn (m := (r + 1) % n) ?_) (ea_cons (ed_int (i := 1)) ea_nil))) (ea_cons (ed_tup (ea_cons (ed_modN (n := n) (ed_sub (ed_nVar (i := 1) rfl) (ed_int (i := 1))) (ed_nVar (i := 0) rfl) hn (m := (r + n - 1) % n) ?_) (ea_cons (ed_int (i := 0)) ea_nil))) ea_nil)))
  · rw [Int.natCast_emod]; rfl
  · rw [Int.natCast_emod, ← Int.add_emod_right, show ((r + n - 1 : Nat) : Int) = (r : Int) - 1 + n by omega]
theorem rd_Lline (h : S_Lline P w K vs H Q E) : t_Lline P w K (Dd Q) (st0 5 vs) H := by
  obtain ⟨G, n, rfl, e, hn, hn6, k⟩ := h
  show t_Lline P w K (Dd Q) [some (.int (n : Int)), none, none, none, none] H
  unfold t_Lline
  refine qd_new fun l hl => ?_
  show tSeq _ _ _ [some (.int (n : Int)), some (.ref l), none, none, none] _
  have n0 := Nw.out (o := .lst []) e hl
  refine qd_for (K := K) (List.range n) (fun i => .int (i : Int)) (ei_rng1 (ed_nVar (i := 0) rfl) (by omega)) n0.gh
    (fun i G2 σ2 H2 => ∃ (xs : List V) (y2 y3 y4 : Option V), σ2 = [some (.int (n : Int)), some (.ref l), y2, y3, y4] ∧ Gr K G2 H2 l (((lineM n).take i).map eRoom) xs ∧ Nw G H G2 H2)
    (fun G2 H2 n2 => ⟨[], none, none, none, rfl, (Gr.mk (fresh_back e hl) upd_same .nil).nw n2, n0.tr n2⟩) ?_ ?_
  · rintro G2 i r G3 σ3 H3 e2 hi e3 e4 ⟨xs, y2, y3, y4, rfl, g3, n3⟩ x G4 H4 n4 hx
    obtain ⟨rfl, hr⟩ := range_some hi
    obtain rfl := dp_int_inv hx
    refine gn1 ?_
    show tSeq _ _ _ [some (.int (n : Int)), some (.ref l), some (.int (r : Int)), y3, y4] H4
    have m4 := n3.tr n4
    have eb : Ed K (tIf (tTest (tOp (rI0 fun i j => .bl (decide (j < i))) (tVar 2) (tC (.int 0)))) (tTup (tCons (tOp (rI0 fun i j => .int (i - j)) (tVar 2) (tC (.int 1))) (tCons (tC (.int 1)) tNil))) (tTup (tCons (tC (.int 0)) (tCons (tC (.int 0)) tNil)))) [some (.int (n : Int)), some (.ref l), some (.int (r : Int)), y3, y4] G4 (eEnd (if 0 < r then (r - 1, 1) else (0, 0))) := by
      refine ed_if (et_test (K := K) (ed_gt (ed_nVar (n := r) (i := 2) rfl) (ed_int (i := 0)))) (fun hb => ?_) (fun hb => ?_)
      · have hr0 : 0 < r := by have := of_decide_eq_true hb; omega
        rw [if_pos hr0]
        exact ed_tup (ea_cons (ed_is (ed_sub (ed_nVar (n := r) (i := 2) rfl) (ed_int (i := 1))) (by show PyData.int _ = .int _; congr 1; omega)) (ea_cons (ed_int (i := 1)) ea_nil))
      · have hr0 : ¬ 0 < r := by have := of_decide_eq_false hb; omega
        rw [if_neg hr0]
        exact ed_tup (ea_cons (ed_int (i := 0)) (ea_cons (ed_int (i := 0)) ea_nil))
    refine qd_asg eb m4.gh fun v5 G5 H5 n5 h5 => ?_
    show tSeq _ _ _ [some (.int (n : Int)), some (.ref l), some (.int (r : Int)), some v5, y4] H5
    have ea : Ed K (tIf (tTest (tOp (rI0 fun i j => .bl (decide (i < j))) (tVar 2) (tOp (rI0 fun i j => .int (i - j)) (tVar 0) (tC (.int 1))))) (tTup (tCons (tOp (rI0 fun i j => .int (i + j)) (tVar 2) (tC (.int 1))) (tCons (tC (.int 0)) tNil))) (tTup (tCons (tVar 2) (tCons (tC (.int 1)) tNil)))) [some (.int (n : Int)), some (.ref l), some (.int (r : Int)), some v5, y4] G5 (eEnd (if r + 1 < n then (r + 1, 0) else (r, 1))) := by
      refine ed_if (et_test (K := K) (ed_lt (ed_nVar (n := r) (i := 2) rfl) (ed_sub (ed_nVar (n := n) (i := 0) rfl) (ed_int (i := 1))))) (fun hb => ?_) (fun hb => ?_)
      · have hr0 : r + 1 < n := by have := of_decide_eq_true hb; omega
        rw [if_pos hr0]
        exact ed_tup (ea_cons (ed_is (ed_add (ed_nVar (n := r) (i := 2) rfl) (ed_int (i := 1))) rfl) (ea_cons (ed_int (i := 0)) ea_nil))
      · have hr0 : ¬ r + 1 < n := by have := of_decide_eq_false hb; omega
        rw [if_neg hr0]
        exact ed_tup (ea_cons (ed_nVar (i := 2) rfl) (ea_cons (ed_int (i := 1)) ea_nil))
    refine qd_asg ea n5.gh fun v6 G6 H6 n6 h6 => ?_
    show tDrop _ _ [some (.int (n : Int)), some (.ref l), some (.int (r : Int)), some v5, some v6] H6
    have hg : (lineM n)[r]? = some [if 0 < r then (r - 1, 1) else (0, 0), if r + 1 < n then (r + 1, 0) else (r, 1)] := by unfold lineM; rw [range_get, if_pos hr]
    have hll : (lineM n).length = n := by unfold lineM; simp
    refine sd_push (j := 1) (d := eRoom [if 0 < r then (r - 1, 1) else (0, 0), if r + 1 < n then (r + 1, 0) else (r, 1)]) rfl (((g3.nw n4).nw n5).nw n6) (by rw [List.length_map, List.length_take]; omega) (ed_tup (ea_cons (ed_var (i := 3) rfl (dp_ex n6.gg h5)) (ea_cons (ed_var (i := 4) rfl h6) ea_nil))) n6.gh fun v7 G7 H7 n7 g7 e7 => ?_
    refine ⟨G7, ((e3.trans n4.gg).trans n5.gg).trans (n6.gg.trans n7.gg), e7, xs ++ [v7], _, _, _, rfl, ?_, (((m4.tr n5).tr n6).tr n7).mut hl g7.out⟩
    rw [take_snoc hg, List.map_append]
    exact g7
  · rintro G2 σ2 H2 e2 e3 ⟨xs, y2, y3, y4, rfl, g2, n2⟩
    rw [List.length_range, List.take_of_length_le (by unfold lineM; simp)] at g2
    obtain ⟨j1, j2, j3⟩ := g2.join e3
    exact sd_ret (ed_tupOfL (ed_var (i := 1) rfl j3)) j2 fun v6 G6 H6 n6 h6 => k v6 _ G6 H6 (line_ok hn hn6) (by unfold lineM; simp) ((n2.join hl g2).tr n6) h6
theorem ed_leT {σ : L2.St} {G : Hp} {ta tb : TE} {r d s j : Nat} (ha : Ed K ta σ G (eEnd (r, d))) (hb : Ed K tb σ G (eEnd (s, j))) : Ed K (tOp (rLeT K) ta tb) σ G (.bool (decide (r < s ∨ r = s ∧ d ≤ j))) :=
  ed_op ha hb fun x y G1 e1 hx hy => by
    obtain ⟨a, xs, rfl, hs, hd⟩ := dp_tup_inv hx
    obtain ⟨b, ys, rfl, ht, he⟩ := dp_tup_inv hy
    have h1 : xs = [(r : Int), (d : Int)].map V.int := dps_ints_inv hd
    have h2 : ys = [(s : Int), (j : Int)].map V.int := dps_ints_inv he
    subst h1 h2
    refine fun H e Q q => ⟨a, b, _, _, rfl, rfl, ex_t e hs, ex_t e ht, ?_⟩
    have : (Ob.lexAt (fun i => decide (([(r : Int), (d : Int)] : List Int).getD i 0 = ([(s : Int), (j : Int)] : List Int).getD i 0)) (fun i => decide (([(r : Int), (d : Int)] : List Int).getD i 0 ≤ ([(s : Int), (j : Int)] : List Int).getD i 0)) (decide (([(r : Int), (d : Int)] : List Int).length ≤ ([(s : Int), (j : Int)] : List Int).length)) 0 (min ([(r : Int), (d : Int)] : List Int).length ([(s : Int), (j : Int)] : List Int).length)) = decide (r < s ∨ r = s ∧ d ≤ j) := by
      show Ob.lexAt _ _ _ 0 2 = _
      unfold Ob.lexAt Ob.lexAt Ob.lexAt
      simp only [List.getD_cons_zero, List.getD_cons_succ, decide_eq_true_eq, List.length_cons, List.length_nil, Nat.le_refl, decide_true]
      by_cases h1 : (r : Int) = s
      · rw [if_pos h1]
        by_cases h2 : (d : Int) = j
        · rw [if_pos h2]
          exact (decide_eq_true (Or.inr ⟨by omega, by omega⟩)).symm
        · rw [if_neg h2]
          by_cases h3 : (d : Int) ≤ j
          · rw [decide_eq_true h3, decide_eq_true (Or.inr ⟨by omega, by omega⟩)]
          · rw [decide_eq_false h3, decide_eq_false (by omega)]
      · rw [if_neg h1]
        by_cases h3 : (r : Int) ≤ s
        · rw [decide_eq_true h3, decide_eq_true (Or.inl (by omega))]
        · rw [decide_eq_false h3, decide_eq_false (by omega)]
    rw [this]
    exact q _ G1 H (Nw.refl e) (.bl _)
def endF (u : Web) (r d : Nat) : Option ((Nat × Nat) × (Nat × Nat)) := if r < (there u r d).1 ∨ (r = (there u r d).1 ∧ d ≤ (there u r d).2) then some ((r, d), there u r d) else none
theorem rd_Lends (h : S_Lends P w K vs H Q E) : t_Lends P w K (Dd Q) (st0 4 vs) H := by
  obtain ⟨G, ds, d, e, hd, ⟨u, W, rfl, rfl⟩, k⟩ := h
  obtain ⟨v1, rfl, h1⟩ := dps1 hd
  show t_Lends P w K (Dd Q) [some v1, none, none, none] H
  unfold t_Lends
  have few := W.few
  refine qd_new fun l hl => ?_
  show tSeq _ _ _ [some v1, some (.ref l), none, none] _
  have n0 := Nw.out (o := .lst []) e hl
  have hen : ∀ n, ((List.range n).flatMap fun r => (List.range (deg u r)).filterMap (endF u r)).length ≤ 24 * n := fun n => by
    induction n with
    | zero => simp
    | succ n ih =>
      rw [List.range_succ, List.flatMap_append, List.length_append]
      have := List.length_filterMap_le (endF u n) (List.range (deg u n))
      rw [List.length_range] at this
      have := W.deg n
      simp only [List.flatMap_cons, List.flatMap_nil, List.append_nil]
      omega
  have hke : endsM u = (List.range u.length).flatMap fun r => (List.range (deg u r)).filterMap (endF u r) := rfl
  rw [hke] at k
  refine qd_for (List.range u.length) (fun i => .int (i : Int)) (ei_rng1 (ed_lenW (ed_var (i := 0) rfl h1)) (by omega)) n0.gh
    (fun i G2 σ2 H2 => ∃ (xs : List V) (y2 y3 : Option V), σ2 = [some v1, some (.ref l), y2, y3] ∧ Gr K G2 H2 l (((List.range i).flatMap fun r => (List.range (deg u r)).filterMap (endF u r)).map eTie) xs ∧ Nw G H G2 H2)
    (fun G2 H2 n2 => ⟨[], none, none, rfl, (Gr.mk (fresh_back e hl) upd_same .nil).nw n2, n0.tr n2⟩) ?_ ?_
  · rintro G2 i r G3 σ3 H3 e2 hi e3 e4 ⟨xs, y2, y3, rfl, g3, n3⟩ x G4 H4 n4 hx
    obtain ⟨rfl, hr⟩ := range_some hi
    obtain rfl := dp_int_inv hx
    refine gn1 ?_
    show tFor _ _ _ _ [some v1, some (.ref l), some (.int (r : Int)), y3] H4
    have m4 := n3.tr n4
    have hd4 := hen r
    have hdr := W.deg r
    refine sd_for (List.range (deg u r)) (fun i => .int (i : Int)) (ei_rng1 (ed_degR (ed_room (ed_var (i := 0) rfl (dp_ex m4.gg h1)) (ed_nVar (i := 2) rfl) hr)) (by omega)) m4.gh
      (fun j G5 σ5 H5 => ∃ (xs : List V) (y3 : Option V), σ5 = [some v1, some (.ref l), some (.int (r : Int)), y3] ∧ Gr K G5 H5 l ((((List.range r).flatMap fun r => (List.range (deg u r)).filterMap (endF u r)) ++ (List.range j).filterMap (endF u r)).map eTie) xs ∧ Nw G H G5 H5)
      (fun G5 H5 n5 => ⟨xs, y3, rfl, by
        rw [List.range_zero, List.filterMap_nil, List.append_nil]
        exact (g3.nw n4).nw n5, m4.tr n5⟩) ?_ ?_
    · rintro G5 j d G6 σ6 H6 e5 hj e6 e7 ⟨xs, y3, rfl, g6, n6⟩ x G7 H7 n7 hx
      obtain ⟨rfl, hdl⟩ := range_some hj
      obtain rfl := dp_int_inv hx
      refine gn1 ?_
      show tIfS _ _ _ _ [some v1, some (.ref l), some (.int (r : Int)), some (.int (d : Int))] H7
      have n7' := n6.tr n7
      have g7 := g6.nw n7
      have hth : ∀ G', Ex G7 G' → Ed K (tOp (rIx K) (tOp (rIx K) (tVar 0) (tVar 2)) (tVar 3)) [some v1, some (.ref l), some (.int (r : Int)), some (.int (d : Int))] G' (eEnd (there u r d)) := fun G' e' => ed_there W (ed_var (i := 0) rfl (dp_ex (n7'.gg.trans e') h1)) (ed_nVar (i := 2) rfl) (ed_nVar (i := 3) rfl) hr hdl
      have hrs : (List.range (d + 1)).filterMap (endF u r) = (List.range d).filterMap (endF u r) ++ (match endF u r d with | some p => [p] | none => []) := by
        rw [List.range_succ, List.filterMap_append]
        congr 1
        cases q : endF u r d <;> simp [q]
      refine sd_when (et_test (ed_leT (ed_tup (ea_cons (ed_nVar (n := r) (i := 2) rfl) (ea_cons (ed_nVar (n := d) (i := 3) rfl) ea_nil))) (hth G7 (Ex.refl _)))) n7'.gh (fun hb G8 H8 n8 => ?_) (fun hb G8 H8 n8 => ?_)
      · have hF : endF u r d = some ((r, d), there u r d) := if_pos (of_decide_eq_true hb)
        refine sd_push (j := 1) (d := eTie ((r, d), there u r d)) rfl (g7.nw n8) ?_ (ed_tup (ea_cons (ed_tup (ea_cons (ed_nVar (n := r) (i := 2) rfl) (ea_cons (ed_nVar (n := d) (i := 3) rfl) ea_nil))) (ea_cons (hth G8 n8.gg) ea_nil))) n8.gh fun v9 G9 H9 n9 g9 e9 => ?_
        · rw [List.length_map, List.length_append]
          have := List.length_filterMap_le (endF u r) (List.range d)
          rw [List.length_range] at this
          omega
        · refine ⟨G9, (e6.trans n7.gg).trans (n8.gg.trans n9.gg), e9, xs ++ [v9], _, rfl, ?_, ((n7'.tr n8).tr n9).mut hl g9.out⟩
          rw [hrs, hF, ← List.append_assoc, List.map_append (l₂ := [_])]
          exact g9
      · have hF : endF u r d = none := if_neg (of_decide_eq_false hb)
        refine ⟨G8, (e6.trans n7.gg).trans n8.gg, n8.gh, xs, _, rfl, ?_, n7'.tr n8⟩
        rw [hrs, hF, List.append_nil]
        exact g7.nw n8
    · rintro G5 σ5 H5 e5 e6 ⟨xs, y3, rfl, g5, n5⟩
      rw [List.length_range] at g5
      refine ⟨G5, (e3.trans n4.gg).trans e5, e6, xs, _, _, rfl, ?_, n5⟩
      rw [List.range_succ, List.flatMap_append]
      simp only [List.flatMap_cons, List.flatMap_nil, List.append_nil]
      exact g5
  · rintro G2 σ2 H2 e2 e3 ⟨xs, y2, y3, rfl, g2, n2⟩
    rw [List.length_range] at g2
    obtain ⟨j1, j2, j3⟩ := g2.join e3
    exact sd_ret (ed_var (i := 1) rfl j3) j2 fun v6 G6 H6 n6 h6 => k v6 G6 H6 ((n2.join hl g2).tr n6) h6
theorem inV_ints (x : Nat) (l : List Nat) : inV (.int (x : Int)) (l.map fun n : Nat => V.int (n : Int)) = decide (x ∈ l) := by
  unfold inV
  rw [List.any_map]
  by_cases h : x ∈ l
  · rw [decide_eq_true h, List.any_eq_true]
    exact ⟨x, h, by simp [eqV]⟩
  · rw [decide_eq_false h, List.any_eq_false]
    intro y hy z
    have : (y : Int) = x := by simpa [eqV] using z
    exact h (Int.ofNat.inj this ▸ hy)
theorem dps_nIs {G : Hp} {xs : List V} {l : List Nat} (h : DpAll K G xs (l.map nI)) : xs = l.map fun n : Nat => V.int (n : Int) := by
  rw [ints_map] at h
  rw [dps_ints_inv h, List.map_map]
  rfl
theorem flat_ints (l : List Nat) : (l.map fun n : Nat => V.int (n : Int)).all flatV = true := by
  rw [List.all_map, List.all_eq_true]
  intro x _
  rfl
theorem rd_Lreached (h : S_Lreached P w K vs H Q E) : t_Lreached P w K (Dd Q) (st0 6 vs) H := by
  obtain ⟨G, u, r, e, hd, W, hr, k⟩ := h
  obtain ⟨v1, v2, rfl, h1, h2⟩ := dps2 hd
  obtain rfl := dp_nI h2
  show t_Lreached P w K (Dd Q) [some v1, some (.int (r : Int)), none, none, none, none] H
  unfold t_Lreached
  have few := W.few
  have hsub : ∀ l : List Nat, l.Nodup → (∀ x ∈ l, x < u.length) → l.length ≤ 6 := fun l hn hl => by
    have := nodup_len (U := List.range u.length) hn fun x hx => List.mem_range.mpr (hl x hx)
    rw [List.length_range] at this
    omega
  refine qd_asgF (K := K) (ef_lst (ds := [r].map nI) (ea_cons (ed_nVar (i := 1) rfl) ea_nil)) e fun l xs G1 H1 n1 o1 f1 at1 hx1 => ?_
  show tSeq _ _ _ [some v1, some (.int (r : Int)), some (.ref l), none, none, none] H1
  refine qd_asg (K := K) (ed_int (i := 0)) n1.gh fun v3 G2 H2 n2 h3 => ?_
  obtain rfl := dp_int_inv h3
  show tSeq _ _ _ [some v1, some (.int (r : Int)), some (.ref l), some (.int 0), none, none] H2
  refine qd_while (fun t σ2 H2 => ∃ (n : Nat) (G2 : Hp) (xs : List V) (fs : List Nat) (y4 y5 : Option V), t = 7 - n ∧ n ≤ fs.length ∧ σ2 = [some v1, some (.int (r : Int)), some (.ref l), some (.int (n : Int)), y4, y5] ∧ Nw G H G2 H2 ∧ Gr K G2 H2 l (fs.map nI) xs ∧ fs.Nodup ∧ ∀ x ∈ fs, x < u.length) 7 ?_ ?_
  · exact ⟨0, G2, xs, [r], none, none, rfl, Nat.zero_le _, rfl, n1.tr n2, (Gr.mk o1 at1 hx1).nw n2, by simp, by simpa using hr⟩
  rintro t σ2 H3 ⟨n, G3, xs, fs, y4, y5, rfl, hn, rfl, n3, g3, nd, hlt⟩
  obtain ⟨j1, j2, j3⟩ := g3.join n3.gh
  have hlen : Ed K (tCB (rLenC K) (tCons (tVar 2) tNil)) [some v1, some (.int (r : Int)), some (.ref l), some (.int (n : Int)), y4, y5] (upd G3 l (.lst xs)) (nI fs.length) := by
    have := ed_len (ed_var (σ := [some v1, some (.int (r : Int)), some (.ref l), some (.int (n : Int)), y4, y5]) (i := 2) rfl j3)
    rw [List.length_map] at this
    exact this
  refine ⟨_, _, j2, et_test (ed_lt (ed_nVar (n := n) (i := 3) rfl) hlen), fun hb G4 H4 n4 => ?_, fun hb G4 H4 n4 => ?_⟩
  · have hnl : n < fs.length := by have := of_decide_eq_true hb; omega
    have n3' := n3.hx n4.hh
    have g4 := g3.hx n4.hh
    obtain ⟨i1, i2, i3⟩ := g4.join n3'.gh
    have hroom : EdH K (tOp (rIx K) (tVar 0) (tOp (rIx K) (tVar 2) (tVar 3))) [some v1, some (.int (r : Int)), some (.ref l), some (.int (n : Int)), y4, y5] G3 H4 (eRoom (u.getD (fs.getD n 0) [])) :=
      EdH.drop (Ed.at (ed_room (ed_var (i := 0) rfl (dp_ex (n3.gg.trans i1) h1)) (ed_nth (ed_var (i := 2) rfl i3) (ed_nVar (i := 3) rfl) hnl) (by
        rw [List.getD_eq_getElem?_getD, List.getElem?_eq_getElem hnl]
        exact hlt _ (List.getElem_mem hnl))) i2) g4.out nt_lst (fz_eRoom _)
    have hq0 := room_inr W (fs.getD n 0)
    refine qd_forH (u.getD (fs.getD n 0) []) eEnd (eih_tup hroom)
      (fun i G5 σ5 H5 => ∃ (xs : List V) (fs : List Nat) (y4 y5 : Option V), σ5 = [some v1, some (.int (r : Int)), some (.ref l), some (.int (n : Int)), y4, y5] ∧ Nw G H G5 H5 ∧ Gr K G5 H5 l (fs.map nI) xs ∧ fs.Nodup ∧ (∀ x ∈ fs, x < u.length) ∧ n < fs.length)
      (fun G5 H5 n5 => ⟨xs, fs, y4, y5, rfl, n3'.tr n5, g4.nw n5, nd, hlt, hnl⟩) ?_ ?_
    · rintro G5 i q G6 σ6 H6 e5 hi e6 e7 ⟨xs, fs, y4, y5, rfl, n6, g6, nd, hlt, hnl⟩ x G7 H7 n7 hx
      refine gt2n hx n7.gh fun a b ha hb => ?_
      obtain rfl := dp_nI ha
      show tIfS _ _ _ _ [some v1, some (.int (r : Int)), some (.ref l), some (.int (n : Int)), some (.int (q.1 : Int)), some b] H7
      have n7' := n6.tr n7
      have g7 := g6.nw n7
      have hxs := dps_nIs g7.ok
      have htest : EtH (tTest (tOp (rIn K true) (tVar 4) (tVar 2))) [some v1, some (.int (r : Int)), some (.ref l), some (.int (n : Int)), some (.int (q.1 : Int)), some b] G7 H7 (!decide (q.1 ∈ fs)) := fun Q k => by
        refine ⟨_, rfl, _, rfl, l, xs, rfl, .inl (sq_of g7.at_), rfl, ?_, ?_⟩
        · rw [hxs]; exact flat_ints fs
        · rw [if_pos rfl, hxs, inV_ints]
          exact ⟨_, rfl, k G7 H7 (Nw.refl n7'.gh)⟩
      have hq := hq0 q (List.mem_of_getElem? hi)
      refine sd_whenH htest (fun hb G8 H8 n8 => ?_) (fun hb G8 H8 n8 => ?_)
      · have hnew : q.1 ∉ fs := by simpa using hb
        refine sd_push (j := 2) (d := nI q.1) rfl (g7.nw n8) (by rw [List.length_map]; have := hsub fs nd hlt; omega) (ed_nVar (i := 4) rfl) n8.gh fun v9 G9 H9 n9 g9 e9 => ?_
        refine ⟨G9, (e6.trans n7.gg).trans (n8.gg.trans n9.gg), e9, xs ++ [v9], fs ++ [q.1], _, _, rfl, ((n7'.tr n8).tr n9).mut f1 g9.out, ?_, ?_, ?_, by rw [List.length_append]; omega⟩
        · rw [List.map_append]; exact g9
        · rw [List.nodup_append]
          refine ⟨nd, by simp, fun a ha c hc z => hnew ?_⟩
          simp at hc
          rw [← hc, ← z]
          exact ha
        · intro x hx
          rcases List.mem_append.mp hx with hx | hx
          · exact hlt x hx
          · simp at hx; rw [hx]; exact hq
      · exact ⟨G8, (e6.trans n7.gg).trans n8.gg, n8.gh, xs, fs, _, _, rfl, n7'.tr n8, g7.nw n8, nd, hlt, hnl⟩
    · rintro G5 σ5 H5 e5 e6 ⟨xs, fs, y4, y5, rfl, n5, g5, nd, hlt, hnl⟩
      refine sd_asg (K := K) (ed_add (ed_nVar (n := n) (i := 3) rfl) (ed_int (i := 1))) e6 fun v6 G6 H6 n6 h6 => ?_
      obtain rfl := dp_int_inv h6
      have := hsub fs nd hlt
      exact ⟨7 - (n + 1), by omega, n + 1, G6, xs, fs, y4, y5, rfl, hnl, rfl, n5.tr n6, g5.nw n6, nd, hlt⟩
  · have n3' := n3.hx n4.hh
    have g4 := g3.hx n4.hh
    obtain ⟨i1, i2, i3⟩ := g4.join n3'.gh
    exact sd_ret (ed_var (i := 2) rfl i3) i2 fun v6 G6 H6 n6 h6 => k v6 fs G6 H6 ((n3'.join f1 g4).tr n6) h6
end
end Wk
/-! WP16 -/
namespace Wk
open PySem L2 Evl
abbrev Hv := List (List (Nat × Nat))
def swS (s : Nat) : Nat := [1, 0, 2].getD s 0
theorem swS_sw {s : Nat} (h : s ≤ 2) : swS (swS s) = s := by
  have : s = 0 ∨ s = 1 ∨ s = 2 := by omega
  rcases this with rfl | rfl | rfl <;> rfl
def posR (hs : Hv) (r j : Nat) : List ((Nat × Nat) × (Nat × Nat)) := ((hs.getD r []).zipIdx.take j).map fun x => (x.1, (r, x.2))
def posL (hs : Hv) (i : Nat) : List ((Nat × Nat) × (Nat × Nat)) := (List.range i).flatMap fun r => posR hs r (hs.getD r []).length
theorem posR_mem {hs : Hv} {r j : Nat} {x : (Nat × Nat) × (Nat × Nat)} (h : x ∈ posR hs r j) : x.2.1 = r ∧ x.2.2 < j ∧ (hs.getD r [])[x.2.2]? = some x.1 := by
  unfold posR at h
  obtain ⟨y, hy, rfl⟩ := List.mem_map.mp h
  obtain ⟨i, hi⟩ := List.mem_iff_getElem?.mp hy
  have hij : i < j := by
    have := (List.getElem?_eq_some_iff.mp hi).1
    rw [List.length_take] at this
    omega
  rw [List.getElem?_take, if_pos hij] at hi
  obtain ⟨rfl, hi⟩ := zipIdx_some hi
  exact ⟨rfl, hij, hi⟩
theorem posR_of {hs : Hv} {r d j : Nat} {p : Nat × Nat} (h : (hs.getD r [])[d]? = some p) (hj : d < j) : (p, (r, d)) ∈ posR hs r j := by
  unfold posR
  refine List.mem_map.mpr ⟨(p, d), ?_, rfl⟩
  refine List.mem_of_getElem? (i := d) ?_
  rw [List.getElem?_take, if_pos hj, List.getElem?_zipIdx, h]
  simp
theorem posL_mem {hs : Hv} {i : Nat} {x : (Nat × Nat) × (Nat × Nat)} (h : x ∈ posL hs i) : x.2.1 < i ∧ (hs.getD x.2.1 [])[x.2.2]? = some x.1 := by
  unfold posL at h
  obtain ⟨r, hr, hx⟩ := List.mem_flatMap.mp h
  obtain ⟨h1, h2, h3⟩ := posR_mem hx
  rw [h1]
  exact ⟨List.mem_range.mp hr, h3⟩
theorem posL_of {hs : Hv} {i r d : Nat} {p : Nat × Nat} (h : (hs.getD r [])[d]? = some p) (hr : r < i) : (p, (r, d)) ∈ posL hs i := by
  unfold posL
  exact List.mem_flatMap.mpr ⟨r, List.mem_range.mpr hr, posR_of h (List.getElem?_eq_some_iff.mp h).1⟩
def entsP (L : List ((Nat × Nat) × (Nat × Nat))) : List (NestedKey × PyData) := L.map fun x => (kEnd x.1, eEnd x.2)
theorem entsP_key {L : List ((Nat × Nat) × (Nat × Nat))} {p : Nat × Nat} (h : kEnd p ∈ (entsP L).map (·.1)) : ∃ x ∈ L, x.1 = p := by
  unfold entsP at h
  rw [List.map_map] at h
  obtain ⟨x, hx, e⟩ := List.mem_map.mp h
  exact ⟨x, hx, kEnd_inj e⟩
def matchM (hs : Hv) (p : Nat × Nat) : Nat × Nat := (((posL hs hs.length).find? fun x => decide (x.1 = (p.1, swS p.2))).map (·.2)).getD (0, 0)
def joinM (hs : Hv) : Web := hs.map fun l => l.map (matchM hs)
theorem hs_get {hs : Hv} {r : Nat} {l : List (Nat × Nat)} (h : hs[r]? = some l) : hs.getD r [] = l := by rw [List.getD_eq_getElem?_getD, h]; rfl
theorem match_is {hs : Hv} (O : HalvesOk hs) {l : List (Nat × Nat)} {p : Nat × Nat} (hl : l ∈ hs) (hp : p ∈ l) : ((p.1, swS p.2), matchM hs p) ∈ posL hs hs.length := by
  obtain ⟨m, hm, hq⟩ := O.other l hl p hp
  obtain ⟨s, hs'⟩ := List.mem_iff_getElem?.mp hm
  obtain ⟨e, he⟩ := List.mem_iff_getElem?.mp hq
  have hin : ((p.1, swS p.2), (s, e)) ∈ posL hs hs.length := posL_of (by rw [hs_get hs']; exact he) (List.getElem?_eq_some_iff.mp hs').1
  cases q : (posL hs hs.length).find? fun x => decide (x.1 = (p.1, swS p.2)) with
  | none =>
    rw [List.find?_eq_none] at q
    exact absurd (q _ hin) (by simp)
  | some x =>
    have h1 := List.find?_some q
    have h2 := List.mem_of_find?_eq_some q
    have h3 : matchM hs p = x.2 := by unfold matchM; rw [q]; rfl
    have h4 : x.1 = (p.1, swS p.2) := of_decide_eq_true h1
    rw [h3, ← h4]
    exact h2
theorem join_len (hs : Hv) : (joinM hs).length = hs.length := by unfold joinM; simp
theorem join_get (hs : Hv) (r : Nat) : (joinM hs).getD r [] = (hs.getD r []).map (matchM hs) := by
  unfold joinM
  rw [List.getD_eq_getElem?_getD, List.getElem?_map, List.getD_eq_getElem?_getD]
  cases hs[r]? <;> rfl
theorem join_ok {hs : Hv} (O : HalvesOk hs) : WebOk (joinM hs) := by
  refine webOk_of (by rw [join_len]; exact O.pos) (by rw [join_len]; exact O.few) (fun r hr => ?_) fun r d s e hr h => ?_
  · rw [join_len] at hr
    unfold deg
    rw [join_get, List.length_map, hs_get (List.getElem?_eq_getElem hr)]
    exact O.short _ (List.getElem_mem hr)
  · rw [join_len] at hr
    unfold door at h
    rw [join_get, hs_get (List.getElem?_eq_getElem hr), List.getElem?_map] at h
    cases q : (hs[r])[d]? with
    | none => rw [q] at h; cases h
    | some p =>
      rw [q] at h
      have hm : matchM hs p = (s, e) := Option.some.inj h
      have hpl := List.mem_of_getElem? q
      have h1 := posL_mem (match_is O (List.getElem_mem hr) hpl)
      rw [hm] at h1
      refine ⟨by rw [join_len]; exact h1.1, ?_⟩
      unfold door
      rw [join_get, List.getElem?_map, h1.2]
      have hsl : hs.getD s [] ∈ hs := by rw [hs_get (List.getElem?_eq_getElem h1.1)]; exact List.getElem_mem h1.1
      have h2 := posL_mem (match_is O hsl (List.mem_of_getElem? h1.2))
      dsimp only at h2
      rw [swS_sw (O.side _ (List.getElem_mem hr) _ hpl)] at h2
      have := O.once _ _ _ _ p (by rw [hs_get (List.getElem?_eq_getElem hr)]; exact q) h2.2
      show some (matchM hs (p.1, swS p.2)) = some (r, d)
      rw [this.1, this.2]
section
variable {P : Program} {w : World} {K : PySem.W.Frag} {vs : List V} {H : Hp} {Q : VK} {E : XK}
theorem posL_len {hs : Hv} (O : HalvesOk hs) {i : Nat} (hi : i ≤ hs.length) : (posL hs i).length ≤ 24 * i := by
  induction i with
  | zero => simp [posL]
  | succ i ih =>
    have hr : i < hs.length := hi
    unfold posL at ih ⊢
    rw [List.range_succ, List.flatMap_append, List.length_append]
    have := ih (by omega)
    have := O.short _ (List.getElem_mem hr)
    simp only [List.flatMap_cons, List.flatMap_nil, List.append_nil]
    have hrl : (posR hs i (hs.getD i []).length).length ≤ 24 := by
      unfold posR
      rw [List.length_map, List.length_take, List.length_zipIdx, hs_get (List.getElem?_eq_getElem hr)]
      omega
    omega
theorem rd_Ljoined (h : S_Ljoined P w K vs H Q E) : t_Ljoined P w K (Dd Q) (st0 9 vs) H := by
  obtain ⟨G, hs, e, hd, O, k⟩ := h
  obtain ⟨v1, rfl, h1⟩ := dps1 hd
  show t_Ljoined P w K (Dd Q) [some v1, none, none, none, none, none, none, none, none] H
  unfold t_Ljoined
  have few := O.few
  refine qd_dnew (K := K) e fun m fm g1 => ?_
  show tSeq _ _ _ [some v1, some (.ref m), none, none, none, none, none, none, none] _
  have n1 := Nw.out (o := DN P w m []) e fm
  have hlen : Ed K (tCB (rLenC K) (tCons (tVar 0) tNil)) [some v1, some (.ref m), none, none, none, none, none, none, none] G (nI hs.length) := by
    have := ed_len (ed_var (σ := [some v1, some (.ref m), none, none, none, none, none, none, none]) (i := 0) rfl h1)
    rw [List.length_map] at this
    exact this
  refine qd_for (List.range hs.length) (fun i => .int (i : Int)) (ei_rng1 hlen (by omega)) n1.gh
    (fun i G2 σ2 H2 => ∃ (kvs : KVs) (y2 y3 y4 : Option V), σ2 = [some v1, some (.ref m), y2, y3, y4, none, none, none, none] ∧ Dc P w K G2 H2 m (entsP (posL hs i)) kvs ∧ Nw G H G2 H2)
    (fun G2 H2 n2 => ⟨[], none, none, none, rfl, g1.nw n2, n1.tr n2⟩) ?_ ?_
  · rintro G2 i r G3 σ3 H3 e2 hi e3 e4 ⟨kvs, y2, y3, y4, rfl, g3, n3⟩ x G4 H4 n4 hx
    obtain ⟨rfl, hr⟩ := range_some hi
    obtain rfl := dp_int_inv hx
    refine gn1 ?_
    show tFor _ _ _ _ [some v1, some (.ref m), some (.int (r : Int)), y3, y4, none, none, none, none] H4
    have m4 := n3.tr n4
    have hrow : hs[r]? = some (hs.getD r []) := by rw [hs_get (List.getElem?_eq_getElem hr)]; exact List.getElem?_eq_getElem hr
    have hsh := O.short _ (List.mem_of_getElem? hrow)
    have hpl := posL_len O (Nat.le_of_lt hr)
    refine sd_for (hs.getD r []).zipIdx (fun p => .tuple [nI p.2, eEnd p.1]) (by
        rw [← enumD_map]
        exact ei_enum (ed_ixLn (ed_var (i := 0) rfl (dp_ex m4.gg h1)) (ed_nVar (i := 2) rfl) (by rw [List.getElem?_map, hrow]; rfl))) m4.gh
      (fun j G5 σ5 H5 => ∃ (kvs : KVs) (y3 y4 : Option V), σ5 = [some v1, some (.ref m), some (.int (r : Int)), y3, y4, none, none, none, none] ∧ Dc P w K G5 H5 m (entsP (posL hs r ++ posR hs r j)) kvs ∧ Nw G H G5 H5)
      (fun G5 H5 n5 => ⟨kvs, y3, y4, rfl, by
        have : posR hs r 0 = [] := by unfold posR; simp
        rw [this, List.append_nil]
        exact (g3.nw n4).nw n5, m4.tr n5⟩) ?_ ?_
    · rintro G5 j ⟨p, d⟩ G6 σ6 H6 e5 hj e6 e7 ⟨kvs, y3, y4, rfl, g6, n6⟩ x G7 H7 n7 hx
      obtain ⟨rfl, hp⟩ := zipIdx_some hj
      dsimp only at hp
      refine gt2n hx n7.gh fun a b ha hb => ?_
      obtain rfl := dp_nI ha
      show tAsg _ _ _ [some v1, some (.ref m), some (.int (r : Int)), some (.int (d : Int)), some b, none, none, none, none] H7
      have n7' := n6.tr n7
      have g7 := g6.nw n7
      have hdl := (List.getElem?_eq_some_iff.mp hp).1
      have hprl : (posR hs r d).length ≤ 24 := by
        unfold posR
        rw [List.length_map, List.length_take, List.length_zipIdx]
        omega
      refine sd_put (K := K) (Gv := G7) (k := kEnd p) (d := eEnd (r, d)) (ed_tup (ea_cons (ed_nVar (n := r) (i := 2) rfl) (ea_cons (ed_nVar (n := d) (i := 3) rfl) ea_nil))) n7'.gh (by rw [kEnd_data]; exact ed_var (i := 4) rfl hb) n7'.gh rfl (Nat.le_trans (kEnd_depth p) (by decide)) rfl g7 (fun z => ?_) ?_ (fz_eEnd _) (fun a z1 z2 => gv_same z1 z2) fun kvs2 R H8 n8 g8 e8 => ?_
      · obtain ⟨x, hx, rfl⟩ := entsP_key z
        rcases List.mem_append.mp hx with hx | hx
        · have hx := posL_mem hx
          have := O.once _ _ _ _ _ hx.2 hp
          omega
        · have hx := posR_mem hx
          have := O.once _ _ _ _ _ hx.2.2 hp
          omega
      · unfold entsP
        rw [List.length_map, List.length_append]
        exact Nat.le_trans (Nat.add_le_add hpl hprl) (by omega)
      · refine ⟨R, (e6.trans n7.gg).trans n8.gg, e8, kvs2, _, _, rfl, ?_, (n7'.tr n8).mut fm g8.out⟩
        have : posR hs r (d + 1) = posR hs r d ++ [(p, (r, d))] := by
          unfold posR
          rw [take_snoc hj, List.map_append]
          rfl
        dsimp only
        rw [this, ← List.append_assoc]
        unfold entsP at g8 ⊢
        rw [List.map_append (l₂ := [_])]
        exact g8
    · rintro G5 σ5 H5 e5 e6 ⟨kvs, y3, y4, rfl, g5, n5⟩
      rw [List.length_zipIdx] at g5
      refine ⟨G5, (e3.trans n4.gg).trans e5, e6, kvs, _, _, _, rfl, ?_, n5⟩
      unfold posL at g5 ⊢
      rw [List.range_succ, List.flatMap_append]
      simp only [List.flatMap_cons, List.flatMap_nil, List.append_nil]
      exact g5
  · rintro G2 σ2 H2 e2 e3 ⟨kvs, y2, y3, y4, rfl, g2, n2⟩
    rw [List.length_range] at g2
    obtain ⟨r1, r2, r3⟩ := g2.reg e3
    have n3 := n2.add g2.out fm g2.at_
    refine qd_new fun l hl => ?_
    show tSeq _ _ _ [some v1, some (.ref m), y2, y3, y4, some (.ref l), none, none, none] _
    have n4 := n3.tr (Nw.out (o := .lst []) r1 hl)
    have f1 : H l = none := fresh_back n3.hh hl
    refine qd_for hs (fun l => .list (l.map eEnd)) (ei_list (ed_var (i := 0) rfl (dp_ex n3.gg h1))) n4.gh
      (fun i G5 σ5 H5 => ∃ (xs : List V) (y6 : Option V), σ5 = [some v1, some (.ref m), y2, y3, y4, some (.ref l), y6, none, none] ∧ Gr K G5 H5 l (((hs.take i).map fun l => l.map (matchM hs)).map eRoom) xs ∧ Nw G H G5 H5 ∧ Ex (upd G2 m (DN P w m kvs)) G5)
      (fun G5 H5 n5 => ⟨[], none, rfl, (Gr.mk (fresh_back r1 hl) upd_same .nil).nw n5, n4.tr n5, n5.gg⟩) ?_ ?_
    · rintro G5 i row G6 σ6 H6 e5 hi e6 e7 ⟨xs, y6, rfl, g6, n6, e26⟩ x G7 H7 n7 hx
      refine gn1 ?_
      show tDrop _ _ [some v1, some (.ref m), y2, y3, y4, some (.ref l), some x, none, none] H7
      have hrow := List.mem_of_getElem? hi
      have hsh := O.short _ hrow
      have hil := (List.getElem?_eq_some_iff.mp hi).1
      have n7' := n6.tr n7
      refine sd_push (j := 5) (d := eRoom (row.map (matchM hs))) rfl (g6.nw n7) (by rw [List.length_map, List.length_map, List.length_take]; omega) (ed_is (ed_tupOfL (ed_lcm row eEnd (fun p => eEnd (matchM hs p)) (ei_list (ed_var (i := 6) rfl hx)) (by omega) fun j p hp x G8 H8 e8 e9 hx Q q => gt2n hx e9 fun a b ha hb => ?_)) ?_) n7'.gh fun v9 G9 H9 n9 g9 e9 => ?_
      · have e28 := (e26.trans n7.gg).trans e8
        obtain rfl := dp_nI hb
        have hpm := List.mem_of_getElem? hp
        have hsd := O.side row hrow p hpm
        have hsw : ([.int 1, .int 0, .int 2] : List PyData)[p.2]? = some (nI (swS p.2)) := by
          have : p.2 = 0 ∨ p.2 = 1 ∨ p.2 = 2 := by omega
          rcases this with z | z | z <;> rw [z] <;> rfl
        refine q _ rfl (ed_get (k := kEnd (p.1, swS p.2)) (by
          rw [kEnd_data]
          exact ed_tup (ea_cons (ed_var (i := 7) rfl ha) (ea_cons (ed_ixLn (ed_lst (ea_cons ed_int (ea_cons ed_int (ea_cons ed_int ea_nil)))) (ed_nVar (i := 8) rfl) hsw) ea_nil))) rfl (Nat.le_trans (kEnd_depth _) (by decide)) (j := 1) rfl (r3.ex e28) g2.nd (e28 _ _ upd_same) ?_)
        exact List.mem_map.mpr ⟨_, match_is O hrow hpm, rfl⟩
      · unfold eRoom
        rw [List.map_map]
        rfl
      · refine ⟨G9, (e6.trans n7.gg).trans n9.gg, e9, xs ++ [v9], _, rfl, ?_, (n7'.tr n9).mut f1 g9.out, (e26.trans n7.gg).trans n9.gg⟩
        rw [take_snoc hi, List.map_append, List.map_append]
        exact g9
    · rintro G5 σ5 H5 e5 e6 ⟨xs, y6, rfl, g5, n5, e25⟩
      rw [List.take_length] at g5
      obtain ⟨j1, j2, j3⟩ := g5.join e6
      exact sd_ret (ed_tupOfL (ed_var (i := 5) rfl j3)) j2 fun v6 G6 H6 n6 h6 => k v6 (joinM hs) G6 H6 (join_ok O) (join_len hs) ((n5.join f1 g5).tr n6) h6
end
end Wk
/-! WSh -/
/-! Sheets, in plain Lean. -/
namespace Wk
open PySem L2 Evl
abbrev Md := List (List (Option (Nat × Nat)))
def mget (M : Md) (R d : Nat) : Option (Nat × Nat) := (M.getD R []).getD d none
def mset (M : Md) (R d : Nat) (v : Nat × Nat) : Md := M.set R ((M.getD R []).set d (some v))
theorem mset_len (M : Md) (R d : Nat) (v : Nat × Nat) : (mset M R d v).length = M.length := by unfold mset; simp
theorem mset_row (M : Md) (R d : Nat) (v : Nat × Nat) (r : Nat) : ((mset M R d v).getD r []).length = (M.getD r []).length := by
  unfold mset
  rw [List.getD_eq_getElem?_getD]
  by_cases h : r = R
  · subst h
    by_cases hr : r < M.length
    · rw [List.getElem?_set_self hr]; simp
    · rw [List.getElem?_eq_none (by simpa using hr), List.getD_eq_getElem?_getD, List.getElem?_eq_none (by simpa using hr)]
  · rw [List.getElem?_set_ne (Ne.symm h), List.getD_eq_getElem?_getD]
theorem mget_set {M : Md} {R d : Nat} {v : Nat × Nat} (hR : R < M.length) (hd : d < (M.getD R []).length) (r j : Nat) : mget (mset M R d v) r j = if r = R ∧ j = d then some v else mget M r j := by
  unfold mget mset
  by_cases h : r = R
  · subst h
    rw [List.getD_eq_getElem?_getD (l := M.set r _), List.getElem?_set_self hR]
    by_cases hj : j = d
    · subst hj
      rw [if_pos ⟨rfl, rfl⟩, Option.getD_some, List.getD_eq_getElem?_getD, List.getElem?_set_self hd]
      rfl
    · rw [if_neg (fun z => hj z.2), Option.getD_some, List.getD_eq_getElem?_getD, List.getElem?_set_ne (Ne.symm hj), ← List.getD_eq_getElem?_getD]
  · rw [if_neg (fun z => h z.1), List.getD_eq_getElem?_getD (l := M.set R _), List.getElem?_set_ne (Ne.symm h), ← List.getD_eq_getElem?_getD]
theorem ends_mem {u : Web} (W : WebOk u) {e : (Nat × Nat) × (Nat × Nat)} (h : e ∈ endsM u) : e.1.1 < u.length ∧ e.1.2 < deg u e.1.1 ∧ e.2.1 < u.length ∧ e.2.2 < deg u e.2.1 ∧ door u e.1.1 e.1.2 = some e.2 ∧ door u e.2.1 e.2.2 = some e.1 ∧ (e.1.1 < e.2.1 ∨ (e.1.1 = e.2.1 ∧ e.1.2 ≤ e.2.2)) := by
  unfold endsM at h
  obtain ⟨r, hr, h⟩ := List.mem_flatMap.mp h
  obtain ⟨d, hd, h⟩ := List.mem_filterMap.mp h
  have hr := List.mem_range.mp hr
  have hd := List.mem_range.mp hd
  split at h
  · rename_i hc
    cases h
    have h1 := there_door hd
    have h2 := W.sym r d _ _ h1
    exact ⟨hr, hd, W.inr r d _ _ h1, door_lt.mpr ⟨_, h2⟩, h1, h2, hc⟩
  · cases h
theorem ends_of {u : Web} {r d s j : Nat} (hr : r < u.length) (h : door u r d = some (s, j)) (hc : r < s ∨ (r = s ∧ d ≤ j)) : ((r, d), (s, j)) ∈ endsM u := by
  unfold endsM
  have hd : d < deg u r := door_lt.mpr ⟨_, h⟩
  have ht : there u r d = (s, j) := by unfold there; rw [h]; rfl
  refine List.mem_flatMap.mpr ⟨r, List.mem_range.mpr hr, List.mem_filterMap.mpr ⟨d, List.mem_range.mpr hd, ?_⟩⟩
  rw [ht, if_pos hc]
theorem endF_fst {u : Web} {r d : Nat} {e : (Nat × Nat) × (Nat × Nat)} (h : endF u r d = some e) : e.1 = (r, d) := by
  unfold endF at h
  split at h
  · cases h; rfl
  · cases h
theorem ends_nodup (u : Web) : (endsM u).Pairwise fun a b => a.1 ≠ b.1 := by
  show ((List.range u.length).flatMap fun r => (List.range (deg u r)).filterMap (endF u r)).Pairwise _
  rw [List.pairwise_flatMap]
  refine ⟨fun r _ => ?_, ?_⟩
  · rw [List.pairwise_filterMap]
    refine List.Pairwise.imp ?_ (List.nodup_range (n := deg u r))
    intro a b hab x hx y hy z
    rw [endF_fst hx, endF_fst hy] at z
    exact hab (Prod.mk.inj z).2
  · refine List.Pairwise.imp ?_ (List.nodup_range (n := u.length))
    intro a b hab x hx y hy z
    obtain ⟨d, _, hx⟩ := List.mem_filterMap.mp hx
    obtain ⟨d', _, hy⟩ := List.mem_filterMap.mp hy
    rw [endF_fst hx, endF_fst hy] at z
    exact hab (Prod.mk.inj z).1
theorem ends_idx {u : Web} {i j : Nat} {e f : (Nat × Nat) × (Nat × Nat)} (hi : (endsM u)[i]? = some e) (hj : (endsM u)[j]? = some f) (h : e.1 = f.1) : i = j := by
  have hp := ends_nodup u
  rw [List.pairwise_iff_getElem] at hp
  obtain ⟨hil, hie⟩ := List.getElem?_eq_some_iff.mp hi
  obtain ⟨hjl, hje⟩ := List.getElem?_eq_some_iff.mp hj
  rcases Nat.lt_trichotomy i j with z | z | z
  · exact absurd (by rw [hie, hje]; exact h) (hp i j hil hjl z)
  · exact z
  · exact absurd (by rw [hie, hje]; exact h.symm) (hp j i hjl hil z)
theorem turn_onto {t : List Nat} {n : Nat} {own : Bool} (T : TurnOk t n own) {y : Nat} (hy : y < n) : ∃ k : Nat, t[k]? = some y := by
  refine List.mem_iff_getElem?.mp (Classical.byContradiction fun h => ?_)
  have := nodup_len (l := y :: t) (U := List.range n) (List.nodup_cons.mpr ⟨h, T.nd⟩) fun x hx => by
    rcases List.mem_cons.mp hx with rfl | hx
    · exact List.mem_range.mpr hy
    · exact List.mem_range.mpr (T.lt x hx)
  rw [List.length_range, List.length_cons, T.len] at this
  omega
section
variable {u : Web} {ts : List (List Nat)} {many : Nat}
/-- what may stand at (R, d) -/
def Vv (u : Web) (ts : List (List Nat)) (R d S j : Nat) : Prop := ∃ (i : Nat) (e : (Nat × Nat) × (Nat × Nat)) (t : List Nat) (k x : Nat), (endsM u)[i]? = some e ∧ ts[i]? = some t ∧ t[k]? = some x ∧
  ((R = e.1.1 + k * u.length ∧ d = e.1.2 ∧ S = e.2.1 + x * u.length ∧ j = e.2.2) ∨ (R = e.2.1 + x * u.length ∧ d = e.2.2 ∧ S = e.1.1 + k * u.length ∧ j = e.1.2))
theorem Vv.symm {R d S j : Nat} (h : Vv u ts R d S j) : Vv u ts S j R d := by
  obtain ⟨i, e, t, k, x, h1, h2, h3, h⟩ := h
  refine ⟨i, e, t, k, x, h1, h2, h3, ?_⟩
  rcases h with ⟨a, b, c, d⟩ | ⟨a, b, c, d⟩
  · exact .inr ⟨c, d, a, b⟩
  · exact .inl ⟨c, d, a, b⟩
theorem sheet_eq {n a b k l : Nat} (ha : a < n) (hb : b < n) (h : a + k * n = b + l * n) : a = b ∧ k = l := by
  have h1 : (a + k * n) % n = a := by rw [Nat.add_mul_mod_self_right, Nat.mod_eq_of_lt ha]
  have h2 : (b + l * n) % n = b := by rw [Nat.add_mul_mod_self_right, Nat.mod_eq_of_lt hb]
  have e : a = b := by rw [← h1, ← h2, h]
  refine ⟨e, ?_⟩
  subst e
  have : k * n = l * n := by omega
  exact Nat.eq_of_mul_eq_mul_right (by omega) this
theorem Vv.fun_ (W : WebOk u) (T : ∀ (i : Nat) (e : (Nat × Nat) × (Nat × Nat)) (t : List Nat), (endsM u)[i]? = some e → ts[i]? = some t → TurnOk t many (decide (e.1 = e.2))) {R d S j S' j' : Nat} (h : Vv u ts R d S j) (h' : Vv u ts R d S' j') : S = S' ∧ j = j' := by
  obtain ⟨i, e, t, k, x, h1, h2, h3, h⟩ := h
  obtain ⟨i', e', t', k', x', h1', h2', h3', h'⟩ := h'
  obtain ⟨a1, a2, a3, a4, a5, a6, a7⟩ := ends_mem W (List.mem_of_getElem? h1)
  obtain ⟨b1, b2, b3, b4, b5, b6, b7⟩ := ends_mem W (List.mem_of_getElem? h1')
  have TT := T i e t h1 h2
  have TT' := T i' e' t' h1' h2'
  -- the tie is one
  have one : e.1 = e'.1 → i = i' ∧ e = e' ∧ t = t' := fun z => by
    have hi := ends_idx h1 h1' z
    subst hi
    rw [h1] at h1'
    rw [h2] at h2'
    exact ⟨rfl, Option.some.inj h1', Option.some.inj h2'⟩
  have key : ∀ {p q : Nat × Nat} {a b : Nat}, p.1 < u.length → q.1 < u.length → R = p.1 + a * u.length → d = p.2 → R = q.1 + b * u.length → d = q.2 → p = q ∧ a = b := fun hp hq r1 d1 r2 d2 => by
    obtain ⟨z1, z2⟩ := sheet_eq hp hq (r1.symm.trans r2)
    exact ⟨Prod.ext z1 (d1.symm.trans d2), z2⟩
  have cross : ∀ {e e' : (Nat × Nat) × (Nat × Nat)}, e.1 = e'.2 → door u e.1.1 e.1.2 = some e.2 → door u e'.2.1 e'.2.2 = some e'.1 → (e.1.1 < e.2.1 ∨ (e.1.1 = e.2.1 ∧ e.1.2 ≤ e.2.2)) → (e'.1.1 < e'.2.1 ∨ (e'.1.1 = e'.2.1 ∧ e'.1.2 ≤ e'.2.2)) → e.1 = e'.1 ∧ e.1 = e.2 := fun {e e'} z d1 d2 c1 c2 => by
    rw [← z, d1] at d2
    have z2 : e.2 = e'.1 := Option.some.inj d2
    rw [← z, ← z2] at c2
    have : e.1 = e.2 := Prod.ext (by omega) (by omega)
    exact ⟨this.trans z2, this⟩
  rcases h with ⟨r1, r2, r3, r4⟩ | ⟨r1, r2, r3, r4⟩ <;> rcases h' with ⟨s1, s2, s3, s4⟩ | ⟨s1, s2, s3, s4⟩
  · obtain ⟨z, zk⟩ := key a1 b1 r1 r2 s1 s2
    obtain ⟨_, rfl, rfl⟩ := one z
    subst zk
    rw [h3] at h3'
    cases h3'
    exact ⟨r3.trans s3.symm, r4.trans s4.symm⟩
  · obtain ⟨z, zk⟩ := key a1 b3 r1 r2 s1 s2
    obtain ⟨y1, y2⟩ := cross z a5 b6 a7 b7
    obtain ⟨_, rfl, rfl⟩ := one y1
    subst zk
    have := TT.back (decide_eq_true y2) k' k h3'
    rw [h3] at this
    cases this
    rw [r3, s3, r4, s4, ← y2]
    exact ⟨rfl, rfl⟩
  · obtain ⟨z, zk⟩ := key a3 b1 r1 r2 s1 s2
    obtain ⟨y1, y2⟩ := cross z.symm b5 a6 b7 a7
    obtain ⟨_, rfl, rfl⟩ := one y1.symm
    subst zk
    have := TT.back (decide_eq_true y2) k x h3
    rw [h3'] at this
    cases this
    rw [r3, s3, r4, s4, ← y2]
    exact ⟨rfl, rfl⟩
  · obtain ⟨z, zk⟩ := key a3 b3 r1 r2 s1 s2
    have hz : e.1 = e'.1 := by
      rw [z, b6] at a6
      exact (Option.some.inj a6).symm
    obtain ⟨_, rfl, rfl⟩ := one hz
    subst zk
    have : k = k' := by
      have hk := (List.getElem?_eq_some_iff.mp h3).1
      exact (List.getElem?_inj hk TT.nd).mp (by rw [h3, h3'])
    subst this
    exact ⟨r3.trans s3.symm, r4.trans s4.symm⟩
/-- what is made so far: ties before i, and of tie i the sheets before k -/
structure Shd (u : Web) (ts : List (List Nat)) (many i k : Nat) (M : Md) : Prop where
  len : M.length = many * u.length
  row : ∀ R, R < many * u.length → (M.getD R []).length = deg u (R % u.length)
  sound : ∀ R d S j, mget M R d = some (S, j) → Vv u ts R d S j
  done : ∀ (i' : Nat) (e : (Nat × Nat) × (Nat × Nat)) (t : List Nat) (k' x : Nat), (i' < i ∨ i' = i ∧ k' < k) → (endsM u)[i']? = some e → ts[i']? = some t → t[k']? = some x → mget M (e.1.1 + k' * u.length) e.1.2 ≠ none ∧ mget M (e.2.1 + x * u.length) e.2.2 ≠ none
def shU (M : Md) : Web := M.map fun row => row.map fun o => o.getD (0, 0)
theorem lt_sheets {n a k m : Nat} (ha : a < n) (hk : k < m) : a + k * n < m * n := by
  have : (k + 1) * n ≤ m * n := Nat.mul_le_mul_right n hk
  rw [Nat.add_mul, Nat.one_mul] at this
  omega
theorem mod_sheet {n a k : Nat} (ha : a < n) : (a + k * n) % n = a := by rw [Nat.add_mul_mod_self_right, Nat.mod_eq_of_lt ha]
theorem Shd.step (W : WebOk u) (T : ∀ (i : Nat) (e : (Nat × Nat) × (Nat × Nat)) (t : List Nat), (endsM u)[i]? = some e → ts[i]? = some t → TurnOk t many (decide (e.1 = e.2))) {i k x : Nat} {M : Md} (h : Shd u ts many i k M)
    {e : (Nat × Nat) × (Nat × Nat)} {t : List Nat} (he : (endsM u)[i]? = some e) (ht : ts[i]? = some t) (hx : t[k]? = some x) :
    e.1.1 + k * u.length < M.length ∧ e.1.2 < (M.getD (e.1.1 + k * u.length) []).length ∧ e.2.1 + x * u.length < (mset M (e.1.1 + k * u.length) e.1.2 (e.2.1 + x * u.length, e.2.2)).length ∧ e.2.2 < ((mset M (e.1.1 + k * u.length) e.1.2 (e.2.1 + x * u.length, e.2.2)).getD (e.2.1 + x * u.length) []).length ∧
      Shd u ts many i (k + 1) (mset (mset M (e.1.1 + k * u.length) e.1.2 (e.2.1 + x * u.length, e.2.2)) (e.2.1 + x * u.length) e.2.2 (e.1.1 + k * u.length, e.1.2)) := by
  obtain ⟨a1, a2, a3, a4, a5, a6, a7⟩ := ends_mem W (List.mem_of_getElem? he)
  have TT := T i e t he ht
  have hk : k < many := by rw [← TT.len]; exact (List.getElem?_eq_some_iff.mp hx).1
  have hxm : x < many := TT.lt x (List.mem_of_getElem? hx)
  have q1 : e.1.1 + k * u.length < M.length := by rw [h.len]; exact lt_sheets a1 hk
  have q2 : e.1.2 < (M.getD (e.1.1 + k * u.length) []).length := by rw [h.row _ (lt_sheets a1 hk), mod_sheet a1]; exact a2
  have q3 : e.2.1 + x * u.length < (mset M (e.1.1 + k * u.length) e.1.2 (e.2.1 + x * u.length, e.2.2)).length := by rw [mset_len, h.len]; exact lt_sheets a3 hxm
  have q4 : e.2.2 < ((mset M (e.1.1 + k * u.length) e.1.2 (e.2.1 + x * u.length, e.2.2)).getD (e.2.1 + x * u.length) []).length := by rw [mset_row, h.row _ (lt_sheets a3 hxm), mod_sheet a3]; exact a4
  refine ⟨q1, q2, q3, q4, by rw [mset_len, mset_len, h.len], fun R hR => by rw [mset_row, mset_row, h.row R hR], fun R d S j hg => ?_, fun i' e' t' k' x' hlt he' ht' hx' => ?_⟩
  · rw [mget_set q3 q4] at hg
    split at hg
    · rename_i hc
      cases hg
      exact ⟨i, e, t, k, x, he, ht, hx, .inr ⟨hc.1, hc.2, rfl, rfl⟩⟩
    · rw [mget_set q1 q2] at hg
      split at hg
      · rename_i hc
        cases hg
        exact ⟨i, e, t, k, x, he, ht, hx, .inl ⟨hc.1, hc.2, rfl, rfl⟩⟩
      · exact h.sound R d S j hg
  · have stay : ∀ R d, mget M R d ≠ none → mget (mset (mset M (e.1.1 + k * u.length) e.1.2 (e.2.1 + x * u.length, e.2.2)) (e.2.1 + x * u.length) e.2.2 (e.1.1 + k * u.length, e.1.2)) R d ≠ none := fun R d hn => by
      rw [mget_set q3 q4]
      split
      · simp
      · rw [mget_set q1 q2]
        split
        · simp
        · exact hn
    by_cases hnow : i' = i ∧ k' = k
    · obtain ⟨rfl, rfl⟩ := hnow
      rw [he] at he'
      rw [ht] at ht'
      cases he'
      cases ht'
      rw [hx] at hx'
      cases hx'
      constructor
      · rw [mget_set q3 q4]
        split
        · simp
        · rw [mget_set q1 q2, if_pos ⟨rfl, rfl⟩]; simp
      · rw [mget_set q3 q4, if_pos ⟨rfl, rfl⟩]; simp
    · have := h.done i' e' t' k' x' (by omega) he' ht' hx'
      exact ⟨stay _ _ this.1, stay _ _ this.2⟩
theorem Shd.full (W : WebOk u) (T : ∀ (i : Nat) (e : (Nat × Nat) × (Nat × Nat)) (t : List Nat), (endsM u)[i]? = some e → ts[i]? = some t → TurnOk t many (decide (e.1 = e.2))) (hl : ts.length = (endsM u).length) {M : Md} (h : Shd u ts many (endsM u).length 0 M) {R d : Nat} (hR : R < many * u.length) (hd : d < deg u (R % u.length)) : mget M R d ≠ none := by
  have hn := W.pos
  have hs : R % u.length < u.length := Nat.mod_lt _ hn
  have hk : R / u.length < many := Nat.div_lt_of_lt_mul (by rw [Nat.mul_comm]; exact hR)
  have hRe : R % u.length + (R / u.length) * u.length = R := by
    have := Nat.mod_add_div R u.length
    rw [Nat.mul_comm] at this
    exact this
  obtain ⟨⟨s, j⟩, hq⟩ := door_lt.mp hd
  have hin := W.inr _ _ _ _ hq
  have hsy := W.sym _ _ _ _ hq
  by_cases hc : R % u.length < s ∨ (R % u.length = s ∧ d ≤ j)
  · obtain ⟨i, hi⟩ := List.mem_iff_getElem?.mp (ends_of hs hq hc)
    have hil := (List.getElem?_eq_some_iff.mp hi).1
    have ht : ts[i]? = some ts[i] := List.getElem?_eq_getElem (by omega)
    have TT := T i _ _ hi ht
    have hx : (ts[i])[R / u.length]? = some ((ts[i])[R / u.length]'(by rw [TT.len]; exact hk)) := List.getElem?_eq_getElem _
    have := (h.done i _ _ _ _ (.inl hil) hi ht hx).1
    dsimp only at this
    rw [hRe] at this
    exact this
  · obtain ⟨i, hi⟩ := List.mem_iff_getElem?.mp (ends_of hin hsy (by omega))
    have hil := (List.getElem?_eq_some_iff.mp hi).1
    have ht : ts[i]? = some ts[i] := List.getElem?_eq_getElem (by omega)
    have TT := T i _ _ hi ht
    obtain ⟨k', hk'⟩ := turn_onto TT hk
    have := (h.done i _ _ _ _ (.inl hil) hi ht hk').2
    dsimp only at this
    rw [hRe] at this
    exact this
theorem sh_getD (M : Md) (R : Nat) : (shU M).getD R [] = (M.getD R []).map fun o => o.getD (0, 0) := by
  unfold shU
  rw [List.getD_eq_getElem?_getD, List.getElem?_map, List.getD_eq_getElem?_getD]
  cases M[R]? <;> rfl
theorem sh_ok (W : WebOk u) (T : ∀ (i : Nat) (e : (Nat × Nat) × (Nat × Nat)) (t : List Nat), (endsM u)[i]? = some e → ts[i]? = some t → TurnOk t many (decide (e.1 = e.2))) (hl : ts.length = (endsM u).length) (hm : 0 < many) (h6 : many * u.length ≤ 6) {M : Md} (h : Shd u ts many (endsM u).length 0 M) : WebOk (shU M) := by
  have hlen : (shU M).length = many * u.length := by unfold shU; rw [List.length_map, h.len]
  have hdoor : ∀ R d, R < many * u.length → d < deg u (R % u.length) → ∃ p, mget M R d = some p ∧ door (shU M) R d = some p := fun R d hR hd => by
    have hrl := h.row R hR
    cases q : mget M R d with
    | none => exact absurd q (h.full W T hl hR hd)
    | some p =>
      refine ⟨p, rfl, ?_⟩
      unfold mget at q
      rw [List.getD_eq_getElem?_getD (l := M.getD R [])] at q
      unfold door
      rw [sh_getD, List.getElem?_map]
      cases q0 : (M.getD R [])[d]? with
      | none => rw [q0] at q; cases q
      | some o =>
        rw [q0] at q
        have : o = some p := q
        rw [this]
        rfl
  have hdeg : ∀ R, R < many * u.length → deg (shU M) R = deg u (R % u.length) := fun R hR => by
    unfold deg
    rw [sh_getD, List.length_map, h.row R hR]
    rfl
  refine webOk_of (by rw [hlen]; exact Nat.mul_pos hm W.pos) (by rw [hlen]; exact h6) (fun R hR => ?_) fun R d S j hR hq => ?_
  · rw [hlen] at hR
    rw [hdeg R hR]
    exact W.deg _
  · rw [hlen] at hR
    have hd : d < deg u (R % u.length) := by rw [← hdeg R hR]; exact door_lt.mpr ⟨_, hq⟩
    obtain ⟨p, hp, hp2⟩ := hdoor R d hR hd
    rw [hq] at hp2
    cases hp2
    have hv := h.sound _ _ _ _ hp
    obtain ⟨i, e, t, k, x, h1, h2, h3, hc⟩ := hv.symm
    obtain ⟨a1, a2, a3, a4, a5, a6, a7⟩ := ends_mem W (List.mem_of_getElem? h1)
    have TT := T i e t h1 h2
    have hk : k < many := by rw [← TT.len]; exact (List.getElem?_eq_some_iff.mp h3).1
    have hxm : x < many := TT.lt x (List.mem_of_getElem? h3)
    have hS : S < many * u.length ∧ j < deg u (S % u.length) := by
      rcases hc with ⟨c1, c2, c3, c4⟩ | ⟨c1, c2, c3, c4⟩
      · rw [c1, c2, mod_sheet a1]
        exact ⟨lt_sheets a1 hk, a2⟩
      · rw [c1, c2, mod_sheet a3]
        exact ⟨lt_sheets a3 hxm, a4⟩
    obtain ⟨p, hp', hp2'⟩ := hdoor S j hS.1 hS.2
    have hv' := h.sound _ _ _ _ (show mget M S j = some (p.1, p.2) from hp')
    obtain ⟨z1, z2⟩ := hv.symm.fun_ W T hv'
    refine ⟨by rw [hlen]; exact hS.1, ?_⟩
    rw [hp2', z1, z2]
end
end Wk
/-! WP17 -/
namespace Wk
open PySem L2 Evl
section
variable {P : Program} {w : World} {K : PySem.W.Frag} {vs : List V} {H : Hp} {Q : VK} {E : XK}
/-- l[i][x] = e -/
theorem qd_setR {σ : L2.St} {G H : Hp} {te tb tc : TE} {tz : TS} {D : Ends} {l : Addr} {ps : List Addr} {dss : List (List PyData)} {d : PyData} {j i x : Nat} {ds : List PyData} (hj : σ[j]? = some (some (.ref l))) (g : LL K G H l ps dss) (h : Ed K te σ G d) (hi : Ed K tb σ G (nI i)) (hx : Ed K tc σ G (nI x)) (e : Ex G H) (hd : dss[i]? = some ds) (hlt : x < ds.length)
    (k : ∀ p xs G1 H1, Nw G H G1 H1 → p ∈ ps → LL K G1 (upd H1 p (.lst xs)) l ps (dss.set i (ds.set x d)) → G1 p = none → Ex G1 (upd H1 p (.lst xs)) → tz D σ (upd H1 p (.lst xs))) : tSeq (tAsg te (gSub (tOp (rIx K) (tVar j) tb) tc rSetL)) tz D σ H :=
  h H e _ fun v G1 H1 n1 hv => ⟨_, hj, (hi.mono n1.gg) H1 n1.gh _ fun y G2 H2 n2 hy => by
    have g2 := (g.nw n1).nw n2
    obtain ⟨p, xs, hp, hm, _, hxs, hxd⟩ := g2.get hd
    obtain rfl := dp_int_inv hy
    refine rx_row g2 hp ((hx.mono (n1.gg.trans n2.gg)) H2 n2.gh _ fun z G3 H3 n3 hz => ?_)
    have g3 := g2.nw n3
    have o3 := g3.out p hm
    exact ⟨p, xs, x, x, rfl, dp_int_inv hz, n3.hh _ _ hxs, ixn (by rw [dps_len hxd]; exact hlt), k p _ G3 H3 ((n1.trans n2).trans n3) hm (g3.put hp (dps_set (dp_ex (n2.gg.trans n3.gg) hv) x (dps_ex n3.gg hxd))) o3 (Ex.mut n3.gh o3)⟩⟩
theorem sd_setR {σ : L2.St} {G H : Hp} {te tb tc : TE} {D : Ends} {l : Addr} {ps : List Addr} {dss : List (List PyData)} {d : PyData} {j i x : Nat} {ds : List PyData} (hj : σ[j]? = some (some (.ref l))) (g : LL K G H l ps dss) (h : Ed K te σ G d) (hi : Ed K tb σ G (nI i)) (hx : Ed K tc σ G (nI x)) (e : Ex G H) (hd : dss[i]? = some ds) (hlt : x < ds.length)
    (k : ∀ p xs G1 H1, Nw G H G1 H1 → p ∈ ps → LL K G1 (upd H1 p (.lst xs)) l ps (dss.set i (ds.set x d)) → G1 p = none → Ex G1 (upd H1 p (.lst xs)) → D.nx σ (upd H1 p (.lst xs))) : tAsg te (gSub (tOp (rIx K) (tVar j) tb) tc rSetL) D σ H :=
  h H e _ fun v G1 H1 n1 hv => ⟨_, hj, (hi.mono n1.gg) H1 n1.gh _ fun y G2 H2 n2 hy => by
    have g2 := (g.nw n1).nw n2
    obtain ⟨p, xs, hp, hm, _, hxs, hxd⟩ := g2.get hd
    obtain rfl := dp_int_inv hy
    refine rx_row g2 hp ((hx.mono (n1.gg.trans n2.gg)) H2 n2.gh _ fun z G3 H3 n3 hz => ?_)
    have g3 := g2.nw n3
    have o3 := g3.out p hm
    exact ⟨p, xs, x, x, rfl, dp_int_inv hz, n3.hh _ _ hxs, ixn (by rw [dps_len hxd]; exact hlt), k p _ G3 H3 ((n1.trans n2).trans n3) hm (g3.put hp (dps_set (dp_ex (n2.gg.trans n3.gg) hv) x (dps_ex n3.gg hxd))) o3 (Ex.mut n3.gh o3)⟩⟩
def eOp (o : Option (Nat × Nat)) : PyData := match o with
  | none => .none
  | some p => eEnd p
theorem md_get {M : Md} {R : Nat} (h : R < M.length) : (M.map fun r => r.map eOp)[R]? = some ((M.getD R []).map eOp) := by
  rw [List.getElem?_map, List.getElem?_eq_getElem h, List.getD_eq_getElem?_getD, List.getElem?_eq_getElem h]
  rfl
theorem md_set (M : Md) (R d : Nat) (v : Nat × Nat) : (M.map fun r => r.map eOp).set R (((M.getD R []).map eOp).set d (eEnd v)) = (mset M R d v).map fun r => r.map eOp := by
  unfold mset
  rw [List.map_set, List.map_set]
  rfl
def M0 (u : Web) (many : Nat) : Md := (List.range (many * u.length)).map fun R => List.replicate (deg u (R % u.length)) none
theorem M0_row {u : Web} {many R : Nat} (h : R < many * u.length) : (M0 u many).getD R [] = List.replicate (deg u (R % u.length)) none := by
  unfold M0
  rw [List.getD_eq_getElem?_getD, range_get, if_pos h]
  rfl
theorem M0_none (u : Web) (many R d : Nat) : mget (M0 u many) R d = none := by
  unfold mget
  rcases Nat.lt_or_ge R (many * u.length) with h | h
  · rw [M0_row h, List.getD_eq_getElem?_getD, List.getElem?_replicate]
    split <;> rfl
  · rw [show (M0 u many).getD R [] = [] by
      rw [List.getD_eq_getElem?_getD, List.getElem?_eq_none (by unfold M0; simpa using h)]
      rfl]
    rfl
theorem sh0 {u : Web} {ts : List (List Nat)} {many : Nat} : Shd u ts many 0 0 (M0 u many) where
  len := by unfold M0; simp
  row := fun R hR => by rw [M0_row hR, List.length_replicate]
  sound := fun R d S j h => by rw [M0_none] at h; cases h
  done := fun i' e t k' x h => by omega
theorem Shd.next {u : Web} {ts : List (List Nat)} {many i k : Nat} {M : Md} (T : ∀ (i : Nat) (e : (Nat × Nat) × (Nat × Nat)) (t : List Nat), (endsM u)[i]? = some e → ts[i]? = some t → TurnOk t many (decide (e.1 = e.2))) (h : Shd u ts many i many M) : Shd u ts many (i + 1) 0 M where
  len := h.len
  row := h.row
  sound := h.sound
  done := fun i' e t k' x hlt he ht hx => by
    have hk : k' < many := by rw [← (T i' e t he ht).len]; exact (List.getElem?_eq_some_iff.mp hx).1
    exact h.done i' e t k' x (by omega) he ht hx
theorem gt2nest {x : V} {i a b : Nat} {σ : L2.St} {G H : Hp} {Q : L2.St → Hp → Prop} {d1 d2 d3 : PyData} (h : Dp K G x (.tuple [d1, .tuple [d2, d3]])) (e : Ex G H) (k : ∀ v w z, Dp K G v d1 → Dp K G w d2 → Dp K G z d3 → Q (((σ.set i (some v)).set a (some w)).set b (some z)) H) : gTup K 2 (gCons (gName i) (gCons (gTup K 2 (gCons (gName a) (gCons (gName b) gNil))) gNil)) x σ H Q := by
  obtain ⟨p, xs, rfl, hs, hd⟩ := dp_tup_inv h
  cases hd with
  | cons h1 t =>
    cases t with
    | cons h2 t =>
      cases t
      refine ⟨p, _, rfl, ex_t e hs, rfl, _, _, rfl, _, _, rfl, ?_⟩
      exact gt2n h2 e fun v w hv hw => ⟨rfl, k _ v w h1 hv hw⟩
theorem rd_Lsheeted (h : S_Lsheeted P w K vs H Q E) : t_Lsheeted P w K (Dd Q) (st0 12 vs) H := by
  obtain ⟨G, u, ts, many, e, hd, W, hm, h6, htl, T, k⟩ := h
  obtain ⟨v1, v2, v3, rfl, h1, h2, h3⟩ := dps3 hd
  obtain rfl := dp_nI h3
  show t_Lsheeted P w K (Dd Q) [some v1, some v2, some (.int (many : Int)), none, none, none, none, none, none, none, none, none] H
  unfold t_Lsheeted
  have few := W.few
  have pos := W.pos
  have hmany : many ≤ 6 := Nat.le_trans (Nat.le_mul_of_pos_right many pos) h6
  have hcm : ∀ (i : Int), CMul i (u.length : Int) := fun i => .inr ⟨by omega, by omega⟩
  have hmul : Ed K (tOp (rI CMul fun i j => .int (i * j)) (tVar 2) (tCB (rLenC K) (tCons (tVar 0) tNil))) [some v1, some v2, some (.int (many : Int)), none, none, none, none, none, none, none, none, none] G (nI (many * u.length)) :=
    ed_is (ed_mul (ed_nVar (n := many) (i := 2) rfl) (ed_lenW (ed_var (i := 0) rfl h1)) (hcm _)) (by show PyData.int _ = .int _; rw [Int.natCast_mul])
  refine qd_asgR (el_lcm (List.range (many * u.length)) (fun i => .int (i : Int)) (fun R => (List.replicate (deg u (R % u.length)) none).map eOp) (ei_rng1 hmul (by omega)) (by rw [List.length_range]; omega) (fun i a ha x G5 H5 e1 e2 hx Q q => ?_) e fun D ps G2 H2 n2 g2 f2 => ?_)
  · obtain ⟨rfl, hal⟩ := range_some ha
    obtain rfl := dp_int_inv hx
    have hd24 := W.deg (a % u.length)
    refine q (([some v1, some v2, some (.int (many : Int)), none, none, none, none, none, none, none, none, none] : L2.St).set 10 (some (.int (a : Int)))) rfl ?_
    have z := ef_rep (K := K) (d := .none) (σ := (([some v1, some v2, some (.int (many : Int)), none, none, none, none, none, none, none, none, none] : L2.St).set 10 (some (.int (a : Int))))) (n := deg u (a % u.length)) (ef_lst (ea_cons ed_non ea_nil)) (ed_degR (ed_room (ed_var (i := 0) rfl (dp_ex e1 h1)) (ed_modN (n := u.length) (ed_nVar (n := a) (i := 10) rfl) (ed_lenW (ed_var (i := 0) rfl (dp_ex e1 h1))) pos (m := a % u.length) (by rw [Int.natCast_emod])) (Nat.mod_lt _ pos))) (by omega)
    rw [List.map_replicate]
    exact z
  show tSeq _ _ _ [some v1, some v2, some (.int (many : Int)), some (.ref D), none, none, none, none, none, none, none, none] H2
  have g0 : LL K G2 H2 D ps ((M0 u many).map fun r => r.map eOp) := by
    unfold M0
    rw [List.map_map]
    exact g2
  refine qd_for (endsM u).zipIdx (fun p => .tuple [nI p.2, eTie p.1]) (by
      rw [← enumD_map]
      exact ei_enum (ed_callD (ea_cons (ed_var (i := 0) rfl (dp_ex n2.gg h1)) ea_nil) ⟨u, W, rfl, rfl⟩)) n2.gh
    (fun i G3 σ3 H3 => ∃ (M : Md) (y4 y5 y6 y7 y8 y9 : Option V), σ3 = [some v1, some v2, some (.int (many : Int)), some (.ref D), y4, y5, y6, y7, y8, y9, none, none] ∧ LL K G3 H3 D ps (M.map fun r => r.map eOp) ∧ Shd u ts many i 0 M ∧ Nw G H G3 H3)
    (fun G3 H3 n3 => ⟨M0 u many, none, none, none, none, none, none, rfl, g0.nw n3, sh0, n2.tr n3⟩) ?_ ?_
  · rintro G3 i ⟨⟨one, other⟩, i'⟩ G4 σ4 H4 e2 hi e3 e4 ⟨M, y4, y5, y6, y7, y8, y9, rfl, g4, sh, n4⟩ x G5 H5 n5 hx
    obtain ⟨rfl, hie⟩ := zipIdx_some hi
    dsimp only at hie
    have hil := (List.getElem?_eq_some_iff.mp hie).1
    have ht : ts[i']? = some ts[i'] := List.getElem?_eq_getElem (by omega)
    generalize ts[i'] = t at ht
    have TT := T i' _ t hie ht
    refine gt2nest hx n5.gh fun va vb vc hva hvb hvc => ?_
    obtain rfl := dp_nI hva
    show tFor _ _ _ _ [some v1, some v2, some (.int (many : Int)), some (.ref D), some (.int (i' : Int)), some vb, some vc, y7, y8, y9, none, none] H5
    have n5' := n4.tr n5
    refine sd_for (K := K) (List.range many) (fun i => .int (i : Int)) (ei_rng1 (ed_nVar (i := 2) rfl) (by omega)) n5'.gh
      (fun kk G6 σ6 H6 => ∃ (M : Md) (y7 y8 y9 : Option V), σ6 = [some v1, some v2, some (.int (many : Int)), some (.ref D), some (.int (i' : Int)), some vb, some vc, y7, y8, y9, none, none] ∧ LL K G6 H6 D ps (M.map fun r => r.map eOp) ∧ Shd u ts many i' kk M ∧ Nw G H G6 H6)
      (fun G6 H6 n6 => ⟨M, y7, y8, y9, rfl, (g4.nw n5).nw n6, sh, n5'.tr n6⟩) ?_ ?_
    · rintro G6 kk0 kk G7 σ7 H7 e6 hkk e7 e8 ⟨M, y7, y8, y9, rfl, g7, sh, n7⟩ x G8 H8 n8 hx
      obtain ⟨rfl, hkm⟩ := range_some hkk
      obtain rfl := dp_int_inv hx
      refine gn1 ?_
      show tSeq _ _ _ [some v1, some v2, some (.int (many : Int)), some (.ref D), some (.int (i' : Int)), some vb, some vc, some (.int (kk : Int)), y8, y9, none, none] H8
      have htk : t[kk]? = some (t.getD kk 0) := by
        rw [List.getD_eq_getElem?_getD, List.getElem?_eq_getElem (by rw [TT.len]; exact hkm)]
        rfl
      obtain ⟨q1, q2, q3, q4, q5⟩ := sh.step W T hie ht htk
      dsimp only at q1 q2 q3 q4 q5
      have n8' := n7.tr n8
      have g8 := g7.nw n8
      have hvb8 := dp_ex ((e6.trans e7).trans n8.gg) hvb
      have hvc8 := dp_ex ((e6.trans e7).trans n8.gg) hvc
      have h18 := dp_ex n8'.gg h1
      have h28 := dp_ex n8'.gg h2
      refine qd_asg (d := nI (one.1 + kk * u.length)) (ed_is (ed_add (ed_fst (ed_var (i := 5) rfl hvb8)) (ed_mul (ed_nVar (n := kk) (i := 7) rfl) (ed_lenW (ed_var (i := 0) rfl h18)) (hcm _))) (by show PyData.int _ = .int _; rw [Int.natCast_add, Int.natCast_mul])) n8'.gh fun v9 G9 H9 n9 h9 => ?_
      obtain rfl := dp_nI h9
      show tSeq _ _ _ [some v1, some v2, some (.int (many : Int)), some (.ref D), some (.int (i' : Int)), some vb, some vc, some (.int (kk : Int)), some (.int ((one.1 + kk * u.length : Nat) : Int)), y9, none, none] H9
      refine qd_asg (d := nI (other.1 + t.getD kk 0 * u.length)) (ed_is (ed_add (ed_fst (ed_var (i := 6) rfl (dp_ex n9.gg hvc8))) (ed_mul (ed_nthT (r := kk) (ns := t) (ed_ixLn (ds := ts.map eNs) (ed_var (i := 1) rfl (dp_ex n9.gg h28)) (ed_nVar (n := i') (i := 4) rfl) (by rw [List.getElem?_map, ht]; rfl)) (ed_nVar (i := 7) rfl) (by rw [TT.len]; exact hkm)) (ed_lenW (ed_var (i := 0) rfl (dp_ex n9.gg h18))) (hcm _))) (by show PyData.int _ = .int _; rw [Int.natCast_add, Int.natCast_mul])) n9.gh fun v10 G10 H10 n10 h10 => ?_
      obtain rfl := dp_nI h10
      generalize hS : one.1 + kk * u.length = S at *
      generalize hT : other.1 + t.getD kk 0 * u.length = Th at *
      show tSeq _ _ _ [some v1, some v2, some (.int (many : Int)), some (.ref D), some (.int (i' : Int)), some vb, some vc, some (.int (kk : Int)), some (.int (S : Int)), some (.int (Th : Int)), none, none] H10
      have n10' := (n8'.tr n9).tr n10
      have g10 := (g8.nw n9).nw n10
      have hvb10 := dp_ex (n9.gg.trans n10.gg) hvb8
      have hvc10 := dp_ex (n9.gg.trans n10.gg) hvc8
      refine qd_setR (j := 3) (i := S) (x := one.2) (d := eEnd (Th, other.2)) rfl g10 (ed_tup (ea_cons (ed_nVar (n := Th) (i := 9) rfl) (ea_cons (ed_snd (p := other) (ed_var (i := 6) rfl hvc10)) ea_nil))) (ed_nVar (i := 8) rfl) (ed_snd (p := one) (ed_var (i := 5) rfl hvb10)) n10'.gh (md_get q1) (by rw [List.length_map]; exact q2) fun p xs G11 H11 n11 hp g11 o11 e11 => ?_
      rw [md_set] at g11
      have fp : H p = none := fresh_back (Ex.refl _) (f2 p (List.mem_cons_of_mem _ hp))
      have n11' := (n10'.tr n11).mut fp o11 (o := .lst xs)
      refine sd_setR (j := 3) (i := Th) (x := other.2) (d := eEnd (S, one.2)) rfl g11 (ed_tup (ea_cons (ed_nVar (n := S) (i := 8) rfl) (ea_cons (ed_snd (p := one) (ed_var (i := 5) rfl (dp_ex n11.gg hvb10))) ea_nil))) (ed_nVar (i := 9) rfl) (ed_snd (p := other) (ed_var (i := 6) rfl (dp_ex n11.gg hvc10))) e11 (md_get q3) (by rw [List.length_map]; exact q4) fun p' xs' G12 H12 n12 hp' g12 o12 e12 => ?_
      rw [md_set] at g12
      have fp' : H p' = none := fresh_back (Ex.refl _) (f2 p' (List.mem_cons_of_mem _ hp'))
      exact ⟨G12, ((e7.trans n8.gg).trans (n9.gg.trans n10.gg)).trans (n11.gg.trans n12.gg), e12, _, _, _, _, rfl, g12, q5, (n11'.tr n12).mut fp' o12⟩
    · rintro G6 σ6 H6 e6 e7 ⟨M, y7, y8, y9, rfl, g6, sh, n6⟩
      rw [List.length_range] at sh
      exact ⟨G6, (e3.trans n5.gg).trans e6, e7, M, _, _, _, _, _, _, rfl, g6, sh.next (k := 0) T, n6⟩
  · rintro G3 σ3 H3 e2 e3 ⟨M, y4, y5, y6, y7, y8, y9, rfl, g3, sh, n3⟩
    rw [List.length_zipIdx] at sh
    obtain ⟨j1, j2, j3⟩ := g3.join e3
    have hU := sh_ok W T htl hm h6 sh
    have hUl : (shU M).length = many * u.length := by unfold shU; rw [List.length_map, sh.len]
    refine sd_ret (d := eWeb (shU M)) (ed_is (ed_tupOfL (ed_lcm (M.map fun r => r.map eOp) PyData.list PyData.tuple (ei_list (ed_var (i := 3) rfl j3)) (by rw [List.length_map, sh.len]; omega) fun i a ha x G5 H5 e5 e6 hx Q q => q _ rfl (ed_tupOfL (ed_var (i := 11) rfl hx)))) ?_) j2 fun v6 G6 H6 n6 h6' => k v6 (shU M) G6 H6 hU hUl ((n3.joinLL g3 f2).tr n6) h6'
    unfold eWeb
    congr 1
    refine List.ext_getElem? fun R => ?_
    rw [List.getElem?_map, List.getElem?_map]
    unfold shU
    rw [List.map_map, List.getElem?_map]
    cases hq : M[R]? with
    | none => rfl
    | some row =>
      have hRl := (List.getElem?_eq_some_iff.mp hq).1
      rw [sh.len] at hRl
      have hrow : M.getD R [] = row := by rw [List.getD_eq_getElem?_getD, hq]; rfl
      have hrl := sh.row R hRl
      rw [hrow] at hrl
      have : row.map eOp = (row.map fun o => o.getD (0, 0)).map eEnd := by
        rw [List.map_map]
        refine List.map_congr_left fun o ho => ?_
        obtain ⟨d, hd'⟩ := List.mem_iff_getElem?.mp ho
        have hdl := (List.getElem?_eq_some_iff.mp hd').1
        have hf := sh.full W T htl hRl (d := d) (by omega)
        unfold mget at hf
        rw [hrow, List.getD_eq_getElem?_getD, hd'] at hf
        cases o with
        | none => exact absurd rfl hf
        | some p => rfl
      simp only [Option.map_some, Function.comp]
      rw [this]
      rfl
end
end Wk
/-! WP18 -/
/-! The box. -/
namespace Wk
open PySem L2 Evl
section
variable {P : Program} {w : World} {K : PySem.W.Frag} {σ : L2.St} {G H G0 H0 G1 J : Hp} {b l : Addr} {te ta tb : TE}
theorem BoxAt.some {c : Nat} (B : BoxAt H b c) : ∃ o, H b = some o := by
  obtain ⟨x, y, z, h, _⟩ := B
  exact ⟨_, h⟩
theorem BoxAt.ex {c : Nat} (B : BoxAt H b c) (e : Ex H J) : BoxAt J b c := by
  obtain ⟨x, y, z, h, r⟩ := B
  exact ⟨x, y, z, e _ _ h, r⟩
theorem BoxAt.up {c : Nat} {o : HO} (B : BoxAt H b c) (h : b ≠ l) : BoxAt (upd H l o) b c := by
  obtain ⟨x, y, z, h', r⟩ := B
  exact ⟨x, y, z, by rw [upd_ne h]; exact h', r⟩
theorem BoxAt.le {c c' : Nat} (B : BoxAt H b c) (h : c ≤ c') : BoxAt H b c' := by
  obtain ⟨x, y, z, h', r1, r2, r3, r4, r5⟩ := B
  exact ⟨x, y, z, h', r1, r2, r3, r4, by omega⟩
theorem ex_xb (e : Ex G H) (o : G b = none) (x : Exb b H J) : Ex G J := fun a u h => x a u (fun z => by rw [z, o] at h; cases h) (e a u h)
theorem Nx.refl (e : Ex G H) (o : G b = none) : Nx b G H G H := ⟨Ex.refl G, e, fun _ _ _ h => h, fun _ h _ => h, o⟩
theorem Nx.trans (m : Nx b G0 H0 G H) (n : Nx b G H G1 J) : Nx b G0 H0 G1 J :=
  ⟨m.gg.trans n.gg, n.gh, fun a o h1 h2 => n.xb a o h1 (m.xb a o h1 h2), fun a h1 h2 => by
    by_cases e : a = b
    · rw [e]; exact n.ob
    · obtain ⟨o, ho⟩ := Option.ne_none_iff_exists'.mp h2
      exact n.fr a (m.fr a h1 h2) (by rw [m.xb a o e ho]; simp), n.ob⟩
theorem Nx.ofNw (n : Nw G H G1 J) (o : G b = none) (hb : ∃ o, H b = some o) : Nx b G H G1 J := ⟨n.gg, n.gh, fun a o _ h => n.hh a o h, n.fr, n.fr b o (by obtain ⟨u, hu⟩ := hb; rw [hu]; simp)⟩
theorem Nx.nw {c : Nat} (m : Nx b G0 H0 G H) (B : BoxAt H b c) (n : Nw G H G1 J) : Nx b G0 H0 G1 J := m.trans (Nx.ofNw n m.ob B.some)
theorem Nx.keep (n : Nx b G H G1 J) {m : Addr} {o : HO} (hm : m ≠ b) (h1 : G m = none) (h2 : H m = some o) : G1 m = none ∧ J m = some o := ⟨n.fr m h1 (by rw [h2]; simp), n.xb m o hm h2⟩
theorem Nx.mut {o : HO} (n : Nx b G0 H0 G H) (h0 : H0 l = none) (hg : G l = none) : Nx b G0 H0 G (upd H l o) := ⟨n.gg, Ex.mut n.gh hg, fun a u h1 h2 => by
  have : a ≠ l := fun z => by rw [z, h0] at h2; cases h2
  rw [upd_ne this]; exact n.xb a u h1 h2, n.fr, n.ob⟩
theorem Nx.out {o : HO} (n : Nx b G0 H0 G H) (h : H l = none) (hb : b ≠ l) : Nx b G0 H0 G (upd H l o) := ⟨n.gg, n.gh.trans (Ex.new h), fun a u h1 h2 => Ex.new h a u (n.xb a u h1 h2), n.fr, n.ob⟩
theorem Nx.add {o : HO} (n : Nx b G0 H0 G H) (h1 : G l = none) (h2 : H0 l = none) (h3 : H l = some o) (hb : l ≠ b) : Nx b G0 H0 (upd G l o) H := ⟨n.gg.trans (Ex.new h1), ex_upd n.gh h3, n.xb, fun a q1 q2 => by
  have : a ≠ l := fun z => q2 (z ▸ h2)
  rw [upd_ne this]; exact n.fr a q1 q2, by rw [upd_ne (Ne.symm hb)]; exact n.ob⟩
theorem Nx.hx {c : Nat} (n : Nx b G0 H0 G H) (e : Ex H J) : Nx b G0 H0 G J := ⟨n.gg, n.gh.trans e, fun a o h1 h2 => e a o (n.xb a o h1 h2), n.fr, n.ob⟩
/-- nothing fresh before is taken by what stands at b -/
theorem Nx.back (n : Nx b G0 H0 G H) (hb : l ≠ b) (h : H l = none) : H0 l = none := by
  cases q : H0 l with
  | none => rfl
  | some o => rw [n.xb l o hb q] at h; cases h
theorem Gr.nx {ds : List PyData} {xs : List V} (g : Gr K G H l ds xs) (hb : l ≠ b) (n : Nx b G H G1 J) : Gr K G1 J l ds xs := ⟨(n.keep hb g.out g.at_).1, (n.keep hb g.out g.at_).2, dps_ex n.gg g.ok⟩
theorem LL.nx {ps : List Addr} {dss : List (List PyData)} (g : LL K G H l ps dss) (hb : b ∉ l :: ps) (n : Nx b G H G1 J) : LL K G1 J l ps dss := g.keep n.gg fun a o ha h1 h2 => n.keep (fun z => hb (z ▸ ha)) h1 h2
/-- a call of take -/
theorem tk_take {c many j : Nat} (hj : σ[j]? = some (some (.ref b))) (h : EdH K te σ G H (nI many)) (B : BoxAt H b c) (ob : G b = none) (hc : c ≤ 100000) (hm : 0 < many) (hm' : many ≤ 1000000) {Q : VK}
    (k : ∀ (r : Nat) G1 J, r < many → Nx b G H G1 J → BoxAt J b (c + 1) → Q (.int (r : Int)) J) : tCall (S_Ltake P w K) [] E0 (tCons (tVar j) (tCons te tNil)) σ H Q :=
  ⟨_, hj, h _ fun v G1 H1 n1 hv => by
    obtain rfl := dp_nI hv
    have n := Nx.ofNw n1 ob B.some
    exact ⟨b, c, many, rfl, B.ex n1.hh, hc, hm, hm', fun r J hr xb B' => k r G1 J hr ⟨n.gg, ex_xb n.gh n.ob xb, fun a o h1 h2 => xb a o h1 (n.xb a o h1 h2), n.fr, n.ob⟩ B'⟩⟩
/-! whole numbers at one heap -/
def Ev (te : TE) (σ : L2.St) (H : Hp) (i : Int) : Prop := ∀ Q : VK, Q (.int i) H → te σ H Q
theorem ev_c {i : Int} : Ev (tC (.int i)) σ H i := fun Q q => q
theorem ev_v {i : Int} {j : Nat} (h : σ[j]? = some (some (.int i))) : Ev (tVar j) σ H i := fun Q q => ⟨_, h, q⟩
theorem ev_bx {xs : List V} {i v : Int} {j : Nat} (hj : σ[j]? = some (some (.ref b))) (hb : H b = some (.lst xs)) (h : Ev tb σ H i) (hv : atI xs i = some (.int v)) : Ev (tOp (rIx K) (tVar j) tb) σ H v := fun Q q => ⟨_, hj, h _ (.inl ⟨b, xs, i, .int v, rfl, rfl, sq_of hb, hv, q⟩)⟩
theorem ev_0 {g : Int → Int → V} {i j r : Int} (ha : Ev ta σ H i) (hb : Ev tb σ H j) (hg : g i j = .int r) : Ev (tOp (rI0 g) ta tb) σ H r := fun Q q => ha _ (hb _ ⟨i, j, rfl, rfl, by rw [hg]; exact q⟩)
theorem ev_I {C : Int → Int → Prop} {g : Int → Int → V} {i j r : Int} (ha : Ev ta σ H i) (hb : Ev tb σ H j) (hc : C i j) (hg : g i j = .int r) : Ev (tOp (rI C g) ta tb) σ H r := fun Q q => ha _ (hb _ ⟨i, j, rfl, rfl, hc, by rw [hg]; exact q⟩)
theorem ev_ed {i : Int} (h : Ev te σ H i) (e : Ex G H) : EdH K te σ G H (.int i) := fun Q q => h _ (q _ G H (Nw.refl e) (.int i))
end
section
variable {P : Program} {w : World} {K : PySem.W.Frag} {vs : List V} {H : Hp} {Q : VK} {E : XK}
theorem xb_upd {b : Addr} {H : Hp} {o : HO} : Exb b H (upd H b o) := fun a u h1 h2 => by rw [upd_ne h1]; exact h2
theorem xb_trans {b : Addr} {H J L : Hp} (x : Exb b H J) (y : Exb b J L) : Exb b H L := fun a o h1 h2 => y a o h1 (x a o h1 h2)
theorem xb_ex {b : Addr} {H J : Hp} (e : Ex H J) : Exb b H J := fun a o _ h => e a o h
theorem fmod_lt {i : Int} {n : Int} (h : 0 < n) : 0 ≤ i.fmod n ∧ i.fmod n < n := by
  rw [Int.fmod_eq_emod_of_nonneg _ (by omega)]
  exact ⟨Int.emod_nonneg _ (by omega), Int.emod_lt_of_pos _ h⟩
section
variable {σ : L2.St} {H : Hp} {ta tb te : TE} {tz : TS} {D : Ends} {b : Addr}
theorem ev_add {i j : Int} (ha : Ev ta σ H i) (hb : Ev tb σ H j) : Ev (tOp (rI0 fun i j => .int (i + j)) ta tb) σ H (i + j) := ev_0 ha hb rfl
theorem ev_mul {i j : Int} (ha : Ev ta σ H i) (hb : Ev tb σ H j) (hc : CMul i j) : Ev (tOp (rI CMul fun i j => .int (i * j)) ta tb) σ H (i * j) := ev_I ha hb hc rfl
theorem ev_mod {i j : Int} (ha : Ev ta σ H i) (hb : Ev tb σ H j) (hc : j ≠ 0) : Ev (tOp (rI (fun _ j => j ≠ 0) fun i j => .int (i.fmod j)) ta tb) σ H (i.fmod j) := ev_I ha hb hc rfl
theorem ev_div {i j : Int} (ha : Ev ta σ H i) (hb : Ev tb σ H j) (hc : CDiv i j) : Ev (tOp (rI CDiv fun i j => .int (i / j)) ta tb) σ H (i / j) := ev_I ha hb hc rfl
theorem qd_bset {xs : List V} {v i : Int} {j : Nat} (hj : σ[0]? = some (some (.ref b))) (hb : H b = some (.lst xs)) (h : Ev te σ H v) (hi : ixN xs.length i = some j) (k : tz D σ (upd H b (.lst (xs.set j (.int v))))) : tSeq (tAsg te (gSub (tVar 0) (tC (.int i)) rSetL)) tz D σ H :=
  h _ ⟨_, hj, b, xs, i, j, rfl, rfl, hb, hi, k⟩
theorem qd_whenE {tt : TT} {tu : TS} {b : Bool} (h : ∀ Q : Bool → Hp → Prop, Q b H → tt σ H Q) (h1 : b = true → tu { D with nx := tz D } σ H) (h2 : b = false → tz D σ H) : tSeq (tIfS tt tu tNext) tz D σ H := h _ (by
  cases b with
  | true =>
    show tu { D with nx := tz D } σ H
    exact h1 rfl
  | false =>
    show tNext { D with nx := tz D } σ H
    exact h2 rfl)
theorem qd_asgE {v : Int} {i : Nat} (h : Ev te σ H v) (k : tz D (σ.set i (some (.int v))) H) : tSeq (tAsg te (gName i)) tz D σ H := h _ k
end
theorem rd_Ltake (h : S_Ltake P w K vs H Q E) : t_Ltake P w K (Dd Q) (st0 4 vs) H := by
  obtain ⟨b, c, many, rfl, ⟨x, y, z, hb, hx, hy, hy', hz, hzc⟩, hc, hm, hm', k⟩ := h
  show t_Ltake P w K (Dd Q) [some (.ref b), some (.int (many : Int)), none, none] H
  unfold t_Ltake
  have g0 : ∀ σ : L2.St, σ[0]? = some (some (.ref b)) → Ev (tOp (rIx K) (tVar 0) (tC (.int 0))) σ H x := fun σ hσ => ev_bx hσ hb ev_c rfl
  refine qd_whenE (b := decide (0 < x)) (fun Q q => g0 _ rfl _ ⟨x, 0, rfl, rfl, _, rfl, q⟩) (fun hpos => ?_) (fun hpos => ?_)
  · have hpos := of_decide_eq_true hpos
    refine ⟨_, rfl, ?_⟩
    show rIx K _ _ H _
    refine .inl ⟨b, _, 0, .int x, rfl, rfl, sq_of hb, rfl, ?_⟩
    refine ⟨_, rfl, x, (many : Int), rfl, ⟨by omega, by omega⟩, fun p hp => ?_⟩
    have hbp : b ≠ p := fun e => by rw [e, hp] at hb; cases hb
    refine ⟨p, _, rfl, st_of upd_same, rfl, _, _, rfl, ?_⟩
    refine ⟨_, rfl, b, _, 0, 0, rfl, rfl, by rw [upd_ne hbp]; exact hb, rfl, ?_⟩
    refine ⟨_, _, rfl, ?_⟩
    refine ⟨rfl, ?_⟩
    refine ⟨_, rfl, ?_⟩
    have hr : 0 ≤ x % (many : Int) ∧ x % (many : Int) < many := ⟨Int.emod_nonneg _ (by omega), Int.emod_lt_of_pos _ (by omega)⟩
    have e : x % (many : Int) = ((x % (many : Int)).toNat : Int) := by omega
    rw [e]
    refine k _ _ (by omega) (xb_trans (xb_ex (Ex.new hp)) xb_upd) ⟨x / many, y, z, upd_same, Int.ediv_nonneg hx (by omega), hy, hy', hz, by omega⟩
  · have hpos := of_decide_eq_false hpos
    have g2 : Ev (tOp (rIx K) (tVar 0) (tC (.int 2))) [some (.ref b), some (.int (many : Int)), none, none] H z := ev_bx rfl hb ev_c rfl
    refine qd_bset (j := 2) rfl hb (ev_add g2 ev_c) rfl ?_
    have hb1 : (upd H b (.lst ([.int x, .int y, .int z].set 2 (.int (z + 1))))) b = some (.lst [.int x, .int y, .int (z + 1)]) := upd_same
    generalize hH1 : upd H b (.lst ([.int x, .int y, .int z].set 2 (.int (z + 1)))) = H1 at *
    have x1 : Exb b H H1 := by rw [← hH1]; exact xb_upd
    have y1 : Ev (tOp (rIx K) (tVar 0) (tC (.int 1))) [some (.ref b), some (.int (many : Int)), none, none] H1 y := ev_bx rfl hb1 ev_c rfl
    have z1 : Ev (tOp (rIx K) (tVar 0) (tC (.int 2))) [some (.ref b), some (.int (many : Int)), none, none] H1 (z + 1) := ev_bx rfl hb1 ev_c rfl
    refine qd_asgE (ev_mod (ev_mul (ev_add y1 (ev_mul ev_c z1 (.inl ⟨by decide, by decide⟩))) (ev_add ev_c z1) (.inr ⟨by omega, by omega⟩)) ev_c (by decide)) ?_
    obtain ⟨o1, o2⟩ := fmod_lt (i := (y + 39373 * (z + 1)) * (48271 + (z + 1))) (n := 2147483647) (by decide)
    generalize ((y + 39373 * (z + 1)) * (48271 + (z + 1))).fmod 2147483647 = o at *
    show tSeq _ _ _ [some (.ref b), some (.int (many : Int)), none, some (.int o)] H1
    have z2 : Ev (tOp (rIx K) (tVar 0) (tC (.int 2))) [some (.ref b), some (.int (many : Int)), none, some (.int o)] H1 (z + 1) := ev_bx rfl hb1 ev_c rfl
    obtain ⟨m1, m2⟩ := fmod_lt (i := o) (n := 40009) (by decide)
    refine qd_bset (j := 1) rfl hb1 (ev_mod (ev_add (ev_mul (ev_v (i := o) (j := 3) rfl) (ev_add (ev_mod (ev_v (i := o) (j := 3) rfl) ev_c (by decide)) ev_c) (.inl ⟨by omega, by omega⟩)) z2) ev_c (by decide)) rfl ?_
    obtain ⟨q1, q2⟩ := fmod_lt (i := o * (o.fmod 40009 + 7) + (z + 1)) (n := 2147483629) (by decide)
    generalize (o * (o.fmod 40009 + 7) + (z + 1)).fmod 2147483629 = q at *
    have hb2 : (upd H1 b (.lst ([.int x, .int y, .int (z + 1)].set 1 (.int q)))) b = some (.lst [.int x, .int q, .int (z + 1)]) := upd_same
    generalize hH2 : upd H1 b (.lst ([.int x, .int y, .int (z + 1)].set 1 (.int q))) = H2 at *
    have x2 : Exb b H H2 := by rw [← hH2]; exact xb_trans x1 xb_upd
    have y2 : Ev (tOp (rIx K) (tVar 0) (tC (.int 1))) [some (.ref b), some (.int (many : Int)), none, some (.int o)] H2 q := ev_bx rfl hb2 ev_c rfl
    obtain ⟨n1, n2⟩ := fmod_lt (i := q) (n := 1009) (by decide)
    refine (ev_mod (ev_div (ev_mod (ev_mul y2 (ev_add (ev_mod y2 ev_c (by decide)) ev_c) (.inl ⟨by omega, by omega⟩)) ev_c (by decide)) ev_c ⟨by decide, by decide⟩) (ev_v (i := (many : Int)) (j := 1) rfl) (by omega)) _ ?_
    obtain ⟨r1, r2⟩ := fmod_lt (i := (q * (q.fmod 1009 + 3)).fmod 998244353 / 7) (n := (many : Int)) (by omega)
    generalize ((q * (q.fmod 1009 + 3)).fmod 998244353 / 7).fmod (many : Int) = r at *
    have e : r = (r.toNat : Int) := by omega
    rw [e]
    exact k _ _ (by omega) x2 ⟨x, q, z + 1, hb2, hx, q1, by omega, by omega, by omega⟩
theorem rd_Lbox (h : S_Lbox P w K vs H Q E) : t_Lbox P w K (Dd Q) (st0 3 vs) H := by
  obtain ⟨a, ns, kk, rfl, ha, hl, hk, k⟩ := h
  show t_Lbox P w K (Dd Q) [some (.ref a), some (.int (kk : Int)), none] H
  unfold t_Lbox
  have e0 : Ex (fun _ => none) H := fun a o h => by cases h
  have hR : EdF K (tOp rRep (tLst (tCons (tC (.int 0)) tNil)) (tOp (rI0 fun i j => .int (i + j)) (tVar 1) (tC (.int 1)))) [some (.ref a), some (.int (kk : Int)), none] (fun _ => none) (List.replicate (kk + 1) (.int 0)) :=
    ef_rep (n := kk + 1) (ef_lst (ea_cons ed_int ea_nil)) (ed_is (ed_add (ed_nVar (n := kk) (i := 1) rfl) (ed_int (i := 1))) (by show PyData.int _ = .int _; congr 1)) (by omega)
  refine qd_asgR ⟨_, rfl, hR H e0 _ fun p xs G1 H1 n1 o1 f1 at1 hx1 => ?_⟩
  have hxl := dps_len hx1
  rw [List.length_replicate] at hxl
  refine ⟨a, p, _, xs, rfl, rfl, n1.hh _ _ ha, at1, sz8 (by rw [List.length_map]; omega), fun q hq => ⟨_, rfl, ?_⟩⟩
  have hxi : ∃ cs : List Int, xs = cs.map V.int := ⟨List.replicate (kk + 1) 0, dps_ints_inv (by rw [List.map_replicate]; exact hx1)⟩
  obtain ⟨cs, rfl⟩ := hxi
  rw [List.length_map] at hxl
  have hlt : kk < (ns ++ cs).length := by rw [List.length_append]; omega
  refine .inl ⟨q, (ns ++ cs).map V.int, (kk : Int), .int ((ns ++ cs)[kk]), rfl, rfl, sq_of (by rw [upd_same, List.map_append]), ?_, ?_⟩
  · unfold atI
    rw [ixn (by rw [List.length_map]; exact hlt)]
    show ((ns ++ cs).map V.int)[kk]? = _
    rw [List.getElem?_map, List.getElem?_eq_getElem hlt]
    rfl
  generalize (ns ++ cs)[kk] = cell
  have ee : Ex H (upd H1 q (.lst (ns.map V.int ++ cs.map V.int))) := n1.hh.trans (Ex.new hq)
  generalize upd H1 q (.lst (ns.map V.int ++ cs.map V.int)) = H2 at *
  have e2 : Ex (fun _ => none) H2 := fun a o h => by cases h
  show tRet _ _ [some (.ref a), some (.int (kk : Int)), some (.int cell)] H2
  have hcell : Ed K (tVar 2) [some (.ref a), some (.int (kk : Int)), some (.int cell)] (fun _ => none) (.int cell) := ed_var rfl (.int cell)
  have hkk : Ed K (tVar 1) [some (.ref a), some (.int (kk : Int)), some (.int cell)] (fun _ => none) (.int kk) := ed_var rfl (.int _)
  have habs := ed_abs hcell
  refine sd_retF (ef_lst (ea_cons (ed_mul habs (ed_intB (ed_ge habs (ed_opI (C := CPow) (g := fun i j => .int (i ^ j.toNat)) (d := .int (10 ^ 18)) ed_int ed_int ⟨by decide, by decide, by decide⟩ fun _ => .int _))) (.inr ?_)) (ea_cons (ed_opI (ed_mul (ed_add (ed_add (ed_opI (d := .int (cell.fmod 2147483647)) hcell ed_int (by decide) fun _ => .int _) (ed_mul (ed_int (i := 7919)) hkk (.inl ⟨by decide, by decide⟩))) (ed_int (i := 11))) (ed_int (i := 48271)) (.inr ⟨by decide, by decide⟩)) (ed_int (i := 2147483629)) (by decide) fun _ => .int _) (ea_cons ed_int ea_nil)))) e2 fun p ys G3 H3 n3 o3 f3 at3 hy3 => ?_
  · have hb : ∀ b : Bool, -(2 ^ 64 : Int) < (if b = true then (1 : Int) else 0) ∧ (if b = true then (1 : Int) else 0) < 2 ^ 64 := fun b => by cases b <;> decide
    exact hb _
  · have hys : ys = [_, _, _].map V.int := dps_ints_inv (ns := [_, _, _]) hy3
    subst hys
    refine k p H3 (fresh_back ee f3) (ee.trans n3.hh) ⟨_, _, _, at3, ?_, (fmod_lt (by decide)).1, ?_, by decide, by decide⟩
    · refine Int.mul_nonneg ?_ ?_
      · split <;> omega
      · have hb : ∀ b : Bool, (0 : Int) ≤ (if b = true then (1 : Int) else 0) := fun b => by cases b <;> decide
        exact hb _
    · have := (fmod_lt (i := (cell.fmod 2147483647 + 7919 * (kk : Int) + 11) * 48271) (n := 2147483629) (by decide)).2
      omega
end
end Wk
/-! WP19 -/
namespace Wk
open PySem L2 Evl
section
variable {P : Program} {w : World} {K : PySem.W.Frag} {vs : List V} {H : Hp} {Q : VK} {E : XK}
/-- what stands at a, alone -/
def only (H : Hp) (a : Addr) : Hp := fun x => if x = a then H x else none
theorem only_ex {H : Hp} {a : Addr} : Ex (only H a) H := fun x o h => by
  unfold only at h
  split at h
  · exact h
  · cases h
theorem only_sq {H : Hp} {a : Addr} {xs : List V} (h : SqL K H a xs) : SqL K (only H a) a xs := by
  rcases h with h | h
  · refine .inl ?_
    unfold Rd only at *
    simpa using h
  · exact .inr h
theorem cutD_from (xs : List PyData) (m n : Nat) : cutD xs (some (m : Int)) (some (n : Int)) = (xs.drop (min m xs.length)).take (min n xs.length - min m xs.length) := by
  unfold cutD
  rw [show HT.sIx xs.length 0 (some (m : Int)) = min m xs.length from HT.sIx_nat xs.length 0 m, show HT.sIx xs.length xs.length (some (n : Int)) = min n xs.length from HT.sIx_nat xs.length xs.length n]
theorem rd_Lfolded (h : S_Lfolded P w K vs H Q E) : t_Lfolded P w K (Dd Q) (st0 5 vs) H := by
  obtain ⟨a, ns, rfl, hs, hl, k⟩ := h
  show t_Lfolded P w K (Dd Q) [some (.ref a), some (.int 5), none, none, none] H
  unfold t_Lfolded
  have e0 := only_ex (H := H) (a := a)
  have hd : Dp K (only H a) (.ref a) (.list (ns.map PyData.int)) := .lst (only_sq hs) (dps_ints ns)
  have hv : ∀ σ : L2.St, σ[0]? = some (some (.ref a)) → Ed K (tVar 0) σ (only H a) (.list (ns.map PyData.int)) := fun σ hσ => ed_var hσ hd
  have h5 : ∀ σ : L2.St, σ[1]? = some (some (.int 5)) → Ed K (tVar 1) σ (only H a) (.int (5 : Nat)) := fun σ hσ => ed_var hσ (.int _)
  generalize hG : only H a = G at *
  refine qd_asgF (ds := (ns.take 5).map PyData.int) (K := K) (by
    have := ef_listOfL (ed_ofF (ef_sl (hv [some (.ref a), some (.int 5), none, none, none] rfl) (eo_non (K := K)) (eo_int (h5 [some (.ref a), some (.int 5), none, none, none] rfl))))
    rw [cutD_to, ← List.map_take] at this
    exact this) e0 fun p xs G1 H1 n1 o1 f1 at1 hx1 => ?_
  show tSeq _ _ _ [some (.ref a), some (.int 5), some (.ref p), none, none] H1
  have hxs := dps_ints_inv hx1
  subst hxs
  have hrest : cutD (ns.map PyData.int) (some ((5 : Nat) : Int)) (some ((63 : Nat) : Int)) = (ns.drop 5).map PyData.int := by
    rw [cutD_from, List.length_map, List.map_drop]
    rw [Nat.min_eq_right (show ns.length ≤ 63 by omega)]
    by_cases h : 5 ≤ ns.length
    · rw [Nat.min_eq_left h, List.take_of_length_le (by simp)]
    · rw [Nat.min_eq_right (by omega), Nat.sub_self, List.take_zero]
      rw [List.drop_of_length_le (by simp; omega)]
  have hsl := ed_ofF (ef_sl ((hv [some (.ref a), some (.int 5), some (.ref p), none, none] rfl).mono n1.gg) (eo_int ((h5 [some (.ref a), some (.int 5), some (.ref p), none, none] rfl).mono n1.gg)) (eo_int (ed_int (K := K) (i := ((63 : Nat) : Int)))))
  rw [hrest] at hsl
  refine qd_for (ns.drop 5).zipIdx (fun q => .tuple [nI q.2, .int q.1]) (by
      rw [← enumD_map]
      exact ei_enum hsl) n1.gh
    (fun i G2 σ2 H2 => ∃ (cs : List Int) (y3 y4 : Option V), σ2 = [some (.ref a), some (.int 5), some (.ref p), y3, y4] ∧ H2 p = some (.lst (cs.map V.int)) ∧ cs.length = (ns.take 5).length ∧ G2 p = none ∧ Nw G H G2 H2)
    (fun G2 H2 n2 => ⟨ns.take 5, none, none, rfl, (n2.keep o1 at1).2, rfl, (n2.keep o1 at1).1, n1.tr n2⟩) ?_ ?_
  · rintro G2 i ⟨cell, i'⟩ G3 σ3 H3 e2 hi e3 e4 ⟨cs, y3, y4, rfl, hp3, hcl, o3, n3⟩ x G4 H4 n4 hx
    obtain ⟨rfl, hn⟩ := zipIdx_some hi
    dsimp only at hn
    refine gt2n hx n4.gh fun va vb hva hvb => ?_
    obtain rfl := dp_nI hva
    obtain rfl := dp_int_inv hvb
    show tAsg _ _ _ [some (.ref a), some (.int 5), some (.ref p), some (.int (i' : Int)), some (.int cell)] H4
    have h5l : cs.length = 5 := by
      have := (List.getElem?_eq_some_iff.mp hn).1
      rw [List.length_drop] at this
      rw [hcl, List.length_take]
      omega
    obtain ⟨o4, hp4⟩ := n4.keep o3 hp3
    have hlt : i' % 5 < cs.length := by omega
    have hidx : ∀ Gx, Ed K (tOp (rI (fun _ j => j ≠ 0) fun i j => .int (i.fmod j)) (tVar 3) (tVar 1)) [some (.ref a), some (.int 5), some (.ref p), some (.int (i' : Int)), some (.int cell)] Gx (nI (i' % 5)) := fun Gx => ed_modN (n := 5) (ed_nVar (n := i') (i := 3) rfl) (ed_var (i := 1) rfl (.int _)) (by decide) (by omega)
    have hdp : Dp K (upd G4 p (.lst (cs.map V.int))) (.ref p) (.list (cs.map PyData.int)) := .lst (sq_of upd_same) (dps_ints cs)
    have hcell : Ed K (tOp (rIx K) (tVar 2) (tOp (rI (fun _ j => j ≠ 0) fun i j => .int (i.fmod j)) (tVar 3) (tVar 1))) [some (.ref a), some (.int 5), some (.ref p), some (.int (i' : Int)), some (.int cell)] (upd G4 p (.lst (cs.map V.int))) (.int cs[i' % 5]) :=
      ed_ixLn (ed_var (i := 2) rfl hdp) (hidx _) (by rw [List.getElem?_map, List.getElem?_eq_getElem hlt]; rfl)
    refine sd_set (K := K) (j := 2) (i := i' % 5) rfl hp4 (ed_add hcell (ed_mul (ed_var (i := 4) rfl (.int cell)) (ed_add (ed_nVar (n := i') (i := 3) rfl) (ed_int (i := 2))) (.inr ⟨by omega, ?_⟩))) (ex_upd n4.gh hp4) (hidx G4) n4.gh (by rw [List.length_map]; exact hlt) fun v G5 H5 n5 hv H6 e6 => ?_
    · have := (List.getElem?_eq_some_iff.mp hn).1
      rw [List.length_drop] at this
      have : (i' : Int) + 2 ≤ 100 := by omega
      have h2 : (100 : Int) < 2 ^ 64 := by decide
      omega
    · obtain rfl := dp_int_inv hv
      refine ⟨G4, e3.trans n4.gg, Ex.mut ((n4.gh.trans n5.hh).trans e6) o4, cs.set (i' % 5) _, _, _, rfl, by rw [upd_same, List.map_set], by rw [List.length_set]; exact hcl, o4, ((n3.tr n4).hx (n5.hh.trans e6)).mut f1 o4⟩
  · rintro G2 σ2 H2 e2 e3 ⟨cs, y3, y4, rfl, hp2, hcl, o2, n2⟩
    exact ⟨_, rfl, k p H2 cs f1 n2.hh hp2 (by rw [hcl, List.length_take]; omega)⟩
theorem qd_asgOp {σ : L2.St} {H : Hp} {r : R2} {ta tb : TE} {g : TG} {tz : TS} {D : Ends} (h : ta σ H fun x H1 => tb σ H1 fun y H2 => r x y H2 fun v H3 => g v σ H3 (tz D)) : tSeq (tAsg (tOp r ta tb) g) tz D σ H := h
theorem gt3n {x : V} {i j m : Nat} {σ : L2.St} {G H : Hp} {Q : L2.St → Hp → Prop} {d1 d2 d3 : PyData} (h : Dp K G x (.tuple [d1, d2, d3])) (e : Ex G H) (k : ∀ v w z, Dp K G v d1 → Dp K G w d2 → Dp K G z d3 → Q (((σ.set i (some v)).set j (some w)).set m (some z)) H) : gTup K 3 (gCons (gName i) (gCons (gName j) (gCons (gName m) gNil))) x σ H Q := by
  obtain ⟨p, xs, rfl, hs, hd⟩ := dp_tup_inv h
  cases hd with
  | cons h1 t =>
    cases t with
    | cons h2 t =>
      cases t with
      | cons h3 t =>
        cases t
        exact ⟨p, _, rfl, ex_t e hs, rfl, _, _, rfl, _, _, rfl, _, _, rfl, rfl, k _ _ _ h1 h2 h3⟩
theorem rd_Lbent (h : S_Lbent P w K vs H Q E) : t_Lbent P w K (Dd Q) (st0 7 vs) H := by
  obtain ⟨G, b, c, x, st, rfl, e, ob, B, hc, hl, hx, k⟩ := h
  show t_Lbent P w K (Dd Q) [some (.ref b), some x, none, none, none, none, none] H
  unfold t_Lbent
  refine qd_asgF (ef_listOfT (ed_ixTn (j := 1) (ed_var (i := 1) rfl hx) ed_int rfl)) e fun l xs G1 H1 n1 o1 f1 at1 hx1 => ?_
  show tSeq _ _ _ [some (.ref b), some x, some (.ref l), none, none, none, none] H1
  have lb : l ≠ b := fun z => by
    obtain ⟨o, ho⟩ := B.some
    rw [z, ho] at f1
    cases f1
  have r1 : Gr K G1 H1 l (st.2.map eStep) xs := ⟨o1, at1, hx1⟩
  have B1 := B.ex n1.hh
  have nx1 := Nx.ofNw n1 ob B.some
  have test : EtH (tTest (tOp (rEqD K) (tVar 2) (tLst tNil))) [some (.ref b), some x, some (.ref l), none, none, none, none] G1 H1 (decide (st.2 = [])) := by
    obtain ⟨j1, j2, j3⟩ := r1.join n1.gh
    have pl1 : Pl 2 (.list (st.2.map eStep)) := pl_lst (pl_map st.2 fun x _ => pl_eStep x)
    have pl2 : Pl 1 (.list []) := pl_lst (by simp)
    refine EtH.drop (o := .lst xs) (EdT.at (et_eq (et_test (ed_eqD (ed_var (i := 2) rfl j3) (ed_lst ea_nil) (pl_shaped pl1) (pl_shaped pl2))) ?_) j2) o1
    by_cases z : st.2 = []
    · rw [decide_eq_true z]
      exact eqv_same pl1 pl2 (by rw [z]; rfl)
    · rw [decide_eq_false z]
      exact eqv_other pl1 pl2 fun y => z (by simpa using y)
  refine qd_whenH test (fun hb G2 H2 n2 => ?_) (fun hb G2 H2 n2 => ?_)
  · have hz := of_decide_eq_true hb
    have hx2 := dp_ex (n1.gg.trans n2.gg) hx
    refine sd_ret (d := eStory (st.1 + 1, st.2)) (ed_tup (ea_cons (ed_is (ed_add (ed_ixTn (j := 0) (ed_var (i := 1) rfl hx2) ed_int rfl) (ed_int (i := 1))) rfl) (ea_cons (ed_ixTn (j := 1) (ed_var (i := 1) rfl hx2) ed_int rfl) ea_nil))) n2.gh fun v3 G3 H3 n3 h3 => ?_
    exact k v3 (st.1 + 1, st.2) G3 H3 rfl ((nx1.nw B1 n2).nw (B1.ex n2.hh) n3) (((B1.ex n2.hh).ex n3.hh).le (by omega)) h3
  have hne := of_decide_eq_false hb
  have hpos : 0 < st.2.length := List.length_pos_iff.mpr hne
  have nx2 := nx1.nw B1 n2
  have B2 := B1.ex n2.hh
  have r2 := r1.nw n2
  have hlen : EdH K (tCB (rLenC K) (tCons (tVar 2) tNil)) [some (.ref b), some x, some (.ref l), none, none, none, none] G2 H2 (nI st.2.length) := by
    obtain ⟨j1, j2, j3⟩ := r2.join n2.gh
    exact EdH.drop (o := .lst xs) (Ed.at (ed_is (ed_len (ed_var (i := 2) rfl j3)) (by rw [List.length_map]; rfl)) j2) r2.out nt_lst rfl
  refine qd_asgR (tk_take (j := 0) rfl hlen B2 nx2.ob (by omega) hpos (by omega) fun kk G3 J3 hk n3 B3 => ?_)
  show tSeq _ _ _ [some (.ref b), some x, some (.ref l), some (.int (kk : Int)), none, none, none] J3
  have nx3 := nx2.trans n3
  have r3 := r2.nx lb n3
  obtain ⟨s, hs⟩ : ∃ s, st.2[kk]? = some s := ⟨_, List.getElem?_eq_getElem hk⟩
  have hit : EdH K (tOp (rIx K) (tVar 2) (tVar 3)) [some (.ref b), some x, some (.ref l), some (.int (kk : Int)), none, none, none] G3 J3 (eStep s) := by
    obtain ⟨j1, j2, j3⟩ := r3.join nx3.gh
    exact EdH.drop (o := .lst xs) (Ed.at (ed_ixLn (ed_var (i := 2) rfl j3) (ed_nVar (i := 3) rfl) (by rw [List.getElem?_map, hs]; rfl)) j2) r3.out nt_lst (fz_eStep s)
  refine hit _ fun v4 G4 H4 n4 h4 => gt3n h4 n4.gh fun va vb vc ha hb' hc' => ?_
  obtain rfl := dp_nI ha
  obtain rfl := dp_nI hb'
  obtain rfl := dp_nI hc'
  show tSeq _ _ _ [some (.ref b), some x, some (.ref l), some (.int (kk : Int)), some (.int (s.1 : Int)), some (.int (s.2.1 : Int)), some (.int (s.2.2 : Int))] H4
  have nx4 := nx3.nw B3 n4
  have B4 := B3.ex n4.hh
  have r4 := r3.nw n4
  have hthree : Ed K (tLst (tCons (tTup (tCons (tVar 4) (tCons (tOp (rI0 fun i j => .int (i + j)) (tVar 5) (tC (.int 1))) (tCons (tVar 6) tNil)))) (tCons (tTup (tCons (tVar 4) (tCons (tVar 5) (tCons (tOp (rI0 fun i j => .int (i + j)) (tVar 6) (tC (.int 1))) tNil)))) (tCons (tTup (tCons (tOp (rI0 fun i j => .int (i + j)) (tVar 4) (tC (.int 1))) (tCons (tVar 5) (tCons (tVar 6) tNil)))) tNil)))) [some (.ref b), some x, some (.ref l), some (.int (kk : Int)), some (.int (s.1 : Int)), some (.int (s.2.1 : Int)), some (.int (s.2.2 : Int))] G4 (.list ([(s.1, s.2.1 + 1, s.2.2), (s.1, s.2.1, s.2.2 + 1), (s.1 + 1, s.2.1, s.2.2)].map eStep)) :=
    ed_lst (ea_cons (ed_tup (ea_cons (ed_nVar (i := 4) rfl) (ea_cons (ed_is (ed_add (ed_nVar (n := s.2.1) (i := 5) rfl) (ed_int (i := 1))) rfl) (ea_cons (ed_nVar (i := 6) rfl) ea_nil)))) (ea_cons (ed_tup (ea_cons (ed_nVar (i := 4) rfl) (ea_cons (ed_nVar (i := 5) rfl) (ea_cons (ed_is (ed_add (ed_nVar (n := s.2.2) (i := 6) rfl) (ed_int (i := 1))) rfl) ea_nil)))) (ea_cons (ed_tup (ea_cons (ed_is (ed_add (ed_nVar (n := s.1) (i := 4) rfl) (ed_int (i := 1))) rfl) (ea_cons (ed_nVar (i := 5) rfl) (ea_cons (ed_nVar (i := 6) rfl) ea_nil)))) ea_nil)))
  refine qd_asgOp (hthree H4 nx4.gh _ fun v5 G5 H5 n5 h5 => ?_)
  have nx5 := nx4.nw B4 n5
  have B5 := B4.ex n5.hh
  refine tk_take (j := 0) (many := 3) (c := c + 1) rfl (Ed.at (ed_int (i := ((3 : Nat) : Int))) nx5.gh) B5 nx5.ob (by omega) (by decide) (by decide) fun r G6 J6 hr n6 B6 => ?_
  have nx6 := nx5.trans n6
  have r6 := (r4.nw n5).nx lb n6
  obtain ⟨q, hq⟩ : ∃ q, ([(s.1, s.2.1 + 1, s.2.2), (s.1, s.2.1, s.2.2 + 1), (s.1 + 1, s.2.1, s.2.2)] : List (Nat × Nat × Nat))[r]? = some q := ⟨_, List.getElem?_eq_getElem hr⟩
  obtain ⟨pa, ys, rfl, hys, hyd⟩ := dp_lst_inv (dp_ex n6.gg h5)
  have hq' : ([(s.1, s.2.1 + 1, s.2.2), (s.1, s.2.1, s.2.2 + 1), (s.1 + 1, s.2.1, s.2.2)].map eStep)[r]? = some (eStep q) := by rw [List.getElem?_map, hq]; rfl
  obtain ⟨vq, hvq, hvd⟩ := dps_get (i := r) hyd hq'
  refine .inl ⟨pa, ys, (r : Int), vq, rfl, rfl, ex_l nx6.gh hys, ?_, ?_⟩
  · unfold atI
    rw [ixn (by rw [dps_len hyd]; exact hr)]
    exact hvq
  refine ⟨_, rfl, ⟨_, rfl, l, xs, (kk : Int), kk, rfl, rfl, r6.at_, ixn (by rw [r6.len, List.length_map]; exact hk), ?_⟩⟩
  have r7 : Gr K G6 (upd J6 l (.lst (xs.set kk vq))) l ((st.2.set kk q).map eStep) (xs.set kk vq) := ⟨r6.out, upd_same, by rw [List.map_set]; exact dps_set hvd kk r6.ok⟩
  have nx7 := nx6.mut (o := .lst (xs.set kk vq)) f1 r6.out
  have B7 := B6.up (l := l) (o := .lst (xs.set kk vq)) (Ne.symm lb)
  obtain ⟨j1, j2, j3⟩ := r7.join nx7.gh
  have nx8 := nx7.add r7.out f1 r7.at_ lb
  have hx8 := dp_ex nx8.gg hx
  refine sd_ret (d := eStory (st.1, st.2.set kk q)) (ed_tup (ea_cons (ed_ixTn (j := 0) (ed_var (i := 1) rfl hx8) ed_int rfl) (ea_cons (ed_tupOfL (ed_var (i := 2) rfl j3)) ea_nil))) j2 fun v9 G9 H9 n9 h9 => ?_
  exact k v9 (st.1, st.2.set kk q) G9 H9 (List.length_set ..) (nx8.nw B7 n9) (B7.ex n9.hh) h9
end
end Wk
/-! WP20 -/
namespace Wk
open PySem L2 Evl
section
variable {P : Program} {w : World} {K : PySem.W.Frag} {σ : L2.St} {G H : Hp} {b l : Addr} {te ta tb : TE} {tu tz : TS} {D : Ends} {g : TG}
abbrev iJ (n : Nat) : TI := fun _ H R => R (Itr 0 n) H
theorem eij {n : Nat} (e : Ex G H) : EiH K (iJ n) σ G H ((List.range n).map fun i : Nat => .int (0 + (i : Int))) := fun R q => q _ G H (Nw.refl e) yl_rng
/-- for x in range(take(..)) -/
theorem qd_forTake {c many j : Nat} (hj : σ[j]? = some (some (.ref b))) (h : EdH K te σ G H (nI many)) (B : BoxAt H b c) (ob : G b = none) (hc : c ≤ 100000) (hm : 0 < many) (hm' : many ≤ 1000000)
    (k : ∀ (r : Nat) G1 J, r < many → Nx b G H G1 J → BoxAt J b (c + 1) → tSeq (tFor (iJ r) g tu) tz D σ J) : tSeq (tFor (iRng1 (tCons (tCall (S_Ltake P w K) [] E0 (tCons (tVar j) (tCons te tNil))) tNil)) g tu) tz D σ H := by
  show tCall (S_Ltake P w K) [] E0 (tCons (tVar j) (tCons te tNil)) σ H _
  refine tk_take hj h B ob hc hm hm' fun r G1 J hr n B' => ?_
  exact ⟨(r : Int), rfl, by omega, by omega, k r G1 J hr n B'⟩
/-- l.append(take(..)) -/
theorem sd_pushTake {c many j i : Nat} {ds : List PyData} {xs : List V} (hj : σ[j]? = some (some (.ref b))) (hi : σ[i]? = some (some (.ref l))) (lb : l ≠ b) (r : Gr K G H l ds xs) (hz : ds.length ≤ 15000000) (h : EdH K te σ G H (nI many)) (B : BoxAt H b c) (ob : G b = none) (hc : c ≤ 100000) (hm : 0 < many) (hm' : many ≤ 1000000)
    (k : ∀ (q : Nat) G1 J, q < many → Nx b G H G1 J → BoxAt (upd J l (.lst (xs ++ [.int (q : Int)]))) b (c + 1) → Gr K G1 (upd J l (.lst (xs ++ [.int (q : Int)]))) l (ds ++ [nI q]) (xs ++ [.int (q : Int)]) → D.nx σ (upd J l (.lst (xs ++ [.int (q : Int)])))) :
    tDrop (tBM K "list" rAppend (tVar i) (tCons (tCall (S_Ltake P w K) [] E0 (tCons (tVar j) (tCons te tNil))) tNil)) D σ H :=
  ⟨_, hi, .inl ⟨rfl, xs, sq_of r.at_⟩, by
    show tCall (S_Ltake P w K) [] E0 (tCons (tVar j) (tCons te tNil)) σ H _
    refine tk_take hj h B ob hc hm hm' fun q G1 J hq n B' => ?_
    have r1 := r.nx lb n
    exact ⟨l, xs, _, rfl, rfl, r1.at_, sz8' (by rw [r.len]; omega), k q G1 J hq n (B'.up (Ne.symm lb)) ⟨r1.out, upd_same, dps_app r1.ok (dps_one (.int _))⟩⟩⟩
theorem ixn_last {n : Nat} (h : 0 < n) : ixN n (-1) = some (n - 1) := by
  unfold ixN
  rw [if_neg (by omega), if_pos (by omega)]
  congr 1
  omega
end
section
variable {P : Program} {w : World} {K : PySem.W.Frag} {vs : List V} {H : Hp} {Q : VK} {E : XK}
theorem rd_Lway (h : S_Lway P w K vs H Q E) : t_Lway P w K (Dd Q) (st0 6 vs) H := by
  obtain ⟨G, b, c, r, most, x, u, rfl, e, ob, B, hc, hm, W, hr, hx, k⟩ := h
  show t_Lway P w K (Dd Q) [some (.ref b), some x, some (.int (r : Int)), some (.int (most : Int)), none, none] H
  unfold t_Lway
  refine qd_new fun l hl => ?_
  show tSeq _ _ _ [some (.ref b), some x, some (.int (r : Int)), some (.int (most : Int)), some (.ref l), none] _
  have lb : l ≠ b := fun z => by
    obtain ⟨o, ho⟩ := B.some
    rw [z, ho] at hl
    cases hl
  have nx0 := (Nx.refl e ob).out (o := .lst []) hl (Ne.symm lb)
  have B0 := B.up (o := .lst []) (Ne.symm lb)
  refine qd_forTake (K := K) (j := 0) (many := most + 1) rfl (Ed.at (ed_is (ed_add (ed_nVar (n := most) (i := 3) rfl) (ed_int (i := 1))) rfl) nx0.gh) B0 ob (by omega) (by omega) (by omega) fun t G1 J1 ht n1 B1 => ?_
  have nx1 := nx0.trans n1
  have g1 : Gr K G1 J1 l ([].map nI) [] := (Gr.mk (fresh_back e hl) upd_same .nil : Gr K G _ l [] []).nx lb n1
  refine qd_forH (List.range t) (fun i : Nat => .int (0 + (i : Int))) (eij (K := K) nx1.gh)
    (fun i G2 σ2 H2 => ∃ (r' : Nat) (p : List Nat) (xs : List V) (y5 : Option V), σ2 = [some (.ref b), some x, some (.int (r' : Int)), some (.int (most : Int)), some (.ref l), y5] ∧ Nx b G H G2 H2 ∧ BoxAt H2 b (c + 1 + i) ∧ Gr K G2 H2 l (p.map nI) xs ∧ p.length ≤ i ∧ go1 u r p = some r' ∧ r' < u.length)
    (fun G2 H2 n2 => ⟨r, [], [], none, rfl, nx1.nw B1 n2, B1.ex n2.hh, g1.nw n2, Nat.le_refl _, by unfold go1 gon; rfl, hr⟩) ?_ ?_
  · rintro G2 i i' G3 σ3 H3 e2 hi e3 e4 ⟨r', p, xs, y5, rfl, nx3, B3, g3, hpl, hgo, hr'⟩ z G4 H4 n4 hz
    obtain ⟨rfl, hit⟩ := range_some hi
    refine gn1 ?_
    show tIfS _ _ _ _ [some (.ref b), some x, some (.int (r' : Int)), some (.int (most : Int)), some (.ref l), some z] H4
    have nx4 := nx3.nw B3 n4
    have B4 := B3.ex n4.hh
    have g4 := g3.nw n4
    have hx4 := dp_ex nx4.gg hx
    have hdeg : ∀ Gx σ, Ex G4 Gx → σ[1]? = some (some x) → σ[2]? = some (some (.int (r' : Int))) → Ed K (tCB (rLenC K) (tCons (tOp (rIx K) (tVar 1) (tVar 2)) tNil)) σ Gx (nI (deg u r')) := fun Gx σ e' s1 s2 => ed_degR (ed_room (ed_var s1 (dp_ex e' hx4)) (ed_nVar s2) hr')
    refine sd_when (et_test (ed_gt (hdeg G4 _ (Ex.refl _) rfl rfl) (ed_int (i := 0)))) nx4.gh (fun hb G5 H5 n5 => ?_) (fun hb G5 H5 n5 => ?_)
    · have hpos : 0 < deg u r' := by have := of_decide_eq_true hb; omega
      have hd24 := W.deg r'
      have nx5 := nx4.nw B4 n5
      have B5 := B4.ex n5.hh
      refine sd_pushTake (j := 0) (i := 4) rfl rfl lb (g4.nw n5) (by rw [List.length_map]; omega) (Ed.at (hdeg G5 _ n5.gg rfl rfl) nx5.gh) B5 nx5.ob (by omega) hpos (by omega) fun q G6 J6 hq n6 B6 g6 => ?_
      have nx6 := (nx5.trans n6).mut (o := .lst (xs ++ [.int (q : Int)])) hl g6.out
      obtain ⟨⟨s, j⟩, hdoor⟩ := door_lt.mp hq
      have hs := W.inr _ _ _ _ hdoor
      have hnext : EdH K (tOp (rIx K) (tOp (rIx K) (tOp (rIx K) (tVar 1) (tVar 2)) (tOp (rIx K) (tVar 4) (tUn (rU fun i => .int (-i)) (tC (.int 1))))) (tC (.int 0))) [some (.ref b), some x, some (.int (r' : Int)), some (.int (most : Int)), some (.ref l), some z] G6 (upd J6 l (.lst (xs ++ [.int (q : Int)]))) (nI s) := by
        obtain ⟨j1, j2, j3⟩ := g6.join nx6.gh
        refine EdH.drop (o := .lst (xs ++ [.int (q : Int)])) (Ed.at (ed_fst (p := (s, j)) (ed_door (i := q) (ed_room (r := r') (ed_var (i := 1) rfl (dp_ex (nx6.gg.trans j1) hx)) (ed_nVar (i := 2) rfl) hr') (ed_ixL (j := p.length) (ed_var (i := 4) rfl j3) (ed_un (d1 := .int 1) (d := .int (-1)) ed_int fun y G7 e7 hy => rd_val (.int _) fun _ _ _ q => ⟨1, dp_int_inv hy, q⟩) ?_ ?_) hdoor)) j2) g6.out nt_lst rfl
        · rw [List.length_append, List.length_map]
          exact ixn_last (by simp)
        · rw [List.getElem?_append_right (by rw [List.length_map]; omega), List.length_map, Nat.sub_self]
          rfl
      refine sd_asgH hnext fun v7 G7 H7 n7 h7 => ?_
      obtain rfl := dp_nI h7
      refine ⟨G7, (((e3.trans n4.gg).trans n5.gg).trans n6.gg).trans n7.gg, n7.gh, s, p ++ [q], xs ++ [.int (q : Int)], some z, rfl, nx6.nw B6 n7, (B6.ex n7.hh).le (by omega), ?_, by rw [List.length_append, List.length_singleton]; omega, ?_, hs⟩
      · rw [List.map_append]
        exact g6.nw n7
      · rw [go1_append, hgo, Option.bind_some, go1_cons, hdoor]
        unfold go1 gon
        rfl
    · exact ⟨G5, (e3.trans n4.gg).trans n5.gg, n5.gh, r', p, xs, some z, rfl, nx4.nw B4 n5, (B4.ex n5.hh).le (by omega), g4.nw n5, by omega, hgo, hr'⟩
  · rintro G2 σ2 H2 e2 e3 ⟨r', p, xs, y5, rfl, nx2, B2, g2, hpl, hgo, hr'⟩
    rw [List.length_range] at hpl B2
    obtain ⟨j1, j2, j3⟩ := g2.join e3
    have nx3 := nx2.add g2.out hl g2.at_ lb
    refine sd_ret (ed_tupOfL (ed_var (i := 4) rfl j3)) j2 fun v4 G4 H4 n4 h4 => k v4 p G4 H4 (by omega) (by rw [sees_gon, hgo]; rfl) (nx3.nw B2 n4) ((B2.ex n4.hh).le (by omega)) h4
/-! turn -/
def swI (i q : Nat) : Nat := if q < 2 * i then (if q % 2 = 0 then q + 1 else q - 1) else q
theorem swI_sw (i q : Nat) : swI i (swI i q) = q := by
  unfold swI
  split
  · split
    · rw [if_pos (by omega), if_neg (by omega)]; omega
    · rw [if_pos (by omega), if_pos (by omega)]; omega
  · first | rfl | rw [if_neg (by omega)]
theorem swI_lt {i q n : Nat} (h : 2 * i ≤ n) (hq : q < n) : swI i q < n := by
  unfold swI
  split
  · split <;> omega
  · exact hq
/-- after i of the pairs -/
structure Trn (os tl : List Nat) (n i : Nat) : Prop where
  len : tl.length = n
  at_ : ∀ q, q < n → tl[os.getD q 0]? = some (os.getD (swI i q) 0)
theorem getD_mem {l : List Nat} {q : Nat} (h : q < l.length) : l[q]? = some (l.getD q 0) ∧ l.getD q 0 ∈ l := by
  rw [List.getD_eq_getElem?_getD, List.getElem?_eq_getElem h]
  exact ⟨rfl, List.getElem_mem h⟩
theorem Trn.step {os tl : List Nat} {n i : Nat} (O : TurnOk os n false) (h : Trn os tl n i) (hi : 2 * i + 1 < n) : Trn os ((tl.set (os.getD (2 * i) 0) (os.getD (2 * i + 1) 0)).set (os.getD (2 * i + 1) 0) (os.getD (2 * i) 0)) n (i + 1) where
  len := by rw [List.length_set, List.length_set, h.len]
  at_ := fun q hq => by
    have inj : ∀ a b, a < n → b < n → os.getD a 0 = os.getD b 0 → a = b := fun a b ha hb e => by
      have h1 := (getD_mem (l := os) (q := a) (by rw [O.len]; exact ha)).1
      have h2 := (getD_mem (l := os) (q := b) (by rw [O.len]; exact hb)).1
      rw [e, ← h2] at h1
      exact (List.getElem?_inj (by rw [O.len]; exact ha) O.nd).mp h1
    have hlt : ∀ a, a < n → os.getD a 0 < tl.length := fun a ha => by
      rw [h.len]
      exact O.lt _ (getD_mem (by rw [O.len]; exact ha)).2
    by_cases h1 : q = 2 * i + 1
    · subst h1
      rw [List.getElem?_set_self (by rw [List.length_set]; exact hlt _ hq)]
      unfold swI
      rw [if_pos (by omega), if_neg (by omega)]
      congr 2
    · rw [List.getElem?_set_ne (fun z => h1 (inj _ _ hq hi z.symm))]
      by_cases h2 : q = 2 * i
      · subst h2
        rw [List.getElem?_set_self (hlt _ hq)]
        unfold swI
        rw [if_pos (by omega), if_pos (by omega)]
      · rw [List.getElem?_set_ne (fun z => h2 (inj _ _ hq (by omega) z.symm)), h.at_ q hq]
        have : swI i q = swI (i + 1) q := by
          unfold swI
          by_cases h3 : q < 2 * i
          · rw [if_pos h3, if_pos (show q < 2 * (i + 1) by omega)]
          · rw [if_neg h3, if_neg (show ¬ q < 2 * (i + 1) by omega)]
        rw [this]
theorem Trn.ok {os tl : List Nat} {n : Nat} (O : TurnOk os n false) (h : Trn os tl n (n / 2)) : TurnOk tl n true := by
  have onto : ∀ x, x < n → ∃ q, q < n ∧ os.getD q 0 = x := fun x hx => by
    obtain ⟨q, hq⟩ := turn_onto O hx
    have := (List.getElem?_eq_some_iff.mp hq).1
    refine ⟨q, by rw [← O.len]; exact this, ?_⟩
    rw [List.getD_eq_getElem?_getD, hq]
    rfl
  have back : ∀ (k x : Nat), tl[k]? = some x → tl[x]? = some k := fun k x hk => by
    have hkn : k < n := by rw [← h.len]; exact (List.getElem?_eq_some_iff.mp hk).1
    obtain ⟨q, hq, rfl⟩ := onto k hkn
    rw [h.at_ q hq] at hk
    have hx := Option.some.inj hk
    have hs := swI_lt (i := n / 2) (by omega) hq
    rw [← hx, h.at_ _ hs, swI_sw]
  refine ⟨h.len, fun x hx => ?_, ?_, fun _ => back⟩
  · obtain ⟨k, hk⟩ := List.mem_iff_getElem?.mp hx
    have := (List.getElem?_eq_some_iff.mp (back k x hk)).1
    rw [h.len] at this
    exact this
  · rw [List.nodup_iff_pairwise_ne, List.pairwise_iff_getElem]
    intro i j hi hj hij z
    have h1 := back i _ (List.getElem?_eq_getElem hi)
    have h2 := back j _ (List.getElem?_eq_getElem hj)
    rw [z, h2] at h1
    have := Option.some.inj h1
    omega
theorem rg2 {n : Nat} (h : n ≤ 6) : RgC 0 ((n : Int) - 1) 2 (n / 2) := by
  have : n = 0 ∨ n = 1 ∨ n = 2 ∨ n = 3 ∨ n = 4 ∨ n = 5 ∨ n = 6 := by omega
  rcases this with rfl | rfl | rfl | rfl | rfl | rfl | rfl <;> exact ⟨by decide, by decide, by decide, by decide⟩
theorem ins_ok {os : List Nat} {i r : Nat} (O : TurnOk os i false) (hr : r < i + 1) : TurnOk (os.take r ++ [i] ++ os.drop r) (i + 1) false := by
  have hmem : ∀ x, x ∈ os.take r ++ [i] ++ os.drop r ↔ x = i ∨ x ∈ os := fun x => by
    rw [List.mem_append, List.mem_append, List.mem_singleton]
    constructor
    · rintro ((z | z) | z)
      · exact .inr (List.mem_of_mem_take z)
      · exact .inl z
      · exact .inr (List.mem_of_mem_drop z)
    · rintro (z | z)
      · exact .inl (.inr z)
      · rw [← List.take_append_drop r os] at z
        rcases List.mem_append.mp z with z | z
        · exact .inl (.inl z)
        · exact .inr z
  refine ⟨?_, fun x hx => ?_, ?_, fun z => by cases z⟩
  · rw [List.length_append, List.length_append, List.length_take, List.length_drop, O.len, List.length_singleton]
    omega
  · rcases (hmem x).mp hx with z | z
    · omega
    · have := O.lt x z; omega
  · have hno : i ∉ os := fun z => by have := O.lt i z; omega
    have hn := O.nd
    rw [← List.take_append_drop r os, List.nodup_append] at hn
    rw [List.append_assoc, List.nodup_append]
    refine ⟨hn.1, ?_, ?_⟩
    · rw [List.singleton_append, List.nodup_cons]
      exact ⟨fun z => hno (List.mem_of_mem_drop z), hn.2.1⟩
    · intro a ha c hc
      rw [List.singleton_append] at hc
      rcases List.mem_cons.mp hc with z | z
      · rw [z]; exact fun q => hno (q ▸ List.mem_of_mem_take ha)
      · exact hn.2.2 a ha c z
end
end Wk
/-! WP21 -/
namespace Wk
open PySem L2 Evl
section
variable {P : Program} {w : World} {K : PySem.W.Frag} {vs : List V} {H : Hp} {Q : VK} {E : XK}
theorem yl_rngc {G : Hp} {lo c : Int} {n : Nat} : Yl K (Itc lo c n) G ((List.range n).map fun i : Nat => .int (lo + (i : Int) * c)) := fun i H x => by
  refine ⟨fun d he => ?_, fun hl => (by simp at hl; omega : n ≤ i)⟩
  rw [List.getElem?_map] at he
  by_cases hi : i < n
  · rw [List.getElem?_range hi] at he
    cases he
    refine ⟨hi, fun v H' hv G' e1 e2 => ?_⟩
    obtain ⟨rfl, rfl⟩ := hv
    exact ⟨G', Nw.refl e2, .int _⟩
  · rw [List.getElem?_eq_none (by simpa using hi)] at he
    cases he
theorem ei_rng3 {σ : L2.St} {G : Hp} {tb : TE} {j : Int} {n : Nat} (hb : Ed K tb σ G (.int j)) (hr : RgC 0 j 2 n) : EdI K (iRng3 (tCons (tC (.int 0)) (tCons tb (tCons (tC (.int 2)) tNil)))) σ G ((List.range n).map fun i : Nat => .int (0 + (i : Int) * 2)) := fun H e R q =>
  hb H e _ fun v G1 H1 n1 hv => by
    obtain rfl := dp_int_inv hv
    exact ⟨0, j, 2, n, rfl, hr, q _ G1 H1 n1 yl_rngc⟩
theorem rd_Lturn (h : S_Lturn P w K vs H Q E) : t_Lturn P w K (Dd Q) (st0 6 vs) H := by
  obtain ⟨G, b, c, many, own, rfl, e, ob, B, hc, hm, k⟩ := h
  show t_Lturn P w K (Dd Q) [some (.ref b), some (.int (many : Int)), some (.bl own), none, none, none] H
  unfold t_Lturn
  refine qd_new fun l hl => ?_
  show tSeq _ _ _ [some (.ref b), some (.int (many : Int)), some (.bl own), some (.ref l), none, none] _
  have lb : l ≠ b := fun z => by
    obtain ⟨o, ho⟩ := B.some
    rw [z, ho] at hl
    cases hl
  have nx0 := (Nx.refl e ob).out (o := .lst []) hl (Ne.symm lb)
  have B0 := B.up (o := .lst []) (Ne.symm lb)
  have r0 : Gr K G (upd H l (.lst [])) l [] [] := Gr.mk (fresh_back e hl) upd_same .nil
  refine qd_for (K := K) (List.range many) (fun i => .int (i : Int)) (ei_rng1 (ed_nVar (i := 1) rfl) (by omega)) nx0.gh
    (fun i G2 σ2 H2 => ∃ (os : List Nat) (xs : List V) (y4 : Option V), σ2 = [some (.ref b), some (.int (many : Int)), some (.bl own), some (.ref l), y4, none] ∧ Nx b G H G2 H2 ∧ BoxAt H2 b (c + i) ∧ Gr K G2 H2 l (os.map nI) xs ∧ TurnOk os i false)
    (fun G2 H2 n2 => ⟨[], [], none, rfl, nx0.nw B0 n2, B0.ex n2.hh, r0.nw n2, ⟨rfl, by simp, List.nodup_nil, fun z => by cases z⟩⟩) ?_ ?_
  · rintro G2 i i' G3 σ3 H3 e2 hi e3 e4 ⟨os, xs, y4, rfl, nx3, B3, r3, O⟩ z G4 H4 n4 hz
    obtain ⟨rfl, him⟩ := range_some hi
    obtain rfl := dp_int_inv hz
    refine gn1 ?_
    show tDrop _ _ [some (.ref b), some (.int (many : Int)), some (.bl own), some (.ref l), some (.int (i' : Int)), none] H4
    have nx4 := nx3.nw B3 n4
    have B4 := B3.ex n4.hh
    have r4 := r3.nw n4
    refine ⟨_, rfl, .inl ⟨rfl, xs, sq_of r4.at_⟩, ?_⟩
    show tCall (S_Ltake P w K) [] E0 (tCons (tVar 0) (tCons (tOp (rI0 fun i j => .int (i + j)) (tVar 4) (tC (.int 1))) tNil)) _ H4 _
    refine tk_take (K := K) (j := 0) (many := i' + 1) rfl (Ed.at (ed_is (ed_add (ed_nVar (n := i') (i := 4) rfl) (ed_int (i := 1))) rfl) nx4.gh) B4 nx4.ob (by omega) (by omega) (by omega) fun q G5 J5 hq n5 B5 => ?_
    have nx5 := nx4.trans n5
    have r5 := r4.nx lb n5
    have hxl := r5.len
    rw [List.length_map, O.len] at hxl
    refine ⟨_, rfl, l, xs, (q : Int), .int (i' : Int), rfl, rfl, r5.at_, sz8' (by omega), by omega, by omega, ?_⟩
    have r6 : Gr K G5 (upd J5 l (.lst (xs.take (q : Int).toNat ++ [.int (i' : Int)] ++ xs.drop (q : Int).toNat))) l ((os.take q ++ [i'] ++ os.drop q).map nI) (xs.take q ++ [.int (i' : Int)] ++ xs.drop q) := ⟨r5.out, upd_same, by
      rw [List.map_append, List.map_append, List.map_take, List.map_drop]
      exact dps_app (dps_app (dps_take q r5.ok) (dps_one (.int _))) (dps_drop q r5.ok)⟩
    have nx6 := nx5.mut (o := .lst (xs.take (q : Int).toNat ++ [.int (i' : Int)] ++ xs.drop (q : Int).toNat)) hl r5.out
    exact ⟨G5, (e3.trans n4.gg).trans n5.gg, nx6.gh, os.take q ++ [i'] ++ os.drop q, _, _, rfl, nx6, (B5.up (Ne.symm lb)).le (by omega), r6, ins_ok O hq⟩
  · rintro G2 σ2 H2 e2 e3 ⟨os, xs, y4, rfl, nx2, B2, r2, O⟩
    rw [List.length_range] at B2 O
    obtain ⟨j1, j2, j3⟩ := r2.join e3
    have nx3 := nx2.add r2.out hl r2.at_ lb
    refine qd_when (et_not (et_B (K := K) (ed_var (i := 2) rfl (.bl own)))) j2 (fun hb G4 H4 n4 => ?_) (fun hb G4 H4 n4 => ?_)
    · have ho : own = false := by simpa using hb
      refine sd_ret (d := eNs os) (ed_tupOfL (ed_var (i := 3) rfl (dp_ex n4.gg j3))) n4.gh fun v5 G5 H5 n5 h5 => ?_
      exact k v5 os G5 H5 (by rw [ho]; exact O) ((nx3.nw B2 n4).nw (B2.ex n4.hh) n5) (((B2.ex n4.hh).ex n5.hh).le (by omega)) h5
    · have ho : own = true := by simpa using hb
      have nx4 := nx3.nw B2 n4
      have B4 := B2.ex n4.hh
      have j4 := dp_ex n4.gg j3
      refine qd_asgF (K := K) (ef_rng (n := many) (ed_nVar (i := 1) rfl) (by omega)) n4.gh fun tl ys G5 H5 n5 o5 f5 at5 hy5 => ?_
      show tSeq _ _ _ [some (.ref b), some (.int (many : Int)), some (.bl own), some (.ref l), y4, some (.ref tl)] H5
      have nx5 := nx4.nw B4 n5
      have B5 := B4.ex n5.hh
      have tb : tl ≠ b := fun z => by
        obtain ⟨o, ho⟩ := B4.some
        rw [z, ho] at f5
        cases f5
      have f0 : H tl = none := nx4.back tb f5
      have hrange : ((List.range many).map fun i : Nat => PyData.int (i : Nat)) = (List.range many).map nI := rfl
      rw [hrange] at hy5
      have r5 : Gr K G5 H5 tl ((List.range many).map nI) ys := ⟨o5, at5, hy5⟩
      have T0 : Trn os (List.range many) many 0 := ⟨by simp, fun q hq => by
        have h1 := O.lt _ (getD_mem (l := os) (q := q) (by rw [O.len]; exact hq)).2
        rw [List.getElem?_range h1]
        unfold swI
        rw [if_neg (by omega)]⟩
      have j5 := dp_ex n5.gg j4
      refine qd_for (K := K) (List.range (many / 2)) (fun i => .int (0 + (i : Int) * 2)) (ei_rng3 (ed_sub (ed_nVar (n := many) (i := 1) rfl) (ed_int (i := 1))) (rg2 hm)) nx5.gh
        (fun i G6 σ6 H6 => ∃ (ts : List Nat) (ys : List V) (y4 : Option V), σ6 = [some (.ref b), some (.int (many : Int)), some (.bl own), some (.ref l), y4, some (.ref tl)] ∧ Nx b G H G6 H6 ∧ BoxAt H6 b (c + many) ∧ Gr K G6 H6 tl (ts.map nI) ys ∧ Trn os ts many i ∧ Ex G5 G6)
        (fun G6 H6 n6 => ⟨_, ys, y4, rfl, nx5.nw B5 n6, B5.ex n6.hh, r5.nw n6, T0, n6.gg⟩) ?_ ?_
      · rintro G6 i i' G7 σ7 H7 e6 hi e7 e8 ⟨ts, ys, y4, rfl, nx7, B7, r7, T, e57⟩ z G8 H8 n8 hz
        obtain ⟨rfl, him⟩ := range_some hi
        have hz' : z = .int ((2 * i' : Nat) : Int) := by rw [dp_int_inv hz]; congr 1; omega
        subst hz'
        refine gn1 ?_
        show tSeq _ _ _ [some (.ref b), some (.int (many : Int)), some (.bl own), some (.ref l), some (.int ((2 * i' : Nat) : Int)), some (.ref tl)] H8
        have nx8 := nx7.nw B7 n8
        have B8 := B7.ex n8.hh
        have r8 := r7.nw n8
        have hlt : 2 * i' + 1 < many := by omega
        have e58 := e57.trans n8.gg
        have ho0 : Ed K (tOp (rIx K) (tVar 3) (tVar 4)) [some (.ref b), some (.int (many : Int)), some (.bl own), some (.ref l), some (.int ((2 * i' : Nat) : Int)), some (.ref tl)] G8 (nI (os.getD (2 * i') 0)) := ed_nth (ed_var (i := 3) rfl (dp_ex e58 j5)) (ed_nVar (n := 2 * i') (i := 4) rfl) (by rw [O.len]; omega)
        have ho1 : Ed K (tOp (rIx K) (tVar 3) (tOp (rI0 fun i j => .int (i + j)) (tVar 4) (tC (.int 1)))) [some (.ref b), some (.int (many : Int)), some (.bl own), some (.ref l), some (.int ((2 * i' : Nat) : Int)), some (.ref tl)] G8 (nI (os.getD (2 * i' + 1) 0)) := ed_nth (ed_var (i := 3) rfl (dp_ex e58 j5)) (ed_is (ed_add (ed_nVar (n := 2 * i') (i := 4) rfl) (ed_int (i := 1))) rfl) (by rw [O.len]; omega)
        have hm0 := O.lt _ (getD_mem (l := os) (q := 2 * i') (by rw [O.len]; omega)).2
        have hm1 := O.lt _ (getD_mem (l := os) (q := 2 * i' + 1) (by rw [O.len]; omega)).2
        generalize hq0 : os.getD (2 * i') 0 = a0 at *
        generalize hq1 : os.getD (2 * i' + 1) 0 = a1 at *
        have hyl := r8.len
        rw [List.length_map, T.len] at hyl
        refine qd_set (K := K) (j := 5) (i := a0) rfl r8.at_ ho1 nx8.gh ho0 nx8.gh (by omega) fun v G9 H9 n9 hv J9 e9 => ?_
        obtain rfl := dp_nI hv
        have nx9 := (nx8.hx (n9.hh.trans e9) (c := c)).mut (o := .lst (ys.set a0 (.int (a1 : Int)))) f0 r8.out
        have B9 := (B8.ex (n9.hh.trans e9)).up (o := .lst (ys.set a0 (.int (a1 : Int)))) (Ne.symm tb)
        have r9 : Gr K G8 (upd J9 tl (.lst (ys.set a0 (.int (a1 : Int))))) tl ((ts.set a0 a1).map nI) (ys.set a0 (.int (a1 : Int))) := ⟨r8.out, upd_same, by rw [List.map_set]; exact dps_set (.int _) a0 r8.ok⟩
        refine sd_set (K := K) (j := 5) (i := a1) rfl r9.at_ ho0 nx9.gh ho1 nx9.gh (by rw [List.length_set]; omega) fun v G10 H10 n10 hv J10 e10 => ?_
        obtain rfl := dp_nI hv
        refine ⟨G8, e7.trans n8.gg, Ex.mut ((nx9.gh.trans n10.hh).trans e10) r8.out, (ts.set a0 a1).set a1 a0, _, _, rfl, (nx9.hx (n10.hh.trans e10) (c := c)).mut f0 r8.out, (B9.ex (n10.hh.trans e10)).up (Ne.symm tb), ⟨r8.out, upd_same, by rw [List.map_set]; exact dps_set (.int _) a1 r9.ok⟩, ?_, e58⟩
        have := T.step O hlt
        rw [hq0, hq1] at this
        exact this
      · rintro G6 σ6 H6 e6 e7 ⟨ts, ys, y4, rfl, nx6, B6, r6, T, e56⟩
        rw [List.length_range] at T
        obtain ⟨i1, i2, i3⟩ := r6.join e7
        have nx7 := nx6.add r6.out f0 r6.at_ tb
        refine sd_ret (d := eNs ts) (ed_tupOfL (ed_var (i := 5) rfl i3)) i2 fun v8 G8 H8 n8 h8 => ?_
        exact k v8 ts G8 H8 (by rw [ho]; exact T.ok O) (nx7.nw B6 n8) ((B6.ex n8.hh).le (by omega)) h8
end
end Wk
/-! WP22 -/
namespace Wk
open PySem L2 Evl
/-! what stands in the halves, in any order -/
theorem perm_set {α : Type} {h : α} {row row' : List α} (hp : row'.Perm (row ++ [h])) : ∀ {hs : List (List α)} {i : Nat}, hs[i]? = some row → (hs.set i row').flatten.Perm (hs.flatten ++ [h])
  | [], i, e => by simp at e
  | x :: hs, 0, e => by
    simp at e
    subst e
    rw [List.set_cons_zero, List.flatten_cons, List.flatten_cons]
    refine (hp.append_right hs.flatten).trans ?_
    rw [List.append_assoc, List.append_assoc]
    exact List.Perm.append_left x List.perm_append_comm
  | x :: hs, i + 1, e => by
    rw [List.set_cons_succ, List.flatten_cons, List.flatten_cons, List.append_assoc]
    exact List.Perm.append_left x (perm_set hp (by simpa using e))
theorem ins_perm {α : Type} (row : List α) (q : Nat) (h : α) : (row.take q ++ [h] ++ row.drop q).Perm (row ++ [h]) := by
  rw [List.append_assoc]
  refine (List.Perm.append_left _ List.perm_append_comm).trans ?_
  rw [← List.append_assoc, List.take_append_drop]
theorem flat_once {hs : Hv} (h : hs.flatten.Nodup) {r d s e : Nat} {p : Nat × Nat} (h1 : (hs.getD r [])[d]? = some p) (h2 : (hs.getD s [])[e]? = some p) : r = s ∧ d = e := by
  rw [List.nodup_iff_pairwise_ne, List.pairwise_flatten] at h
  obtain ⟨ha, hb⟩ := h
  have row : ∀ {r d : Nat} {p : Nat × Nat}, (hs.getD r [])[d]? = some p → r < hs.length := fun {r d p} h => by
    rcases Nat.lt_or_ge r hs.length with z | z
    · exact z
    · rw [List.getD_eq_getElem?_getD, List.getElem?_eq_none z] at h
      simp at h
  have hr := row h1
  have hs' := row h2
  rw [hs_get (List.getElem?_eq_getElem hr)] at h1
  rw [hs_get (List.getElem?_eq_getElem hs')] at h2
  rw [List.pairwise_iff_getElem] at hb
  have key : r = s := by
    rcases Nat.lt_trichotomy r s with z | z | z
    · exact absurd rfl (hb r s hr hs' z p (List.mem_of_getElem? h1) p (List.mem_of_getElem? h2))
    · exact z
    · exact absurd rfl (hb s r hs' hr z p (List.mem_of_getElem? h2) p (List.mem_of_getElem? h1))
  subst key
  refine ⟨rfl, ?_⟩
  have hn : (hs[r]).Nodup := by rw [List.nodup_iff_pairwise_ne]; exact ha _ (List.getElem_mem hr)
  exact (List.getElem?_inj (List.getElem?_eq_some_iff.mp h1).1 hn).mp (by rw [h1, h2])
def sidesM (many : Nat) (p : Nat × Nat) : List (Nat × Nat) := if p.2 = many then [(p.1, 2)] else [(p.1, 0), (p.2, 1)]
def newH (many : Nat) (x : (Nat × Nat) × Nat) : List (Nat × Nat) := (sidesM many x.1).map fun y => (x.2, y.2)
def SS (many : Nat) (prs : List (Nat × Nat)) (t : Nat) : List (Nat × Nat) := (prs.zipIdx.take t).flatMap (newH many)
theorem SS_succ {many : Nat} {prs : List (Nat × Nat)} {t : Nat} {p : Nat × Nat} (h : prs[t]? = some p) : SS many prs (t + 1) = SS many prs t ++ newH many (p, t) := by
  unfold SS
  have : prs.zipIdx[t]? = some (p, t) := by rw [List.getElem?_zipIdx, h]; simp
  rw [take_snoc this, List.flatMap_append]
  simp
theorem SS_len (many : Nat) (prs : List (Nat × Nat)) : ∀ t, (SS many prs t).length ≤ 2 * t
  | 0 => by simp [SS]
  | t + 1 => by
    have ih := SS_len many prs t
    cases h : prs[t]? with
    | none =>
      have : SS many prs (t + 1) = SS many prs t := by
        unfold SS
        have hl := List.getElem?_eq_none_iff.mp h
        rw [List.take_of_length_le (by rw [List.length_zipIdx]; omega), List.take_of_length_le (by rw [List.length_zipIdx]; omega)]
      rw [this]
      omega
    | some p =>
      rw [SS_succ h, List.length_append]
      have : (newH many (p, t)).length ≤ 2 := by
        unfold newH sidesM
        split <;> simp
      omega
theorem SS_mem {many : Nat} {prs : List (Nat × Nat)} {t : Nat} {h : Nat × Nat} : h ∈ SS many prs t ↔ ∃ p, h.1 < t ∧ prs[h.1]? = some p ∧ ((p.2 = many ∧ h.2 = 2) ∨ (p.2 ≠ many ∧ (h.2 = 0 ∨ h.2 = 1))) := by
  unfold SS
  constructor
  · intro hm
    obtain ⟨x, hx, hh⟩ := List.mem_flatMap.mp hm
    obtain ⟨i, hi⟩ := List.mem_iff_getElem?.mp hx
    have hit : i < t := by
      have := (List.getElem?_eq_some_iff.mp hi).1
      rw [List.length_take] at this
      omega
    rw [List.getElem?_take, if_pos hit] at hi
    obtain ⟨e, hp⟩ := zipIdx_some hi
    unfold newH at hh
    obtain ⟨y, hy, rfl⟩ := List.mem_map.mp hh
    refine ⟨x.1, by dsimp only; omega, by dsimp only; rw [e]; exact hp, ?_⟩
    unfold sidesM at hy
    split at hy
    · rename_i hc
      simp at hy
      exact .inl ⟨hc, by rw [hy]⟩
    · rename_i hc
      simp at hy
      rcases hy with hy | hy
      · exact .inr ⟨hc, .inl (by rw [hy])⟩
      · exact .inr ⟨hc, .inr (by rw [hy])⟩
  · rintro ⟨p, ht, hp, hc⟩
    have hz : prs.zipIdx[h.1]? = some (p, h.1) := by rw [List.getElem?_zipIdx, hp]; simp
    refine List.mem_flatMap.mpr ⟨(p, h.1), List.mem_of_getElem? (i := h.1) (by rw [List.getElem?_take, if_pos ht]; exact hz), ?_⟩
    unfold newH sidesM
    rcases hc with ⟨c1, c2⟩ | ⟨c1, c2 | c2⟩
    · rw [if_pos c1, ← c2]
      simp
    · rw [if_neg c1]
      have : h = (h.1, 0) := Prod.ext rfl c2
      rw [this]
      simp
    · rw [if_neg c1]
      have : h = (h.1, 1) := Prod.ext rfl c2
      rw [this]
      simp
theorem SS_nodup {many : Nat} {prs : List (Nat × Nat)} : ∀ {t : Nat}, t ≤ prs.length → (SS many prs t).Nodup
  | 0, _ => by simp [SS]
  | t + 1, ht => by
    obtain ⟨p, hp⟩ : ∃ p, prs[t]? = some p := ⟨_, List.getElem?_eq_getElem ht⟩
    rw [SS_succ hp, List.nodup_append]
    refine ⟨SS_nodup (by omega), ?_, fun a ha b hb e => ?_⟩
    · unfold newH sidesM
      split <;> simp
    · obtain ⟨_, h1, _⟩ := SS_mem.mp ha
      unfold newH at hb
      obtain ⟨y, _, rfl⟩ := List.mem_map.mp hb
      rw [e] at h1
      dsimp only at h1
      omega
theorem halves_ok {many : Nat} {prs : List (Nat × Nat)} {hs : Hv} (hm : 0 < many) (h6 : many ≤ 6) (hl : hs.length = many) (h12 : prs.length ≤ 12) (hp : hs.flatten.Perm (SS many prs prs.length)) : HalvesOk hs where
  pos := by omega
  few := by omega
  short := fun l hl' => by
    have h1 : l.length ≤ hs.flatten.length := (List.sublist_flatten_of_mem hl').length_le
    rw [hp.length_eq] at h1
    have := SS_len many prs prs.length
    omega
  side := fun l hl' p hp' => by
    have : p ∈ SS many prs prs.length := hp.mem_iff.mp (List.mem_flatten.mpr ⟨l, hl', hp'⟩)
    obtain ⟨_, _, _, ⟨_, h⟩ | ⟨_, h | h⟩⟩ := SS_mem.mp this <;> omega
  once := fun r d s e p h1 h2 => flat_once (hp.nodup_iff.mpr (SS_nodup (Nat.le_refl _))) h1 h2
  other := fun l hl' p hp' => by
    have : p ∈ SS many prs prs.length := hp.mem_iff.mp (List.mem_flatten.mpr ⟨l, hl', hp'⟩)
    obtain ⟨q, h1, h2, h3⟩ := SS_mem.mp this
    have : (p.1, [1, 0, 2].getD p.2 0) ∈ SS many prs prs.length := SS_mem.mpr ⟨q, h1, h2, by
      rcases h3 with ⟨c, h⟩ | ⟨c, h | h⟩
      · exact .inl ⟨c, by rw [h]; rfl⟩
      · exact .inr ⟨c, .inr (by rw [h]; rfl)⟩
      · exact .inr ⟨c, .inl (by rw [h]; rfl)⟩⟩
    obtain ⟨m, hm, hq⟩ := List.mem_flatten.mp (hp.mem_iff.mpr this)
    exact ⟨m, hm, hq⟩
section
variable {P : Program} {w : World} {K : PySem.W.Frag} {vs : List V} {H : Hp} {Q : VK} {E : XK}
theorem Nx.joinLL {b : Addr} {G0 H0 G H : Hp} {l : Addr} {ps : List Addr} {dss : List (List PyData)} (n : Nx b G0 H0 G H) (g : LL K G H l ps dss) (hf : ∀ p ∈ l :: ps, H0 p = none) (hb : b ∉ l :: ps) : Nx b G0 H0 (wth G H (l :: ps)) H :=
  ⟨n.gg.trans (g.join n.gh).1, (g.join n.gh).2.1, n.xb, fun a h1 h2 => by
    unfold wth
    rw [if_neg (fun z => h2 (hf a z))]
    exact n.fr a h1 h2, by unfold wth; rw [if_neg hb]; exact n.ob⟩
theorem rd_Ldoors_put (h : S_Ldoors_put P w K vs H Q E) : t_Ldoors_put P w K (Dd Q) (st0 10 vs) H := by
  obtain ⟨G, b, v2, c, many, prs, rfl, e, ob, B, hc, h2, hl12, hm, hm6, hprs, k⟩ := h
  show t_Ldoors_put P w K (Dd Q) [some (.ref b), some v2, some (.int (many : Int)), none, none, none, none, none, none, none] H
  unfold t_Ldoors_put
  refine qd_asgR (el_lcm (K := K) (List.range many) (fun i => .int (i : Int)) (fun _ => []) (ei_rng1 (ed_nVar (i := 2) rfl) (by omega)) (by rw [List.length_range]; omega) (fun i a ha x G5 H5 e1 e2 hx Q q => q (([some (.ref b), some v2, some (.int (many : Int)), none, none, none, none, none, none, none] : L2.St).set 8 (some x)) rfl (ef_lst ea_nil)) e fun D ps G1 H1 n1 g1 f1 => ?_)
  show tSeq _ _ _ [some (.ref b), some v2, some (.int (many : Int)), some (.ref D), none, none, none, none, none, none] H1
  have hb : b ∉ D :: ps := fun z => by
    obtain ⟨o, ho⟩ := B.some
    have := f1 b z
    rw [ho] at this
    cases this
  have nx1 := Nx.ofNw n1 ob B.some
  have B1 := B.ex n1.hh
  have g1' : LL K G1 H1 D ps ((List.replicate many ([] : List (Nat × Nat))).map fun l => l.map eEnd) := by
    have : (List.range many).map (fun _ => ([] : List PyData)) = (List.replicate many ([] : List (Nat × Nat))).map fun l => l.map eEnd := by
      rw [List.map_replicate, List.map_const', List.length_range]
      rfl
    rw [← this]
    exact g1
  refine qd_for prs.zipIdx (fun p => .tuple [nI p.2, eEnd p.1]) (by rw [← enumD_map]; exact ei_enum (ed_var (i := 1) rfl (dp_ex n1.gg h2))) n1.gh
    (fun t G2 σ2 H2 => ∃ (hs : Hv) (y4 y5 y6 y7 y8 y9 : Option V), σ2 = [some (.ref b), some v2, some (.int (many : Int)), some (.ref D), y4, y5, y6, y7, y8, y9] ∧ Nx b G H G2 H2 ∧ BoxAt H2 b (c + 2 * t) ∧ LL K G2 H2 D ps (hs.map fun l => l.map eEnd) ∧ hs.length = many ∧ hs.flatten.Perm (SS many prs t))
    (fun G2 H2 n2 => ⟨_, none, none, none, none, none, none, rfl, nx1.nw B1 n2, B1.ex n2.hh, g1'.nw n2, by simp, by
      have : (List.replicate many ([] : List (Nat × Nat))).flatten = [] := by simp
      rw [this]
      exact List.Perm.refl _⟩) ?_ ?_
  · rintro G2 t ⟨⟨one, other⟩, t'⟩ G3 σ3 H3 e2 ht e3 e4 ⟨hs, y4, y5, y6, y7, y8, y9, rfl, nx3, B3, g3, hsl, hpm⟩ x G4 H4 n4 hx
    obtain ⟨rfl, hp⟩ := zipIdx_some ht
    dsimp only at hp
    obtain ⟨ho1, ho2⟩ := hprs _ (List.mem_of_getElem? hp)
    dsimp only at ho1 ho2
    have htl := (List.getElem?_eq_some_iff.mp hp).1
    refine gt2nest hx n4.gh fun va vb vc ha hb' hc' => ?_
    obtain rfl := dp_nI ha
    obtain rfl := dp_nI hb'
    obtain rfl := dp_nI hc'
    show tSeq _ _ _ [some (.ref b), some v2, some (.int (many : Int)), some (.ref D), some (.int (t' : Int)), some (.int (one : Int)), some (.int (other : Int)), y7, y8, y9] H4
    have nx4 := nx3.nw B3 n4
    have B4 := B3.ex n4.hh
    have g4 := g3.nw n4
    have hsd : Ed K (tIf (tTest (tOp (rEqD K) (tVar 6) (tVar 2))) (tLst (tCons (tTup (tCons (tVar 5) (tCons (tC (.int 2)) tNil))) tNil)) (tLst (tCons (tTup (tCons (tVar 5) (tCons (tC (.int 0)) tNil))) (tCons (tTup (tCons (tVar 6) (tCons (tC (.int 1)) tNil))) tNil)))) [some (.ref b), some v2, some (.int (many : Int)), some (.ref D), some (.int (t' : Int)), some (.int (one : Int)), some (.int (other : Int)), y7, y8, y9] G4 (.list ((sidesM many (one, other)).map eEnd)) := by
      have hq : PyData.eqv (nI other) (nI many) = decide (other = many) := eqv_dec (f := nI) (fun _ _ => nI_inj) (n := 0) (m := 0) pl_nI pl_nI
      refine ed_if (et_eq (et_test (K := K) (ed_eqD (ed_nVar (n := other) (i := 6) rfl) (ed_nVar (n := many) (i := 2) rfl) (pl_shaped (pl_nI (n := 0))) (pl_shaped (pl_nI (n := 0))))) hq) (fun hb => ?_) (fun hb => ?_)
      · have hz := of_decide_eq_true hb
        unfold sidesM
        rw [if_pos hz]
        exact ed_lst (ea_cons (ed_tup (ea_cons (ed_nVar (i := 5) rfl) (ea_cons (ed_int (i := 2)) ea_nil))) ea_nil)
      · have hz := of_decide_eq_false hb
        unfold sidesM
        rw [if_neg hz]
        exact ed_lst (ea_cons (ed_tup (ea_cons (ed_nVar (i := 5) rfl) (ea_cons (ed_int (i := 0)) ea_nil))) (ea_cons (ed_tup (ea_cons (ed_nVar (i := 6) rfl) (ea_cons (ed_int (i := 1)) ea_nil))) ea_nil))
    have hsr : ∀ y ∈ sidesM many (one, other), y.1 < many := fun y hy => by
      unfold sidesM at hy
      split at hy
      · simp at hy; rw [hy]; exact ho1
      · rename_i hc
        simp at hy
        dsimp only at hc
        rcases hy with hy | hy <;> rw [hy]
        · exact ho1
        · show other < many; omega
    have hsl2 : (sidesM many (one, other)).length ≤ 2 := by unfold sidesM; split <;> simp
    have hSt : SS many prs (t' + 1) = SS many prs t' ++ newH many ((one, other), t') := SS_succ hp
    have hSl := SS_len many prs t'
    refine qd_asg hsd nx4.gh fun v7 G5 H5 n5 h7 => ?_
    show tFor _ _ _ _ [some (.ref b), some v2, some (.int (many : Int)), some (.ref D), some (.int (t' : Int)), some (.int (one : Int)), some (.int (other : Int)), some v7, y8, y9] H5
    have nx5 := nx4.nw B4 n5
    have B5 := B4.ex n5.hh
    refine sd_for (sidesM many (one, other)) eEnd (ei_list (ed_var (i := 7) rfl h7)) nx5.gh
      (fun j G6 σ6 H6 => ∃ (hs : Hv) (y8 y9 : Option V), σ6 = [some (.ref b), some v2, some (.int (many : Int)), some (.ref D), some (.int (t' : Int)), some (.int (one : Int)), some (.int (other : Int)), some v7, y8, y9] ∧ Nx b G H G6 H6 ∧ BoxAt H6 b (c + 2 * t' + j) ∧ LL K G6 H6 D ps (hs.map fun l => l.map eEnd) ∧ hs.length = many ∧ hs.flatten.Perm (SS many prs t' ++ (newH many ((one, other), t')).take j))
      (fun G6 H6 n6 => ⟨hs, y8, y9, rfl, nx5.nw B5 n6, (B5.ex n6.hh).le (by omega), (g4.nw n5).nw n6, hsl, by rw [List.take_zero, List.append_nil]; exact hpm⟩) ?_ ?_
    · rintro G6 j ⟨rm, sd⟩ G7 σ7 H7 e6 hj e7 e8 ⟨hs, y8, y9, rfl, nx7, B7, g7, hsl, hpm⟩ x G8 H8 n8 hx
      refine gt2n hx n8.gh fun va vb ha hb' => ?_
      obtain rfl := dp_nI ha
      obtain rfl := dp_nI hb'
      show tDrop _ _ [some (.ref b), some v2, some (.int (many : Int)), some (.ref D), some (.int (t' : Int)), some (.int (one : Int)), some (.int (other : Int)), some v7, some (.int (rm : Int)), some (.int (sd : Int))] H8
      have hrm := hsr _ (List.mem_of_getElem? hj)
      dsimp only at hrm
      have hjl := (List.getElem?_eq_some_iff.mp hj).1
      have nx8 := nx7.nw B7 n8
      have B8 := B7.ex n8.hh
      have g8 := g7.nw n8
      obtain ⟨row, hrow⟩ : ∃ row, hs[rm]? = some row := ⟨_, List.getElem?_eq_getElem (by omega)⟩
      have hrd : (hs.map fun l => l.map eEnd)[rm]? = some (row.map eEnd) := by rw [List.getElem?_map, hrow]; rfl
      obtain ⟨p, xs, hpp, hpm', hpo, hpx, hpd⟩ := g8.get hrd
      have hxl := dps_len hpd
      rw [List.length_map] at hxl
      have hrl : row.length ≤ 100 := by
        have h1 := (List.sublist_flatten_of_mem (List.mem_of_getElem? hrow)).length_le
        rw [hpm.length_eq, List.length_append, List.length_take] at h1
        omega
      have hlen : EdH K (tOp (rI0 fun i j => .int (i + j)) (tCB (rLenC K) (tCons (tOp (rIx K) (tVar 3) (tVar 8)) tNil)) (tC (.int 1))) [some (.ref b), some v2, some (.int (many : Int)), some (.ref D), some (.int (t' : Int)), some (.int (one : Int)), some (.int (other : Int)), some v7, some (.int (rm : Int)), some (.int (sd : Int))] G8 H8 (nI (row.length + 1)) := fun Q q => by
        refine ⟨_, rfl, _, rfl, rx_row g8 hpp ?_⟩
        refine ⟨p, xs, rfl, .inl (sq_of hpx), (xs.length : Int), 1, rfl, rfl, ?_⟩
        rw [hxl]
        exact q _ G8 H8 (Nw.refl nx8.gh) (.int _)
      refine ⟨_, rfl, _, rfl, rx_row g8 hpp ⟨.inl ⟨rfl, xs, sq_of hpx⟩, ?_⟩⟩
      show tCall (S_Ltake P w K) [] E0 (tCons (tVar 0) (tCons (tOp (rI0 fun i j => .int (i + j)) (tCB (rLenC K) (tCons (tOp (rIx K) (tVar 3) (tVar 8)) tNil)) (tC (.int 1))) tNil)) _ H8 _
      refine tk_take (j := 0) (many := row.length + 1) rfl hlen B8 nx8.ob (by omega) (by omega) (by omega) fun q G9 J9 hq n9 B9 => ?_
      have nx9 := nx8.trans n9
      have g9 := g8.nx hb n9
      refine (ea_cons (ed_tup (K := K) (ds := [nI t', nI sd]) (ea_cons (ed_nVar (i := 4) rfl) (ea_cons (ed_nVar (i := 9) rfl) ea_nil))) ea_nil) J9 nx9.gh _ fun vhs G10 H10 n10 h10 => ?_
      obtain ⟨vh, rfl, hvh⟩ := dps1 h10
      have nx10 := nx9.nw B9 n10
      have B10 := B9.ex n10.hh
      have g10 := g9.nw n10
      obtain ⟨p', xs', hpp', hpm'', hpo', hpx', hpd'⟩ := g10.get hrd
      rw [hpp] at hpp'
      cases hpp'
      have hxx : xs' = xs := by
        have := (n9.trans (Nx.ofNw n10 n9.ob B9.some)).keep (fun z => hb (z ▸ List.mem_cons_of_mem _ hpm')) hpo hpx
        rw [hpx'] at this
        cases this.2
        rfl
      subst hxx
      refine ⟨p, xs', (q : Int), vh, rfl, rfl, hpx', sz8' (by omega), by omega, by omega, ?_⟩
      have fp : H p = none := f1 p (List.mem_cons_of_mem _ hpm')
      have pb : p ≠ b := fun z => hb (z ▸ List.mem_cons_of_mem _ hpm')
      have nx11 := nx10.mut (o := .lst (xs'.take (q : Int).toNat ++ [vh] ++ xs'.drop (q : Int).toNat)) fp hpo'
      have g11 : LL K G10 (upd H10 p (.lst (xs'.take q ++ [vh] ++ xs'.drop q))) D ps ((hs.set rm (row.take q ++ [(t', sd)] ++ row.drop q)).map fun l => l.map eEnd) := by
        rw [List.map_set]
        refine g10.put hpp ?_
        rw [List.map_append, List.map_append, List.map_take, List.map_drop]
        exact dps_app (dps_app (dps_take q hpd') (dps_one hvh)) (dps_drop q hpd')
      refine ⟨G10, ((e7.trans n8.gg).trans n9.gg).trans n10.gg, nx11.gh, hs.set rm (row.take q ++ [(t', sd)] ++ row.drop q), _, _, rfl, nx11, (B10.up (Ne.symm pb)).le (by omega), g11, by rw [List.length_set]; exact hsl, ?_⟩
      have hnj : (newH many ((one, other), t'))[j]? = some (t', sd) := by unfold newH; rw [List.getElem?_map, hj]; rfl
      rw [take_snoc hnj, ← List.append_assoc]
      exact (perm_set (ins_perm row q (t', sd)) hrow).trans (hpm.append_right _)
    · rintro G6 σ6 H6 e6 e7 ⟨hs, y8, y9, rfl, nx6, B6, g6, hsl, hpm⟩
      have hnl : (newH many ((one, other), t')).length = (sidesM many (one, other)).length := by unfold newH; simp
      rw [← hnl, List.take_length, ← hSt] at hpm
      exact ⟨G6, (e3.trans n4.gg).trans (n5.gg.trans e6), e7, hs, _, _, _, _, _, _, rfl, nx6, B6.le (by omega), g6, hsl, hpm⟩
  · rintro G2 σ2 H2 e2 e3 ⟨hs, y4, y5, y6, y7, y8, y9, rfl, nx2, B2, g2, hsl, hpm⟩
    rw [List.length_zipIdx] at hpm B2
    obtain ⟨j1, j2, j3⟩ := g2.join e3
    have nx3 := nx2.joinLL g2 f1 hb
    have j4 : Dp K (wth G2 H2 (D :: ps)) (.ref D) (.list (hs.map fun l => .list (l.map eEnd))) := by
      rw [List.map_map] at j3
      exact j3
    refine ⟨_, rfl, ⟨_, hs, j2, dps_one j4, halves_ok hm hm6 hsl hl12 hpm, fun v u G' H' hu hul nw hv => k v u G' H' hu (hul.trans hsl) (nx3.nw B2 nw) ((B2.ex nw.hh).le (by omega)) hv⟩⟩
end
end Wk
/-! WP23 -/
namespace Wk
open PySem L2 Evl
def bump (us : List Nat) (e : Nat) : List Nat := us.set e (us.getD e 0 + 1)
theorem bump_len (us : List Nat) (e : Nat) : (bump us e).length = us.length := by unfold bump; simp
theorem bump_get {us : List Nat} {e : Nat} (he : e < us.length) (r : Nat) : (bump us e).getD r 0 = us.getD r 0 + if r = e then 1 else 0 := by
  unfold bump
  rw [List.getD_eq_getElem?_getD]
  by_cases h : r = e
  · subst h
    rw [List.getElem?_set_self he, if_pos rfl]
    rfl
  · rw [List.getElem?_set_ne (Ne.symm h), if_neg h, Nat.add_zero, List.getD_eq_getElem?_getD]
def sumT (us : List Nat) : Nat → Nat
  | 0 => 0
  | n + 1 => sumT us n + us.getD n 0
theorem sumT_bump {us : List Nat} {e : Nat} (he : e < us.length) : ∀ n, sumT (bump us e) n = sumT us n + if e < n then 1 else 0
  | 0 => by simp [sumT]
  | n + 1 => by
    unfold sumT
    rw [sumT_bump he n, bump_get he]
    by_cases h1 : e < n
    · rw [if_pos h1, if_neg (by omega), if_pos (by omega)]; omega
    · by_cases h2 : n = e
      · rw [if_neg h1, if_pos h2, if_pos (by omega)]; omega
      · rw [if_neg h1, if_neg h2, if_neg (by omega)]; omega
theorem sumT_ge {us : List Nat} {m : Nat} : ∀ {n : Nat}, (∀ r, r < n → m ≤ us.getD r 0) → m * n ≤ sumT us n
  | 0, _ => by simp [sumT]
  | n + 1, h => by
    have ih := sumT_ge (n := n) fun r hr => h r (by omega)
    have := h n (by omega)
    unfold sumT
    rw [Nat.mul_add, Nat.mul_one]
    omega
theorem bumps_len : ∀ (es us : List Nat), (es.foldl bump us).length = us.length
  | [], us => rfl
  | e :: es, us => by rw [List.foldl_cons, bumps_len es, bump_len]
section
variable {P : Program} {w : World} {K : PySem.W.Frag} {vs : List V} {H : Hp} {Q : VK} {E : XK}
def EfH (K : PySem.W.Frag) (te : TE) (σ : L2.St) (G H : Hp) (ds : List PyData) : Prop := ∀ Q : VK, (∀ p xs G' H', Nw G H G' H' → G' p = none → H p = none → H' p = some (.lst xs) → DpAll K G' xs ds → Q (.ref p) H') → te σ H Q
theorem EfH.drop {te : TE} {σ : L2.St} {G H : Hp} {ds : List PyData} {l : Addr} {o : HO} (h : EfH K te σ (upd G l o) H ds) (hl : G l = none) (ho : ∀ xs, o ≠ .tup xs ∧ ∀ ob, o ≠ .frz ob (.tup xs)) (f : fzs ds = true) : EfH K te σ G H ds := fun Q q => h Q fun p xs G' H' n g f1 at1 hd => q p xs (del G' l) H' (n.drop hl) (by
  by_cases e : p = l
  · rw [e]; exact del_same
  · rw [del_ne e]; exact g) f1 at1 (dps_tk (tk_del (fun xs => by rw [n.drop_at]; exact ⟨fun e => (ho xs).1 (Option.some.inj e), fun ob e => (ho xs).2 ob (Option.some.inj e)⟩)) f hd)
theorem ed_last {σ : L2.St} {G : Hp} {te : TE} {ds : List PyData} {d : PyData} (h : Ed K te σ G (.list (ds ++ [d]))) : Ed K (tOp (rIx K) te (tUn (rU fun i => .int (-i)) (tC (.int 1)))) σ G d := by
  refine ed_ixL (j := ds.length) h (ed_un (d1 := .int 1) (d := .int (-1)) ed_int fun y G7 e7 hy => rd_val (.int _) fun _ _ _ q => ⟨1, dp_int_inv hy, q⟩) ?_ ?_
  · rw [List.length_append, List.length_singleton]
    exact ixn_last (by omega)
  · rw [List.getElem?_append_right (by omega), Nat.sub_self]
    rfl
/-- for end in ..: used[end] = used[end] + 1 -/
theorem bump_loop {σ : L2.St} {G0 H0 G H : Hp} {ti : TI} {D : Ends} {b lu l : Addr} {c : Nat} {es us : List Nat} {xu : List V} {dsl : List PyData} {xl : List V} (he : EiH K ti σ G H (es.map nI)) (hes : ∀ x ∈ es, x < us.length) (hl3 : σ[3]? = some (some (.ref lu))) (h7 : 7 < σ.length)
    (nx : Nx b G0 H0 G H) (B : BoxAt H b c) (ru : Gr K G H lu (us.map nI) xu) (rl : Gr K G H l dsl xl) (hul : lu ≠ l) (hub : lu ≠ b) (f0 : H0 lu = none)
    (k : ∀ (xu' : List V) (y : Option V) G1 H1, Ex G G1 → Nx b G0 H0 G1 H1 → BoxAt H1 b c → Gr K G1 H1 lu ((es.foldl bump us).map nI) xu' → Gr K G1 H1 l dsl xl → D.nx (σ.set 7 y) H1) :
    tFor ti (gName 7) (tAsg (tOp (rI0 fun i j => .int (i + j)) (tOp (rIx K) (tVar 3) (tVar 7)) (tC (.int 1))) (gSub (tVar 3) (tVar 7) rSetL)) D σ H := by
  refine sd_forH es nI he
    (fun i G2 σ2 H2 => ∃ (xu' : List V) (y : Option V), σ2 = σ.set 7 y ∧ Nx b G0 H0 G2 H2 ∧ BoxAt H2 b c ∧ Gr K G2 H2 lu (((es.take i).foldl bump us).map nI) xu' ∧ Gr K G2 H2 l dsl xl)
    (fun G2 H2 n2 => ⟨xu, σ[7]'h7, by rw [List.set_getElem_self], nx.nw B n2, B.ex n2.hh, ru.nw n2, rl.nw n2⟩) ?_ ?_
  · rintro G1 i a G2 σ2 H2 e1 hi e2 e3 ⟨xu', y, rfl, nx2, B2, ru2, rl2⟩ x G3 H3 n3 hx
    obtain rfl := dp_nI hx
    refine gn1 ?_
    have nx3 := nx2.nw B2 n3
    have B3 := B2.ex n3.hh
    have ru3 := ru2.nw n3
    have rl3 := rl2.nw n3
    have hal := hes a (List.mem_of_getElem? hi)
    have s3 : ((σ.set 7 y).set 7 (some (.int (a : Int))))[3]? = some (some (.ref lu)) := by
      rw [List.getElem?_set_ne (by decide), List.getElem?_set_ne (by decide)]
      exact hl3
    have s7 : ((σ.set 7 y).set 7 (some (.int (a : Int))))[7]? = some (some (.int (a : Int))) := by
      rw [List.getElem?_set_self (by rw [List.length_set]; exact h7)]
    have hul' : a < ((es.take i).foldl bump us).length := by rw [bumps_len]; exact hal
    generalize hus : (es.take i).foldl bump us = us2 at *
    obtain ⟨j1, j2, j3⟩ := ru3.join nx3.gh
    have hx3 := ru3.len
    rw [List.length_map] at hx3
    refine sd_set (K := K) (j := 3) (i := a) s3 ru3.at_ (ed_is (ed_add (ed_nth (ed_var s3 j3) (ed_nVar s7) hul') (ed_int (i := 1))) (show PyData.int _ = nI (us2.getD a 0 + 1) from rfl)) j2 (ed_nVar s7) nx3.gh (by omega) fun v G4 H4 n4 hv H5 e5 => ?_
    obtain rfl := dp_nI hv
    refine ⟨G3, e2.trans n3.gg, Ex.mut ((nx3.gh.trans n4.hh).trans e5) ru3.out, xu'.set a (.int ((us2.getD a 0 + 1 : Nat) : Int)), some (.int (a : Int)), by rw [List.set_set], (nx3.hx (n4.hh.trans e5) (c := c)).mut f0 ru3.out, (B3.ex (n4.hh.trans e5)).up (Ne.symm hub), ⟨ru3.out, upd_same, ?_⟩, (rl3.hx (n4.hh.trans e5)).up (Ne.symm hul)⟩
    rw [take_snoc hi, List.foldl_append, hus]
    show DpAll K G3 _ ((bump us2 a).map nI)
    unfold bump
    rw [List.map_set]
    exact dps_set (.int _) a ru3.ok
  · rintro G2 σ2 H2 e1 e2 ⟨xu', y, rfl, nx2, B2, ru2, rl2⟩
    rw [List.take_length] at ru2
    exact k xu' y G2 H2 e1 nx2 B2 ru2 rl2

theorem rd_Lweb (h : S_Lweb P w K vs H Q E) : t_Lweb P w K (Dd Q) (st0 12 vs) H := by
  obtain ⟨G, b, c, many, most, rfl, e, ob, B, hc, hm, hm6, hmo, hmo', k⟩ := h
  show t_Lweb P w K (Dd Q) [some (.ref b), some (.int (many : Int)), some (.int (most : Int)), none, none, none, none, none, none, none, none, none] H
  unfold t_Lweb
  refine qd_asgF (K := K) (ef_rep (n := many) (ef_lst (ea_cons (ed_int (i := 0)) ea_nil)) (ed_nVar (i := 1) rfl) (by omega)) e fun lu xu G1 H1 n1 o1 f1 at1 hx1 => ?_
  refine qd_new fun l hl => ?_
  show tSeq _ _ _ [some (.ref b), some (.int (many : Int)), some (.int (most : Int)), some (.ref lu), some (.ref l), none, none, none, none, none, none, none] _
  obtain ⟨ob', hob⟩ := B.some
  have ub : lu ≠ b := fun z => by rw [z, hob] at f1; cases f1
  have lb : l ≠ b := fun z => by rw [z, n1.hh _ _ hob] at hl; cases hl
  have ul : lu ≠ l := fun z => by rw [← z, at1] at hl; cases hl
  have f2 : H l = none := fresh_back n1.hh hl
  have nx1 := (Nx.ofNw n1 ob B.some).out (o := .lst []) hl (Ne.symm lb)
  have B1 := (B.ex n1.hh).up (o := .lst []) (Ne.symm lb)
  have hx1' : DpAll K G1 xu ((List.replicate many 0).map nI) := by rw [List.map_replicate]; exact hx1
  have ru1 : Gr K G1 (upd H1 l (.lst [])) lu ((List.replicate many 0).map nI) xu := (Gr.mk o1 at1 hx1').up ul
  have rl1 : Gr K G1 (upd H1 l (.lst [])) l (([] : List (Nat × Nat)).map eEnd) [] := Gr.mk (fresh_back n1.gh hl) upd_same .nil
  have hz : ∀ r, (List.replicate many 0).getD r 0 = 0 := fun r => by
    rw [List.getD_eq_getElem?_getD, List.getElem?_replicate]
    split <;> rfl
  refine qd_for (K := K) (List.range (many - 1)) (fun i => .int ((1 + i : Nat) : Int)) (ei_rng2 (lo := 1) ed_int (ed_nVar (i := 1) rfl) (by omega) (by omega)) nx1.gh
    (fun i G2 σ2 H2 => ∃ (us : List Nat) (xu xl : List V) (prs : List (Nat × Nat)) (y5 y6 y7 : Option V), σ2 = [some (.ref b), some (.int (many : Int)), some (.int (most : Int)), some (.ref lu), some (.ref l), y5, y6, y7, none, none, none, none] ∧ Nx b G H G2 H2 ∧ BoxAt H2 b (c + i) ∧ Gr K G2 H2 lu (us.map nI) xu ∧ Gr K G2 H2 l (prs.map eEnd) xl ∧
      us.length = many ∧ sumT us (1 + i) = 2 * i ∧ (∀ r, 1 + i ≤ r → us.getD r 0 = 0) ∧ prs.length = i ∧ ∀ p ∈ prs, p.1 < many ∧ p.2 ≤ many)
    (fun G2 H2 n2 => ⟨_, xu, [], [], none, none, none, rfl, nx1.nw B1 n2, B1.ex n2.hh, ru1.nw n2, rl1.nw n2, by simp, by unfold sumT sumT; rw [hz], fun r _ => hz r, rfl, by simp⟩) ?_ ?_
  · rintro G2 i i' G3 σ3 H3 e2 hi e3 e4 ⟨us, xu, xl, prs, y5, y6, y7, rfl, nx3, B3, ru3, rl3, hul, hsum, hzero, hpl, hpv⟩ x G4 H4 n4 hx
    obtain ⟨rfl, him⟩ := range_some hi
    obtain rfl := dp_int_inv hx
    generalize hroom : 1 + i' = room at *
    refine gn1 ?_
    show tSeq _ _ _ [some (.ref b), some (.int (many : Int)), some (.int (most : Int)), some (.ref lu), some (.ref l), some (.int (room : Int)), y6, y7, none, none, none, none] H4
    have nx4 := nx3.nw B3 n4
    have B4 := B3.ex n4.hh
    have ru4 := ru3.nw n4
    have rl4 := rl3.nw n4
    generalize hfr : (List.range room).filterMap (fun r => if us.getD r 0 < most then some r else none) = free
    have hfd : (List.range room).filterMap (fun r => if us.getD r 0 < most then some (nI r) else none) = free.map nI := by
      rw [← hfr, List.map_filterMap]
      congr 1
      funext r
      split <;> rfl
    have hfm : ∀ r ∈ free, r < room := fun r hr => by
      rw [← hfr] at hr
      obtain ⟨q, hq, hq'⟩ := List.mem_filterMap.mp hr
      split at hq'
      · cases hq'; exact List.mem_range.mp hq
      · cases hq'
    have hfn : 0 < free.length := by
      rcases Nat.eq_zero_or_pos free.length with z | z
      · have z := List.length_eq_zero_iff.mp z
        rw [z] at hfr
        have hge : most * room ≤ sumT us room := sumT_ge fun r hr => by
          by_cases hlt : us.getD r 0 < most
          · have : r ∈ (List.range room).filterMap (fun r => if us.getD r 0 < most then some r else none) := List.mem_filterMap.mpr ⟨r, List.mem_range.mpr hr, if_pos hlt⟩
            rw [hfr] at this
            cases this
          · omega
        have : 2 * room ≤ most * room := Nat.mul_le_mul_right room hmo
        omega
      · exact z
    have hfl : free.length ≤ room := by
      have := List.length_filterMap_le (fun r => if us.getD r 0 < most then some r else none) (List.range room)
      rw [hfr, List.length_range] at this
      exact this
    have hfree : EfH K (tLc (iRng1 (tCons (tVar 5) tNil)) (gName 11) (tTest (tOp (rI0 fun i j => .bl (decide (i < j))) (tOp (rIx K) (tVar 3) (tVar 11)) (tVar 2))) (tVar 11) [11]) [some (.ref b), some (.int (many : Int)), some (.int (most : Int)), some (.ref lu), some (.ref l), some (.int (room : Int)), y6, y7, none, none, none, none] G4 H4 (free.map nI) := by
      obtain ⟨j1, j2, j3⟩ := ru4.join nx4.gh
      have z := ef_lc (K := K) (G := upd G4 lu (.lst xu)) (σ := [some (.ref b), some (.int (many : Int)), some (.int (most : Int)), some (.ref lu), some (.ref l), some (.int (room : Int)), y6, y7, none, none, none, none]) (tt := tTest (tOp (rI0 fun i j => .bl (decide (i < j))) (tOp (rIx K) (tVar 3) (tVar 11)) (tVar 2))) (te := tVar 11) (g := gName 11) (vs := [11]) (List.range room) (fun i => .int (i : Int)) (fun r => if us.getD r 0 < most then some (nI r) else none) (ei_rng1 (ed_nVar (n := room) (i := 5) rfl) (by omega)) (by rw [List.length_range]; omega) fun j r hr x G5 H5 e5 e6 hx Q q => by
        obtain ⟨rfl, hrl⟩ := range_some hr
        obtain rfl := dp_int_inv hx
        refine q (([some (.ref b), some (.int (many : Int)), some (.int (most : Int)), some (.ref lu), some (.ref l), some (.int (room : Int)), y6, y7, none, none, none, none] : L2.St).set 11 (some (.int (r : Int)))) rfl ?_ fun d hd => ?_
        · refine et_eq (et_test (ed_lt (ed_nth (r := r) (ed_var (i := 3) rfl (dp_ex e5 j3)) (ed_nVar (i := 11) rfl) (by omega)) (ed_nVar (n := most) (i := 2) rfl))) ?_
          by_cases hlt : us.getD r 0 < most
          · rw [if_pos hlt]
            exact decide_eq_true (by omega)
          · rw [if_neg hlt]
            exact decide_eq_false (by omega)
        · split at hd
          · cases hd; exact ed_nVar (i := 11) rfl
          · cases hd
      rw [hfd] at z
      exact EfH.drop (o := .lst xu) (fun Q q => z H4 j2 Q q) ru4.out nt_lst (fzs_nI _)
    refine qd_asgR (hfree _ fun pf xf G5 H5 n5 o5 f5 at5 hx5 => ?_)
    show tSeq _ _ _ [some (.ref b), some (.int (many : Int)), some (.int (most : Int)), some (.ref lu), some (.ref l), some (.int (room : Int)), some (.ref pf), y7, none, none, none, none] H5
    have n5' : Nw G4 H4 (upd G5 pf (.lst xf)) H5 := n5.add o5 f5 at5
    have hpf : Dp K (upd G5 pf (.lst xf)) (.ref pf) (.list (free.map nI)) := .lst (sq_of upd_same) (dps_ex (Ex.new o5) hx5)
    have nx5 := nx4.nw B4 n5'
    have B5 := B4.ex n5'.hh
    have ru5 := ru4.nw n5'
    have rl5 := rl4.nw n5'
    have e45 := n5'.gg
    generalize upd G5 pf (.lst xf) = G6 at *
    have hlenf : Ed K (tCB (rLenC K) (tCons (tVar 6) tNil)) [some (.ref b), some (.int (many : Int)), some (.int (most : Int)), some (.ref lu), some (.ref l), some (.int (room : Int)), some (.ref pf), y7, none, none, none, none] G6 (nI free.length) :=
      ed_is (ed_len (ed_var (i := 6) rfl hpf)) (by rw [List.length_map]; rfl)
    refine ⟨_, rfl, .inl ⟨rfl, xl, sq_of rl5.at_⟩, ?_⟩
    refine ⟨_, rfl, ?_⟩
    show tCall (S_Ltake P w K) [] E0 (tCons (tVar 0) (tCons (tCB (rLenC K) (tCons (tVar 6) tNil)) tNil)) _ H5 _
    refine tk_take (j := 0) (many := free.length) rfl (Ed.at hlenf nx5.gh) B5 nx5.ob (by omega) hfn (by omega) fun q G7 J7 hq n7 B7 => ?_
    have nx7 := nx5.trans n7
    have ru7 := ru5.nx ub n7
    have rl7 := rl5.nx lb n7
    obtain ⟨pf', xf', hpe, hsq, hxf⟩ := dp_lst_inv (dp_ex n7.gg hpf)
    cases hpe
    obtain ⟨f, hf⟩ : ∃ f, free[q]? = some f := ⟨_, List.getElem?_eq_getElem hq⟩
    have hfr' := hfm f (List.mem_of_getElem? hf)
    obtain ⟨vf, hvf, hvd⟩ := dps_get (i := q) hxf (show (free.map nI)[q]? = some (nI f) by rw [List.getElem?_map, hf]; rfl)
    obtain rfl := dp_nI hvd
    refine .inl ⟨pf, xf', (q : Int), .int (f : Int), rfl, rfl, ex_l nx7.gh hsq, ?_, ?_⟩
    · unfold atI
      rw [ixn (by rw [dps_len hxf, List.length_map]; exact hq)]
      exact hvf
    refine ⟨_, rfl, sz8 (by simp), fun p hp => ?_⟩
    have n8 : Nw G7 J7 (upd G7 p (.tup [.int (f : Int), .int (room : Int)])) (upd J7 p (.tup [.int (f : Int), .int (room : Int)])) := Nw.new nx7.gh hp
    have hdp : Dp K (upd G7 p (.tup [.int (f : Int), .int (room : Int)])) (.ref p) (eEnd (f, room)) := .tup (st_of upd_same) (.cons (.int _) (.cons (.int _) .nil))
    have nx8 := nx7.nw B7 n8
    have B8 := B7.ex n8.hh
    have ru8 := ru7.nw n8
    have rl8 := rl7.nw n8
    have e78 := n8.gg
    have hxl := rl8.len
    rw [List.length_map] at hxl
    refine ⟨l, xl, .ref p, rfl, rfl, rl8.at_, sz8' (by omega), ?_⟩
    generalize upd J7 p (.tup [.int (f : Int), .int (room : Int)]) = H8 at *
    generalize upd G7 p (.tup [.int (f : Int), .int (room : Int)]) = G8 at *
    have rl9 : Gr K G8 (upd H8 l (.lst (xl ++ [.ref p]))) l ((prs ++ [(f, room)]).map eEnd) (xl ++ [.ref p]) := ⟨rl8.out, upd_same, by rw [List.map_append]; exact dps_app rl8.ok (dps_one hdp)⟩
    have nx9 := nx8.mut (o := .lst (xl ++ [.ref p])) f2 rl8.out
    have B9 := B8.up (o := .lst (xl ++ [.ref p])) (Ne.symm lb)
    have ru9 := ru8.up (o := .lst (xl ++ [.ref p])) ul
    have hlast : EiH K (iTup K (tOp (rIx K) (tVar 4) (tUn (rU fun i => .int (-i)) (tC (.int 1))))) [some (.ref b), some (.int (many : Int)), some (.int (most : Int)), some (.ref lu), some (.ref l), some (.int (room : Int)), some (.ref pf), y7, none, none, none, none] G8 (upd H8 l (.lst (xl ++ [.ref p]))) ([f, room].map nI) := by
      obtain ⟨j1, j2, j3⟩ := rl9.join nx9.gh
      rw [List.map_append] at j3
      exact eih_tup (EdH.drop (o := .lst (xl ++ [.ref p])) (Ed.at (ed_last (ed_var (i := 4) rfl j3)) j2) rl9.out nt_lst (fz_eEnd (f, room)))
    refine bump_loop hlast (fun y hy => ?_) rfl (by simp) nx9 B9 ru9 rl9 ul ub f1 fun xu' y G10 H10 e10 nx10 B10 ru10 rl10 => ?_
    · simp at hy
      rcases hy with rfl | rfl <;> omega
    · have hbl : (bump us f).length = many := by rw [bump_len, hul]
      refine ⟨G10, ((e3.trans n4.gg).trans (e45.trans n7.gg)).trans (e78.trans e10), nx10.gh, bump (bump us f) room, xu', _, prs ++ [(f, room)], _, _, y, rfl, nx10, B10.le (by omega), ru10, rl10, by rw [bump_len, hbl], ?_, fun r hr => ?_, by rw [List.length_append, hpl]; rfl, fun p hp => ?_⟩
      · rw [show 1 + (i' + 1) = room + 1 by omega, sumT_bump (by omega), sumT_bump (by omega), if_pos (by omega), if_pos (by omega)]
        unfold sumT
        rw [hsum, hzero room (Nat.le_refl _)]
        omega
      · rw [bump_get (by omega), bump_get (by omega), if_neg (by omega), if_neg (by omega), hzero r (by omega)]
      · rcases List.mem_append.mp hp with hp | hp
        · exact hpv p hp
        · simp at hp
          rw [hp]
          exact ⟨by show f < many; omega, by show room ≤ many; omega⟩
  · rintro G2 σ2 H2 e2 e3 ⟨us, xu, xl, prs, y5, y6, y7, rfl, nx2, B2, ru2, rl2, hul, hsum, hzero, hpl, hpv⟩
    rw [List.length_range] at B2 hpl
    refine qd_forTake (K := K) (j := 0) (many := many + 2) rfl (Ed.at (ed_is (ed_add (ed_nVar (n := many) (i := 1) rfl) (ed_int (i := 2))) rfl) nx2.gh) B2 nx2.ob (by omega) (by omega) (by omega) fun t G3 J3 ht n3 B3 => ?_
    have nx3 := nx2.trans n3
    refine qd_forH (List.range t) (fun i : Nat => .int (0 + (i : Int))) (eij (K := K) nx3.gh)
      (fun i G4 σ4 H4 => ∃ (us : List Nat) (xu xl : List V) (prs : List (Nat × Nat)) (y7 y8 y9 y10 : Option V), σ4 = [some (.ref b), some (.int (many : Int)), some (.int (most : Int)), some (.ref lu), some (.ref l), y5, y6, y7, y8, y9, y10, none] ∧ Nx b G H G4 H4 ∧ BoxAt H4 b (c + many + 2 * i) ∧ Gr K G4 H4 lu (us.map nI) xu ∧ Gr K G4 H4 l (prs.map eEnd) xl ∧
        us.length = many ∧ prs.length ≤ many - 1 + i ∧ ∀ p ∈ prs, p.1 < many ∧ p.2 ≤ many)
      (fun G4 H4 n4 => ⟨us, xu, xl, prs, y7, none, none, none, rfl, nx3.nw B3 n4, (B3.ex n4.hh).le (by omega), (ru2.nx ub n3).nw n4, (rl2.nx lb n3).nw n4, hul, by omega, hpv⟩) ?_ ?_
    · rintro G4 i i' G5 σ5 H5 e4 hi e5 e6 ⟨us, xu, xl, prs, y7, y8, y9, y10, rfl, nx5, B5, ru5, rl5, hul, hpl, hpv⟩ z G6 H6 n6 hz
      obtain ⟨rfl, hit⟩ := range_some hi
      refine gn1 ?_
      show tSeq _ _ _ [some (.ref b), some (.int (many : Int)), some (.int (most : Int)), some (.ref lu), some (.ref l), y5, y6, y7, some z, y9, y10, none] H6
      have nx6 := nx5.nw B5 n6
      have B6 := B5.ex n6.hh
      have ru6 := ru5.nw n6
      have rl6 := rl5.nw n6
      refine qd_asgR ?_
      show tCall (S_Ltake P w K) [] E0 (tCons (tVar 0) (tCons (tVar 1) tNil)) _ H6 _
      refine tk_take (K := K) (j := 0) (many := many) rfl (Ed.at (ed_nVar (i := 1) rfl) nx6.gh) B6 nx6.ob (by omega) hm (by omega) fun q1 G7 J7 hq1 n7 B7 => ?_
      have nx7 := nx6.trans n7
      show tCall (S_Ltake P w K) [] E0 (tCons (tVar 0) (tCons (tOp (rI0 fun i j => .int (i + j)) (tVar 1) (tC (.int 1))) tNil)) _ J7 _
      refine tk_take (K := K) (j := 0) (many := many + 1) rfl (Ed.at (ed_is (ed_add (ed_nVar (n := many) (i := 1) rfl) (ed_int (i := 1))) rfl) nx7.gh) B7 nx7.ob (by omega) (by omega) (by omega) fun q2 G8 J8 hq2 n8 B8 => ?_
      have nx8 := nx7.trans n8
      have ru8 := (ru6.nx ub n7).nx ub n8
      have rl8 := (rl6.nx lb n7).nx lb n8
      refine ⟨sz8 (by simp), fun p hp => ?_⟩
      have n9 : Nw G8 J8 (upd G8 p (.tup [.int (q1 : Int), .int (q2 : Int)])) (upd J8 p (.tup [.int (q1 : Int), .int (q2 : Int)])) := Nw.new nx8.gh hp
      have hdp : Dp K (upd G8 p (.tup [.int (q1 : Int), .int (q2 : Int)])) (.ref p) (eEnd (q1, q2)) := .tup (st_of upd_same) (.cons (.int _) (.cons (.int _) .nil))
      have nx9 := nx8.nw B8 n9
      have B9 := B8.ex n9.hh
      have ru9 := ru8.nw n9
      have rl9 := rl8.nw n9
      have e89 := n9.gg
      generalize upd J8 p (.tup [.int (q1 : Int), .int (q2 : Int)]) = H9 at *
      generalize upd G8 p (.tup [.int (q1 : Int), .int (q2 : Int)]) = G9 at *
      show tSeq _ _ _ [some (.ref b), some (.int (many : Int)), some (.int (most : Int)), some (.ref lu), some (.ref l), y5, y6, y7, some z, some (.ref p), y10, none] H9
      generalize hes : [q1, q2].filterMap (fun x => if x < many then some x else none) = es
      have hed : [q1, q2].filterMap (fun x => if x < many then some (nI x) else none) = es.map nI := by
        rw [← hes, List.map_filterMap]
        congr 1
        funext r
        split <;> rfl
      have hem : ∀ x ∈ es, x < many := fun x hx => by
        rw [← hes] at hx
        obtain ⟨q, hq, hq'⟩ := List.mem_filterMap.mp hx
        split at hq'
        · cases hq'; assumption
        · cases hq'
      have hel : es.length ≤ 2 := by
        have := List.length_filterMap_le (fun x => if x < many then some x else none) [q1, q2]
        rw [hes] at this
        exact this
      refine qd_asg (d := eL es) (ed_is (ed_lc [q1, q2] nI (fun x => if x < many then some (nI x) else none) (ei_tup (ed_var (i := 9) rfl hdp)) (by simp) fun j x hx v G10 H10 e10 e11 hv Q q => ?_) (by rw [hed]; rfl)) nx9.gh fun v10 G10 H10 n10 h10 => ?_
      · obtain rfl := dp_nI hv
        refine q _ rfl (et_eq (et_test (K := K) (ed_lt (ed_nVar (n := x) (i := 7) rfl) (ed_nVar (n := many) (i := 1) rfl))) ?_) fun d hd => ?_
        · by_cases hlt : x < many
          · rw [if_pos hlt]; exact decide_eq_true (by omega)
          · rw [if_neg hlt]; exact decide_eq_false (by omega)
        · split at hd
          · cases hd; exact ed_nVar (i := 7) rfl
          · cases hd
      show tIfS _ _ _ _ [some (.ref b), some (.int (many : Int)), some (.int (most : Int)), some (.ref lu), some (.ref l), y5, y6, y7, some z, some (.ref p), some v10, none] H10
      have nx10 := nx9.nw B9 n10
      have B10 := B9.ex n10.hh
      have ru10 := ru9.nw n10
      have rl10 := rl9.nw n10
      have hall : EtH (tB (tCB (rAll K) (tCons (tLc (iList K (tVar 10)) (gName 7) tYes (tOp (rI0 fun i j => .bl (decide (i ≤ j))) (tOp (rI0 fun i j => .int (i + j)) (tOp (rIx K) (tVar 3) (tVar 7)) (tBM K "list" (rCntI K) (tVar 10) (tCons (tVar 7) tNil))) (tVar 2)) [7]) tNil))) [some (.ref b), some (.int (many : Int)), some (.int (most : Int)), some (.ref lu), some (.ref l), y5, y6, y7, some z, some (.ref p), some v10, none] G10 H10
          ((es.map fun x => decide ((us.getD x 0 : Int) + ((es.map fun n : Nat => (n : Int)).count (x : Int) : Nat) ≤ (most : Int))).all id) := by
        obtain ⟨j1, j2, j3⟩ := ru10.join nx10.gh
        refine EtH.drop (o := .lst xu) (EdT.at (et_B (ed_all (ed_is (ed_lcm es nI (fun x => .bool (decide ((us.getD x 0 : Int) + ((es.map fun n : Nat => (n : Int)).count (x : Int) : Nat) ≤ (most : Int)))) (ei_list (ed_var (i := 10) rfl (dp_ex j1 h10))) (by omega) fun j x hx v G11 H11 e11 e12 hv Q q => ?_) (by rw [List.map_map]; rfl)))) j2) ru10.out
        obtain rfl := dp_nI hv
        refine q _ rfl (ed_le (ed_add (ed_nth (r := x) (ed_var (i := 3) rfl (dp_ex e11 j3)) (ed_nVar (i := 7) rfl) (by rw [hul]; exact hem x (List.mem_of_getElem? hx))) (ed_count (ns := es.map fun n : Nat => (n : Int)) (ed_is (ed_var (i := 10) rfl (dp_ex (j1.trans e11) h10)) (by unfold eL; rw [ints_map])) (ed_nVar (n := x) (i := 7) rfl))) (ed_nVar (n := most) (i := 2) rfl))
      refine sd_whenH hall (fun hb G11 H11 n11 => ?_) (fun hb G11 H11 n11 => ?_)
      · have nx11 := nx10.nw B10 n11
        have B11 := B10.ex n11.hh
        have ru11 := ru10.nw n11
        have rl11 := rl10.nw n11
        refine qd_push (j := 4) (d := eEnd (q1, q2)) rfl rl11 (by rw [List.length_map]; omega) (ed_var (i := 9) rfl (dp_ex (n10.gg.trans n11.gg) hdp)) nx11.gh fun vp G12 H12 n12 rl12 e12 => ?_
        have nx12 := (nx11.nw B11 n12).mut (o := .lst (xl ++ [vp])) f2 rl12.out
        have B12 := (B11.ex n12.hh).up (o := .lst (xl ++ [vp])) (Ne.symm lb)
        have ru12 := (ru11.nw n12).up (o := .lst (xl ++ [vp])) ul
        refine bump_loop (es := es) (EdI.at (ei_list (ed_var (i := 10) rfl (dp_ex (n11.gg.trans n12.gg) h10))) nx12.gh) (fun y hy => by rw [hul]; exact hem y hy) rfl (by simp) nx12 B12 ru12 rl12 ul ub f1 fun xu' y G13 H13 e13 nx13 B13 ru13 rl13 => ?_
        refine ⟨G13, ((((e5.trans n6.gg).trans n7.gg).trans n8.gg).trans e89).trans (((n10.gg.trans n11.gg).trans n12.gg).trans e13), nx13.gh, es.foldl bump us, xu', xl ++ [vp], prs ++ [(q1, q2)], y, some z, some (.ref p), some v10, rfl, nx13, B13.le (by omega), ru13, ?_, by rw [bumps_len, hul], by rw [List.length_append, List.length_singleton]; omega, fun p hp => ?_⟩
        · rw [List.map_append]
          exact rl13
        · rcases List.mem_append.mp hp with hp | hp
          · exact hpv p hp
          · simp at hp
            rw [hp]
            exact ⟨hq1, by show q2 ≤ many; omega⟩
      · exact ⟨G11, ((((e5.trans n6.gg).trans n7.gg).trans n8.gg).trans e89).trans (n10.gg.trans n11.gg), n11.gh, us, xu, xl, prs, y7, some z, some (.ref p), some v10, rfl, nx10.nw B10 n11, (B10.ex n11.hh).le (by omega), ru10.nw n11, rl10.nw n11, hul, by omega, hpv⟩
    · rintro G4 σ4 H4 e4 e5 ⟨us, xu, xl, prs, y7, y8, y9, y10, rfl, nx4, B4, ru4, rl4, hul, hpl, hpv⟩
      rw [List.length_range] at B4 hpl
      obtain ⟨j1, j2, j3⟩ := rl4.join e5
      have nx5 := nx4.add rl4.out f2 rl4.at_ lb
      exact ⟨_, rfl, _, rfl, _, rfl, ⟨_, b, .ref l, c + many + 2 * t, many, prs, rfl, j2, nx5.ob, B4, by omega, j3, by omega, hm, hm6, hpv, fun v u G' J hu hul' nx' B' hv => k v u G' J hu hul' (nx5.trans nx') (B'.le (by omega)) hv⟩⟩
end
end Wk
/-! WP24 -/
namespace Wk
open PySem L2 Evl
theorem ends_len {u : Web} (W : WebOk u) : (endsM u).length ≤ 24 * u.length := by
  have hen : ∀ n, ((List.range n).flatMap fun r => (List.range (deg u r)).filterMap (endF u r)).length ≤ 24 * n := fun n => by
    induction n with
    | zero => simp
    | succ n ih =>
      rw [List.range_succ, List.flatMap_append, List.length_append]
      have := List.length_filterMap_le (endF u n) (List.range (deg u n))
      rw [List.length_range] at this
      have := W.deg n
      simp only [List.flatMap_cons, List.flatMap_nil, List.append_nil]
      omega
  exact hen u.length
section
variable {P : Program} {w : World} {K : PySem.W.Frag} {vs : List V} {H : Hp} {Q : VK} {E : XK}
theorem rd_Lcovered (h : S_Lcovered P w K vs H Q E) : t_Lcovered P w K (Dd Q) (st0 8 vs) H := by
  obtain ⟨G, b, c, many, x, u, rfl, e, ob, B, hc, W, hx, hm, hm6, k⟩ := h
  show t_Lcovered P w K (Dd Q) [some (.ref b), some x, some (.int (many : Int)), none, none, none, none, none] H
  unfold t_Lcovered
  have few := W.few
  have pos := W.pos
  have hel := ends_len W
  have hmany : many ≤ 6 := Nat.le_trans (Nat.le_mul_of_pos_right many pos) hm6
  obtain ⟨ob', hob⟩ := B.some
  refine qd_for (K := K) (List.range 3) (fun i => .int (i : Int)) (ei_rng1 (n := 3) (ed_int (i := 3)) (by omega)) e
    (fun i G2 σ2 H2 => ∃ (y3 y4 y5 y6 y7 : Option V), σ2 = [some (.ref b), some x, some (.int (many : Int)), y3, y4, y5, y6, y7] ∧ Nx b G H G2 H2 ∧ BoxAt H2 b (c + 900 * i))
    (fun G2 H2 n2 => ⟨none, none, none, none, none, rfl, Nx.ofNw n2 ob B.some, B.ex n2.hh⟩) ?_ ?_
  · rintro G2 i i' G3 σ3 H3 e2 hi e3 e4 ⟨y3, y4, y5, y6, y7, rfl, nx3, B3⟩ z G4 H4 n4 hz
    obtain ⟨rfl, him⟩ := range_some hi
    refine gn1 ?_
    show tSeq _ _ _ [some (.ref b), some x, some (.int (many : Int)), some z, y4, y5, y6, y7] H4
    have nx4 := nx3.nw B3 n4
    have B4 := B3.ex n4.hh
    refine qd_new fun l hl => ?_
    show tSeq _ _ _ [some (.ref b), some x, some (.int (many : Int)), some z, some (.ref l), y5, y6, y7] _
    obtain ⟨ob4, hob4⟩ := B4.some
    have lb : l ≠ b := fun z => by rw [z, hob4] at hl; cases hl
    have f1 : H l = none := nx4.back lb hl
    have nx5 := nx4.out (o := .lst []) hl (Ne.symm lb)
    have B5 := B4.up (o := .lst []) (Ne.symm lb)
    have r5 : Gr K G4 (upd H4 l (.lst [])) l (([] : List (List Nat)).map eNs) [] := Gr.mk (fresh_back nx4.gh hl) upd_same .nil
    refine qd_for (endsM u) eTie (ei_list (ed_callD (ea_cons (ed_var (i := 1) rfl (dp_ex nx5.gg hx)) ea_nil) ⟨u, W, rfl, rfl⟩)) nx5.gh
      (fun j G6 σ6 H6 => ∃ (ts : List (List Nat)) (xs : List V) (y5 y6 : Option V), σ6 = [some (.ref b), some x, some (.int (many : Int)), some z, some (.ref l), y5, y6, y7] ∧ Nx b G H G6 H6 ∧ BoxAt H6 b (c + 900 * i' + 6 * j) ∧ Gr K G6 H6 l (ts.map eNs) xs ∧ ts.length = j ∧
        ∀ (i : Nat) (e : (Nat × Nat) × (Nat × Nat)) (t : List Nat), (endsM u)[i]? = some e → ts[i]? = some t → TurnOk t many (decide (e.1 = e.2)))
      (fun G6 H6 n6 => ⟨[], [], y5, y6, rfl, nx5.nw B5 n6, B5.ex n6.hh, r5.nw n6, rfl, fun i e t _ h => by simp at h⟩) ?_ ?_
    · rintro G6 j tie G7 σ7 H7 e6 hj e7 e8 ⟨ts, xs, y5, y6, rfl, nx7, B7, r7, htl, hT⟩ x2 G8 H8 n8 hx2
      refine gt2n hx2 n8.gh fun va vb hva hvb => ?_
      show tDrop _ _ [some (.ref b), some x, some (.int (many : Int)), some z, some (.ref l), some va, some vb, y7] H8
      have nx8 := nx7.nw B7 n8
      have B8 := B7.ex n8.hh
      have r8 := r7.nw n8
      have hjl := (List.getElem?_eq_some_iff.mp hj).1
      have hq : PyData.eqv (eEnd tie.1) (eEnd tie.2) = decide (tie.1 = tie.2) := eqv_dec (f := eEnd) (fun _ _ => eEnd_inj) (n := 1) (m := 1) (pl_eEnd _) (pl_eEnd _)
      have heq : Ed K (tOp (rEqD K) (tVar 5) (tVar 6)) [some (.ref b), some x, some (.int (many : Int)), some z, some (.ref l), some va, some vb, y7] G8 (.bool (decide (tie.1 = tie.2))) := ed_is (ed_eqD (ed_var (i := 5) rfl hva) (ed_var (i := 6) rfl hvb) (pl_shaped (pl_eEnd (n := 0) _)) (pl_shaped (pl_eEnd (n := 0) _))) (by rw [hq])
      refine ⟨_, rfl, .inl ⟨rfl, xs, sq_of r8.at_⟩, ?_⟩
      refine ⟨_, rfl, _, rfl, ?_⟩
      refine (ea_cons heq ea_nil) H8 nx8.gh _ fun vbs G9 H9 n9 h9 => ?_
      obtain ⟨vb', rfl, hvb'⟩ := dps1 h9
      obtain rfl := dp_bl_inv hvb'
      have nx9 := nx8.nw B8 n9
      have B9 := B8.ex n9.hh
      have r9 := r8.nw n9
      refine ⟨G9, b, c + 900 * i' + 6 * j, many, decide (tie.1 = tie.2), rfl, nx9.gh, nx9.ob, B9, by omega, hmany, fun v t G10 J10 T n10 B10 hv => ?_⟩
      have nx10 := nx9.trans n10
      have r10 := r9.nx lb n10
      have hxl := r10.len
      rw [List.length_map] at hxl
      refine ⟨l, xs, v, rfl, rfl, r10.at_, sz8' (by omega), ?_⟩
      have nx11 := nx10.mut (o := .lst (xs ++ [v])) f1 r10.out
      refine ⟨G10, ((e7.trans n8.gg).trans n9.gg).trans n10.gg, nx11.gh, ts ++ [t], xs ++ [v], _, _, rfl, nx11, (B10.up (Ne.symm lb)).le (by omega), ⟨r10.out, upd_same, by rw [List.map_append]; exact dps_app r10.ok (dps_one hv)⟩, by rw [List.length_append, htl]; rfl, fun i e t' hi ht => ?_⟩
      by_cases hlt : i < ts.length
      · rw [List.getElem?_append_left hlt] at ht
        exact hT i e t' hi ht
      · rw [List.getElem?_append_right (by omega)] at ht
        have h0 : i - ts.length = 0 := by
          have := (List.getElem?_eq_some_iff.mp ht).1
          simp at this
          omega
        have hij : i = j := by omega
        subst hij
        rw [hj] at hi
        cases hi
        rw [h0] at ht
        cases ht
        exact T
    · rintro G6 σ6 H6 e6 e7 ⟨ts, xs, y5, y6, rfl, nx6, B6, r6, htl, hT⟩
      obtain ⟨j1, j2, j3⟩ := r6.join e7
      have nx7 := nx6.add r6.out f1 r6.at_ lb
      have e67 := j1
      generalize upd G6 l (.lst xs) = G7 at *
      refine qd_asgR ⟨_, rfl, _, rfl, _, rfl, ⟨G7, u, ts, many, j2, .cons (dp_ex nx7.gg hx) (.cons j3 (.cons (.int _) .nil)), W, hm, hm6, htl, hT, fun v u' G8 H8 hu hul n8 hv => ?_⟩⟩
      show tIfS _ _ _ _ [some (.ref b), some x, some (.int (many : Int)), some z, some (.ref l), y5, y6, some v] H8
      have nx8 := nx7.nw B6 n8
      have B8 := B6.ex n8.hh
      show tCall (S_Lreached P w K) [] E0 (tCons (tVar 7) (tCons (tC (.int 0)) tNil)) _ H8 _
      refine ⟨_, rfl, ⟨G8, u', 0, nx8.gh, .cons hv (.cons (.int _) .nil), hu, hu.pos, fun vl ls G9 H9 n9 hl9 => ?_⟩⟩
      obtain ⟨pl, xsl, rfl, hsl, hdl⟩ := dp_lst_inv hl9
      have nx9 := nx8.nw B8 n9
      have B9 := B8.ex n9.hh
      refine ⟨pl, xsl, rfl, .inl (ex_l n9.gh hsl), ?_⟩
      refine (ed_lenW (K := K) (ed_var (σ := [some (.ref b), some x, some (.int (many : Int)), some z, some (.ref l), y5, y6, some v]) (i := 7) rfl (dp_ex n9.gg hv))) H9 n9.gh _ fun v10 G10 H10 n10 h10 => ?_
      have nx10 := nx9.nw B9 n10
      have B10 := B9.ex n10.hh
      refine ⟨nI xsl.length, nI u'.length, .int _, dp_ex n10.gh h10, pl_shaped (pl_nI (n := 0)), pl_shaped (pl_nI (n := 0)), _, rfl, ?_⟩
      cases PyData.eqv (nI xsl.length) (nI u'.length) with
      | true =>
        show tRet (tVar 7) _ _ H10
        exact ⟨_, rfl, k v u' G10 H10 hu nx10 (B10.le (by omega)) (dp_ex (n9.gg.trans n10.gg) hv)⟩
      | false =>
        show ∃ G5, _
        exact ⟨G10, ((e3.trans n4.gg).trans (e6.trans e67)).trans ((n8.gg.trans n9.gg).trans n10.gg), n10.gh, some z, some (.ref l), y5, y6, some v, rfl, nx10, B10.le (by omega)⟩
  · rintro G2 σ2 H2 e2 e3 ⟨y3, y4, y5, y6, y7, rfl, nx2, B2⟩
    exact ⟨_, rfl, k x u G2 H2 W nx2 (B2.le (by rw [List.length_range]; omega)) (dp_ex nx2.gg hx)⟩
/-- c0 + take(..) -/
theorem plus_take {σ : L2.St} {G H : Hp} {b : Addr} {te : TE} {c many j c0 : Nat} (hj : σ[j]? = some (some (.ref b))) (h : EdH K te σ G H (nI many)) (B : BoxAt H b c) (ob : G b = none) (hc : c ≤ 100000) (hm : 0 < many) (hm' : many ≤ 1000000) {Q : VK}
    (k : ∀ (r : Nat) G1 J, r < many → Nx b G H G1 J → BoxAt J b (c + 1) → Q (.int ((c0 + r : Nat) : Int)) J) : tOp (rI0 fun i j => .int (i + j)) (tC (.int (c0 : Int))) (tCall (S_Ltake P w K) [] E0 (tCons (tVar j) (tCons te tNil))) σ H Q := by
  show tCall (S_Ltake P w K) [] E0 (tCons (tVar j) (tCons te tNil)) σ H _
  refine tk_take hj h B ob hc hm hm' fun r G1 J hr n B' => ⟨(c0 : Int), (r : Int), rfl, rfl, ?_⟩
  have := k r G1 J hr n B'
  rw [Int.natCast_add] at this
  exact this
theorem rd_Lsmall_web (h : S_Lsmall_web P w K vs H Q E) : t_Lsmall_web P w K (Dd Q) (st0 4 vs) H := by
  obtain ⟨G, b, c, rfl, e, ob, B, hc, k⟩ := h
  show t_Lsmall_web P w K (Dd Q) [some (.ref b), some (.int 6), none, none] H
  unfold t_Lsmall_web
  refine qd_asgR (tk_take (K := K) (j := 0) (many := 6) rfl (Ed.at (ed_int (i := ((6 : Nat) : Int))) e) B ob (by omega) (by omega) (by omega) fun wy G1 J1 hwy nx1 B1 => ?_)
  show tSeq _ _ _ [some (.ref b), some (.int 6), some (.int (wy : Int)), none] J1
  have hq : ∀ n : Nat, PyData.eqv (nI wy) (nI n) = decide (wy = n) := fun n => eqv_dec (f := nI) (fun _ _ => nI_inj) (n := 0) (m := 0) pl_nI pl_nI
  have hm1 : ∀ (σ : L2.St) (G : Hp), σ[1]? = some (some (.int 6)) → Ed K (tOp (rI0 fun i j => .int (i - j)) (tVar 1) (tC (.int 1))) σ G (nI 5) := fun σ G hσ => ed_is (ed_sub (ed_var hσ (.int 6)) (ed_int (i := 1))) rfl
  refine qd_when (et_eq (et_test (K := K) (ed_eqD (ed_nVar (n := wy) (i := 2) rfl) (ed_int (i := ((0 : Nat) : Int))) (pl_shaped (pl_nI (n := 0))) (pl_shaped (pl_nI (n := 0) (k := 0))))) (hq 0)) nx1.gh (fun hb G2 H2 n2 => ?_) (fun hb G2 H2 n2 => ?_)
  · have nx2 := nx1.nw B1 n2
    have B2 := B1.ex n2.hh
    show tOp (rI0 fun i j => .int (i + j)) (tC (.int ((2 : Nat) : Int))) (tCall (S_Ltake P w K) [] E0 (tCons (tVar 0) (tCons (tOp (rI0 fun i j => .int (i - j)) (tVar 1) (tC (.int 1))) tNil))) _ H2 _
    refine plus_take (c0 := 2) (j := 0) rfl (Ed.at (hm1 _ G2 rfl) nx2.gh) B2 nx2.ob (by omega) (by omega) (by omega) fun r G3 J3 hr n3 B3 => ?_
    have nx3 := nx2.trans n3
    exact ⟨G3, 2 + r, rfl, nx3.gh, by omega, by omega, fun v u G4 H4 hu hul n4 hv => k v u G4 H4 hu (nx3.nw B3 n4) ((B3.ex n4.hh).le (by omega)) hv⟩
  have nx2 := nx1.nw B1 n2
  have B2 := B1.ex n2.hh
  refine qd_when (et_eq (et_test (K := K) (ed_eqD (ed_nVar (n := wy) (i := 2) rfl) (ed_int (i := ((1 : Nat) : Int))) (pl_shaped (pl_nI (n := 0))) (pl_shaped (pl_nI (n := 0) (k := 1))))) (hq 1)) nx2.gh (fun hb G3 H3 n3 => ?_) (fun hb G3 H3 n3 => ?_)
  · have nx3 := nx2.nw B2 n3
    have B3 := B2.ex n3.hh
    show tOp (rI0 fun i j => .int (i + j)) (tC (.int ((2 : Nat) : Int))) (tCall (S_Ltake P w K) [] E0 (tCons (tVar 0) (tCons (tOp (rI0 fun i j => .int (i - j)) (tVar 1) (tC (.int 1))) tNil))) _ H3 _
    refine plus_take (c0 := 2) (j := 0) rfl (Ed.at (hm1 _ G3 rfl) nx3.gh) B3 nx3.ob (by omega) (by omega) (by omega) fun r G4 J4 hr n4 B4 => ?_
    have nx4 := nx3.trans n4
    exact ⟨G4, 2 + r, rfl, nx4.gh, by omega, by omega, fun v u G5 H5 hu hul n5 hv => k v u G5 H5 hu (nx4.nw B4 n5) ((B4.ex n5.hh).le (by omega)) hv⟩
  have nx3 := nx2.nw B2 n3
  have B3 := B2.ex n3.hh
  refine qd_when (et_eq (et_test (K := K) (ed_eqD (ed_nVar (n := wy) (i := 2) rfl) (ed_int (i := ((2 : Nat) : Int))) (pl_shaped (pl_nI (n := 0))) (pl_shaped (pl_nI (n := 0) (k := 2))))) (hq 2)) nx3.gh (fun hb G4 H4 n4 => ?_) (fun hb G4 H4 n4 => ?_)
  · have nx4 := nx3.nw B3 n4
    have B4 := B3.ex n4.hh
    refine qd_asgR ⟨_, rfl, ?_⟩
    show tOp (rI0 fun i j => .int (i + j)) (tC (.int ((1 : Nat) : Int))) (tCall (S_Ltake P w K) [] E0 (tCons (tVar 0) (tCons (tOp (rI CDiv fun i j => .int (i / j)) (tVar 1) (tC (.int 2))) tNil))) _ H4 _
    refine plus_take (c0 := 1) (many := 3) (j := 0) rfl (Ed.at (ed_is (ed_opI (K := K) (d := .int 3) (ed_var (i := 1) rfl (.int 6)) (ed_int (i := 2)) ⟨by decide, by decide⟩ fun _ => .int _) rfl) nx4.gh) B4 nx4.ob (by omega) (by omega) (by omega) fun r1 G5 J5 hr1 n5 B5 => ?_
    have nx5 := nx4.trans n5
    show tOp (rI0 fun i j => .int (i + j)) (tC (.int ((2 : Nat) : Int))) (tCall (S_Ltake P w K) [] E0 (tCons (tVar 0) (tCons (tC (.int 2)) tNil))) _ J5 _
    refine plus_take (K := K) (c0 := 2) (many := 2) (j := 0) rfl (Ed.at (ed_int (i := ((2 : Nat) : Int))) nx5.gh) B5 nx5.ob (by omega) (by omega) (by omega) fun r2 G6 J6 hr2 n6 B6 => ?_
    have nx6 := nx5.trans n6
    refine ⟨G6, b, _, 1 + r1, 2 + r2, rfl, nx6.gh, nx6.ob, B6, by omega, by omega, by omega, by omega, by omega, fun v u G7 J7 hu hul n7 B7 hv => ?_⟩
    have nx7 := nx6.trans n7
    show tRet _ _ [some (.ref b), some (.int 6), some (.int (wy : Int)), some v] J7
    refine ⟨_, rfl, _, rfl, ?_⟩
    have hu3 : u.length ≤ 3 := by omega
    have hup := hu.pos
    have hdiv : Ed K (tOp (rI0 fun i j => .int (i - j)) (tOp (rI CDiv fun i j => .int (i / j)) (tVar 1) (tCB (rLenC K) (tCons (tVar 3) tNil))) (tC (.int 1))) [some (.ref b), some (.int 6), some (.int (wy : Int)), some v] G7 (nI (6 / u.length - 1)) := by
      refine ed_is (ed_sub (ed_opI (C := CDiv) (g := fun i j => .int (i / j)) (d := .int (6 / (u.length : Int))) (ed_var (i := 1) rfl (.int 6)) (ed_lenW (ed_var (i := 3) rfl hv)) ⟨by omega, by omega⟩ fun _ => .int _) (ed_int (i := 1))) ?_
      have : u.length = 1 ∨ u.length = 2 ∨ u.length = 3 := by omega
      rcases this with z | z | z <;> rw [z] <;> rfl
    have h6 : 0 < 6 / u.length - 1 ∧ 6 / u.length ≤ 6 ∧ (6 / u.length) * u.length ≤ 6 := by
      have : u.length = 1 ∨ u.length = 2 ∨ u.length = 3 := by omega
      rcases this with z | z | z <;> rw [z] <;> decide
    have hea : EdH K (tOp (rI0 fun i j => .int (i - j)) (tOp (rI CDiv fun i j => .int (i / j)) (tVar 1) (tCB (rLenC K) (tCons (tVar 3) tNil))) (tC (.int 1))) [some (.ref b), some (.int 6), some (.int (wy : Int)), some v] G7 J7 (nI (6 / u.length - 1)) := Ed.at hdiv nx7.gh
    show tOp (rI0 fun i j => .int (i + j)) (tC (.int ((2 : Nat) : Int))) (tCall (S_Ltake P w K) [] E0 (tCons (tVar 0) (tCons (tOp (rI0 fun i j => .int (i - j)) (tOp (rI CDiv fun i j => .int (i / j)) (tVar 1) (tCB (rLenC K) (tCons (tVar 3) tNil))) (tC (.int 1))) tNil))) _ J7 _
    refine plus_take (c0 := 2) (j := 0) rfl hea B7 nx7.ob (by omega) h6.1 (by omega) fun r3 G8 J8 hr3 n8 B8 => ?_
    have nx8 := nx7.trans n8
    have hmul : (2 + r3) * u.length ≤ 6 := Nat.le_trans (Nat.mul_le_mul_right _ (by omega)) h6.2.2
    exact ⟨G8, b, _, 2 + r3, v, u, rfl, nx8.gh, nx8.ob, B8, by omega, hu, dp_ex n8.gg hv, by omega, hmul, fun v' u' G9 J9 hu' n9 B9 hv' => k v' u' G9 J9 hu' (nx8.trans n9) (B9.le (by omega)) hv'⟩
  · have nx4 := nx3.nw B3 n4
    have B4 := B3.ex n4.hh
    refine ⟨_, rfl, ?_⟩
    show tOp (rI0 fun i j => .int (i + j)) (tC (.int ((2 : Nat) : Int))) (tCall (S_Ltake P w K) [] E0 (tCons (tVar 0) (tCons (tOp (rI0 fun i j => .int (i - j)) (tVar 1) (tC (.int 1))) tNil))) _ H4 _
    refine plus_take (c0 := 2) (j := 0) rfl (Ed.at (hm1 _ G4 rfl) nx4.gh) B4 nx4.ob (by omega) (by omega) (by omega) fun r1 G5 J5 hr1 n5 B5 => ?_
    have nx5 := nx4.trans n5
    show tOp (rI0 fun i j => .int (i + j)) (tC (.int ((2 : Nat) : Int))) (tCall (S_Ltake P w K) [] E0 (tCons (tVar 0) (tCons (tC (.int 3)) tNil))) _ J5 _
    refine plus_take (K := K) (c0 := 2) (many := 3) (j := 0) rfl (Ed.at (ed_int (i := ((3 : Nat) : Int))) nx5.gh) B5 nx5.ob (by omega) (by omega) (by omega) fun r2 G6 J6 hr2 n6 B6 => ?_
    have nx6 := nx5.trans n6
    exact ⟨G6, b, _, 2 + r1, 2 + r2, rfl, nx6.gh, nx6.ob, B6, by omega, by omega, by omega, by omega, by omega, fun v u G7 J7 hu hul n7 B7 hv => k v u G7 J7 hu (nx6.trans n7) (B7.le (by omega)) hv⟩
end
end Wk
/-! WP25 -/
namespace Wk
open PySem L2 Evl
section
variable {P : Program} {w : World} {K : PySem.W.Frag} {vs : List V} {H : Hp} {Q : VK} {E : XK}
theorem nx_go {σ : L2.St} {H : Hp} {D : Ends} (h : D.nx σ H) : tNext D σ H := h
theorem qd_orF {σ : L2.St} {G H : Hp} {D : Ends} {t1 t2 : TT} {tu tz : TS} (h1 : EtH t1 σ G H false) (h2 : ∀ G1 H1, Nw G H G1 H1 → t2 σ H1 fun c H2 => if c = true then tu { D with nx := tz D } σ H2 else tNext { D with nx := tz D } σ H2) : tSeq (tIfS (tOr t1 t2) tu tNext) tz D σ H := h1 _ fun G1 H1 n => by
  show t2 σ H1 _
  exact h2 G1 H1 n
theorem rd_law (h : S_law P w K vs H Q E) : t_law P w K (Dd Q) (st0 9 vs) H := by
  obtain ⟨a, ns, rfl, hs, hl, k⟩ := h
  show t_law P w K (Dd Q) [some (.ref a), none, none, none, none, none, none, none, none] H
  unfold t_law
  refine qd_asgR ⟨_, rfl, ⟨a, ns, rfl, hs, hl, fun pc J1 cs fpc e1 hpc hcl => ?_⟩⟩
  show tSeq _ _ _ [some (.ref a), some (.ref pc), none, none, none, none, none, none, none] J1
  have ea : Ex (only H a) J1 := only_ex.trans e1
  have hd : Dp K (only H a) (.ref a) (.list (ns.map PyData.int)) := .lst (only_sq hs) (dps_ints ns)
  have hg : (only H a) pc = none := by
    unfold only
    split
    · exact fpc
    · rfl
  have eb : Ex (upd (only H a) pc (.lst (cs.map V.int))) J1 := ex_upd ea hpc
  have hd' := dp_ex (Ex.new (o := .lst (cs.map V.int)) hg) hd
  have hGpc : (upd (only H a) pc (.lst (cs.map V.int))) pc = some (.lst (cs.map V.int)) := upd_same
  generalize upd (only H a) pc (.lst (cs.map V.int)) = G0 at *
  have hn : Ed K (tOp (rI0 fun i j => .int (i + j)) (tCB rMin2C (tCons (tC (.int 5)) (tCons (tCB (rLenC K) (tCons (tVar 0) tNil)) tNil))) (tC (.int 1))) [some (.ref a), some (.ref pc), none, none, none, none, none, none, none] G0 (.int ((min 5 ns.length + 1 : Nat) : Int)) := by
    refine ed_is (ed_add (ed_min2 (ed_int (i := 5)) (ed_is (ed_len (ed_var (i := 0) rfl hd')) (by rw [List.length_map]))) (ed_int (i := 1))) ?_
    congr 1
    split <;> omega
  refine qd_for (List.range (min 5 ns.length + 1)) (fun i => .int (i : Int)) (ei_rng1 hn (by omega)) eb
    (fun i G2 σ2 H2 => ∃ (y2 y3 y4 y5 y6 y7 y8 : Option V), σ2 = [some (.ref a), some (.ref pc), y2, y3, y4, y5, y6, y7, y8] ∧ Ex G0 G2)
    (fun G2 H2 n2 => ⟨none, none, none, none, none, none, none, rfl, n2.gg⟩) ?_ ?_
  · rintro G2 i i' G3 σ3 H3 e2 hi e3 e4 ⟨y2, y3, y4, y5, y6, y7, y8, rfl, e03⟩ z G4 H4 n4 hz
    obtain ⟨rfl, him⟩ := range_some hi
    obtain rfl := dp_int_inv hz
    refine gn1 ?_
    show tSeq _ _ _ [some (.ref a), some (.ref pc), some (.int (i' : Int)), y3, y4, y5, y6, y7, y8] H4
    have hpc4 : H4 pc = some (.lst (cs.map V.int)) := n4.gh _ _ (n4.gg _ _ (e03 _ _ hGpc))
    refine qd_asgR ⟨_, rfl, _, rfl, ⟨pc, cs, i', rfl, hpc4, by omega, by omega, fun b J5 fb e5 B5 => ?_⟩⟩
    show tSeq _ _ _ [some (.ref a), some (.ref pc), some (.int (i' : Int)), some (.ref b), y4, y5, y6, y7, y8] J5
    have ob : G4 b = none := fresh_back n4.gh fb
    have eG5 : Ex G4 J5 := n4.gh.trans e5
    refine qd_asgR ⟨_, rfl, ⟨G4, b, 0, rfl, eG5, ob, B5, by omega, fun v4 u G6 J6 W nx6 B6 hv4 => ?_⟩⟩
    show tFor _ _ _ _ [some (.ref a), some (.ref pc), some (.int (i' : Int)), some (.ref b), some v4, y5, y6, y7, y8] J6
    have few := W.few
    have pos := W.pos
    refine sd_for (K := K) (List.range 3) (fun i => .int (i : Int)) (ei_rng1 (n := 3) (ed_int (i := 3)) (by omega)) nx6.gh
      (fun j G7 σ7 H7 => ∃ (y5 y6 y7 y8 : Option V), σ7 = [some (.ref a), some (.ref pc), some (.int (i' : Int)), some (.ref b), some v4, y5, y6, y7, y8] ∧ Nx b G4 J5 G7 H7 ∧ BoxAt H7 b (4000 + 300 * j) ∧ Ex G6 G7)
      (fun G7 H7 n7 => ⟨y5, y6, y7, y8, rfl, nx6.nw B6 n7, (B6.ex n7.hh).le (by omega), n7.gg⟩) ?_ ?_
    · rintro G7 j j' G8 σ8 H8 e7 hj e8 e9 ⟨y5, y6, y7, y8, rfl, nx8, B8, e68⟩ z G9 H9 n9 hz
      obtain ⟨rfl, hjm⟩ := range_some hj
      refine gn1 ?_
      show tSeq _ _ _ [some (.ref a), some (.ref pc), some (.int (i' : Int)), some (.ref b), some v4, some z, y6, y7, y8] H9
      have nx9 := nx8.nw B8 n9
      have B9 := B8.ex n9.hh
      have w9 := dp_ex (e68.trans n9.gg) hv4
      refine qd_asgR (tk_take (j := 3) (many := u.length) rfl (Ed.at (ed_lenW (ed_var (i := 4) rfl w9)) nx9.gh) B9 nx9.ob (by omega) pos (by omega) fun r G10 J10 hr n10 B10 => ?_)
      show tSeq _ _ _ [some (.ref a), some (.ref pc), some (.int (i' : Int)), some (.ref b), some v4, some z, some (.int (r : Int)), y7, y8] J10
      have nx10 := nx9.trans n10
      have w10 := dp_ex n10.gg w9
      refine qd_asgR ⟨_, rfl, _, rfl, _, rfl, _, rfl, _, rfl, ⟨G10, b, _, r, 8, v4, u, rfl, nx10.gh, nx10.ob, B10, by omega, by omega, W, hr, w10, fun vp p G11 J11 hpl hsee n11 B11 hvp => ?_⟩⟩
      have nx11 := nx10.trans n11
      have w11 := dp_ex n11.gg w10
      obtain ⟨ll, hll⟩ := Option.isSome_iff_exists.mp hsee
      refine ⟨G11, _, _, nx11.gh, .cons w11 (.cons (.int _) (.cons hvp .nil)), ⟨u, r, p, ll, W, hr, by omega, hll, rfl, rfl⟩, fun v7 G12 H12 n12 h7 => ?_⟩
      show tSeq _ _ _ [some (.ref a), some (.ref pc), some (.int (i' : Int)), some (.ref b), some v4, some z, some (.int (r : Int)), some v7, y8] H12
      have nx12 := nx11.nw B11 n12
      have B12 := B11.ex n12.hh
      have w12 := dp_ex n12.gg w11
      generalize hst : ((deg u r, zipSteps p ll) : Story) = st at *
      have hstl : st.2.length ≤ 100 := by
        rw [← hst]
        unfold zipSteps
        rw [List.length_map, List.length_zip]
        omega
      have t1 : EdT (tNot (tB (tCall (S_Lhome_right P w K) [] E0 (tCons (tVar 4) (tCons (tVar 7) tNil))))) [some (.ref a), some (.ref pc), some (.int (i' : Int)), some (.ref b), some v4, some z, some (.int (r : Int)), some v7, y8] G12 false :=
        et_not (b := true) (et_B (ed_callD (ea_cons (ed_var (i := 4) rfl w12) (ea_cons (ed_var (i := 7) rfl h7) ea_nil)) ⟨u, st, W, hstl, rfl, rfl⟩))
      refine qd_orF (t1.at nx12.gh) fun G13 H13 n13 => ?_
      have nx13 := nx12.nw B12 n13
      have B13 := B12.ex n13.hh
      have w13 := dp_ex n13.gg w12
      have s13 := dp_ex n13.gg h7
      refine ⟨_, rfl, _, rfl, _, rfl, ⟨G13, b, _, v7, st, rfl, nx13.gh, nx13.ob, B13, by omega, hstl, s13, fun vb st' G14 J14 hsl n14 B14 hvb => ?_⟩⟩
      have nx14 := nx13.trans n14
      have w14 := dp_ex n14.gg w13
      refine ⟨G14, _, _, nx14.gh, .cons w14 (.cons hvb .nil), ⟨u, st', W, by omega, rfl, rfl⟩, fun v15 G15 H15 n15 h15 => ⟨true, dp_bl_inv h15, ?_⟩⟩
      show tNext _ _ H15
      refine nx_go ?_
      dsimp only
      show tSeq (tAsg _ _) _ _ [some (.ref a), some (.ref pc), some (.int (i' : Int)), some (.ref b), some v4, some z, some (.int (r : Int)), some v7, y8] H15
      have nx15 := nx14.nw B14 n15
      have B15 := B14.ex n15.hh
      have w15 := dp_ex n15.gg w14
      refine qd_asgR ⟨_, rfl, ?_⟩
      refine (ea_cons (ed_lenW (K := K) (ed_var (σ := [some (.ref a), some (.ref pc), some (.int (i' : Int)), some (.ref b), some v4, some z, some (.int (r : Int)), some v7, y8]) (i := 4) rfl w15)) (ea_cons (ed_bl (b := false)) ea_nil)) H15 nx15.gh _ fun vts G16 H16 n16 h16 => ?_
      obtain ⟨vx, vy, rfl, hvx, hvy⟩ := dps2 h16
      obtain rfl := dp_nI hvx
      obtain rfl := dp_bl_inv hvy
      have nx16 := nx15.nw B15 n16
      have B16 := B15.ex n16.hh
      have w16 := dp_ex n16.gg w15
      refine ⟨G16, b, _, u.length, false, rfl, nx16.gh, nx16.ob, B16, by omega, few, fun vt t G17 J17 T n17 B17 hvt => ?_⟩
      have nx17 := nx16.trans n17
      have w17 := dp_ex n17.gg w16
      obtain ⟨pt, xt, rfl, hpt, hxt⟩ := dp_tup_inv hvt
      refine ⟨pt, xt, rfl, .inr (ex_t nx17.gh hpt), fun q hq => ?_⟩
      have n18 : Nw G17 J17 (upd G17 q (.lst xt)) (upd J17 q (.lst xt)) := Nw.new nx17.gh hq
      have hord : Dp K (upd G17 q (.lst xt)) (.ref q) (eL t) := .lst (sq_of upd_same) (dps_ex n18.gg hxt)
      have nx18 := nx17.nw B17 n18
      have B18 := B17.ex n18.hh
      have w18 := dp_ex n18.gg w17
      have e1718 := n18.gg
      generalize upd G17 q (.lst xt) = G18 at *
      generalize upd J17 q (.lst xt) = H18 at *
      show tIfS _ _ _ _ [some (.ref a), some (.ref pc), some (.int (i' : Int)), some (.ref b), some v4, some z, some (.int (r : Int)), some v7, some (.ref q)] H18
      refine ⟨_, rfl, _, rfl, ?_⟩
      show tCall (S_Ltake P w K) [] E0 (tCons (tVar 3) (tCons (tOp (rIx K) (tLst (tCons (tC (.int 5)) (tCons (tC (.int 4)) tNil))) (tCB rIntC (tCons (tOp (rI0 fun i j => .bl (decide (j < i))) (tCB (rLenC K) (tCons (tVar 4) tNil)) (tC (.int 5))) tNil))) tNil)) _ H18 _
      obtain ⟨m, hm0, hm5, hmE⟩ : ∃ m : Nat, 0 < m ∧ m ≤ 5 ∧ Ed K (tOp (rIx K) (tLst (tCons (tC (.int 5)) (tCons (tC (.int 4)) tNil))) (tCB rIntC (tCons (tOp (rI0 fun i j => .bl (decide (j < i))) (tCB (rLenC K) (tCons (tVar 4) tNil)) (tC (.int 5))) tNil))) [some (.ref a), some (.ref pc), some (.int (i' : Int)), some (.ref b), some v4, some z, some (.int (r : Int)), some v7, some (.ref q)] G18 (nI m) := by
        have hb := ed_intB (ed_gt (ed_lenW (K := K) (ed_var (σ := [some (.ref a), some (.ref pc), some (.int (i' : Int)), some (.ref b), some v4, some z, some (.int (r : Int)), some v7, some (.ref q)]) (i := 4) rfl w18)) (ed_int (i := 5)))
        cases hdec : decide ((5 : Int) < (u.length : Int)) with
        | true =>
          rw [hdec] at hb
          exact ⟨4, by decide, by decide, ed_ixL (j := 1) (i := 1) (ed_lst (ea_cons ed_int (ea_cons ed_int ea_nil))) hb rfl rfl⟩
        | false =>
          rw [hdec] at hb
          exact ⟨5, by decide, by decide, ed_ixL (j := 0) (i := 0) (ed_lst (ea_cons ed_int (ea_cons ed_int ea_nil))) hb rfl rfl⟩
      refine tk_take (j := 3) (many := m) rfl (Ed.at hmE nx18.gh) B18 nx18.ob (by omega) hm0 (by omega) fun g G19 J19 hg n19 B19 => ?_
      have nx19 := nx18.trans n19
      have w19 := dp_ex n19.gg w18
      refine ⟨(g : Int), rfl, ?_⟩
      obtain ⟨q', xq, hqe, hsq, hxq⟩ := dp_lst_inv (dp_ex n19.gg hord)
      cases hqe
      refine ⟨q, xq, rfl, ex_l nx19.gh hsq, fun s hs' => ?_⟩
      have n20 : Nw G19 J19 (upd G19 s (.lst (cutV xq none (some (g : Int))))) (upd J19 s (.lst (cutV xq none (some (g : Int))))) := Nw.new nx19.gh hs'
      have hsm : Dp K (upd G19 s (.lst (cutV xq none (some (g : Int))))) (.ref s) (eL (t.take g)) := .lst (sq_of upd_same) (by
        have z := dps_cut hxq none (some (g : Int))
        rw [cutD_to, ← List.map_take] at z
        exact dps_ex n20.gg z)
      have nx20 := nx19.nw B19 n20
      have B20 := B19.ex n20.hh
      have w20 := dp_ex n20.gg w19
      have e1920 := n20.gg
      generalize upd G19 s (.lst (cutV xq none (some (g : Int)))) = G20 at *
      generalize upd J19 s (.lst (cutV xq none (some (g : Int)))) = H20 at *
      refine ⟨G20, _, _, nx20.gh, .cons w20 (.cons hsm .nil), ⟨u, t.take g, W, by rw [List.length_take]; omega, fun x hx => T.lt x (List.mem_of_mem_take hx), rfl, rfl⟩, fun v21 G21 H21 n21 h21 => ⟨true, dp_bl_inv h21, ?_⟩⟩
      show tNext _ _ H21
      refine nx_go ?_
      show ∃ G5, _
      exact ⟨G21, ((((e8.trans n9.gg).trans n10.gg).trans n11.gg).trans (n12.gg.trans n13.gg)).trans ((((n14.gg.trans n15.gg).trans n16.gg).trans n17.gg).trans ((e1718.trans n19.gg).trans (e1920.trans n21.gg))), n21.gh, some z, some (.int (r : Int)), some v7, some (.ref q), rfl, nx20.nw B20 n21, (B20.ex n21.hh).le (by omega), e68.trans ((((n9.gg.trans n10.gg).trans n11.gg).trans (n12.gg.trans n13.gg)).trans ((((n14.gg.trans n15.gg).trans n16.gg).trans n17.gg).trans ((e1718.trans n19.gg).trans (e1920.trans n21.gg))))⟩
    · rintro G7 σ7 H7 e7 e8 ⟨y5, y6, y7, y8, rfl, nx7, B7, e67⟩
      exact ⟨G7, (e3.trans n4.gg).trans nx7.gg, e8, some (.int (i' : Int)), some (.ref b), some v4, y5, y6, y7, y8, rfl, (e03.trans n4.gg).trans nx7.gg⟩
  · rintro G2 σ2 H2 e2 e3 ⟨y2, y3, y4, y5, y6, y7, y8, rfl, e02⟩
    exact k H2
end
end Wk
/-! WSt1 -/
/-! A set of nested tuples of whole numbers: asked and filled. -/
namespace Wk
open PySem PySem.Spec PyProof.Rows L2
section
variable {P : Program} {w : World} {s : Shared}
def ClsAt (P : Program) (w : World) (s : Shared) (n : Nat) (v : Value) : Prop := ∀ (A : Around) (E : Value → Shared → Prop) (Q : Bool → Shared → Prop), Q false s → wpAny (model P w) A (ofAClassStatement n v) Q E s
def HbAt (P : Program) (w : World) (s : Shared) (n : Nat) (v : Value) : Prop := ∀ (A : Around) (E : Value → Shared → Prop) (Q : Bool → Shared → Prop), Q true s → wpAny (model P w) A (hashByValue n v) Q E s
theorem cls_tup {a : Addr} {o : Obj} {vs : Array Value} {m n : Nat} (h1 : s.heap.get? a = some o) (h2 : o.cls = .type "tuple") (h3 : o.data = .seq vs m) (h : ∀ v ∈ vs.toList, ClsAt P w s n v) : ClsAt P w s (n + 1) (.ref a) := fun A E Q q => by
  unfold ofAClassStatement
  refine wpAny_bind (wpAny_typeOf (T := "tuple") ⟨o, h1, h2⟩ ?_)
  have e : (("tuple" : String) == "tuple") = true := by decide
  dsimp only
  simp only [e, if_true, Bool.not_true, Bool.false_eq_true, if_false]
  try refine wpAny_bind (wpAny_pure ?_)
  try simp only [Bool.not_true, Bool.false_eq_true, if_false]
  show wpAny _ _ (seqItems? (.ref a) >>= _) _ _ s
  refine wpAny_bind (wpAny_seqItems h1 h3 ?_)
  refine wpAny_bind ?_
  show wpAny _ _ (forIn vs _ _) _ _ s
  rw [← Array.forIn_toList]
  refine wpAny_forIn_list _ (fun rest r s' => r.1 = none ∧ s' = s ∧ ∀ v ∈ rest, ClsAt P w s n v) _ ?_ ?_ _ _ ⟨rfl, rfl, h⟩
  · rintro v rest r s' ⟨hr, rfl, all⟩
    refine wpAny_bind (all v List.mem_cons_self _ _ _ ?_)
    simp only [Bool.false_eq_true, if_false]
    exact wpAny_pure ⟨rfl, rfl, fun u hu => all u (List.mem_cons_of_mem _ hu)⟩
  · rintro ⟨r1, r2⟩ s' ⟨hr, rfl, _⟩
    simp only at hr
    subst hr
    exact wpAny_pure q
theorem hb_tup {a : Addr} {o : Obj} {vs : Array Value} {m n : Nat} (h1 : s.heap.get? a = some o) (h2 : o.cls = .type "tuple") (h3 : o.data = .seq vs m) (h : ∀ v ∈ vs.toList, HbAt P w s n v) : HbAt P w s (n + 1) (.ref a) := fun A E Q q => by
  unfold hashByValue
  refine wpAny_bind (wpAny_specialOf (T := "tuple") ⟨o, h1, h2⟩ F.slot_tuple_hash.lookup ?_)
  show wpAny _ _ (seqItems? (.ref a) >>= _) _ _ s
  refine wpAny_bind (wpAny_seqItems h1 h3 ?_)
  refine wpAny_bind ?_
  show wpAny _ _ (forIn vs _ _) _ _ s
  rw [← Array.forIn_toList]
  refine wpAny_forIn_list _ (fun rest r s' => r.1 = none ∧ s' = s ∧ ∀ v ∈ rest, HbAt P w s n v) _ ?_ ?_ _ _ ⟨rfl, rfl, h⟩
  · rintro v rest r s' ⟨hr, rfl, all⟩
    refine wpAny_bind (all v List.mem_cons_self _ _ _ ?_)
    simp only [Bool.not_true, Bool.false_eq_true, if_false]
    exact wpAny_pure ⟨rfl, rfl, fun u hu => all u (List.mem_cons_of_mem _ hu)⟩
  · rintro ⟨r1, r2⟩ s' ⟨hr, rfl, _⟩
    simp only at hr
    subst hr
    exact wpAny_pure q
mutual
theorem quietN : ∀ (k : NestedKey) (v : Value) (n : Nat), NestedIs s.heap k v → numOnly k = true → k.depth ≤ n → ClsAt P w s n v ∧ HbAt P w s n v
  | .none, _, _, _, h, _ => by simp [numOnly] at h
  | .text _, _, _, _, h, _ => by simp [numOnly] at h
  | .num i, v, n, x, _, _ => by
    cases x with
    | bool e => exact ⟨fun A E Q q => by cases n <;> exact wpAny_pure q, fun A E Q q => by cases n <;> exact wpAny_pure q⟩
    | int i t => exact ⟨fun A E Q q => by cases n <;> exact wpAny_pure q, fun A E Q q => by cases n <;> exact wpAny_pure q⟩
  | .tup ks, v, n, x, h, hd => by
    cases x with
    | tup h1 h2 h3 h4 =>
      cases n with
      | zero => simp [NestedKey.depth] at hd
      | succ n =>
        have z := quietNs ks _ n h4 (by simpa [numOnly] using h) (by simp only [NestedKey.depth] at hd; omega)
        exact ⟨cls_tup h1 h2 h3 fun v hv => (z v hv).1, hb_tup h1 h2 h3 fun v hv => (z v hv).2⟩
theorem quietNs : ∀ (ks : List NestedKey) (vs : List Value) (n : Nat), NestedAll s.heap ks vs → numOnlyAll ks = true → NestedKey.depthAll ks ≤ n → ∀ v ∈ vs, ClsAt P w s n v ∧ HbAt P w s n v
  | [], _, _, x, _, _, v, hv => by cases x; cases hv
  | k :: ks, _, n, x, h, hd, v, hv => by
    cases x with
    | cons x1 x2 =>
      simp only [NestedKey.depthAll] at hd
      simp only [numOnlyAll, Bool.and_eq_true] at h
      rcases List.mem_cons.mp hv with e | hv
      · rw [e]; exact quietN k _ n x1 h.1 (by omega)
      · exact quietNs ks _ n x2 h.2 (by omega) v hv
end
/-- the key's tuple stands at a -/
def IsN (P : Program) (w : World) (h : Heap) (k : NestedKey) (a : Addr) : Prop := (nestedKind P w).is h k a ∧ numOnly k = true
theorem IsN.keep {h h' : Heap} {k : NestedKey} {a : Addr} (x : IsN P w h k a) (hk : ∀ b o, h.get? b = some o → h'.get? b = some o) : IsN P w h' k a := ⟨nestedKind_stays.stays (fun b o vs n e _ => hk b o e) x.1, x.2⟩
theorem IsN.same {h h' : Heap} {k : NestedKey} {a b : Addr} {o : Obj} {es : Array (Int × Value)} {ep : Nat} {t : SetTable} (x : IsN P w h k b) (ho : h.get? a = some o) (hd : o.data = .set es ep t) (hs : Heap.SameBut a h h') : IsN P w h' k b :=
  ⟨nestedKind_stays.stays (fun c u vs n e z => (hs.2 c fun ec => by
    subst ec
    rw [ho] at e
    cases e
    rw [hd] at z
    cases z).trans e) x.1, x.2⟩
theorem IsN.cls {k : NestedKey} {a : Addr} (x : IsN P w s.heap k a) : ClsAt P w s 8 (.ref a) := (quietN k _ 8 x.1.1 x.2 x.1.2).1
theorem IsN.hb {k : NestedKey} {a : Addr} (x : IsN P w s.heap k a) : HbAt P w s 8 (.ref a) := (quietN k _ 8 x.1.1 x.2 x.1.2).2
/-- a search among such shows nothing -/
theorem seen_N {A : Around} {E : Value → Shared → Prop} {k : NestedKey} {b : Addr} {Q : Bool → Shared → Prop} (hk : IsN P w s.heap k b) {ys : List Value} (hy : ∀ y ∈ ys, ∃ k' c, y = Value.ref c ∧ IsN P w s.heap k' c) (h : Q false s) :
    wpAny (model P w) A (searchCouldBeSeen (.ref b) ys) Q E s := by
  unfold searchCouldBeSeen
  refine wpAny_bind ?_
  refine wpAny_forIn_list _ (fun rest r s' => r.1 = none ∧ s' = s ∧ ∀ y ∈ rest, ∃ k' c, y = Value.ref c ∧ IsN P w s.heap k' c) _ ?_ ?_ _ _ ⟨rfl, rfl, hy⟩
  · rintro v rest r s' ⟨hr, rfl, all⟩
    obtain ⟨k', c, rfl, hc⟩ := all v List.mem_cons_self
    have rest' : ∀ y ∈ rest, ∃ k' c, y = Value.ref c ∧ IsN P w s'.heap k' c := fun u hu => all u (List.mem_cons_of_mem _ hu)
    dsimp only
    by_cases hv : (b == c || (carriedByValue (.ref b) && carriedByValue (.ref c))) = true
    · refine wp_if_pos hv ?_
      exact wpAny_pure ⟨rfl, rfl, rest'⟩
    · refine wp_if_neg hv ?_
      refine wpAny_bind ((nestedKind P w).quiet hk.1 ?_)
      simp only [Bool.not_true, Bool.false_eq_true, if_false]
      refine wpAny_bind ((nestedKind P w).quiet hc.1 ?_)
      simp only [Bool.not_true, Bool.false_eq_true, if_false]
      refine wpAny_bind (hk.cls _ _ _ ?_)
      simp only [Bool.false_eq_true, if_false]
      refine wpAny_bind (hc.cls _ _ _ ?_)
      simp only [Bool.false_eq_true, if_false]
      exact wpAny_pure ⟨rfl, rfl, rest'⟩
  · rintro ⟨r1, r2⟩ s' ⟨hr, rfl, _⟩
    simp only at hr
    subst hr
    exact wpAny_pure h
end
end Wk
/-! WSt2 -/
namespace Wk
open PySem PySem.Spec PyProof.Rows L2
section
variable {P : Program} {w : World} {A : Around} {E : Value → Shared → Prop} {s : Shared}
abbrev Rw := List (Addr × NestedKey)
abbrev hN (w : World) (k : NestedKey) : Int := k.hash w
abbrev rowN (w : World) (L : Rw) : List (Int × Value) := L.map fun p => (hN w p.2, Value.ref p.1)
/-- the set at a: its rows, its table -/
structure SetN (P : Program) (w : World) (h : Heap) (a : Addr) (L : Rw) (es : Array (Int × Value)) (ep : Nat) (t : SetTable) : Prop where
  ob : ∃ o, h.get? a = some o ∧ o.ExactSet ∧ o.data = .set es ep t
  rows : es.toList = rowN w L
  tab : TabOk t (L.map fun p => hN w p.2)
  tup : ∀ p ∈ L, IsN P w h p.2 p.1
  plain : t.plain = true
  led : w.params.followText "set-order" = true ∨ t.led = true
  room : L.length * 5 < t.mask * 3
  few : L.length < 64
theorem row_size {L : Rw} {es : Array (Int × Value)} (h : es.toList = rowN w L) : es.size = L.length := by
  have := congrArg List.length h
  rw [Array.length_toList, List.length_map] at this
  exact this
theorem row_at {L : Rw} {es : Array (Int × Value)} (h : es.toList = rowN w L) {i : Nat} {p : Addr × NestedKey} (hp : L[i]? = some p) : es[i]? = some (hN w p.2, Value.ref p.1) := by
  rw [← Array.getElem?_toList, h, List.getElem?_map, hp]
  rfl
theorem fits_of {t : SetTable} {n : Nat} (h1 : t.place.size = n) (h2 : t.dummies = #[]) (h3 : n ≤ t.mask) : t.fits n = true := by
  unfold SetTable.fits SetTable.fill
  rw [h2, Bool.and_eq_true, beq_iff_eq, decide_eq_true_eq]
  show t.place.size = n ∧ t.place.size + 0 ≤ t.mask
  omega
variable {a : Addr} {L : Rw} {es : Array (Int × Value)} {ep : Nat} {t : SetTable}
theorem SetN.tsz (R : SetN P w s.heap a L es ep t) : t.place.size = L.length := by
  have := R.tab.sz
  rw [List.length_map] at this
  exact this
theorem SetN.fits (R : SetN P w s.heap a L es ep t) : t.fits es.size = true := fits_of (by rw [R.tsz, row_size R.rows]) R.tab.dm (by have := R.room; rw [row_size R.rows]; omega)
theorem SetN.gw (R : SetN P w s.heap a L es ep t) : ¬ t.gaveWay = true := by
  unfold SetTable.gaveWay
  rw [mask_odd R.tab.mok]
  decide
/-- the search, from the c-th step of the way on -/
theorem seek (R : SetN P w s.heap a L es ep t) {x : Addr} {k : NestedKey} (hx : IsN P w s.heap k x) (hu : A.units + 8 < cLine) {K : Nat} (hKf : K < 10 * SetTable.turns t.mask)
    (hK : way t.mask (hN w k) K ∉ t.place.toList) (hKb : ∀ c, c < K → way t.mask (hN w k) c ∈ t.place.toList) {Q : SetFound → Shared → Prop}
    (hin : k ∈ L.map (·.2) → Q (.there none) s) (hout : Q (.free (way t.mask (hN w k) K) false) s) :
    ∀ (f c : Nat) (stand : Option SetTable.Probe), stand.getD (t.probeStart (hN w k)) = nth t.mask (runAt t.mask (SetTable.bits (hN w k) % (t.mask + 1)) (SetTable.bits (hN w k))) c → c ≤ K → K - c < f →
      wpAny (model P w) A (setSearchFrom a (.ref x) (hN w k) true f stand) Q E s := by
  obtain ⟨o, ho, hex, hd⟩ := R.ob
  have nodummy : ∀ (n : Nat) (p : SetTable.Probe), p.dummy = none → (nth t.mask p n).dummy = none := fun n => by
    induction n with
    | zero => exact fun p h => h
    | succ n ih => exact fun p h => ih _ (by unfold adv; split <;> exact h)
  generalize hst0 : runAt t.mask (SetTable.bits (hN w k) % (t.mask + 1)) (SetTable.bits (hN w k)) = st at *
  intro f
  induction f with
  | zero => exact fun c stand _ _ hf => absurd hf (Nat.not_lt_zero _)
  | succ f ih =>
    intro c stand hst hc hf
    rw [setSearchFrom_succ]
    refine wpAny_bind (wpAny_setState_of ho hd R.fits ?_)
    dsimp only
    refine wp_if_neg R.gw ?_
    try refine wpAny_bind (wpAny_pure ?_)
    have sh : ∀ q, nth t.mask (nth t.mask st c) q = nth t.mask st (c + q) := fun q => (nth_add t.mask c _ q).symm
    have wj : ∀ q, (nth t.mask (nth t.mask st c) q).j = way t.mask (hN w k) (c + q) := fun q => by rw [sh]; show _ = (nth t.mask (runAt _ _ _) _).j; rw [hst0]
    have spec := go_spec t R.tab.ris R.tab.dm (fun i => (es[i]?.map (·.1)).getD 0) (hN w k) (10 * SetTable.turns t.mask) (K - c) (nth t.mask st c) (nodummy c st (by rw [← hst0]; rfl)) (by omega)
      (fun q hq => by rw [wj]; exact hKb (c + q) (by omega)) (by rw [wj, show c + (K - c) = K by omega]; exact hK)
    rcases spec with ⟨q, i, hq, hi, hh, hno, hpr⟩ | ⟨hno, hpr⟩
    · have hpr' : t.probe (fun i => (es[i]?.map (·.1)).getD 0) (hN w k) (stand.getD (t.probeStart (hN w k))) = some (.candidate (way t.mask (hN w k) (c + q)) i (nth t.mask st (c + (q + 1)))) := by
        rw [hst, ← wj, ← sh]
        exact hpr
      rw [hpr']
      dsimp only
      rw [wj] at hi
      have hil : i < L.length := by
        have h1 := (List.getElem?_eq_some_iff.mp hi).1
        rw [Array.length_toList, R.tsz] at h1
        exact h1
      obtain ⟨p, hp⟩ : ∃ p, L[i]? = some p := ⟨_, List.getElem?_eq_getElem hil⟩
      have hmem := List.mem_of_getElem? hp
      have rest : wpAny (model P w) A (searchRest a (.ref x) (hN w k) true f es t (way t.mask (hN w k) (c + q)) i (nth t.mask st (c + (q + 1)))) Q E s := by
        unfold searchRest
        rw [row_at R.rows hp]
        dsimp only
        refine wpAny_bind (wpAny_holding ((nestedKind P w).eqBool hu (R.tup p hmem).1 hx.1 ?_))
        refine wpAny_bind (wpAny_setState_of ho hd R.fits ?_)
        dsimp only
        by_cases hkk : p.2 = k
        · refine wp_if_pos (by simp [hkk]) ?_
          exact wpAny_pure (hin (List.mem_map.mpr ⟨p, hmem, hkk⟩))
        · refine wp_if_neg (by simp [hkk]) ?_
          try refine wpAny_bind (wpAny_pure ?_)
          rw [sameMem]
          dsimp only
          simp only [if_true, slot_live R.tab.ris hi, row_at R.rows hp]
          refine wpAny_bind (wpAny_isSame_ref_self (wpAny_bind (wpAny_pure ?_)))
          simp only [if_true]
          refine wp_if_neg (by simp [hkk]) ?_
          exact ih (c + (q + 1)) _ rfl (by omega) (by omega)
      by_cases hl : t.led = true
      · refine wp_if_neg (by simp [hl]) ?_
        try refine wpAny_bind (wpAny_pure ?_)
        exact rest
      · refine wp_if_pos (by simp [hl]) ?_
        refine wpAny_bind (seen_N hx (fun y hy => ?_) ?_)
        · obtain ⟨e, he, rfl⟩ := List.mem_map.mp hy
          have he1 : e ∈ es ∧ e.1 = hN w k := by simpa using he
          have he2 : e ∈ es.toList := by simpa using he1.1
          rw [R.rows] at he2
          obtain ⟨p2, hp2, rfl⟩ := List.mem_map.mp he2
          exact ⟨p2.2, p2.1, rfl, R.tup p2 hp2⟩
        · refine wp_if_neg (by decide) ?_
          try refine wpAny_bind (wpAny_pure ?_)
          exact rest
    · have hpr' : t.probe (fun i => (es[i]?.map (·.1)).getD 0) (hN w k) (stand.getD (t.probeStart (hN w k))) = some (.empty (way t.mask (hN w k) K) none) := by
        rw [hst, show way t.mask (hN w k) K = (nth t.mask (nth t.mask st c) (K - c)).j by rw [wj, show c + (K - c) = K by omega]]
        exact hpr
      rw [hpr']
      dsimp only
      exact wpAny_pure hout
theorem seek_at (R : SetN P w s.heap a L es ep t) {x : Addr} {k : NestedKey} (hx : IsN P w s.heap k x) (hu : A.units + 8 < cLine) {Q : SetFound → Shared → Prop}
    (hin : k ∈ L.map (·.2) → Q (.there none) s)
    (hout : ∀ K, way t.mask (hN w k) K ∉ t.place.toList → (∀ c, c < K → way t.mask (hN w k) c ∈ t.place.toList) → Q (.free (way t.mask (hN w k) K) false) s) :
    wpAny (model P w) A (setSearch a (.ref x) (hN w k) true) Q E s := by
  have hroom := R.room
  obtain ⟨K, hKf, hK, hKb⟩ := R.tab.first (by rw [List.length_map]; omega) (hN w k)
  have : 10 * SetTable.turns t.mask ≤ 1420 := by
    unfold SetTable.turns
    rcases R.tab.mok with e | e | e <;> omega
  unfold setSearch
  exact seek R hx hu hKf hK hKb hin (hout K hK hKb) 100000 0 none rfl (Nat.zero_le _) (by omega)
/-- rows in another order -/
theorem rows_order {order : Array Nat} (hr : es.toList = rowN w L) (hp : order.toList.Perm (List.range L.length)) :
    ∃ L2 : Rw, (order.filterMap (es[·]?)).toList = rowN w L2 ∧ L2.Perm L ∧ (L2.map fun p => hN w p.2) = order.toList.map fun i => (es.map (·.1)).getD i 0 := by
  have one : ∀ i, i < L.length → ∃ p, L[i]? = some p ∧ es[i]? = some (hN w p.2, Value.ref p.1) ∧ (es.map (·.1)).getD i 0 = hN w p.2 := fun i hi => by
    obtain ⟨p, hp⟩ : ∃ p, L[i]? = some p := ⟨_, List.getElem?_eq_getElem hi⟩
    have he := row_at hr hp
    refine ⟨p, hp, he, ?_⟩
    have : (es.map (·.1))[i]? = some (hN w p.2) := by rw [Array.getElem?_map, he]; rfl
    simp [Array.getD_eq_getD_getElem?, this]
  have all : ∀ l : List Nat, (∀ i ∈ l, i < L.length) → l.filterMap (fun i => es[i]?) = rowN w (l.filterMap fun i => L[i]?) ∧ ((l.filterMap fun i => L[i]?).map fun p => hN w p.2) = l.map fun i => (es.map (·.1)).getD i 0 := by
    intro l
    induction l with
    | nil => exact fun _ => ⟨rfl, rfl⟩
    | cons i l ih =>
      intro h
      obtain ⟨p, h1, h2, h3⟩ := one i (h i List.mem_cons_self)
      obtain ⟨i1, i2⟩ := ih fun j hj => h j (List.mem_cons_of_mem _ hj)
      rw [List.filterMap_cons_some h2, List.filterMap_cons_some h1, i1]
      refine ⟨rfl, ?_⟩
      rw [List.map_cons, List.map_cons, i2, h3]
  obtain ⟨h1, h2⟩ := all order.toList fun i hi => List.mem_range.mp (hp.mem_iff.mp hi)
  refine ⟨order.toList.filterMap fun i => L[i]?, by rw [Array.toList_filterMap]; exact h1, ?_, h2⟩
  refine (hp.filterMap _).trans ?_
  have : ∀ n, n ≤ L.length → (List.range n).filterMap (fun i => L[i]?) = L.take n := fun n => by
    induction n with
    | zero => exact fun _ => by simp
    | succ n ih =>
      intro hn
      rw [List.range_succ, List.filterMap_append, ih (by omega), take_snoc (List.getElem?_eq_getElem hn), List.filterMap_cons_some (List.getElem?_eq_getElem hn)]
      rfl
  rw [this _ (Nat.le_refl _), List.take_length]
/-- the table laid anew -/
theorem relay_N {o : Obj} (ho : s.heap.get? a = some o) (hex : o.ExactSet) (hd : o.data = .set es ep t) (hrows : es.toList = rowN w L) (hsz : t.place.size = es.size) (hdm : t.dummies = #[]) (hfl : es.size ≤ t.mask)
    (tup : ∀ p ∈ L, IsN P w s.heap p.2 p.1) (pl : t.plain = true) (ld : w.params.followText "set-order" = true ∨ t.led = true) (few : L.length < 64) {wanted M : Nat}
    (hw : SetTable.sizeAbove wanted - 1 = M) (hM : MaskOk M) (hw2 : SetTable.sizeAbove wanted ≤ 128) (hn : L.length * 5 < M * 3) {Q : Unit → Shared → Prop}
    (hQ : ∀ h' L' es' ep' t', Heap.SameBut a s.heap h' → SetN P w h' a L' es' ep' t' → L'.Perm L → Q () { s with heap := h' }) : wpAny (model P w) A (setRelay a wanted) Q E s := by
  have hsl := row_size hrows
  obtain ⟨t', order, e, hp, T, em, el, ep', ed⟩ := relaid_ok t (hs := es.map (·.1)) (wanted := wanted) hw hM (by rw [Array.size_map, hsl]; omega)
  rw [Array.size_map, hsl] at hp
  obtain ⟨L2, r1, r2, r3⟩ := rows_order hrows hp
  rw [← r3] at T
  have hs2 : (order.filterMap (es[·]?)).size = es.size := by rw [row_size r1, r2.length_eq, hsl]
  rw [setRelay_eq]
  refine wpAny_bind (wpAny_setState_of ho hd (fits_of hsz hdm hfl) ?_)
  dsimp only
  refine wp_if_neg (by rw [sizeLine_eq]; omega) ?_
  try refine wpAny_bind (wpAny_pure ?_)
  rw [e]
  dsimp only
  refine wpAny_bind ?_
  refine wp_if_neg (by rw [hs2]; simp) ?_
  try refine wpAny_bind (wpAny_pure ?_)
  refine wpAny_pure ?_
  dsimp only
  refine wpAny_storeSet_of ho hd ?_ (by rw [hs2, hsl, sizeLine_eq]; omega)
  have sb : Heap.SameBut a s.heap (s.heap.update a (Obj.putSet (order.filterMap (es[·]?)) t')) := Heap.SameBut.update ..
  exact hQ _ L2 _ (ep + 1) t' sb ⟨⟨_, store_at ho hd, ⟨hex.1, hex.2.1, hex.2.2⟩, rfl⟩, r1, T, fun p hpm => (tup p (r2.mem_iff.mp hpm)).same ho hd sb, by rw [ep']; exact pl, by rw [el]; exact ld, by rw [r2.length_eq, em]; exact hn, by rw [r2.length_eq]; exact few⟩ r2
end
end Wk
/-! WSt3 -/
namespace Wk
open PySem PySem.Spec PyProof.Rows L2
section
variable {P : Program} {w : World} {A : Around} {E : Value → Shared → Prop} {s : Shared} {a : Addr} {L : Rw} {es : Array (Int × Value)} {ep : Nat} {t : SetTable}
/-- adding -/
theorem add_N (R : SetN P w s.heap a L es ep t) {x : Addr} {k : NestedKey} (hx : IsN P w s.heap k x) (hu : A.units + 8 < cLine) (hfew : L.length + 1 < 64) {Q : Bool → Shared → Prop}
    (hQ : ∀ b h' L' es' ep' t', Heap.SameBut a s.heap h' → SetN P w h' a L' es' ep' t' → (∀ p ∈ L', p ∈ (x, k) :: L) → (∀ p ∈ (x, k) :: L, p.2 ∈ L'.map (·.2)) → L'.length ≤ L.length + 1 → Q b { s with heap := h' }) :
    wpAny (model P w) A (setAddHashed a (.ref x) (hN w k)) Q E s := by
  obtain ⟨o, ho, hex, hd⟩ := R.ob
  have hsl := row_size R.rows
  have hroom := R.room
  unfold setAddHashed
  refine wpAny_holding ?_
  rw [show (100000 : Nat) = 99999 + 1 from rfl, setAddHashedIn_succ]
  refine wpAny_bind (wpAny_setState_of ho hd R.fits ?_)
  dsimp only
  refine wp_if_neg (by simp [byScan, Value.scannable]) ?_
  try refine wpAny_bind (wpAny_pure ?_)
  refine wpAny_bind (seek_at R hx hu (fun hm => ?_) fun K hK hb => ?_)
  · dsimp only
    refine wpAny_pure (hQ false s.heap L es ep t (Heap.SameBut.refl a s.heap) R (fun p hp => List.mem_cons_of_mem _ hp) (fun p hp => ?_) (Nat.le_succ _))
    rcases List.mem_cons.mp hp with z | z
    · rw [z]; exact hm
    · exact List.mem_map.mpr ⟨p, z, rfl⟩
  · dsimp only
    refine wpAny_bind (wpAny_setState_of ho hd R.fits ?_)
    dsimp only
    obtain ⟨q1, q2, q3, q4, q5, q6, q7, q8, q9⟩ := R.tab.put hK hb
    have hp1 : (t.put (way t.mask (hN w k) K)).1.plain = true := by rw [q6]; exact R.plain
    generalize hpt : t.put (way t.mask (hN w k) K) = pt at q1 q3 q4 q5 q6 q7 q8 q9 hp1 ⊢
    obtain ⟨t1, p⟩ := pt
    dsimp only at q1 q3 q4 q5 q6 q7 q8 q9 hp1 ⊢
    subst q1
    first
      | (refine wpAny_bind ?_; refine wp_if_pos hp1 ?_; refine hx.hb _ _ _ ?_)
      | refine wp_if_pos hp1 (wpAny_bind (hx.hb _ _ _ ?_))
    simp only [if_true]
    generalize hpp : SetTable.below t.place (way t.mask (hN w k) K) = p at q2 q3 ⊢
    have hin : (SetTable.insertAt es p (hN w k, Value.ref x)).toList = rowN w (L.take p ++ (x, k) :: L.drop p) := by
      rw [SetTable.toList_insertAt, R.rows]
      unfold rowN
      rw [List.map_append, List.map_cons, List.map_take, List.map_drop]
    have pm := put_perm L p (x, k)
    have hlen : (L.take p ++ (x, k) :: L.drop p).length = L.length + 1 := pm.length_eq
    have hhs : (L.take p ++ (x, k) :: L.drop p).map (fun p => hN w p.2) = (L.map fun p => hN w p.2).take p ++ hN w k :: (L.map fun p => hN w p.2).drop p := by
      rw [List.map_append, List.map_cons, List.map_take, List.map_drop]
    rw [← hhs] at q3
    have hes : (SetTable.insertAt es p (hN w k, Value.ref x)).size = L.length + 1 := by rw [row_size hin, hlen]
    generalize SetTable.insertAt es p (hN w k, Value.ref x) = es1 at hin hes ⊢
    generalize L.take p ++ (x, k) :: L.drop p = L1 at pm hlen q3 hin
    refine wpAny_bind (wpAny_storeSet_of ho hd ?_ (by rw [hes, sizeLine_eq]; omega))
    have sb : Heap.SameBut a s.heap (s.heap.update a (Obj.putSet es1 t1)) := Heap.SameBut.update ..
    have ho1 := store_at (es' := es1) (t' := t1) ho hd
    generalize s.heap.update a (Obj.putSet es1 t1) = h1 at sb ho1 ⊢
    have tup1 : ∀ p ∈ L1, IsN P w h1 p.2 p.1 := fun p hp => by
      rcases List.mem_cons.mp (pm.mem_iff.mp hp) with e | hp
      · rw [e]; exact hx.same ho hd sb
      · exact (R.tup p hp).same ho hd sb
    have ld1 : w.params.followText "set-order" = true ∨ t1.led = true := by rw [q5]; exact R.led
    have fin : ∀ b h' L' es' ep' t', Heap.SameBut a s.heap h' → SetN P w h' a L' es' ep' t' → L'.Perm L1 → Q b { s with heap := h' } := fun b h' L' es' ep' t' e1 e2 e3 =>
      hQ b h' L' es' ep' t' e1 e2 (fun p hp => pm.mem_iff.mp (e3.mem_iff.mp hp)) (fun p hp => List.mem_map.mpr ⟨p, e3.mem_iff.mpr (pm.mem_iff.mpr hp), rfl⟩) (by rw [e3.length_eq, hlen]; exact Nat.le_refl _)
    by_cases hf : t1.tooFull = true
    · first
        | (refine wpAny_bind ?_; refine wp_if_pos (by simp [hf]) ?_)
        | (refine wp_if_pos (by simp [hf]) ?_; refine wpAny_bind ?_)
      have hfull : (L.length + 1) * 5 ≥ t1.mask * 3 := by
        have h := hf
        unfold SetTable.tooFull at h
        rw [decide_eq_true_eq, q9, List.length_map] at h
        exact h
      rw [hsl]
      have hsz1 : t1.place.size = es1.size := by
        have h := q3.sz
        rw [List.length_map, hlen] at h
        rw [h, hes]
      have cases2 : (t.mask = 7 ∧ L.length = 4) ∨ (t.mask = 31 ∧ L.length = 18) := by
        rcases R.tab.mok with e | e | e
        · left; rw [q4, e] at hfull; rw [e] at hroom; exact ⟨e, by omega⟩
        · right; rw [q4, e] at hfull; rw [e] at hroom; exact ⟨e, by omega⟩
        · exfalso; rw [q4, e] at hfull; omega
      have go : ∀ M, SetTable.sizeAbove (SetTable.grown (L.length + 1)) - 1 = M → MaskOk M → SetTable.sizeAbove (SetTable.grown (L.length + 1)) ≤ 128 → (L.length + 1) * 5 < M * 3 →
          wpAny (model P w) A (setRelay a (SetTable.grown (L.length + 1))) (fun _ s' => wpAny (model P w) A (pure true) Q E s') E { s with heap := h1 } := fun M h1' h2' h3' h4' => by
        refine relay_N (s := { s with heap := h1 }) ho1 ⟨hex.1, hex.2.1, hex.2.2⟩ rfl hin hsz1 q3.dm (by rw [hes, q4]; rcases cases2 with ⟨e, e2⟩ | ⟨e, e2⟩ <;> omega) tup1 hp1 ld1 (by rw [hlen]; exact hfew) h1' h2' h3' (by rw [hlen]; exact h4') ?_
        intro h2 L2 es2 ep2 t2 sb2 R2 pm2
        exact wpAny_pure (fin true h2 L2 es2 ep2 t2 (sb.trans sb2) R2 pm2)
      rcases cases2 with ⟨_, e2⟩ | ⟨_, e2⟩
      · exact go 31 (by rw [e2, size_20]) (.inr (.inl rfl)) (by rw [e2, size_20]; decide) (by omega)
      · exact go 127 (by rw [e2, size_76]) (.inr (.inr rfl)) (by rw [e2, size_76]; decide) (by omega)
    · first
        | refine wp_if_neg (by simp [hf]) ?_
        | (refine wpAny_bind ?_; refine wp_if_neg (by simp [hf]) ?_; refine wpAny_pure ?_)
      refine wpAny_pure (fin true h1 L1 es1 (ep + 1) t1 sb ⟨⟨_, ho1, ⟨hex.1, hex.2.1, hex.2.2⟩, rfl⟩, hin, q3, tup1, hp1, ld1, ?_, by rw [hlen]; exact hfew⟩ (List.Perm.refl _))
      have h := hf
      unfold SetTable.tooFull at h
      rw [decide_eq_true_eq, q9, List.length_map] at h
      rw [hlen]
      omega
/-- what the set has of the first i -/
structure Has (ks : Rw) (i : Nat) (L : Rw) : Prop where
  sub : ∀ p ∈ L, p ∈ ks.take i
  all : ∀ p ∈ ks.take i, p.2 ∈ L.map (·.2)
  len : L.length ≤ i
theorem Has.next {ks L L' : Rw} {i : Nat} {x : Addr × NestedKey} (g : Has ks i L) (h : ks[i]? = some x) (h1 : ∀ p ∈ L', p ∈ x :: L) (h2 : ∀ p ∈ x :: L, p.2 ∈ L'.map (·.2)) (h3 : L'.length ≤ L.length + 1) : Has ks (i + 1) L' := by
  refine ⟨fun p hp => ?_, fun p hp => ?_, by have := g.len; omega⟩
  · rw [take_snoc h]
    rcases List.mem_cons.mp (h1 p hp) with z | z
    · rw [z]; simp
    · exact List.mem_append_left _ (g.sub p z)
  · rw [take_snoc h] at hp
    rcases List.mem_append.mp hp with z | z
    · obtain ⟨q, hq, e⟩ := List.mem_map.mp (g.all p z)
      rw [← e]
      exact h2 q (List.mem_cons_of_mem _ hq)
    · rw [List.mem_singleton.mp z]
      exact h2 x List.mem_cons_self
theorem SetN.keep {h h' : Heap} (R : SetN P w h a L es ep t) (ha : ∀ o, h.get? a = some o → h'.get? a = some o) (ht : ∀ p ∈ L, IsN P w h' p.2 p.1) : SetN P w h' a L es ep t := by
  obtain ⟨o, ho, r⟩ := R.ob
  exact ⟨⟨o, ha o ho, r⟩, R.rows, R.tab, ht, R.plain, R.led, R.room, R.few⟩
theorem setN_new {h : Heap} (ho : h.get? a = some { cls := .type "set", dict := none, data := .set #[] 0 (.fresh 0 0 (!w.params.followText "set-order")) }) : SetN P w h a [] #[] 0 (.fresh 0 0 (!w.params.followText "set-order")) where
  ob := ⟨_, ho, ⟨rfl, rfl, rfl⟩, rfl⟩
  rows := rfl
  tab := ⟨List.Pairwise.nil, rfl, rfl, .inl rfl, fun x hx => (by cases hx), fun i h j hi => (by simp at hi)⟩
  tup := fun p hp => (by cases hp)
  plain := rfl
  led := by
    show _ ∨ (!w.params.followText "set-order") = true
    cases w.params.followText "set-order"
    · exact .inr rfl
    · exact .inl rfl
  room := by
    show 0 * 5 < 7 * 3
    decide
  few := by
    show 0 < 64
    decide
/-- the loop of set.update -/
theorem update_N {I : Addr} {fp wr : List Addr} {G : Array GenState → Array GenState → Prop} {n : Nat} {Pv : Nat → Value → Prop} {St : Nat → Shared → Prop} {R : Result → Shared → Prop}
    (W : WalksS P w A.in1 I fp wr G n Pv St) (S : Addr) (hSf : S ∉ fp) (ks : Rw) (hn : n = ks.length) (hfew : ks.length < 64) (hval : ∀ i v, Pv i v → ∃ p, ks[i]? = some p ∧ v = .ref p.1)
    (h0 : Heap) (hk : ∀ p ∈ ks, IsN P w h0 p.2 p.1) (hS0 : h0.get? S = none) (hw0 : ∀ b ∈ wr, h0.get? b = none) (hu : A.in1.units + 8 < cLine) :
    ∀ (k i : Nat) (s : Shared), n - i = k → i ≤ n → St i s → (∀ b o, h0.get? b = some o → s.heap.get? b = some o) → (∃ L es ep t, SetN P w s.heap S L es ep t ∧ Has ks i L) →
      (∀ s' L es ep t, Moved (S :: wr) G s s' → SetN P w s'.heap S L es ep t → Has ks n L → (∀ b o, h0.get? b = some o → s'.heap.get? b = some o) → R (.ok (.ret .none)) s') →
      codeAny (model P w) A (.builtin "set.update.loop" ⟨[.ref S, .ref I], []⟩) R s := by
  have hSw : S ∉ wr := fun h => hSf (W.sub _ h)
  have hsub : ∀ b ∈ wr, b ∈ S :: wr := fun b hb => List.mem_cons_of_mem _ hb
  have keepM : ∀ {s s' : Shared}, Moved wr G s s' → (∀ b o, h0.get? b = some o → s.heap.get? b = some o) → ∀ b o, h0.get? b = some o → s'.heap.get? b = some o := fun hm hkp b o e =>
    hm.heap b o (fun hb => by rw [hw0 b hb] at e; cases e) (hkp b o e)
  intro k
  induction k with
  | zero =>
    intro i s hk' hi hst hkp ⟨L, es, ep, t, hS, g⟩ hR
    have hin : i = n := by omega
    subst hin
    refine codeAny_builtin F.entry_set_update_loop ?_
    rw [Around.under_plainId F.plain_set_update_loop _]
    show wpAny _ A.in1 (pyNext (.ref I) >>= _) _ _ s
    refine wpAny_bind (W.done s _ _ hst fun s' hm => ?_)
    show wpAny _ A.in1 (ret Value.none) _ _ s'
    have hkp' := keepM hm hkp
    exact wpAny_pure (hR s' L es ep t (hm.mono hsub) (hS.keep (fun o e => hm.heap S o hSw e) fun p hp => (hk p (List.mem_of_mem_take (g.sub p hp))).keep hkp') g hkp')
  | succ k ih =>
    intro i s hk' hi hst hkp ⟨L, es, ep, t, hS, g⟩ hR
    have hlt : i < n := by omega
    refine codeAny_builtin F.entry_set_update_loop ?_
    rw [Around.under_plainId F.plain_set_update_loop _]
    show wpAny _ A.in1 (pyNext (.ref I) >>= _) _ _ s
    refine wpAny_bind (W.item i s _ _ hlt hst fun v s' hP hst' hm => ?_)
    obtain ⟨p, hp, rfl⟩ := hval i v hP
    have hkp' := keepM hm hkp
    have hS' : SetN P w s'.heap S L es ep t := hS.keep (fun o e => hm.heap S o hSw e) fun q hq => (hk q (List.mem_of_mem_take (g.sub q hq))).keep hkp'
    have hx : IsN P w s'.heap p.2 p.1 := (hk p (List.mem_of_getElem? hp)).keep hkp'
    show wpAny _ A.in1 (holding [Value.ref p.1] (setAdd S (.ref p.1)) >>= _) _ _ s'
    refine wpAny_bind (wpAny_holding ?_)
    unfold setAdd
    refine wpAny_holding ?_
    refine wpAny_bind ((nestedKind P w).pyHash hu hx.1 ?_)
    refine add_N (s := { s' with toks := s'.toks + (nestedKind P w).draws p.2 }) hS' hx hu (by have := g.len; omega) fun b h' L' es' ep' t' hsb hS2 c1 c2 c3 => ?_
    have g' : Has ks (i + 1) L' := g.next hp c1 c2 c3
    have hkp2 : ∀ b o, h0.get? b = some o → h'.get? b = some o := fun b o e => (hsb.2 b (fun z => by rw [z, hS0] at e; cases e)).trans (hkp' b o e)
    refine wpAny_pure ⟨plainId_quiet F.plain_set_update_loop _, ih (i + 1) _ (by omega) hlt (W.frame _ s' _ _ hst' (Nat.le_add_right _ _) fun b hb o e => ?_) hkp2 ⟨L', es', ep', t', hS2, g'⟩ fun s'' L2 es2 ep2 t2 hm'' hS'' g'' hkp'' => ?_⟩
    · rw [hsb.2 b (fun h : b = S => hSf (by rw [← h]; exact hb))]; exact e
    · refine hR s'' L2 es2 ep2 t2 (Moved.trans W.gtrans ((hm.mono hsub).then_heap (Nat.le_add_right _ _) fun b o hb e => ?_) hm'') hS'' g'' hkp''
      rw [hsb.2 b (fun h : b = S => hb (by rw [h]; exact List.mem_cons_self))]; exact e
end
end Wk
/-! WSt4 -/
namespace Wk
open PySem PySem.Spec PyProof.Rows L2
section
variable {P : Program} {w : World} {A : Around} {E : Value → Shared → Prop} {s : Shared}
set_option maxHeartbeats 3200000 in
/-- set(xs), xs a list of nested tuples -/
theorem call_set_N {l : Addr} {items : Array Value} (ks : Rw) {Q : Value → Shared → Prop} (hh : A.handled = none) (hl : s.heap.IsList l items) (hit : items.toList = ks.map fun p => Value.ref p.1)
    (hk : ∀ p ∈ ks, IsN P w s.heap p.2 p.1) (hfew : ks.length < 64) (hu : A.units + 11 < cLine)
    (h : ∀ (h' : Heap) (tk : Nat) L es ep t, SetN P w h' s.heap.objs.size L es ep t → Has ks ks.length L → (∀ b o, s.heap.get? b = some o → h'.get? b = some o) → Q (.ref s.heap.objs.size) { s with heap := h', toks := tk }) :
    wpAny (model P w) A (call (.type "set") [.ref l]) Q E s := by
  have hisz : items.size = ks.length := by
    have q := congrArg List.length hit
    rw [Array.length_toList, List.length_map] at q
    exact q
  obtain ⟨c, tl, hmro⟩ := F.called_set.mro
  have hmade := F.called_set.made
  have hsub := F.called_set.sub
  refine wpAny_call (codeAny_of_tree ?_)
  show wpAny _ _ (callAny (.type "set") _) _ _ _
  refine wpAny_pure ⟨Code.quiet_builtin _ (by decide +kernel), codeAny_builtin F.entry_type_call ?_⟩
  rw [Around.under_plain (weight_type_call_type "set" [.ref l] []) rfl]
  have h1 := F.called_set.notType
  have h2 := F.called_set.canCreate
  have hct := F.typeCall_set_1 (.ref l)
  repeat (any_goals (first | assumption | wp_step))
  refine codeAny_mono (code_set_led1 (.ref l) (E := E) (Q₁ := fun obj s₁ => obj = .ref s.heap.objs.size ∧ s₁ = { s with heap := s.heap.push { cls := .type "set", dict := none, data := .set #[] 0 (.fresh 0 0 (!w.params.followText "set-order")) } }) ⟨rfl, rfl⟩) fun r s₁ hr => ?_
  cases r with
  | error e => exact hr
  | ok fl =>
    cases fl with
    | ret obj =>
      obtain ⟨rfl, rfl⟩ := hr
      have hS : (s.heap.push { cls := .type "set", dict := none, data := .set #[] 0 (.fresh 0 0 (!w.params.followText "set-order")) }).get? s.heap.objs.size = some { cls := .type "set", dict := none, data := .set #[] 0 (.fresh 0 0 (!w.params.followText "set-order")) } := Heap.get?_push_size _ rfl
      have hT : Shared.TypeIs { s with heap := s.heap.push { cls := .type "set", dict := none, data := .set #[] 0 (.fresh 0 0 (!w.params.followText "set-order")) } } (.ref s.heap.objs.size) "set" := ⟨_, hS, rfl⟩
      have hli := F.called_set.init.lookup
      have hbi := F.called_set.init.bind (.ref s.heap.objs.size)
      repeat (any_goals (first | assumption | wp_step))
      refine codeAny_mono (codeAny_call_builtin (R := wants (fun r s₂ => r = .none ∧ ∃ h' tk L es ep t, s₂ = { s with heap := h', toks := tk } ∧ SetN P w h' s.heap.objs.size L es ep t ∧ Has ks ks.length L ∧
          (∀ b o, s.heap.get? b = some o → h'.get? b = some o)) E) F.called_set.init.plain F.entry_set_init (check_set_init_1 hT ?_)) fun r₂ s₂ hr₂ => ?_
      · obtain ⟨ol, hol, hcl, nl, hdl⟩ := hl
        obtain ⟨ocls, odict, odata, oslots⟩ := ol
        simp only at hcl hdl
        subst hcl; subst hdl
        have hol' : (s.heap.push { cls := .type "set", dict := none, data := .set #[] 0 (.fresh 0 0 (!w.params.followText "set-order")) }).get? l = some { cls := .type "list", dict := odict, data := .seq items nl, slots := oslots } := Heap.get?_push_of_some _ hol
        have hsls := F.sub_list_set
        have hslf := F.sub_list_frozenset
        have hne : (Value.type "list" == Value.type "dict") = false := by decide
        have hl1 : (s.heap.push { cls := .type "set", dict := none, data := .set #[] 0 (.fresh 0 0 (!w.params.followText "set-order")) }).IsList l items := ⟨_, hol', rfl, nl, rfl⟩
        unfold Builtin.«set.__init__» noKeywords Builtin.Frozenset.updateFrom
        generalize hPI : pyIter = PI
        wp_walk
        subst hPI
        refine wpAny_pyIter_list hl1 ?_
        refine wpAny_bind (wpAny_runValue ?_)
        have hlS : l < s.heap.objs.size := Heap.lt_size hol
        have hh3 : A.in1.in1.in1.handled = none := by simp [hh]
        have hneI : l ≠ (s.heap.push { cls := .type "set", dict := none, data := .set #[] 0 (.fresh 0 0 (!w.params.followText "set-order")) }).objs.size := by
          rw [Heap.size_push]; exact Nat.ne_of_lt (Nat.lt_succ_of_lt hlS)
        have hSf : s.heap.objs.size ∉ [(s.heap.push { cls := .type "set", dict := none, data := .set #[] 0 (.fresh 0 0 (!w.params.followText "set-order")) }).objs.size, l] := by
          rw [Heap.size_push]; simp only [List.mem_cons, List.mem_singleton, List.not_mem_nil, or_false, not_or]
          exact ⟨Nat.ne_of_lt (Nat.lt_succ_self _), Nat.ne_of_gt hlS⟩
        have hval : ∀ (i : Nat) (v : Value), items[i]? = some v → ∃ p, ks[i]? = some p ∧ v = .ref p.1 := fun i v hv => by
          have q : items.toList[i]? = some v := by rw [Array.getElem?_toList]; exact hv
          rw [hit, List.getElem?_map] at q
          cases hq : ks[i]? with
          | none => rw [hq] at q; cases q
          | some p =>
            rw [hq] at q
            exact ⟨p, rfl, (Option.some.inj q).symm⟩
        have none_of : ∀ b, s.heap.objs.size ≤ b → s.heap.get? b = none := fun b hb => by
          cases q : s.heap.get? b with
          | none => rfl
          | some o => exact absurd (Nat.lt_of_lt_of_le (Heap.lt_size q) hb) (Nat.lt_irrefl _)
        refine update_N ((Walks.list hh3 _ l hneI items).toS) s.heap.objs.size
          hSf ks hisz hfew hval s.heap hk (none_of _ (Nat.le_refl _)) (fun b hb => none_of b (by
            rw [List.mem_singleton.mp hb, Heap.size_push]
            exact Nat.le_succ _)) (by show A.units + 3 + 8 < cLine; omega) (items.size - 0) 0 _ (by omega) (Nat.zero_le _)
          ⟨⟨_, Heap.get?_push_size _ rfl, rfl, rfl⟩, (hl1.push _)⟩ (fun b o e => Heap.get?_push_of_some _ (Heap.get?_push_of_some _ e)) ?hS0 ?hR
        case hS0 => exact ⟨[], #[], 0, _, setN_new (Heap.get?_push_of_some _ hS), ⟨fun p h => (by cases h), fun p h => (by simp at h), Nat.le_refl _⟩⟩
        case hR =>
          intro s' L es ep t hm hS' g' hkp
          obtain ⟨h', g2, d', tk', os'⟩ := s'
          have eg : g2 = s.gens := hm.gens
          have ed : d' = s.drawn := hm.drawn
          have eo : os' = s.os := hm.os
          subst eg; subst ed; subst eo
          show wpAny _ _ _ _ _ _
          refine wpAny_pure ?_
          show wpAny _ _ (ret Value.none) _ _ _
          rw [hisz] at g'
          exact wpAny_pure ⟨rfl, h', tk', L, es, ep, t, rfl, hS', g', hkp⟩
      · cases r₂ with
        | error e => exact hr₂
        | ok fl₂ =>
          cases fl₂ with
          | ret r =>
            obtain ⟨rfl, h', tk, L, es, ep, t, rfl, hS', g', hk'⟩ := hr₂
            repeat (any_goals (first | assumption | wp_step))
            exact h _ _ _ _ _ _ hS' g' hk'
          | _ => exact hr₂.elim
    | _ => exact hr.elim
mutual
theorem reads_none {h : Heap} : ∀ (k : NestedKey) (v : Value) (as : List Addr), Reads h v k.data as → as = []
  | .none, _, _, r => by cases r; rfl
  | .num _, _, _, r => by cases r; rfl
  | .text _, _, _, r => by cases r; rfl
  | .tup ks, _, _, r => by
    rw [NestedKey.data] at r
    cases r with
    | tuple _ _ _ h4 => exact reads_nones ks _ _ h4
theorem reads_nones {h : Heap} : ∀ (ks : List NestedKey) (vs : List Value) (as : List Addr), ReadsAll h vs (NestedKey.datas ks) as → as = []
  | [], _, _, r => by rw [NestedKey.datas] at r; cases r; rfl
  | k :: ks, _, _, r => by
    rw [NestedKey.datas] at r
    cases r with
    | cons h1 h2 => rw [reads_none k _ _ h1, reads_nones ks _ _ h2]; rfl
end
/-- sorted(such a set): a list of its members -/
theorem sorted_N {a : Addr} {L : Rw} {es : Array (Int × Value)} {ep : Nat} {t : SetTable} {Q : Value → Shared → Prop} (R : SetN P w s.heap a L es ep t) (hh : A.handled = none) (hu : A.units + 20 < cLine)
    (rd : ∀ p ∈ L, ∃ as, Reads s.heap (.ref p.1) p.2.data as) (hal : ∀ p ∈ L, ∀ q ∈ L, PySem.W.alike p.2.data q.2.data = true) (hso : ∀ p ∈ L, ∃ x r, p.2.data = .tuple (x :: r)) (hdp : ∀ p ∈ L, p.2.data.depth ≤ 8)
    (hQ : ∀ s' p (out : List Value) (c : Nat) (L' : Rw), (∀ b o, s.heap.get? b = some o → s'.heap.get? b = some o) → s'.gens = s.gens → s'.os = s.os → s.heap.objs.size ≤ p →
      s'.heap.get? p = some (seqObj "list" out.toArray c) → out = L'.map (fun q => Value.ref q.1) → (∀ q ∈ L', q ∈ L) → (∀ q ∈ L, q.2 ∈ L'.map (·.2)) → L'.length < 64 → Q (.ref p) s') :
    wpAny (model P w) A (call (.builtin "sorted") [.ref a]) Q E s := by
  obtain ⟨o, ho, hex, hd⟩ := R.ob
  have hsz := row_size R.rows
  have hfew := R.few
  refine Calls.call_function_entry kind_sorted plain_sorted entry_sorted (args_sorted1 _) ?_
  unfold Builtin.«sorted»
  refine wpAny_bind (m := checkCount "sorted" 1 1 _) (wpAny_pure ?_)
  refine wpAny_bind (collect_set (A := A.in1) hh ⟨o, ho, hex.1, hd⟩ R.fits (by unfold scanBound; omega) R.tab.ris R.led fun s1 vs k1 hz g1 o1 pm => ?_)
  have hes : es.toList.map (·.2) = L.map fun q => Value.ref q.1 := by
    rw [R.rows, List.map_map]
    rfl
  rw [hes] at pm
  have ord : ∀ vs : List Value, (∀ v ∈ vs, ∃ q ∈ L, v = Value.ref q.1) → ∃ L1 : Rw, vs = L1.map (fun q => Value.ref q.1) ∧ ∀ q ∈ L1, q ∈ L := by
    intro vs
    induction vs with
    | nil => exact fun _ => ⟨[], rfl, fun q hq => (by cases hq)⟩
    | cons v vs ih =>
      intro hv
      obtain ⟨q, hq, e⟩ := hv v List.mem_cons_self
      obtain ⟨L1, e1, hs⟩ := ih fun u hu => hv u (List.mem_cons_of_mem _ hu)
      refine ⟨q :: L1, by rw [List.map_cons, e, e1], fun r hr => ?_⟩
      rcases List.mem_cons.mp hr with z | z
      · rw [z]; exact hq
      · exact hs r z
  obtain ⟨L1, e1, hs1⟩ := ord vs fun v hv => by
    obtain ⟨q, hq, e⟩ := List.mem_map.mp (pm.mem_iff.mp hv)
    exact ⟨q, hq, e.symm⟩
  have hcov : ∀ q ∈ L, q.2 ∈ L1.map (·.2) := fun q hq => by
    have : Value.ref q.1 ∈ L1.map fun q => Value.ref q.1 := by
      rw [← e1]
      exact pm.mem_iff.mpr (List.mem_map.mpr ⟨q, hq, rfl⟩)
    obtain ⟨r, hr, e⟩ := List.mem_map.mp this
    injection e with e
    have h1 := R.tup q hq
    have h2 := R.tup r (hs1 r hr)
    rw [e] at h2
    exact List.mem_map.mpr ⟨r, hr, (nestedKind P w).inj h2.1 h1.1⟩
  have hl1 : L1.length = L.length := by
    have := pm.length_eq
    rw [e1, List.length_map, List.length_map] at this
    exact this
  have hvl : vs.length < 64 := by rw [pm.length_eq, List.length_map]; exact hfew
  refine wpAny_bind (wpAny_newList ?_ (by rw [sizeLine_eq]; omega))
  have hoL : (s1.heap.push (seqObj "list" vs.toArray 0)).get? s1.heap.objs.size = some (seqObj "list" vs.toArray 0) := Heap.get?_push_size _ rfl
  have k2 : ∀ b o, s.heap.get? b = some o → (s1.heap.push (seqObj "list" vs.toArray 0)).get? b = some o := fun b u e => Heap.get?_push_of_some _ (k1 b u e)
  have each : ∀ (M : Rw), (∀ q ∈ M, q ∈ L) → PySem.W.EachIs (fun v (q : Addr × NestedKey) => v = Value.ref q.1) (M.map fun q => Value.ref q.1) M ∧ PySem.W.EachIs (fun v (q : Addr × NestedKey) => ∃ as, Reads (s1.heap.push (seqObj "list" vs.toArray 0)) v q.2.data as ∧ s1.heap.objs.size ∉ as) (M.map fun q => Value.ref q.1) M := by
    intro M
    induction M with
    | nil => exact fun _ => ⟨.nil, .nil⟩
    | cons q M ih =>
      intro h
      obtain ⟨i1, i2⟩ := ih fun r hr => h r (List.mem_cons_of_mem _ hr)
      refine ⟨.cons rfl i1, .cons ?_ i2⟩
      obtain ⟨as, hr⟩ := rd q (h q List.mem_cons_self)
      have hr' := PyProof.Rows.Reads.keeps k2 hr
      exact ⟨as, hr', by rw [reads_none q.2 _ _ hr']; simp⟩
  obtain ⟨ea, eb⟩ := each L1 hs1
  rw [← e1] at ea eb
  refine wpAny_bind (wpAny_holding (PySem.W.list_sort_data (s := { s1 with heap := s1.heap.push (seqObj "list" vs.toArray 0) }) (enc := fun q : Addr × NestedKey => q.2.data) hoL ea eb (fun d hd d' hd' => ?_) (.inl fun d hd => ?_) (by rw [hl1, sizeLine_eq]; omega) (fun q hq => ?_) fun out a1 a2 => ?_))
  · obtain ⟨q, hq, rfl⟩ := List.mem_map.mp hd
    obtain ⟨r, hr, rfl⟩ := List.mem_map.mp hd'
    exact hal q (hs1 q hq) r (hs1 r hr)
  · obtain ⟨q, hq, rfl⟩ := List.mem_map.mp hd
    exact hso q (hs1 q hq)
  · have := hdp q (hs1 q hq)
    show A.units + 1 + 1 + _ < cLine
    omega
  · obtain ⟨c, hc⟩ := sortedHeap_at (vs := vs) (out := out.toArray) hoL
    have pL := List.mergeSort_perm L1 (PySem.W.dataLe false fun q : Addr × NestedKey => q.2.data)
    have eout : out = (L1.mergeSort (PySem.W.dataLe false fun q : Addr × NestedKey => q.2.data)).map fun q => Value.ref q.1 := by
      have : ∀ {vs : List Value} {M : Rw}, PySem.W.EachIs (fun v (q : Addr × NestedKey) => v = Value.ref q.1) vs M → vs = M.map fun q => Value.ref q.1 := by
        intro vs M h
        induction h with
        | nil => rfl
        | cons h1 _ ih => rw [List.map_cons, h1, ← ih]
      exact this a2
    refine wpAny_pure ⟨_, rfl, hQ _ s1.heap.objs.size out c _ (fun b u e => ?_) g1 o1 hz hc eout (fun q hq => hs1 q (pL.mem_iff.mp hq)) (fun q hq => (pL.map (·.2)).mem_iff.mpr (hcov q hq)) (by rw [pL.length_eq, hl1]; exact hfew)⟩
    have q := k1 b u e
    have hlt := Heap.lt_size q
    show (sortedHeap (s1.heap.push (seqObj "list" vs.toArray 0)) s1.heap.objs.size vs out.toArray).get? b = some u
    rw [sortedHeap_old (Nat.ne_of_lt hlt) (by rw [size_push']; exact Nat.lt_succ_of_lt hlt)]
    exact Heap.get?_push_of_some _ q
end
end Wk
/-! WSt5 -/
namespace Wk
open PySem PySem.Spec PyProof.Rows L2
theorem rw_vals : ∀ (M : Rw), Vals (M.map fun q => V.ref q.1) (M.map fun q => Value.ref q.1)
  | [] => .nil
  | q :: M => .cons rfl (rw_vals M)
theorem rw_of : ∀ {xs : List V} {ks : List NestedKey} {K : PySem.W.Frag} {H : Hp}, DpAll K H xs (NestedKey.datas ks) → (∀ k ∈ ks, ∃ x r, k.data = .tuple (x :: r)) → ∃ ps : Rw, xs = ps.map (fun q => V.ref q.1) ∧ ks = ps.map (·.2) ∧ ∀ p ∈ ps, Dp K H (.ref p.1) p.2.data
  | _, [], _, _, h, _ => by
    rw [NestedKey.datas] at h
    cases h
    exact ⟨[], rfl, rfl, by simp⟩
  | _, k :: ks, _, _, h, hk => by
    rw [NestedKey.datas] at h
    cases h with
    | cons h1 h2 =>
      obtain ⟨x, r, e⟩ := hk k List.mem_cons_self
      obtain ⟨ps, rfl, rfl, hp⟩ := rw_of h2 fun q hq => hk q (List.mem_cons_of_mem _ hq)
      have h1' := h1
      rw [e] at h1'
      obtain ⟨a, ys, rfl, _, _⟩ := dp_tup_inv h1'
      exact ⟨(a, k) :: ps, rfl, rfl, fun p hp' => by
        rcases List.mem_cons.mp hp' with z | z
        · rw [z]; exact h1
        · exact hp p z⟩
theorem rw_refs {us : List Value} : ∀ {ps : Rw}, Vals (ps.map fun q => V.ref q.1) us → us = ps.map fun q => Value.ref q.1 := by
  intro ps h
  induction ps generalizing us with
  | nil => cases h; rfl
  | cons q ps ih =>
    cases h with
    | cons h1 h2 =>
      cases h1
      rw [ih h2]
      rfl
theorem pe_sortSet {X : Cx} {e : Expr} {te : TE} {p p2 p3 pos : Pos} (hu : X.A.units + 64 < cLine) (hc : X.calm = true) (hg : Gl X "sorted") (hm : X.mg "sorted" = none) (hg2 : Gl X "set") (hm2 : X.mg "set" = none) (he : PE X e te)
    (na : starEach [e] X.env = (false, eval e X.env) :: starEach [] X.env := by rfl) :
    PE X (.Call (.Name "sorted" p) [.Call (.Name "set" p2) [e] [] p3] [] pos) (tSortSet X.prog X.w X.K te) := by
  refine ⟨fun pins s σ H Q I h => ?_⟩
  refine Call_ (ld_blt I hg hm PyProof.Rows.boot_sorted ?_)
  refine PyProof.Rows.callWith_builtin1 (PyProof.Rows.args_cons ?_ rfl) rfl rfl
  refine Call_ (ld_blt I hg2 hm2 PyProof.Rows.boot_set ?_)
  refine PyProof.Rows.callWith_type1 (PyProof.Rows.args_cons (thn (he.run pins s σ H _ I h) fun v s1 ⟨x, H1, I1, r1, q1⟩ => PyProof.Rows.args_nil ?_) na) na rfl
  obtain ⟨a, xs, ks, rfl, hs, hf, hd, hk, hal, q1⟩ := q1
  cases r1
  obtain ⟨ps, rfl, rfl, hps⟩ := rw_of hd fun k h => (hk k h).2.2.2
  rw [List.length_map] at hf
  obtain ⟨its, rv, pl, hz⟩ := I1.list hs
  have keyOf : ∀ p ∈ ps, IsN X.prog X.w s1.heap p.2 p.1 := fun p hp => ⟨nk_is I1 ⟨hps p hp, (hk p.2 (List.mem_map.mpr ⟨p, hp, rfl⟩)).1⟩, (hk p.2 (List.mem_map.mpr ⟨p, hp, rfl⟩)).2.2.1⟩
  refine call_set_N ps (I1.ok.hd hc) pl.isList (by simpa using rw_refs rv) keyOf hf (by omega) fun h' tk L es ep t R g k => ?_
  refine PyProof.Rows.args_nil ?_
  have I2 : Inv X pins σ H1 { s1 with heap := h', toks := tk } := I1.kept fun b o e => k b o e
  have R' : SetN X.prog X.w ({ s1 with heap := h', toks := tk } : Shared).heap s1.heap.objs.size L es ep t := R
  generalize ({ s1 with heap := h', toks := tk } : Shared) = s2 at I2 R' ⊢
  generalize s1.heap.objs.size = a2 at R' ⊢
  have sub : ∀ q ∈ L, q ∈ ps := fun q hq => List.mem_of_mem_take (g.sub q hq)
  have hin : ∀ q ∈ ps, q.2 ∈ ps.map (·.2) := fun q hq => List.mem_map.mpr ⟨q, hq, rfl⟩
  refine sorted_N (s := s2) R' (I2.ok.hd hc) (by omega) (fun p hp => Dp.reads I2 p.2.data _ _ (hps p (sub p hp)) rfl) (fun p hp q hq => hal p.2 (hin p (sub p hp)) q.2 (hin q (sub q hq))) (fun p hp => (hk p.2 (hin p (sub p hp))).2.2.2) (fun p hp => (hk p.2 (hin p (sub p hp))).2.1) fun s' p out c L' k2 g2 o2 hp hout eo sub2 cov2 len2 => ?_
  have hlen : (L'.map fun q => V.ref q.1).length ≤ sizeLine := by rw [List.length_map, sizeLine_eq]; omega
  have hn : H1 p = none := I2.hok.fresh hp
  have hv : Vals (L'.map fun q => V.ref q.1) out := by rw [eo]; exact rw_vals L'
  have J : Inv X pins σ (upd H1 p (.lst (L'.map fun q => V.ref q.1))) { s2 with heap := s'.heap, gens := s'.gens, drawn := s'.drawn, toks := s'.toks } :=
    I2.call (ch := []) (Un.laid k2 hp hn) (I2.hok.laid k2 hp ⟨hlen, out, c, hv, hout⟩) (by rw [g2]; exact I2.bare) (fun _ z => nomatch z)
  have e : s' = { s2 with heap := s'.heap, gens := s'.gens, drawn := s'.drawn, toks := s'.toks } := by
    cases s'
    cases s2
    cases o2
    rfl
  rw [e]
  have hz2 := q1 p (L'.map fun q => (V.ref q.1, q.2)) hn (fun q hq => ?_) (fun k hk' => ?_)
  · rw [List.map_map] at hz2
    exact ⟨.ref p, _, J, rfl, hz2⟩
  · obtain ⟨r, hr, rfl⟩ := List.mem_map.mp hq
    rw [List.zip_map']
    exact List.mem_map.mpr ⟨r, sub r (sub2 r hr), rfl⟩
  · obtain ⟨r, hr, rfl⟩ := List.mem_map.mp hk'
    have h1 := g.all r (by rw [List.take_length]; exact hr)
    obtain ⟨r2, hr2, e2⟩ := List.mem_map.mp h1
    obtain ⟨r3, hr3, e3⟩ := List.mem_map.mp (cov2 r2 hr2)
    exact ⟨(V.ref r3.1, r3.2), List.mem_map.mpr ⟨r3, hr3, rfl⟩, by rw [← e2, ← e3]⟩
end Wk
/-! WXs0 -/
namespace Wk
set_option maxHeartbeats 4000000
open PySem PySem.Spec PyProof.Rows L2 Evl
def topS (i : Nat) : Stmt := PySem.Challenge.pw_stonewalker_k93_whole_home_from_wherever.main.body.getD i (.Pass ⟨0, 0, 0, 0⟩)
section
variable {P : Program} {w : World} {K : PySem.W.Frag} {mg : Str → Option Value} {base : Heap}
abbrev s_numbered_looks : Stmt := topS 1
abbrev N_numbered_looks : List Str := ["looks", "numbers", "look"]
theorem sc_numbered_looks : FnScope N_numbered_looks ["looks"] (defScope s_numbered_looks) := ⟨rfl, rfl, rfl, by decide +kernel, rfl, by decide +kernel, by decide +kernel⟩
theorem d_numbered_looks {f : Addr} {cdv : Value} {A : Around} {outer : List Env} {s : Shared} {H : Hp} {E : XK} (hr : Room 0 (A.deeper (envOfC "numbered_looks" (defScope s_numbered_looks) s.heap.objs.size f cdv))) (B : Bt mg) :
    PSs (cxOf CX0 P w K mg base N_numbered_looks "numbered_looks" (defScope s_numbered_looks) f cdv A outer s H E).nox (defBody s_numbered_looks) (t_numbered_looks P w K) := by
  have nd := sc_numbered_looks.nd
  have hu := hr.units
  have hu1 := hu_of hr
  have hu65 := room65 hr
  exact (pss_cons (ps_asg (pe_or pe_dnewK pe_DNnew) (pg_name (i := 1) nd rfl (Or.inr rfl)))
  (pss_cons (ps_for PassesOwn.never rfl (pi_list (pv 0)) (pg_name (i := 2) nd rfl (Or.inl rfl))
  (pss_one (ps_if (pt_or (pt_cmp (pc_dnotin hu1 (pv 2) (pv 1))) (pt_cmpR (op_notInDN hu) (pv 2) (pv 1) (by rfl))) (pss_one (ps_asg (pe_or (pe_callB cr_lenD (by rfl) B.len PySem.boot_len (pa_cons (pv 1) pa_nil)) (pe_callB call_lenDN (by rfl) B.len PySem.boot_len (pa_cons (pv 1) pa_nil))) (pg_sub (pv 1) (pv 2) (set_or (set_DK hu1) (set_DN hu))))) pss_nil)))
  (pss_one (ps_ret (pe_lc (own := [("look", 2)]) (by rfl) nd (pi_list (pv 0)) (blkOk_by (N := N_numbered_looks) (sc := defScope s_numbered_looks) (by decide +kernel)) (fun _ _ _ _ _ => (pg_name (i := 2) nd rfl (Or.inl rfl))) (fun _ _ _ _ _ => pts_nil) (fun _ _ _ _ _ => (pe_or (pe_dget hu1 (pv 1) (pv 2) (fun _ _ => rfl)) (pe_ix (ix_DN hu) (pv 1) (pv 2) (fun _ _ => rfl)))))))))
theorem ok_numbered_looks (F : Df K mg "numbered_looks" s_numbered_looks) (B : Bt mg)
    (len : ∀ vs H Q E, S_numbered_looks P w K vs H Q E → vs.length = 1) (rd : ∀ vs H Q E, S_numbered_looks P w K vs H Q E → t_numbered_looks P w K { nx := fun _ J => Q .non J, rt := Q } (start N_numbered_looks vs) H) : Good P w K mg base "numbered_looks" 1 ["looks"] (S_numbered_looks P w K) := by
  obtain ⟨f, fd, F, hm⟩ := F
  have b := F.binds (ps := ["looks"]) fun _ _ _ _ _ _ us hl => match us, hl with | [_], _ => rfl
  refine ⟨f, fd, hm, F.kp, b, F.ok sc_numbered_looks (fun vs H Q E h => len vs H Q E h) (fun cdv A outer s H vs Q E hr h => ?_)⟩
  exact ⟨_, d_numbered_looks hr B, rd vs H Q E h⟩
abbrev s_folds_by : Stmt := topS 10
abbrev N_folds_by : List Str := ["web", "numbers", "number", "some", "room"]
theorem sc_folds_by : FnScope N_folds_by ["web"] (defScope s_folds_by) := ⟨rfl, rfl, rfl, by decide +kernel, rfl, by decide +kernel, by decide +kernel⟩
theorem d_folds_by {f : Addr} {cdv : Value} {A : Around} {outer : List Env} {s : Shared} {H : Hp} {E : XK} (hr : Room 4 (A.deeper (envOfC "folds_by" (defScope s_folds_by) s.heap.objs.size f cdv))) (B : Bt mg) (h_kinds : Good P w K mg base "kinds" 4 ["web"] (S_kinds P w K)) :
    PSs (cxOf CX0 P w K mg base N_folds_by "folds_by" (defScope s_folds_by) f cdv A outer s H E).nox (defBody s_folds_by) (t_folds_by P w K) := by
  have nd := sc_folds_by.nd
  have hu := hr.units
  have hu1 := hu_of hr
  have hu65 := room65 hr
  exact (pss_cons (ps_asg (pe_op op_rep (pe_lst (pa_cons pe_int pa_nil)) (pe_callB cr_len (by rfl) B.len PySem.boot_len (pa_cons (pv 0) pa_nil))) (pg_name (i := 1) nd rfl (Or.inl rfl)))
  (pss_cons (ps_for PassesOwn.never rfl (pi_enum (by rfl) B.enumerate (pa_cons (pe_callG h_kinds hr (by decide) (by rfl) (pa_cons (pv 0) pa_nil)) pa_nil)) (pg_tup (by rfl) (pgs_cons (pg_name (i := 2) nd rfl (Or.inl rfl)) (pgs_cons (pg_name (i := 3) nd rfl (Or.inl rfl)) pgs_nil)))
  (pss_one (ps_for PassesOwn.never rfl (pi_list (pv 3)) (pg_name (i := 4) nd rfl (Or.inl rfl))
  (pss_one (ps_asg (pv 2) (pg_sub (pv 1) (pv 4) set_list))))))
  (pss_one (ps_ret (pe_callTy cr_tup (by rfl) B.tuple (by decide +kernel) (pa_cons (pv 1) pa_nil))))))
theorem ok_folds_by (F : Df K mg "folds_by" s_folds_by) (B : Bt mg) (h_kinds : Good P w K mg base "kinds" 4 ["web"] (S_kinds P w K))
    (len : ∀ vs H Q E, S_folds_by P w K vs H Q E → vs.length = 1) (rd : ∀ vs H Q E, S_folds_by P w K vs H Q E → t_folds_by P w K { nx := fun _ J => Q .non J, rt := Q } (start N_folds_by vs) H) : Good P w K mg base "folds_by" 5 ["web"] (S_folds_by P w K) := by
  obtain ⟨f, fd, F, hm⟩ := F
  have b := F.binds (ps := ["web"]) fun _ _ _ _ _ _ us hl => match us, hl with | [_], _ => rfl
  refine ⟨f, fd, hm, F.kp, b, F.ok sc_folds_by (fun vs H Q E h => len vs H Q E h) (fun cdv A outer s H vs Q E hr h => ?_)⟩
  exact ⟨_, d_folds_by hr B h_kinds, rd vs H Q E h⟩
abbrev s_way_home : Stmt := topS 19
abbrev N_way_home : List Str := ["web", "story", "open_pairs", "goals", "begin", "ways", "last", "further", "spots", "door", "there", "pair", "spot"]
theorem sc_way_home : FnScope N_way_home ["web", "story"] (defScope s_way_home) := ⟨rfl, rfl, rfl, by decide +kernel, rfl, by decide +kernel, by decide +kernel⟩
theorem d_way_home {f : Addr} {cdv : Value} {A : Around} {outer : List Env} {s : Shared} {H : Hp} {E : XK} (hr : Room 3 (A.deeper (envOfC "way_home" (defScope s_way_home) s.heap.objs.size f cdv))) (B : Bt mg) (h_stands : Good P w K mg base "stands" 3 ["web", "story"] (S_stands P w K)) (h_doors_of_all : Good P w K mg base "doors_of_all" 1 ["web", "spots"] (S_doors_of_all P w K)) :
    PSs (cxOf CX0 P w K mg base N_way_home "way_home" (defScope s_way_home) f cdv A outer s H E).nox (defBody s_way_home) (t_way_home P w K) := by
  have nd := sc_way_home.nd
  have hu := hr.units
  have hu1 := hu_of hr
  have hu65 := room65 hr
  exact (pss_cons (ps_asg (pe_callG h_stands hr (by decide) (by rfl) (pa_cons (pv 0) (pa_cons (pv 1) pa_nil))) (pg_name (i := 2) nd rfl (Or.inl rfl)))
  (pss_cons (ps_if (pt_cmpR (op_eqD hu) (pe_callB cr_len (by rfl) B.len PySem.boot_len (pa_cons (pv 2) pa_nil)) pe_int (nomark _)) (pss_one (ps_ret pe_non)) pss_nil)
  (pss_cons (ps_asg (pe_callTy cr_tup (by rfl) B.tuple (by decide +kernel) (pa_cons (pe_lc (own := [("pair", 11)]) (by rfl) nd (pi_list (pv 2)) (blkOk_by (N := N_way_home) (sc := defScope s_way_home) (by decide +kernel)) (fun _ _ _ _ _ => (pg_name (i := 11) nd rfl (Or.inl rfl))) (fun _ _ _ _ _ => pts_nil) (fun _ _ _ _ _ => (pe_ix ix_seq (pv 11) pe_int (fun _ _ => rfl)))) pa_nil)) (pg_name (i := 3) nd rfl (Or.inl rfl)))
  (pss_cons (ps_asg (pe_callTy cr_tup (by rfl) B.tuple (by decide +kernel) (pa_cons (pe_lc (own := [("pair", 11)]) (by rfl) nd (pi_list (pv 2)) (blkOk_by (N := N_way_home) (sc := defScope s_way_home) (by decide +kernel)) (fun _ _ _ _ _ => (pg_name (i := 11) nd rfl (Or.inl rfl))) (fun _ _ _ _ _ => pts_nil) (fun _ _ _ _ _ => (pe_ix ix_seq (pv 11) pe_int (fun _ _ => rfl)))) pa_nil)) (pg_name (i := 4) nd rfl (Or.inl rfl)))
  (pss_cons (ps_asg (pe_DNone hu (pv 4) (pe_tup pa_nil)) (pg_name (i := 5) nd rfl (Or.inl rfl)))
  (pss_cons (ps_asg (pe_lst (pa_cons (pv 4) pa_nil)) (pg_name (i := 6) nd rfl (Or.inl rfl)))
  (pss_cons (ps_while PassesOwn.never (pt_cmpR (op_notInDN hu) (pv 3) (pv 5) (by rfl))
  (pss_cons (ps_asg (pe_lst pa_nil) (pg_name (i := 7) nd rfl (Or.inl rfl)))
  (pss_cons (ps_for PassesOwn.never rfl (pi_list (pv 6)) (pg_name (i := 8) nd rfl (Or.inl rfl))
  (pss_one (ps_for PassesOwn.never rfl (pi_range1 (by rfl) B.range (pa_cons (pe_callG h_doors_of_all hr (by decide) (by rfl) (pa_cons (pv 0) (pa_cons (pv 8) pa_nil))) pa_nil)) (pg_name (i := 9) nd rfl (Or.inr rfl))
  (pss_cons (ps_asg (pe_callTy cr_tup (by rfl) B.tuple (by decide +kernel) (pa_cons (pe_lc (own := [("spot", 12)]) (by rfl) nd (pi_tup (pv 8)) (blkOk_by (N := N_way_home) (sc := defScope s_way_home) (by decide +kernel)) (fun _ _ _ _ _ => (pg_name (i := 12) nd rfl (Or.inl rfl))) (fun _ _ _ _ _ => pts_nil) (fun _ _ _ _ _ => (pe_ix ix_seq (pe_ix ix_seq (pe_ix ix_seq (pv 0) (pv 12) (fun _ _ => rfl)) (pv 9) (fun _ _ => rfl)) pe_int (fun _ _ => rfl)))) pa_nil)) (pg_name (i := 10) nd rfl (Or.inl rfl)))
  (pss_one (ps_if (pt_cmpR (op_notInDN hu) (pv 10) (pv 5) (by rfl)) (pss_cons (ps_asg (pe_op op_catA (pe_ix (ix_DN hu) (pv 5) (pv 8) (fun _ _ => rfl)) (pe_tup (pa_cons (pv 9) pa_nil))) (pg_sub (pv 5) (pv 10) (set_DN hu)))
  (pss_one (ps_expr (pe_bm PySem.F.plainAttrs_list PySem.F.slot_list_append PySem.F.type_list_append mt_append (pv 7) (pa_cons (pv 10) pa_nil))))) pss_nil))))))
  (pss_one (ps_asg (pv 7) (pg_name (i := 6) nd rfl (Or.inl rfl)))))))
  (pss_one (ps_ret (pe_ix (ix_DN hu) (pv 5) (pv 3) (fun _ _ => rfl)))))))))))
theorem ok_way_home (F : Df K mg "way_home" s_way_home) (B : Bt mg) (h_stands : Good P w K mg base "stands" 3 ["web", "story"] (S_stands P w K)) (h_doors_of_all : Good P w K mg base "doors_of_all" 1 ["web", "spots"] (S_doors_of_all P w K))
    (len : ∀ vs H Q E, S_way_home P w K vs H Q E → vs.length = 2) (rd : ∀ vs H Q E, S_way_home P w K vs H Q E → t_way_home P w K { nx := fun _ J => Q .non J, rt := Q } (start N_way_home vs) H) : Good P w K mg base "way_home" 4 ["web", "story"] (S_way_home P w K) := by
  obtain ⟨f, fd, F, hm⟩ := F
  have b := F.binds (ps := ["web", "story"]) fun _ _ _ _ _ _ us hl => match us, hl with | [_, _], _ => rfl
  refine ⟨f, fd, hm, F.kp, b, F.ok sc_way_home (fun vs H Q E h => len vs H Q E h) (fun cdv A outer s H vs Q E hr h => ?_)⟩
  exact ⟨_, d_way_home hr B h_stands h_doors_of_all, rd vs H Q E h⟩
abbrev s_Ljoined : Stmt := topS 27
abbrev N_Ljoined : List Str := ["_law_halves", "_law_at", "_law_room", "_law_door", "_law_half", "_law_web_here", "_law_doors", "_law_tie", "_law_side"]
theorem sc_Ljoined : FnScope N_Ljoined ["_law_halves"] (defScope s_Ljoined) := ⟨rfl, rfl, rfl, by decide +kernel, rfl, by decide +kernel, by decide +kernel⟩
theorem d_Ljoined {f : Addr} {cdv : Value} {A : Around} {outer : List Env} {s : Shared} {H : Hp} {E : XK} (hr : Room 0 (A.deeper (envOfC "_law_joined" (defScope s_Ljoined) s.heap.objs.size f cdv))) (B : Bt mg) :
    PSs (cxOf CX0 P w K mg base N_Ljoined "_law_joined" (defScope s_Ljoined) f cdv A outer s H E).nox (defBody s_Ljoined) (t_Ljoined P w K) := by
  have nd := sc_Ljoined.nd
  have hu := hr.units
  have hu1 := hu_of hr
  have hu65 := room65 hr
  exact (pss_cons (ps_asg pe_DNnew (pg_name (i := 1) nd rfl (Or.inr rfl)))
  (pss_cons (ps_for PassesOwn.never rfl (pi_range1 (by rfl) B.range (pa_cons (pe_callB cr_len (by rfl) B.len PySem.boot_len (pa_cons (pv 0) pa_nil)) pa_nil)) (pg_name (i := 2) nd rfl (Or.inl rfl))
  (pss_one (ps_for PassesOwn.never rfl (pi_enum (by rfl) B.enumerate (pa_cons (pe_ix ix_seq (pv 0) (pv 2) (fun _ _ => rfl)) pa_nil)) (pg_tup (by rfl) (pgs_cons (pg_name (i := 3) nd rfl (Or.inl rfl)) (pgs_cons (pg_name (i := 4) nd rfl (Or.inl rfl)) pgs_nil)))
  (pss_one (ps_asg (pe_tup (pa_cons (pv 2) (pa_cons (pv 3) pa_nil))) (pg_sub (pv 1) (pv 4) (set_DN hu)))))))
  (pss_cons (ps_asg (pe_lst pa_nil) (pg_name (i := 5) nd rfl (Or.inl rfl)))
  (pss_cons (ps_for PassesOwn.never rfl (pi_list (pv 0)) (pg_name (i := 6) nd rfl (Or.inl rfl))
  (pss_one (ps_expr (pe_bm PySem.F.plainAttrs_list PySem.F.slot_list_append PySem.F.type_list_append mt_append (pv 5) (pa_cons (pe_callTy cr_tup (by rfl) B.tuple (by decide +kernel) (pa_cons (pe_lc (own := [("_law_tie", 7), ("_law_side", 8)]) (by rfl) nd (pi_list (pv 6)) (blkOk_by (N := N_Ljoined) (sc := defScope s_Ljoined) (by decide +kernel)) (fun _ _ _ _ _ => (pg_tup (by rfl) (pgs_cons (pg_name (i := 7) nd rfl (Or.inl rfl)) (pgs_cons (pg_name (i := 8) nd rfl (Or.inl rfl)) pgs_nil)))) (fun _ _ _ _ _ => pts_nil) (fun _ _ _ _ _ => (pe_ix (ix_DN hu) (pv 1) (pe_tup (pa_cons (pv 7) (pa_cons (pe_ix ix_seq (pe_lst (pa_cons pe_int (pa_cons pe_int (pa_cons pe_int pa_nil)))) (pv 8) (fun _ _ => rfl)) pa_nil))) (fun _ _ => rfl)))) pa_nil)) pa_nil)))))
  (pss_one (ps_ret (pe_callTy cr_tup (by rfl) B.tuple (by decide +kernel) (pa_cons (pv 5) pa_nil))))))))
theorem ok_Ljoined (F : Df K mg "_law_joined" s_Ljoined) (B : Bt mg)
    (len : ∀ vs H Q E, S_Ljoined P w K vs H Q E → vs.length = 1) (rd : ∀ vs H Q E, S_Ljoined P w K vs H Q E → t_Ljoined P w K { nx := fun _ J => Q .non J, rt := Q } (start N_Ljoined vs) H) : Good P w K mg base "_law_joined" 1 ["_law_halves"] (S_Ljoined P w K) := by
  obtain ⟨f, fd, F, hm⟩ := F
  have b := F.binds (ps := ["_law_halves"]) fun _ _ _ _ _ _ us hl => match us, hl with | [_], _ => rfl
  refine ⟨f, fd, hm, F.kp, b, F.ok sc_Ljoined (fun vs H Q E h => len vs H Q E h) (fun cdv A outer s H vs Q E hr h => ?_)⟩
  exact ⟨_, d_Ljoined hr B, rd vs H Q E h⟩
abbrev s_Lturn : Stmt := topS 34
abbrev N_Lturn : List Str := ["_law_box_here", "_law_many", "_law_own", "_law_order", "_law_k", "_law_turn_here"]
theorem sc_Lturn : FnScope N_Lturn ["_law_box_here", "_law_many", "_law_own"] (defScope s_Lturn) := ⟨rfl, rfl, rfl, by decide +kernel, rfl, by decide +kernel, by decide +kernel⟩
theorem d_Lturn {f : Addr} {cdv : Value} {A : Around} {outer : List Env} {s : Shared} {H : Hp} {E : XK} (hr : Room 1 (A.deeper (envOfC "_law_turn" (defScope s_Lturn) s.heap.objs.size f cdv))) (B : Bt mg) (h_Ltake : Good P w K mg base "_law_take" 1 ["_law_box_here", "_law_many"] (S_Ltake P w K)) :
    PSs (cxOf CX0 P w K mg base N_Lturn "_law_turn" (defScope s_Lturn) f cdv A outer s H E).nox (defBody s_Lturn) (t_Lturn P w K) := by
  have nd := sc_Lturn.nd
  have hu := hr.units
  have hu1 := hu_of hr
  have hu65 := room65 hr
  exact (pss_cons (ps_asg (pe_lst pa_nil) (pg_name (i := 3) nd rfl (Or.inl rfl)))
  (pss_cons (ps_for PassesOwn.never rfl (pi_range1 (by rfl) B.range (pa_cons (pv 1) pa_nil)) (pg_name (i := 4) nd rfl (Or.inl rfl))
  (pss_one (ps_expr (pe_bm PySem.F.plainAttrs_list PySem.F.slot_list_insert PySem.F.type_list_insert mt_insert (pv 3) (pa_cons (pe_callG h_Ltake hr (by decide) (by rfl) (pa_cons (pv 0) (pa_cons (pe_op op_add (pv 4) pe_int) pa_nil))) (pa_cons (pv 4) pa_nil))))))
  (pss_cons (ps_if (pt_not (pt_val (pv 2))) (pss_one (ps_ret (pe_callTy cr_tup (by rfl) B.tuple (by decide +kernel) (pa_cons (pv 3) pa_nil)))) pss_nil)
  (pss_cons (ps_asg (pe_listRg (by rfl) (by rfl) B.list (prg_1 (by rfl) B.range (pv 1))) (pg_name (i := 5) nd rfl (Or.inl rfl)))
  (pss_cons (ps_for PassesOwn.never rfl (pi_range3 (by rfl) B.range (pa_cons pe_int (pa_cons (pe_op op_sub (pv 1) pe_int) (pa_cons pe_int pa_nil)))) (pg_name (i := 4) nd rfl (Or.inl rfl))
  (pss_cons (ps_asg (pe_ix ix_seq (pv 3) (pe_op op_add (pv 4) pe_int) (fun _ _ => rfl)) (pg_sub (pv 5) (pe_ix ix_seq (pv 3) (pv 4) (fun _ _ => rfl)) set_list))
  (pss_one (ps_asg (pe_ix ix_seq (pv 3) (pv 4) (fun _ _ => rfl)) (pg_sub (pv 5) (pe_ix ix_seq (pv 3) (pe_op op_add (pv 4) pe_int) (fun _ _ => rfl)) set_list)))))
  (pss_one (ps_ret (pe_callTy cr_tup (by rfl) B.tuple (by decide +kernel) (pa_cons (pv 5) pa_nil)))))))))
theorem ok_Lturn (F : Df K mg "_law_turn" s_Lturn) (B : Bt mg) (h_Ltake : Good P w K mg base "_law_take" 1 ["_law_box_here", "_law_many"] (S_Ltake P w K))
    (len : ∀ vs H Q E, S_Lturn P w K vs H Q E → vs.length = 3) (rd : ∀ vs H Q E, S_Lturn P w K vs H Q E → t_Lturn P w K { nx := fun _ J => Q .non J, rt := Q } (start N_Lturn vs) H) : Good P w K mg base "_law_turn" 2 ["_law_box_here", "_law_many", "_law_own"] (S_Lturn P w K) := by
  obtain ⟨f, fd, F, hm⟩ := F
  have b := F.binds (ps := ["_law_box_here", "_law_many", "_law_own"]) fun _ _ _ _ _ _ us hl => match us, hl with | [_, _, _], _ => rfl
  refine ⟨f, fd, hm, F.kp, b, F.ok sc_Lturn (fun vs H Q E h => len vs H Q E h) (fun cdv A outer s H vs Q E hr h => ?_)⟩
  exact ⟨_, d_Lturn hr B h_Ltake, rd vs H Q E h⟩
abbrev s_Lsight : Stmt := topS 41
abbrev N_Lsight : List Str := ["_law_web_here", "_law_room", "_law_way_here", "_law_found", "_law_door", "_law_came"]
theorem sc_Lsight : FnScope N_Lsight ["_law_web_here", "_law_room", "_law_way_here"] (defScope s_Lsight) := ⟨rfl, rfl, rfl, by decide +kernel, rfl, by decide +kernel, by decide +kernel⟩
theorem d_Lsight {f : Addr} {cdv : Value} {A : Around} {outer : List Env} {s : Shared} {H : Hp} {E : XK} (hr : Room 0 (A.deeper (envOfC "_law_sight" (defScope s_Lsight) s.heap.objs.size f cdv))) (B : Bt mg) :
    PSs (cxOf CX0 P w K mg base N_Lsight "_law_sight" (defScope s_Lsight) f cdv A outer s H E).nox (defBody s_Lsight) (t_Lsight P w K) := by
  have nd := sc_Lsight.nd
  have hu := hr.units
  have hu1 := hu_of hr
  have hu65 := room65 hr
  exact (pss_cons (ps_asg (pe_lst (pa_cons (pe_callB cr_len (by rfl) B.len PySem.boot_len (pa_cons (pe_ix ix_seq (pv 0) (pv 1) (fun _ _ => rfl)) pa_nil)) pa_nil)) (pg_name (i := 3) nd rfl (Or.inl rfl)))
  (pss_cons (ps_for PassesOwn.never rfl (pi_or (pi_list (pv 2)) (pi_tup (pv 2))) (pg_name (i := 4) nd rfl (Or.inl rfl))
  (pss_cons (ps_if (pt_cmpR op_ge (pv 4) (pe_callB cr_len (by rfl) B.len PySem.boot_len (pa_cons (pe_ix ix_seq (pv 0) (pv 1) (fun _ _ => rfl)) pa_nil)) (nomark _)) (pss_one (ps_ret pe_non)) pss_nil)
  (pss_cons (ps_asg (pe_ix ix_seq (pe_ix ix_seq (pv 0) (pv 1) (fun _ _ => rfl)) (pv 4) (fun _ _ => rfl)) (pg_tup (by rfl) (pgs_cons (pg_name (i := 1) nd rfl (Or.inl rfl)) (pgs_cons (pg_name (i := 5) nd rfl (Or.inl rfl)) pgs_nil))))
  (pss_one (ps_expr (pe_bm PySem.F.plainAttrs_list PySem.F.slot_list_append PySem.F.type_list_append mt_append (pv 3) (pa_cons (pe_tup (pa_cons (pv 5) (pa_cons (pe_callB cr_len (by rfl) B.len PySem.boot_len (pa_cons (pe_ix ix_seq (pv 0) (pv 1) (fun _ _ => rfl)) pa_nil)) pa_nil))) pa_nil)))))))
  (pss_one (ps_ret (pe_tup (pa_cons (pv 3) (pa_cons (pv 1) pa_nil)))))))
theorem ok_Lsight (F : Df K mg "_law_sight" s_Lsight) (B : Bt mg)
    (len : ∀ vs H Q E, S_Lsight P w K vs H Q E → vs.length = 3) (rd : ∀ vs H Q E, S_Lsight P w K vs H Q E → t_Lsight P w K { nx := fun _ J => Q .non J, rt := Q } (start N_Lsight vs) H) : Good P w K mg base "_law_sight" 1 ["_law_web_here", "_law_room", "_law_way_here"] (S_Lsight P w K) := by
  obtain ⟨f, fd, F, hm⟩ := F
  have b := F.binds (ps := ["_law_web_here", "_law_room", "_law_way_here"]) fun _ _ _ _ _ _ us hl => match us, hl with | [_, _, _], _ => rfl
  refine ⟨f, fd, hm, F.kp, b, F.ok sc_Lsight (fun vs H Q E h => len vs H Q E h) (fun cdv A outer s H vs Q E hr h => ?_)⟩
  exact ⟨_, d_Lsight hr B, rd vs H Q E h⟩
abbrev s_law : Stmt := topS 48
abbrev N_law : List Str := ["_law_script", "_law_cells", "_law_k", "_law_box_here", "_law_web_here", "_law_turn_here", "_law_room", "_law_story", "_law_order"]
theorem sc_law : FnScope N_law ["_law_script"] (defScope s_law) := ⟨rfl, rfl, rfl, by decide +kernel, rfl, by decide +kernel, by decide +kernel⟩
theorem d_law {f : Addr} {cdv : Value} {A : Around} {outer : List Env} {s : Shared} {H : Hp} {E : XK} (hr : Room 7 (A.deeper (envOfC "law" (defScope s_law) s.heap.objs.size f cdv))) (B : Bt mg) (h_Lfolded : Good P w K mg base "_law_folded" 1 ["_law_script", "_law_many"] (S_Lfolded P w K)) (h_Lbox : Good P w K mg base "_law_box" 1 ["_law_script", "_law_k"] (S_Lbox P w K)) (h_Lsmall_web : Good P w K mg base "_law_small_web" 4 ["_law_box_here", "_law_most"] (S_Lsmall_web P w K)) (h_Ltake : Good P w K mg base "_law_take" 1 ["_law_box_here", "_law_many"] (S_Ltake P w K)) (h_Lway : Good P w K mg base "_law_way" 2 ["_law_box_here", "_law_web_here", "_law_room", "_law_most"] (S_Lway P w K)) (h_story_of : Good P w K mg base "story_of" 2 ["web", "room", "way"] (S_story_of P w K)) (h_Lhome_right : Good P w K mg base "_law_home_right" 5 ["_law_web_here", "_law_story"] (S_Lhome_right P w K)) (h_Lbent : Good P w K mg base "_law_bent" 2 ["_law_box_here", "_law_story"] (S_Lbent P w K)) (h_Lturn : Good P w K mg base "_law_turn" 2 ["_law_box_here", "_law_many", "_law_own"] (S_Lturn P w K)) (h_Ltelling_right : Good P w K mg base "_law_telling_right" 7 ["_law_web_here", "_law_some"] (S_Ltelling_right P w K)) :
    PSs (cxOf CX0 P w K mg base N_law "law" (defScope s_law) f cdv A outer s H E).nox (defBody s_law) (t_law P w K) := by
  have nd := sc_law.nd
  have hu := hr.units
  have hu1 := hu_of hr
  have hu65 := room65 hr
  exact (pss_cons (ps_asg (pe_callG h_Lfolded hr (by decide) (by rfl) (pa_cons (pv 0) (pa_cons pe_int pa_nil))) (pg_name (i := 1) nd rfl (Or.inl rfl)))
  (pss_cons (ps_for PassesOwn.never rfl (pi_range1 (by rfl) B.range (pa_cons (pe_op op_add (pe_callB (cr_min2 (by rfl)) (by rfl) B.min (by decide +kernel) (pa_cons pe_int (pa_cons (pe_callB cr_len (by rfl) B.len PySem.boot_len (pa_cons (pv 0) pa_nil)) pa_nil))) pe_int) pa_nil)) (pg_name (i := 2) nd rfl (Or.inl rfl))
  (pss_cons (ps_asg (pe_callG h_Lbox hr (by decide) (by rfl) (pa_cons (pv 1) (pa_cons (pv 2) pa_nil))) (pg_name (i := 3) nd rfl (Or.inl rfl)))
  (pss_cons (ps_asg (pe_callG h_Lsmall_web hr (by decide) (by rfl) (pa_cons (pv 3) (pa_cons pe_int pa_nil))) (pg_name (i := 4) nd rfl (Or.inl rfl)))
  (pss_one (ps_for PassesOwn.never rfl (pi_range1 (by rfl) B.range (pa_cons pe_int pa_nil)) (pg_name (i := 5) nd rfl (Or.inl rfl))
  (pss_cons (ps_asg (pe_callG h_Ltake hr (by decide) (by rfl) (pa_cons (pv 3) (pa_cons (pe_callB cr_len (by rfl) B.len PySem.boot_len (pa_cons (pv 4) pa_nil)) pa_nil))) (pg_name (i := 6) nd rfl (Or.inl rfl)))
  (pss_cons (ps_asg (pe_callG h_story_of hr (by decide) (by rfl) (pa_cons (pv 4) (pa_cons (pv 6) (pa_cons (pe_callG h_Lway hr (by decide) (by rfl) (pa_cons (pv 3) (pa_cons (pv 4) (pa_cons (pv 6) (pa_cons pe_int pa_nil))))) pa_nil)))) (pg_name (i := 7) nd rfl (Or.inl rfl)))
  (pss_cons (ps_if (PW.pt (pw_or (pt_not (pt_val (pe_callG h_Lhome_right hr (by decide) (by rfl) (pa_cons (pv 4) (pa_cons (pv 7) pa_nil))))) (pw_or1 (pt_not (pt_val (pe_callG h_Lhome_right hr (by decide) (by rfl) (pa_cons (pv 4) (pa_cons (pe_callG h_Lbent hr (by decide) (by rfl) (pa_cons (pv 3) (pa_cons (pv 7) pa_nil))) pa_nil)))))))) (pss_one (ps_ret pe_bl)) pss_nil)
  (pss_cons (ps_asg (pe_callTy cr_list (by rfl) B.list (by decide +kernel) (pa_cons (pe_callG h_Lturn hr (by decide) (by rfl) (pa_cons (pv 3) (pa_cons (pe_callB cr_len (by rfl) B.len PySem.boot_len (pa_cons (pv 4) pa_nil)) (pa_cons pe_bl pa_nil)))) pa_nil)) (pg_name (i := 8) nd rfl (Or.inl rfl)))
  (pss_one (ps_if (pt_not (pt_val (pe_callG h_Ltelling_right hr (by decide) (by rfl) (pa_cons (pv 4) (pa_cons (pe_slice sl_list (pv 8) po_none (po_some (pe_callG h_Ltake hr (by decide) (by rfl) (pa_cons (pv 3) (pa_cons (pe_ix ix_seq (pe_lst (pa_cons pe_int (pa_cons pe_int pa_nil))) (pe_callTy cr_int (by rfl) B.int (by decide +kernel) (pa_cons (pe_cmpR op_gt (pe_callB cr_len (by rfl) B.len PySem.boot_len (pa_cons (pv 4) pa_nil)) pe_int (nomark _)) pa_nil)) (fun _ _ => rfl)) pa_nil))))) pa_nil))))) (pss_one (ps_ret pe_bl)) pss_nil)))))))))))
  (pss_one (ps_ret pe_bl))))
theorem ok_law (F : Df K mg "law" s_law) (B : Bt mg) (h_Lfolded : Good P w K mg base "_law_folded" 1 ["_law_script", "_law_many"] (S_Lfolded P w K)) (h_Lbox : Good P w K mg base "_law_box" 1 ["_law_script", "_law_k"] (S_Lbox P w K)) (h_Lsmall_web : Good P w K mg base "_law_small_web" 4 ["_law_box_here", "_law_most"] (S_Lsmall_web P w K)) (h_Ltake : Good P w K mg base "_law_take" 1 ["_law_box_here", "_law_many"] (S_Ltake P w K)) (h_Lway : Good P w K mg base "_law_way" 2 ["_law_box_here", "_law_web_here", "_law_room", "_law_most"] (S_Lway P w K)) (h_story_of : Good P w K mg base "story_of" 2 ["web", "room", "way"] (S_story_of P w K)) (h_Lhome_right : Good P w K mg base "_law_home_right" 5 ["_law_web_here", "_law_story"] (S_Lhome_right P w K)) (h_Lbent : Good P w K mg base "_law_bent" 2 ["_law_box_here", "_law_story"] (S_Lbent P w K)) (h_Lturn : Good P w K mg base "_law_turn" 2 ["_law_box_here", "_law_many", "_law_own"] (S_Lturn P w K)) (h_Ltelling_right : Good P w K mg base "_law_telling_right" 7 ["_law_web_here", "_law_some"] (S_Ltelling_right P w K))
    (len : ∀ vs H Q E, S_law P w K vs H Q E → vs.length = 1) (rd : ∀ vs H Q E, S_law P w K vs H Q E → t_law P w K { nx := fun _ J => Q .non J, rt := Q } (start N_law vs) H) : Good P w K mg base "law" 8 ["_law_script"] (S_law P w K) := by
  obtain ⟨f, fd, F, hm⟩ := F
  have b := F.binds (ps := ["_law_script"]) fun _ _ _ _ _ _ us hl => match us, hl with | [_], _ => rfl
  refine ⟨f, fd, hm, F.kp, b, F.ok sc_law (fun vs H Q E h => len vs H Q E h) (fun cdv A outer s H vs Q E hr h => ?_)⟩
  exact ⟨_, d_law hr B h_Lfolded h_Lbox h_Lsmall_web h_Ltake h_Lway h_story_of h_Lhome_right h_Lbent h_Lturn h_Ltelling_right, rd vs H Q E h⟩
end
end Wk
/-! WXs1 -/
namespace Wk
set_option maxHeartbeats 4000000
open PySem PySem.Spec PyProof.Rows L2 Evl
section
variable {P : Program} {w : World} {K : PySem.W.Frag} {mg : Str → Option Value} {base : Heap}
abbrev s_finer_looks : Stmt := topS 2
abbrev N_finer_looks : List Str := ["web", "numbers", "found", "room", "ends", "other", "door"]
theorem sc_finer_looks : FnScope N_finer_looks ["web", "numbers"] (defScope s_finer_looks) := ⟨rfl, rfl, rfl, by decide +kernel, rfl, by decide +kernel, by decide +kernel⟩
theorem d_finer_looks {f : Addr} {cdv : Value} {A : Around} {outer : List Env} {s : Shared} {H : Hp} {E : XK} (hr : Room 0 (A.deeper (envOfC "finer_looks" (defScope s_finer_looks) s.heap.objs.size f cdv))) (B : Bt mg) :
    PSs (cxOf CX0 P w K mg base N_finer_looks "finer_looks" (defScope s_finer_looks) f cdv A outer s H E).nox (defBody s_finer_looks) (t_finer_looks P w K) := by
  have nd := sc_finer_looks.nd
  have hu := hr.units
  have hu1 := hu_of hr
  have hu65 := room65 hr
  exact (pss_cons (ps_asg (pe_lst pa_nil) (pg_name (i := 2) nd rfl (Or.inl rfl)))
  (pss_cons (ps_for PassesOwn.never rfl (pi_enumT (by rfl) B.enumerate (pa_cons (pv 0) pa_nil)) (pg_tup (by rfl) (pgs_cons (pg_name (i := 3) nd rfl (Or.inl rfl)) (pgs_cons (pg_name (i := 4) nd rfl (Or.inl rfl)) pgs_nil)))
  (pss_one (ps_expr (pe_bm PySem.F.plainAttrs_list PySem.F.slot_list_append PySem.F.type_list_append mt_append (pv 2) (pa_cons (pe_tup (pa_cons (pe_ix ix_seq (pv 1) (pv 3) (fun _ _ => rfl)) (pa_cons (pe_callTy cr_tup (by rfl) B.tuple (by decide +kernel) (pa_cons (pe_lc (own := [("other", 5), ("door", 6)]) (by rfl) nd (pi_tup (pv 4)) (blkOk_by (N := N_finer_looks) (sc := defScope s_finer_looks) (by decide +kernel)) (fun _ _ _ _ _ => (pg_tup (by rfl) (pgs_cons (pg_name (i := 5) nd rfl (Or.inl rfl)) (pgs_cons (pg_name (i := 6) nd rfl (Or.inl rfl)) pgs_nil)))) (fun _ _ _ _ _ => pts_nil) (fun _ _ _ _ _ => (pe_tup (pa_cons (pv 6) (pa_cons (pe_ix ix_seq (pv 1) (pv 5) (fun _ _ => rfl)) pa_nil))))) pa_nil)) pa_nil))) pa_nil)))))
  (pss_one (ps_ret (pv 2)))))
theorem ok_finer_looks (F : Df K mg "finer_looks" s_finer_looks) (B : Bt mg)
    (len : ∀ vs H Q E, S_finer_looks P w K vs H Q E → vs.length = 2) (rd : ∀ vs H Q E, S_finer_looks P w K vs H Q E → t_finer_looks P w K { nx := fun _ J => Q .non J, rt := Q } (start N_finer_looks vs) H) : Good P w K mg base "finer_looks" 1 ["web", "numbers"] (S_finer_looks P w K) := by
  obtain ⟨f, fd, F, hm⟩ := F
  have b := F.binds (ps := ["web", "numbers"]) fun _ _ _ _ _ _ us hl => match us, hl with | [_, _], _ => rfl
  refine ⟨f, fd, hm, F.kp, b, F.ok sc_finer_looks (fun vs H Q E h => len vs H Q E h) (fun cdv A outer s H vs Q E hr h => ?_)⟩
  exact ⟨_, d_finer_looks hr B, rd vs H Q E h⟩
abbrev s_story_of : Stmt := topS 12
abbrev N_story_of : List Str := ["web", "room", "way", "told", "door", "step"]
theorem sc_story_of : FnScope N_story_of ["web", "room", "way"] (defScope s_story_of) := ⟨rfl, rfl, rfl, by decide +kernel, rfl, by decide +kernel, by decide +kernel⟩
theorem d_story_of {f : Addr} {cdv : Value} {A : Around} {outer : List Env} {s : Shared} {H : Hp} {E : XK} (hr : Room 1 (A.deeper (envOfC "story_of" (defScope s_story_of) s.heap.objs.size f cdv))) (B : Bt mg) (h_seen : Good P w K mg base "seen" 1 ["web", "room", "way"] (S_seen P w K)) :
    PSs (cxOf CX0 P w K mg base N_story_of "story_of" (defScope s_story_of) f cdv A outer s H E).nox (defBody s_story_of) (t_story_of P w K) := by
  have nd := sc_story_of.nd
  have hu := hr.units
  have hu1 := hu_of hr
  have hu65 := room65 hr
  exact (pss_cons (ps_asg (pe_callG h_seen hr (by decide) (by rfl) (pa_cons (pv 0) (pa_cons (pv 1) (pa_cons (pv 2) pa_nil)))) (pg_name (i := 3) nd rfl (Or.inl rfl)))
  (pss_one (ps_ret (pe_tup (pa_cons (pe_ix ix_seq (pv 3) pe_int (fun _ _ => rfl)) (pa_cons (pe_callTy cr_tup (by rfl) B.tuple (by decide +kernel) (pa_cons (pe_lc (own := [("door", 4), ("step", 5)]) (by rfl) nd (RZ.pi_zipA (by rfl) B.zip (pa_cons (pv 2) (pa_cons (pe_slice sl_tupA (pv 3) (po_some pe_int) po_none) pa_nil))) (blkOk_by (N := N_story_of) (sc := defScope s_story_of) (by decide +kernel)) (fun _ _ _ _ _ => (pg_tup (by rfl) (pgs_cons (pg_name (i := 4) nd rfl (Or.inl rfl)) (pgs_cons (pg_name (i := 5) nd rfl (Or.inl rfl)) pgs_nil)))) (fun _ _ _ _ _ => pts_nil) (fun _ _ _ _ _ => (pe_op op_catA (pe_tup (pa_cons (pv 4) pa_nil)) (pv 5)))) pa_nil)) pa_nil))))))
theorem ok_story_of (F : Df K mg "story_of" s_story_of) (B : Bt mg) (h_seen : Good P w K mg base "seen" 1 ["web", "room", "way"] (S_seen P w K))
    (len : ∀ vs H Q E, S_story_of P w K vs H Q E → vs.length = 3) (rd : ∀ vs H Q E, S_story_of P w K vs H Q E → t_story_of P w K { nx := fun _ J => Q .non J, rt := Q } (start N_story_of vs) H) : Good P w K mg base "story_of" 2 ["web", "room", "way"] (S_story_of P w K) := by
  obtain ⟨f, fd, F, hm⟩ := F
  have b := F.binds (ps := ["web", "room", "way"]) fun _ _ _ _ _ _ us hl => match us, hl with | [_, _, _], _ => rfl
  refine ⟨f, fd, hm, F.kp, b, F.ok sc_story_of (fun vs H Q E h => len vs H Q E h) (fun cdv A outer s H vs Q E hr h => ?_)⟩
  exact ⟨_, d_story_of hr B h_seen, rd vs H Q E h⟩
abbrev s_parted_groups : Stmt := topS 20
abbrev N_parted_groups : List Str := ["sights", "sight"]
theorem sc_parted_groups : FnScope N_parted_groups ["sights"] (defScope s_parted_groups) := ⟨rfl, rfl, rfl, by decide +kernel, rfl, by decide +kernel, by decide +kernel⟩
theorem d_parted_groups {f : Addr} {cdv : Value} {A : Around} {outer : List Env} {s : Shared} {H : Hp} {E : XK} (hr : Room 0 (A.deeper (envOfC "parted_groups" (defScope s_parted_groups) s.heap.objs.size f cdv))) (B : Bt mg) :
    PSs (cxOf CX0 P w K mg base N_parted_groups "parted_groups" (defScope s_parted_groups) f cdv A outer s H E).nox (defBody s_parted_groups) (t_parted_groups P w K) := by
  have nd := sc_parted_groups.nd
  have hu := hr.units
  have hu1 := hu_of hr
  have hu65 := room65 hr
  exact (pss_one (ps_ret (pe_callTy cr_tup (by rfl) B.tuple (by decide +kernel) (pa_cons (pe_lc (own := [("sight", 1)]) (by rfl) nd (pi_list (pv 0)) (blkOk_by (N := N_parted_groups) (sc := defScope s_parted_groups) (by decide +kernel)) (fun _ _ _ _ _ => (pg_name (i := 1) nd rfl (Or.inl rfl))) (fun _ _ _ _ _ => pts_nil) (fun _ _ _ _ _ => (pe_bm PySem.F.plainAttrs_list PySem.F.slot_list_index PySem.F.type_list_index (mt_indexD hu65) (pv 0) (pa_cons (pv 1) pa_nil)))) pa_nil))))
theorem ok_parted_groups (F : Df K mg "parted_groups" s_parted_groups) (B : Bt mg)
    (len : ∀ vs H Q E, S_parted_groups P w K vs H Q E → vs.length = 1) (rd : ∀ vs H Q E, S_parted_groups P w K vs H Q E → t_parted_groups P w K { nx := fun _ J => Q .non J, rt := Q } (start N_parted_groups vs) H) : Good P w K mg base "parted_groups" 1 ["sights"] (S_parted_groups P w K) := by
  obtain ⟨f, fd, F, hm⟩ := F
  have b := F.binds (ps := ["sights"]) fun _ _ _ _ _ _ us hl => match us, hl with | [_], _ => rfl
  refine ⟨f, fd, hm, F.kp, b, F.ok sc_parted_groups (fun vs H Q E h => len vs H Q E h) (fun cdv A outer s H vs Q E hr h => ?_)⟩
  exact ⟨_, d_parted_groups hr B, rd vs H Q E h⟩
abbrev s_Ldoors_put : Stmt := topS 28
abbrev N_Ldoors_put : List Str := ["_law_box_here", "_law_pairs", "_law_many", "_law_halves", "_law_tie", "_law_one", "_law_other", "_law_sides", "_law_room", "_law_side"]
theorem sc_Ldoors_put : FnScope N_Ldoors_put ["_law_box_here", "_law_pairs", "_law_many"] (defScope s_Ldoors_put) := ⟨rfl, rfl, rfl, by decide +kernel, rfl, by decide +kernel, by decide +kernel⟩
theorem d_Ldoors_put {f : Addr} {cdv : Value} {A : Around} {outer : List Env} {s : Shared} {H : Hp} {E : XK} (hr : Room 1 (A.deeper (envOfC "_law_doors_put" (defScope s_Ldoors_put) s.heap.objs.size f cdv))) (B : Bt mg) (h_Ltake : Good P w K mg base "_law_take" 1 ["_law_box_here", "_law_many"] (S_Ltake P w K)) (h_Ljoined : Good P w K mg base "_law_joined" 1 ["_law_halves"] (S_Ljoined P w K)) :
    PSs (cxOf CX0 P w K mg base N_Ldoors_put "_law_doors_put" (defScope s_Ldoors_put) f cdv A outer s H E).nox (defBody s_Ldoors_put) (t_Ldoors_put P w K) := by
  have nd := sc_Ldoors_put.nd
  have hu := hr.units
  have hu1 := hu_of hr
  have hu65 := room65 hr
  exact (pss_cons (ps_setLc (i := 3) (own := [("_law_room", 8)]) (by rfl) nd rfl rfl (sw_true rfl rfl rfl (by decide +kernel)) (pi_range1 (by rfl) B.range (pa_cons (pv 2) pa_nil)) (blkOk_by (N := N_Ldoors_put) (sc := defScope s_Ldoors_put) (by decide +kernel)) (fun _ _ _ _ _ => (pg_name (i := 8) nd rfl (Or.inl rfl))) (fun _ _ _ _ _ => pts_nil) (fun _ _ _ _ _ => (pe_lst pa_nil)))
  (pss_cons (ps_for PassesOwn.never rfl (pi_enum (by rfl) B.enumerate (pa_cons (pv 1) pa_nil)) (pg_tup (by rfl) (pgs_cons (pg_name (i := 4) nd rfl (Or.inl rfl)) (pgs_cons (pg_tup (by rfl) (pgs_cons (pg_name (i := 5) nd rfl (Or.inl rfl)) (pgs_cons (pg_name (i := 6) nd rfl (Or.inl rfl)) pgs_nil))) pgs_nil)))
  (pss_cons (ps_asg (pe_ifExp (pt_cmpR (op_eqD hu) (pv 6) (pv 2) (nomark _)) (pe_lst (pa_cons (pe_tup (pa_cons (pv 5) (pa_cons pe_int pa_nil))) pa_nil)) (pe_lst (pa_cons (pe_tup (pa_cons (pv 5) (pa_cons pe_int pa_nil))) (pa_cons (pe_tup (pa_cons (pv 6) (pa_cons pe_int pa_nil))) pa_nil)))) (pg_name (i := 7) nd rfl (Or.inl rfl)))
  (pss_one (ps_for PassesOwn.never rfl (pi_list (pv 7)) (pg_tup (by rfl) (pgs_cons (pg_name (i := 8) nd rfl (Or.inl rfl)) (pgs_cons (pg_name (i := 9) nd rfl (Or.inl rfl)) pgs_nil)))
  (pss_one (ps_expr (pe_bm PySem.F.plainAttrs_list PySem.F.slot_list_insert PySem.F.type_list_insert mt_insert (pe_ix ix_seq (pv 3) (pv 8) (fun _ _ => rfl)) (pa_cons (pe_callG h_Ltake hr (by decide) (by rfl) (pa_cons (pv 0) (pa_cons (pe_op op_add (pe_callB cr_len (by rfl) B.len PySem.boot_len (pa_cons (pe_ix ix_seq (pv 3) (pv 8) (fun _ _ => rfl)) pa_nil)) pe_int) pa_nil))) (pa_cons (pe_tup (pa_cons (pv 4) (pa_cons (pv 9) pa_nil))) pa_nil)))))))))
  (pss_one (ps_ret (pe_callG h_Ljoined hr (by decide) (by rfl) (pa_cons (pv 3) pa_nil))))))
theorem ok_Ldoors_put (F : Df K mg "_law_doors_put" s_Ldoors_put) (B : Bt mg) (h_Ltake : Good P w K mg base "_law_take" 1 ["_law_box_here", "_law_many"] (S_Ltake P w K)) (h_Ljoined : Good P w K mg base "_law_joined" 1 ["_law_halves"] (S_Ljoined P w K))
    (len : ∀ vs H Q E, S_Ldoors_put P w K vs H Q E → vs.length = 3) (rd : ∀ vs H Q E, S_Ldoors_put P w K vs H Q E → t_Ldoors_put P w K { nx := fun _ J => Q .non J, rt := Q } (start N_Ldoors_put vs) H) : Good P w K mg base "_law_doors_put" 2 ["_law_box_here", "_law_pairs", "_law_many"] (S_Ldoors_put P w K) := by
  obtain ⟨f, fd, F, hm⟩ := F
  have b := F.binds (ps := ["_law_box_here", "_law_pairs", "_law_many"]) fun _ _ _ _ _ _ us hl => match us, hl with | [_, _, _], _ => rfl
  refine ⟨f, fd, hm, F.kp, b, F.ok sc_Ldoors_put (fun vs H Q E h => len vs H Q E h) (fun cdv A outer s H vs Q E hr h => ?_)⟩
  exact ⟨_, d_Ldoors_put hr B h_Ltake h_Ljoined, rd vs H Q E h⟩
abbrev s_Lcovered : Stmt := topS 35
abbrev N_Lcovered : List Str := ["_law_box_here", "_law_web_here", "_law_many", "_law_turn_here", "_law_turns", "_law_one", "_law_other", "_law_made"]
theorem sc_Lcovered : FnScope N_Lcovered ["_law_box_here", "_law_web_here", "_law_many"] (defScope s_Lcovered) := ⟨rfl, rfl, rfl, by decide +kernel, rfl, by decide +kernel, by decide +kernel⟩
theorem d_Lcovered {f : Addr} {cdv : Value} {A : Around} {outer : List Env} {s : Shared} {H : Hp} {E : XK} (hr : Room 2 (A.deeper (envOfC "_law_covered" (defScope s_Lcovered) s.heap.objs.size f cdv))) (B : Bt mg) (h_Lends : Good P w K mg base "_law_ends" 1 ["_law_web_here"] (S_Lends P w K)) (h_Lturn : Good P w K mg base "_law_turn" 2 ["_law_box_here", "_law_many", "_law_own"] (S_Lturn P w K)) (h_Lsheeted : Good P w K mg base "_law_sheeted" 2 ["_law_web_here", "_law_turns", "_law_many"] (S_Lsheeted P w K)) (h_Lreached : Good P w K mg base "_law_reached" 1 ["_law_web_here", "_law_room"] (S_Lreached P w K)) :
    PSs (cxOf CX0 P w K mg base N_Lcovered "_law_covered" (defScope s_Lcovered) f cdv A outer s H E).nox (defBody s_Lcovered) (t_Lcovered P w K) := by
  have nd := sc_Lcovered.nd
  have hu := hr.units
  have hu1 := hu_of hr
  have hu65 := room65 hr
  exact (pss_cons (ps_for PassesOwn.never rfl (pi_range1 (by rfl) B.range (pa_cons pe_int pa_nil)) (pg_name (i := 3) nd rfl (Or.inl rfl))
  (pss_cons (ps_asg (pe_lst pa_nil) (pg_name (i := 4) nd rfl (Or.inl rfl)))
  (pss_cons (ps_for PassesOwn.never rfl (pi_list (pe_callG h_Lends hr (by decide) (by rfl) (pa_cons (pv 1) pa_nil))) (pg_tup (by rfl) (pgs_cons (pg_name (i := 5) nd rfl (Or.inl rfl)) (pgs_cons (pg_name (i := 6) nd rfl (Or.inl rfl)) pgs_nil)))
  (pss_one (ps_expr (pe_bm PySem.F.plainAttrs_list PySem.F.slot_list_append PySem.F.type_list_append mt_append (pv 4) (pa_cons (pe_callG h_Lturn hr (by decide) (by rfl) (pa_cons (pv 0) (pa_cons (pv 2) (pa_cons (pe_cmpR (op_eqD hu) (pv 5) (pv 6) (nomark _)) pa_nil)))) pa_nil)))))
  (pss_cons (ps_asg (pe_callG h_Lsheeted hr (by decide) (by rfl) (pa_cons (pv 1) (pa_cons (pv 4) (pa_cons (pv 2) pa_nil)))) (pg_name (i := 7) nd rfl (Or.inl rfl)))
  (pss_one (ps_if (pt_cmpR (op_eqD hu) (pe_callB cr_len (by rfl) B.len PySem.boot_len (pa_cons (pe_callG h_Lreached hr (by decide) (by rfl) (pa_cons (pv 7) (pa_cons pe_int pa_nil))) pa_nil)) (pe_callB cr_len (by rfl) B.len PySem.boot_len (pa_cons (pv 7) pa_nil)) (nomark _)) (pss_one (ps_ret (pv 7))) pss_nil))))))
  (pss_one (ps_ret (pv 1))))
theorem ok_Lcovered (F : Df K mg "_law_covered" s_Lcovered) (B : Bt mg) (h_Lends : Good P w K mg base "_law_ends" 1 ["_law_web_here"] (S_Lends P w K)) (h_Lturn : Good P w K mg base "_law_turn" 2 ["_law_box_here", "_law_many", "_law_own"] (S_Lturn P w K)) (h_Lsheeted : Good P w K mg base "_law_sheeted" 2 ["_law_web_here", "_law_turns", "_law_many"] (S_Lsheeted P w K)) (h_Lreached : Good P w K mg base "_law_reached" 1 ["_law_web_here", "_law_room"] (S_Lreached P w K))
    (len : ∀ vs H Q E, S_Lcovered P w K vs H Q E → vs.length = 3) (rd : ∀ vs H Q E, S_Lcovered P w K vs H Q E → t_Lcovered P w K { nx := fun _ J => Q .non J, rt := Q } (start N_Lcovered vs) H) : Good P w K mg base "_law_covered" 3 ["_law_box_here", "_law_web_here", "_law_many"] (S_Lcovered P w K) := by
  obtain ⟨f, fd, F, hm⟩ := F
  have b := F.binds (ps := ["_law_box_here", "_law_web_here", "_law_many"]) fun _ _ _ _ _ _ us hl => match us, hl with | [_, _, _], _ => rfl
  refine ⟨f, fd, hm, F.kp, b, F.ok sc_Lcovered (fun vs H Q E h => len vs H Q E h) (fun cdv A outer s H vs Q E hr h => ?_)⟩
  exact ⟨_, d_Lcovered hr B h_Lends h_Lturn h_Lsheeted h_Lreached, rd vs H Q E h⟩
abbrev s_Lfitting : Stmt := topS 42
abbrev N_Lfitting : List Str := ["_law_web_here", "_law_story", "_law_way_here", "_law_due", "_law_found", "_law_room", "_law_told", "_law_step"]
theorem sc_Lfitting : FnScope N_Lfitting ["_law_web_here", "_law_story"] (defScope s_Lfitting) := ⟨rfl, rfl, rfl, by decide +kernel, rfl, by decide +kernel, by decide +kernel⟩
theorem d_Lfitting {f : Addr} {cdv : Value} {A : Around} {outer : List Env} {s : Shared} {H : Hp} {E : XK} (hr : Room 1 (A.deeper (envOfC "_law_fitting" (defScope s_Lfitting) s.heap.objs.size f cdv))) (B : Bt mg) (h_Lsight : Good P w K mg base "_law_sight" 1 ["_law_web_here", "_law_room", "_law_way_here"] (S_Lsight P w K)) :
    PSs (cxOf CX0 P w K mg base N_Lfitting "_law_fitting" (defScope s_Lfitting) f cdv A outer s H E).nox (defBody s_Lfitting) (t_Lfitting P w K) := by
  have nd := sc_Lfitting.nd
  have hu := hr.units
  have hu1 := hu_of hr
  have hu65 := room65 hr
  exact (pss_cons (ps_setLc (i := 2) (own := [("_law_step", 7)]) (by rfl) nd rfl rfl (sw_true rfl rfl rfl (by decide +kernel)) (pi_tup (pe_ix ix_seq (pv 1) pe_int (fun _ _ => rfl))) (blkOk_by (N := N_Lfitting) (sc := defScope s_Lfitting) (by decide +kernel)) (fun _ _ _ _ _ => (pg_name (i := 7) nd rfl (Or.inl rfl))) (fun _ _ _ _ _ => pts_nil) (fun _ _ _ _ _ => (pe_ix ix_seq (pv 7) pe_int (fun _ _ => rfl))))
  (pss_cons (ps_asg (pe_op op_cat (pe_lst (pa_cons (pe_ix ix_seq (pv 1) pe_int (fun _ _ => rfl)) pa_nil)) (pe_lc (own := [("_law_step", 7)]) (by rfl) nd (pi_tup (pe_ix ix_seq (pv 1) pe_int (fun _ _ => rfl))) (blkOk_by (N := N_Lfitting) (sc := defScope s_Lfitting) (by decide +kernel)) (fun _ _ _ _ _ => (pg_name (i := 7) nd rfl (Or.inl rfl))) (fun _ _ _ _ _ => pts_nil) (fun _ _ _ _ _ => (pe_callTy cr_tup (by rfl) B.tuple (by decide +kernel) (pa_cons (pe_slice sl_tupA (pv 7) (po_some pe_int) po_none) pa_nil))))) (pg_name (i := 3) nd rfl (Or.inl rfl)))
  (pss_cons (ps_asg (pe_lst pa_nil) (pg_name (i := 4) nd rfl (Or.inl rfl)))
  (pss_cons (ps_for PassesOwn.never rfl (pi_range1 (by rfl) B.range (pa_cons (pe_callB cr_len (by rfl) B.len PySem.boot_len (pa_cons (pv 0) pa_nil)) pa_nil)) (pg_name (i := 5) nd rfl (Or.inl rfl))
  (pss_cons (ps_asg (pe_callG h_Lsight hr (by decide) (by rfl) (pa_cons (pv 0) (pa_cons (pv 5) (pa_cons (pv 2) pa_nil)))) (pg_name (i := 6) nd rfl (Or.inl rfl)))
  (pss_one (ps_if (PW.pt (pw_and (pt_cmpR op_notN (pv 6) pe_non (nomark _)) (pw_and1 (pt_cmpR (op_eqD hu) (pe_ix ix_seq (pv 6) pe_int (fun _ _ => rfl)) (pv 3) (nomark _))))) (pss_one (ps_expr (pe_bm PySem.F.plainAttrs_list PySem.F.slot_list_append PySem.F.type_list_append mt_append (pv 4) (pa_cons (pe_tup (pa_cons (pv 5) (pa_cons (pe_ix ix_seq (pv 6) pe_int (fun _ _ => rfl)) pa_nil))) pa_nil)))) pss_nil))))
  (pss_one (ps_ret (pv 4)))))))
theorem ok_Lfitting (F : Df K mg "_law_fitting" s_Lfitting) (B : Bt mg) (h_Lsight : Good P w K mg base "_law_sight" 1 ["_law_web_here", "_law_room", "_law_way_here"] (S_Lsight P w K))
    (len : ∀ vs H Q E, S_Lfitting P w K vs H Q E → vs.length = 2) (rd : ∀ vs H Q E, S_Lfitting P w K vs H Q E → t_Lfitting P w K { nx := fun _ J => Q .non J, rt := Q } (start N_Lfitting vs) H) : Good P w K mg base "_law_fitting" 2 ["_law_web_here", "_law_story"] (S_Lfitting P w K) := by
  obtain ⟨f, fd, F, hm⟩ := F
  have b := F.binds (ps := ["_law_web_here", "_law_story"]) fun _ _ _ _ _ _ us hl => match us, hl with | [_, _], _ => rfl
  refine ⟨f, fd, hm, F.kp, b, F.ok sc_Lfitting (fun vs H Q E h => len vs H Q E h) (fun cdv A outer s H vs Q E hr h => ?_)⟩
  exact ⟨_, d_Lfitting hr B h_Lsight, rd vs H Q E h⟩
end
end Wk
/-! WXs2 -/
namespace Wk
set_option maxHeartbeats 4000000
open PySem PySem.Spec PyProof.Rows L2 Evl
section
variable {P : Program} {w : World} {K : PySem.W.Frag} {mg : Str → Option Value} {base : Heap}
abbrev s_alike_by : Stmt := topS 3
abbrev N_alike_by : List Str := ["web", "many", "numbers", "turn", "finer", "ends"]
theorem sc_alike_by : FnScope N_alike_by ["web", "many"] (defScope s_alike_by) := ⟨rfl, rfl, rfl, by decide +kernel, rfl, by decide +kernel, by decide +kernel⟩
theorem d_alike_by {f : Addr} {cdv : Value} {A : Around} {outer : List Env} {s : Shared} {H : Hp} {E : XK} (hr : Room 1 (A.deeper (envOfC "alike_by" (defScope s_alike_by) s.heap.objs.size f cdv))) (B : Bt mg) (h_numbered_looks : Good P w K mg base "numbered_looks" 1 ["looks"] (S_numbered_looks P w K)) (h_finer_looks : Good P w K mg base "finer_looks" 1 ["web", "numbers"] (S_finer_looks P w K)) :
    PSs (cxOf CX0 P w K mg base N_alike_by "alike_by" (defScope s_alike_by) f cdv A outer s H E).nox (defBody s_alike_by) (t_alike_by P w K) := by
  have nd := sc_alike_by.nd
  have hu := hr.units
  have hu1 := hu_of hr
  have hu65 := room65 hr
  exact (pss_cons (ps_asg (pe_callG h_numbered_looks hr (by decide) (by rfl) (pa_cons (pe_lc (own := [("ends", 5)]) (by rfl) nd (pi_tup (pv 0)) (blkOk_by (N := N_alike_by) (sc := defScope s_alike_by) (by decide +kernel)) (fun _ _ _ _ _ => (pg_name (i := 5) nd rfl (Or.inl rfl))) (fun _ _ _ _ _ => pts_nil) (fun _ _ _ _ _ => (pe_callB cr_len (by rfl) B.len PySem.boot_len (pa_cons (pv 5) pa_nil)))) pa_nil)) (pg_name (i := 2) nd rfl (Or.inl rfl)))
  (pss_cons (ps_for PassesOwn.never rfl (pi_range1 (by rfl) B.range (pa_cons (pv 1) pa_nil)) (pg_name (i := 3) nd rfl (Or.inl rfl))
  (pss_cons (ps_asg (pe_callG h_numbered_looks hr (by decide) (by rfl) (pa_cons (pe_callG h_finer_looks hr (by decide) (by rfl) (pa_cons (pv 0) (pa_cons (pv 2) pa_nil))) pa_nil)) (pg_name (i := 4) nd rfl (Or.inl rfl)))
  (pss_cons (ps_if (pt_cmpR (op_eqD hu) (pv 4) (pv 2) (nomark _)) (pss_one (ps_ret (pv 2))) pss_nil)
  (pss_one (ps_asg (pv 4) (pg_name (i := 2) nd rfl (Or.inl rfl)))))))
  (pss_one (ps_ret (pv 2)))))
theorem ok_alike_by (F : Df K mg "alike_by" s_alike_by) (B : Bt mg) (h_numbered_looks : Good P w K mg base "numbered_looks" 1 ["looks"] (S_numbered_looks P w K)) (h_finer_looks : Good P w K mg base "finer_looks" 1 ["web", "numbers"] (S_finer_looks P w K))
    (len : ∀ vs H Q E, S_alike_by P w K vs H Q E → vs.length = 2) (rd : ∀ vs H Q E, S_alike_by P w K vs H Q E → t_alike_by P w K { nx := fun _ J => Q .non J, rt := Q } (start N_alike_by vs) H) : Good P w K mg base "alike_by" 2 ["web", "many"] (S_alike_by P w K) := by
  obtain ⟨f, fd, F, hm⟩ := F
  have b := F.binds (ps := ["web", "many"]) fun _ _ _ _ _ _ us hl => match us, hl with | [_, _], _ => rfl
  refine ⟨f, fd, hm, F.kp, b, F.ok sc_alike_by (fun vs H Q E h => len vs H Q E h) (fun cdv A outer s H vs Q E hr h => ?_)⟩
  exact ⟨_, d_alike_by hr B h_numbered_looks h_finer_looks, rd vs H Q E h⟩
abbrev s_story_way : Stmt := topS 13
abbrev N_story_way : List Str := ["story", "step"]
theorem sc_story_way : FnScope N_story_way ["story"] (defScope s_story_way) := ⟨rfl, rfl, rfl, by decide +kernel, rfl, by decide +kernel, by decide +kernel⟩
theorem d_story_way {f : Addr} {cdv : Value} {A : Around} {outer : List Env} {s : Shared} {H : Hp} {E : XK} (hr : Room 0 (A.deeper (envOfC "story_way" (defScope s_story_way) s.heap.objs.size f cdv))) (B : Bt mg) :
    PSs (cxOf CX0 P w K mg base N_story_way "story_way" (defScope s_story_way) f cdv A outer s H E).nox (defBody s_story_way) (t_story_way P w K) := by
  have nd := sc_story_way.nd
  have hu := hr.units
  have hu1 := hu_of hr
  have hu65 := room65 hr
  exact (pss_one (ps_ret (pe_callTy cr_tup (by rfl) B.tuple (by decide +kernel) (pa_cons (pe_lc (own := [("step", 1)]) (by rfl) nd (pi_tup (pe_ix ix_seq (pv 0) pe_int (fun _ _ => rfl))) (blkOk_by (N := N_story_way) (sc := defScope s_story_way) (by decide +kernel)) (fun _ _ _ _ _ => (pg_name (i := 1) nd rfl (Or.inl rfl))) (fun _ _ _ _ _ => pts_nil) (fun _ _ _ _ _ => (pe_ix ix_seq (pv 1) pe_int (fun _ _ => rfl)))) pa_nil))))
theorem ok_story_way (F : Df K mg "story_way" s_story_way) (B : Bt mg)
    (len : ∀ vs H Q E, S_story_way P w K vs H Q E → vs.length = 1) (rd : ∀ vs H Q E, S_story_way P w K vs H Q E → t_story_way P w K { nx := fun _ J => Q .non J, rt := Q } (start N_story_way vs) H) : Good P w K mg base "story_way" 1 ["story"] (S_story_way P w K) := by
  obtain ⟨f, fd, F, hm⟩ := F
  have b := F.binds (ps := ["story"]) fun _ _ _ _ _ _ us hl => match us, hl with | [_], _ => rfl
  refine ⟨f, fd, hm, F.kp, b, F.ok sc_story_way (fun vs H Q E h => len vs H Q E h) (fun cdv A outer s H vs Q E hr h => ?_)⟩
  exact ⟨_, d_story_way hr B, rd vs H Q E h⟩
abbrev s_is_told : Stmt := topS 21
abbrev N_is_told : List Str := ["groups", "kinds_there", "place", "group"]
theorem sc_is_told : FnScope N_is_told ["groups", "kinds_there"] (defScope s_is_told) := ⟨rfl, rfl, rfl, by decide +kernel, rfl, by decide +kernel, by decide +kernel⟩
theorem d_is_told {f : Addr} {cdv : Value} {A : Around} {outer : List Env} {s : Shared} {H : Hp} {E : XK} (hr : Room 0 (A.deeper (envOfC "is_told" (defScope s_is_told) s.heap.objs.size f cdv))) (B : Bt mg) :
    PSs (cxOf CX0 P w K mg base N_is_told "is_told" (defScope s_is_told) f cdv A outer s H E).nox (defBody s_is_told) (t_is_told P w K) := by
  have nd := sc_is_told.nd
  have hu := hr.units
  have hu1 := hu_of hr
  have hu65 := room65 hr
  exact (pss_one (ps_ret (pe_callB (cr_all (by rfl)) (by rfl) B.all (by decide +kernel) (pa_cons (pe_lc (own := [("place", 2), ("group", 3)]) (by rfl) nd (pi_enumT (by rfl) B.enumerate (pa_cons (pv 0) pa_nil)) (blkOk_by (N := N_is_told) (sc := defScope s_is_told) (by decide +kernel)) (fun _ _ _ _ _ => (pg_tup (by rfl) (pgs_cons (pg_name (i := 2) nd rfl (Or.inl rfl)) (pgs_cons (pg_name (i := 3) nd rfl (Or.inl rfl)) pgs_nil)))) (fun _ _ _ _ _ => pts_nil) (fun _ _ _ _ _ => (pe_cmpR (op_eqD hu) (pe_ix ix_seq (pv 1) (pv 2) (fun _ _ => rfl)) (pe_ix ix_seq (pv 1) (pv 3) (fun _ _ => rfl)) (nomark _)))) pa_nil))))
theorem ok_is_told (F : Df K mg "is_told" s_is_told) (B : Bt mg)
    (len : ∀ vs H Q E, S_is_told P w K vs H Q E → vs.length = 2) (rd : ∀ vs H Q E, S_is_told P w K vs H Q E → t_is_told P w K { nx := fun _ J => Q .non J, rt := Q } (start N_is_told vs) H) : Good P w K mg base "is_told" 1 ["groups", "kinds_there"] (S_is_told P w K) := by
  obtain ⟨f, fd, F, hm⟩ := F
  have b := F.binds (ps := ["groups", "kinds_there"]) fun _ _ _ _ _ _ us hl => match us, hl with | [_, _], _ => rfl
  refine ⟨f, fd, hm, F.kp, b, F.ok sc_is_told (fun vs H Q E h => len vs H Q E h) (fun cdv A outer s H vs Q E hr h => ?_)⟩
  exact ⟨_, d_is_told hr B, rd vs H Q E h⟩
abbrev s_Lweb : Stmt := topS 29
abbrev N_Lweb : List Str := ["_law_box_here", "_law_many", "_law_most", "_law_used", "_law_pairs", "_law_room", "_law_free", "_law_end", "_law_turn_here", "_law_pair", "_law_ends_here", "_law_one"]
theorem sc_Lweb : FnScope N_Lweb ["_law_box_here", "_law_many", "_law_most"] (defScope s_Lweb) := ⟨rfl, rfl, rfl, by decide +kernel, rfl, by decide +kernel, by decide +kernel⟩
theorem d_Lweb {f : Addr} {cdv : Value} {A : Around} {outer : List Env} {s : Shared} {H : Hp} {E : XK} (hr : Room 2 (A.deeper (envOfC "_law_web" (defScope s_Lweb) s.heap.objs.size f cdv))) (B : Bt mg) (h_Ltake : Good P w K mg base "_law_take" 1 ["_law_box_here", "_law_many"] (S_Ltake P w K)) (h_Ldoors_put : Good P w K mg base "_law_doors_put" 2 ["_law_box_here", "_law_pairs", "_law_many"] (S_Ldoors_put P w K)) :
    PSs (cxOf CX0 P w K mg base N_Lweb "_law_web" (defScope s_Lweb) f cdv A outer s H E).nox (defBody s_Lweb) (t_Lweb P w K) := by
  have nd := sc_Lweb.nd
  have hu := hr.units
  have hu1 := hu_of hr
  have hu65 := room65 hr
  exact (pss_cons (ps_asg (pe_op op_rep (pe_lst (pa_cons pe_int pa_nil)) (pv 1)) (pg_name (i := 3) nd rfl (Or.inr rfl)))
  (pss_cons (ps_asg (pe_lst pa_nil) (pg_name (i := 4) nd rfl (Or.inl rfl)))
  (pss_cons (ps_for PassesOwn.never rfl (pi_range2 (by rfl) B.range (pa_cons pe_int (pa_cons (pv 1) pa_nil))) (pg_name (i := 5) nd rfl (Or.inl rfl))
  (pss_cons (ps_setLc (i := 6) (own := [("_law_one", 11)]) (by rfl) nd rfl rfl (sw_true rfl rfl rfl (by decide +kernel)) (pi_range1 (by rfl) B.range (pa_cons (pv 5) pa_nil)) (blkOk_by (N := N_Lweb) (sc := defScope s_Lweb) (by decide +kernel)) (fun _ _ _ _ _ => (pg_name (i := 11) nd rfl (Or.inl rfl))) (fun _ _ _ _ _ => (pts_one (pt_cmpR op_lt (pe_ix ix_seq (pv 3) (pv 11) (fun _ _ => rfl)) (pv 2) (nomark _)))) (fun _ _ _ _ _ => (pv 11)))
  (pss_cons (ps_expr (pe_bm PySem.F.plainAttrs_list PySem.F.slot_list_append PySem.F.type_list_append mt_append (pv 4) (pa_cons (pe_tup (pa_cons (pe_ix ix_seq (pv 6) (pe_callG h_Ltake hr (by decide) (by rfl) (pa_cons (pv 0) (pa_cons (pe_callB cr_len (by rfl) B.len PySem.boot_len (pa_cons (pv 6) pa_nil)) pa_nil))) (fun _ _ => rfl)) (pa_cons (pv 5) pa_nil))) pa_nil)))
  (pss_one (ps_for PassesOwn.never rfl (pi_tup (pe_ix ix_seq (pv 4) (pe_un un_neg pe_int) (fun _ _ => rfl))) (pg_name (i := 7) nd rfl (Or.inl rfl))
  (pss_one (ps_asg (pe_op op_add (pe_ix ix_seq (pv 3) (pv 7) (fun _ _ => rfl)) pe_int) (pg_sub (pv 3) (pv 7) set_list))))))))
  (pss_cons (ps_for PassesOwn.never rfl (pi_range1 (by rfl) B.range (pa_cons (pe_callG h_Ltake hr (by decide) (by rfl) (pa_cons (pv 0) (pa_cons (pe_op op_add (pv 1) pe_int) pa_nil))) pa_nil)) (pg_name (i := 8) nd rfl (Or.inl rfl))
  (pss_cons (ps_asg (pe_tup (pa_cons (pe_callG h_Ltake hr (by decide) (by rfl) (pa_cons (pv 0) (pa_cons (pv 1) pa_nil))) (pa_cons (pe_callG h_Ltake hr (by decide) (by rfl) (pa_cons (pv 0) (pa_cons (pe_op op_add (pv 1) pe_int) pa_nil))) pa_nil))) (pg_name (i := 9) nd rfl (Or.inl rfl)))
  (pss_cons (ps_asg (pe_lc (own := [("_law_end", 7)]) (by rfl) nd (pi_tup (pv 9)) (blkOk_by (N := N_Lweb) (sc := defScope s_Lweb) (by decide +kernel)) (fun _ _ _ _ _ => (pg_name (i := 7) nd rfl (Or.inl rfl))) (fun _ _ _ _ _ => (pts_one (pt_cmpR op_lt (pv 7) (pv 1) (nomark _)))) (fun _ _ _ _ _ => (pv 7))) (pg_name (i := 10) nd rfl (Or.inr rfl)))
  (pss_one (ps_if (pt_val (pe_callB (cr_all (by rfl)) (by rfl) B.all (by decide +kernel) (pa_cons (pe_lc (own := [("_law_end", 7)]) (by rfl) nd (pi_list (pv 10)) (blkOk_by (N := N_Lweb) (sc := defScope s_Lweb) (by decide +kernel)) (fun _ _ _ _ _ => (pg_name (i := 7) nd rfl (Or.inl rfl))) (fun _ _ _ _ _ => pts_nil) (fun _ _ _ _ _ => (pe_cmpR op_le (pe_op op_add (pe_ix ix_seq (pv 3) (pv 7) (fun _ _ => rfl)) (pe_bm PySem.F.plainAttrs_list PySem.F.slot_list_count PySem.F.type_list_count mt_lcount (pv 10) (pa_cons (pv 7) pa_nil))) (pv 2) (nomark _)))) pa_nil))) (pss_cons (ps_expr (pe_bm PySem.F.plainAttrs_list PySem.F.slot_list_append PySem.F.type_list_append mt_append (pv 4) (pa_cons (pv 9) pa_nil)))
  (pss_one (ps_for PassesOwn.never rfl (pi_list (pv 10)) (pg_name (i := 7) nd rfl (Or.inl rfl))
  (pss_one (ps_asg (pe_op op_add (pe_ix ix_seq (pv 3) (pv 7) (fun _ _ => rfl)) pe_int) (pg_sub (pv 3) (pv 7) set_list)))))) pss_nil)))))
  (pss_one (ps_ret (pe_callG h_Ldoors_put hr (by decide) (by rfl) (pa_cons (pv 0) (pa_cons (pv 4) (pa_cons (pv 1) pa_nil))))))))))
theorem ok_Lweb (F : Df K mg "_law_web" s_Lweb) (B : Bt mg) (h_Ltake : Good P w K mg base "_law_take" 1 ["_law_box_here", "_law_many"] (S_Ltake P w K)) (h_Ldoors_put : Good P w K mg base "_law_doors_put" 2 ["_law_box_here", "_law_pairs", "_law_many"] (S_Ldoors_put P w K))
    (len : ∀ vs H Q E, S_Lweb P w K vs H Q E → vs.length = 3) (rd : ∀ vs H Q E, S_Lweb P w K vs H Q E → t_Lweb P w K { nx := fun _ J => Q .non J, rt := Q } (start N_Lweb vs) H) : Good P w K mg base "_law_web" 3 ["_law_box_here", "_law_many", "_law_most"] (S_Lweb P w K) := by
  obtain ⟨f, fd, F, hm⟩ := F
  have b := F.binds (ps := ["_law_box_here", "_law_many", "_law_most"]) fun _ _ _ _ _ _ us hl => match us, hl with | [_, _, _], _ => rfl
  refine ⟨f, fd, hm, F.kp, b, F.ok sc_Lweb (fun vs H Q E h => len vs H Q E h) (fun cdv A outer s H vs Q E hr h => ?_)⟩
  exact ⟨_, d_Lweb hr B h_Ltake h_Ldoors_put, rd vs H Q E h⟩
abbrev s_Lfolded : Stmt := topS 36
abbrev N_Lfolded : List Str := ["_law_script", "_law_many", "_law_cells", "_law_k", "_law_cell"]
theorem sc_Lfolded : FnScope N_Lfolded ["_law_script", "_law_many"] (defScope s_Lfolded) := ⟨rfl, rfl, rfl, by decide +kernel, rfl, by decide +kernel, by decide +kernel⟩
theorem d_Lfolded {f : Addr} {cdv : Value} {A : Around} {outer : List Env} {s : Shared} {H : Hp} {E : XK} (hr : Room 0 (A.deeper (envOfC "_law_folded" (defScope s_Lfolded) s.heap.objs.size f cdv))) (B : Bt mg) :
    PSs (cxOf CX0 P w K mg base N_Lfolded "_law_folded" (defScope s_Lfolded) f cdv A outer s H E).nox (defBody s_Lfolded) (t_Lfolded P w K) := by
  have nd := sc_Lfolded.nd
  have hu := hr.units
  have hu1 := hu_of hr
  have hu65 := room65 hr
  exact (pss_cons (ps_asg (pe_callTy cr_list (by rfl) B.list (by decide +kernel) (pa_cons (pe_slice sl_list (pv 0) po_none (po_some (pv 1))) pa_nil)) (pg_name (i := 2) nd rfl (Or.inl rfl)))
  (pss_cons (ps_for PassesOwn.never rfl (pi_enum (by rfl) B.enumerate (pa_cons (pe_slice sl_list (pv 0) (po_some (pv 1)) (po_some pe_int)) pa_nil)) (pg_tup (by rfl) (pgs_cons (pg_name (i := 3) nd rfl (Or.inl rfl)) (pgs_cons (pg_name (i := 4) nd rfl (Or.inl rfl)) pgs_nil)))
  (pss_one (ps_asg (pe_op op_add (pe_ix ix_seq (pv 2) (pe_op op_modN (pv 3) (pv 1)) (fun _ _ => rfl)) (pe_op op_mul (pv 4) (pe_op op_add (pv 3) pe_int))) (pg_sub (pv 2) (pe_op op_modN (pv 3) (pv 1)) set_list))))
  (pss_one (ps_ret (pv 2)))))
theorem ok_Lfolded (F : Df K mg "_law_folded" s_Lfolded) (B : Bt mg)
    (len : ∀ vs H Q E, S_Lfolded P w K vs H Q E → vs.length = 2) (rd : ∀ vs H Q E, S_Lfolded P w K vs H Q E → t_Lfolded P w K { nx := fun _ J => Q .non J, rt := Q } (start N_Lfolded vs) H) : Good P w K mg base "_law_folded" 1 ["_law_script", "_law_many"] (S_Lfolded P w K) := by
  obtain ⟨f, fd, F, hm⟩ := F
  have b := F.binds (ps := ["_law_script", "_law_many"]) fun _ _ _ _ _ _ us hl => match us, hl with | [_, _], _ => rfl
  refine ⟨f, fd, hm, F.kp, b, F.ok sc_Lfolded (fun vs H Q E h => len vs H Q E h) (fun cdv A outer s H vs Q E hr h => ?_)⟩
  exact ⟨_, d_Lfolded hr B, rd vs H Q E h⟩
abbrev s_Lleast : Stmt := topS 43
abbrev N_Lleast : List Str := ["_law_web_here", "_law_begin", "_law_there", "_law_met", "_law_todo", "_law_state", "_law_way_here", "_law_spots", "_law_groups", "_law_door", "_law_ends_here", "_law_sights", "_law_further", "_law_k", "_law_group", "_law_spot", "_law_end", "_law_sight_here"]
theorem sc_Lleast : FnScope N_Lleast ["_law_web_here", "_law_begin", "_law_there"] (defScope s_Lleast) := ⟨rfl, rfl, rfl, by decide +kernel, rfl, by decide +kernel, by decide +kernel⟩
theorem d_Lleast {f : Addr} {cdv : Value} {A : Around} {outer : List Env} {s : Shared} {H : Hp} {E : XK} (hr : Room 0 (A.deeper (envOfC "_law_least" (defScope s_Lleast) s.heap.objs.size f cdv))) (B : Bt mg) :
    PSs (cxOf CX0 P w K mg base N_Lleast "_law_least" (defScope s_Lleast) f cdv A outer s H E).nox (defBody s_Lleast) (t_Lleast P w K) := by
  have nd := sc_Lleast.nd
  have hu := hr.units
  have hu1 := hu_of hr
  have hu65 := room65 hr
  exact (pss_cons (ps_asg (pe_DNone hu (pv 1) pe_bl) (pg_name (i := 3) nd rfl (Or.inl rfl)))
  (pss_cons (ps_asg (pe_lst (pa_cons (pe_tup (pa_cons (pv 1) (pa_cons (pe_tup pa_nil) pa_nil))) pa_nil)) (pg_name (i := 4) nd rfl (Or.inl rfl)))
  (pss_cons (ps_while PassesOwn.never (pt_cmpR (op_neD hu) (pv 4) (pe_lst pa_nil) (nomark _))
  (pss_cons (ps_asg (pe_bm PySem.F.plainAttrs_list PySem.F.slot_list_pop PySem.F.type_list_pop mt_popAt (pv 4) (pa_cons pe_int pa_nil)) (pg_tup (by rfl) (pgs_cons (pg_name (i := 5) nd rfl (Or.inl rfl)) (pgs_cons (pg_name (i := 6) nd rfl (Or.inl rfl)) pgs_nil))))
  (pss_cons (ps_asg (pv 5) (pg_tup (by rfl) (pgs_cons (pg_name (i := 7) nd rfl (Or.inl rfl)) (pgs_cons (pg_name (i := 8) nd rfl (Or.inl rfl)) pgs_nil))))
  (pss_cons (ps_if (pt_val (pe_callB (cr_all (by rfl)) (by rfl) B.all (by decide +kernel) (pa_cons (pe_lc (own := [("_law_k", 13), ("_law_group", 14)]) (by rfl) nd (pi_enumT (by rfl) B.enumerate (pa_cons (pv 8) pa_nil)) (blkOk_by (N := N_Lleast) (sc := defScope s_Lleast) (by decide +kernel)) (fun _ _ _ _ _ => (pg_tup (by rfl) (pgs_cons (pg_name (i := 13) nd rfl (Or.inl rfl)) (pgs_cons (pg_name (i := 14) nd rfl (Or.inl rfl)) pgs_nil)))) (fun _ _ _ _ _ => pts_nil) (fun _ _ _ _ _ => (pe_cmpR (op_eqD hu) (pe_ix ix_seq (pv 2) (pv 13) (fun _ _ => rfl)) (pe_ix ix_seq (pv 2) (pv 14) (fun _ _ => rfl)) (nomark _)))) pa_nil))) (pss_one (ps_ret (pv 6))) pss_nil)
  (pss_one (ps_for PassesOwn.never rfl (pi_range1 (by rfl) B.range (pa_cons (pe_callB (cr_min (by rfl)) (by rfl) B.min (by decide +kernel) (pa_cons (pe_lc (own := [("_law_spot", 15)]) (by rfl) nd (pi_tup (pv 7)) (blkOk_by (N := N_Lleast) (sc := defScope s_Lleast) (by decide +kernel)) (fun _ _ _ _ _ => (pg_name (i := 15) nd rfl (Or.inl rfl))) (fun _ _ _ _ _ => pts_nil) (fun _ _ _ _ _ => (pe_callB cr_len (by rfl) B.len PySem.boot_len (pa_cons (pe_ix ix_seq (pv 0) (pv 15) (fun _ _ => rfl)) pa_nil)))) pa_nil)) pa_nil)) (pg_name (i := 9) nd rfl (Or.inr rfl))
  (pss_cons (ps_setLc (i := 10) (own := [("_law_spot", 15)]) (by rfl) nd rfl rfl (sw_true rfl rfl rfl (by decide +kernel)) (pi_tup (pv 7)) (blkOk_by (N := N_Lleast) (sc := defScope s_Lleast) (by decide +kernel)) (fun _ _ _ _ _ => (pg_name (i := 15) nd rfl (Or.inl rfl))) (fun _ _ _ _ _ => pts_nil) (fun _ _ _ _ _ => (pe_ix ix_seq (pe_ix ix_seq (pv 0) (pv 15) (fun _ _ => rfl)) (pv 9) (fun _ _ => rfl))))
  (pss_cons (ps_asg (pe_lc (own := [("_law_group", 14), ("_law_end", 16)]) (by rfl) nd (pi_zipM (by rfl) B.zip (pa_cons (pv 8) (pa_cons (pv 10) pa_nil))) (blkOk_by (N := N_Lleast) (sc := defScope s_Lleast) (by decide +kernel)) (fun _ _ _ _ _ => (pg_tup (by rfl) (pgs_cons (pg_name (i := 14) nd rfl (Or.inl rfl)) (pgs_cons (pg_name (i := 16) nd rfl (Or.inl rfl)) pgs_nil)))) (fun _ _ _ _ _ => pts_nil) (fun _ _ _ _ _ => (pe_tup (pa_cons (pv 14) (pa_cons (pe_ix ix_seq (pv 16) pe_int (fun _ _ => rfl)) (pa_cons (pe_callB cr_len (by rfl) B.len PySem.boot_len (pa_cons (pe_ix ix_seq (pv 0) (pe_ix ix_seq (pv 16) pe_int (fun _ _ => rfl)) (fun _ _ => rfl)) pa_nil)) pa_nil)))))) (pg_name (i := 11) nd rfl (Or.inr rfl)))
  (pss_cons (ps_asg (pe_tup (pa_cons (pe_callTy cr_tup (by rfl) B.tuple (by decide +kernel) (pa_cons (pe_lc (own := [("_law_end", 16)]) (by rfl) nd (pi_list (pv 10)) (blkOk_by (N := N_Lleast) (sc := defScope s_Lleast) (by decide +kernel)) (fun _ _ _ _ _ => (pg_name (i := 16) nd rfl (Or.inl rfl))) (fun _ _ _ _ _ => pts_nil) (fun _ _ _ _ _ => (pe_ix ix_seq (pv 16) pe_int (fun _ _ => rfl)))) pa_nil)) (pa_cons (pe_callTy cr_tup (by rfl) B.tuple (by decide +kernel) (pa_cons (pe_lc (own := [("_law_sight_here", 17)]) (by rfl) nd (pi_list (pv 11)) (blkOk_by (N := N_Lleast) (sc := defScope s_Lleast) (by decide +kernel)) (fun _ _ _ _ _ => (pg_name (i := 17) nd rfl (Or.inl rfl))) (fun _ _ _ _ _ => pts_nil) (fun _ _ _ _ _ => (pe_bm PySem.F.plainAttrs_list PySem.F.slot_list_index PySem.F.type_list_index (mt_indexD hu65) (pv 11) (pa_cons (pv 17) pa_nil)))) pa_nil)) pa_nil))) (pg_name (i := 12) nd rfl (Or.inl rfl)))
  (pss_one (ps_if (pt_cmpR (op_notInDN hu) (pv 12) (pv 3) (by rfl)) (pss_cons (ps_asg pe_bl (pg_sub (pv 3) (pv 12) (set_DN hu)))
  (pss_one (ps_expr (pe_bm PySem.F.plainAttrs_list PySem.F.slot_list_append PySem.F.type_list_append mt_append (pv 4) (pa_cons (pe_tup (pa_cons (pv 12) (pa_cons (pe_op op_catA (pv 6) (pe_tup (pa_cons (pv 9) pa_nil))) pa_nil))) pa_nil))))) pss_nil)))))))))))
  (pss_one (ps_ret pe_non)))))
theorem ok_Lleast (F : Df K mg "_law_least" s_Lleast) (B : Bt mg)
    (len : ∀ vs H Q E, S_Lleast P w K vs H Q E → vs.length = 3) (rd : ∀ vs H Q E, S_Lleast P w K vs H Q E → t_Lleast P w K { nx := fun _ J => Q .non J, rt := Q } (start N_Lleast vs) H) : Good P w K mg base "_law_least" 1 ["_law_web_here", "_law_begin", "_law_there"] (S_Lleast P w K) := by
  obtain ⟨f, fd, F, hm⟩ := F
  have b := F.binds (ps := ["_law_web_here", "_law_begin", "_law_there"]) fun _ _ _ _ _ _ us hl => match us, hl with | [_, _, _], _ => rfl
  refine ⟨f, fd, hm, F.kp, b, F.ok sc_Lleast (fun vs H Q E h => len vs H Q E h) (fun cdv A outer s H vs Q E hr h => ?_)⟩
  exact ⟨_, d_Lleast hr B, rd vs H Q E h⟩
end
end Wk
/-! WXs3 -/
namespace Wk
set_option maxHeartbeats 4000000
open PySem PySem.Spec PyProof.Rows L2 Evl
section
variable {P : Program} {w : World} {K : PySem.W.Frag} {mg : Str → Option Value} {base : Heap}
abbrev s_kinds_by : Stmt := topS 4
abbrev N_kinds_by : List Str := ["web", "many", "numbers", "found", "room", "number"]
theorem sc_kinds_by : FnScope N_kinds_by ["web", "many"] (defScope s_kinds_by) := ⟨rfl, rfl, rfl, by decide +kernel, rfl, by decide +kernel, by decide +kernel⟩
theorem d_kinds_by {f : Addr} {cdv : Value} {A : Around} {outer : List Env} {s : Shared} {H : Hp} {E : XK} (hr : Room 2 (A.deeper (envOfC "kinds_by" (defScope s_kinds_by) s.heap.objs.size f cdv))) (B : Bt mg) (h_alike_by : Good P w K mg base "alike_by" 2 ["web", "many"] (S_alike_by P w K)) :
    PSs (cxOf CX0 P w K mg base N_kinds_by "kinds_by" (defScope s_kinds_by) f cdv A outer s H E).nox (defBody s_kinds_by) (t_kinds_by P w K) := by
  have nd := sc_kinds_by.nd
  have hu := hr.units
  have hu1 := hu_of hr
  have hu65 := room65 hr
  exact (pss_cons (ps_asg (pe_callG h_alike_by hr (by decide) (by rfl) (pa_cons (pv 0) (pa_cons (pv 1) pa_nil))) (pg_name (i := 2) nd rfl (Or.inl rfl)))
  (pss_cons (ps_setLc (i := 3) (own := [("number", 5)]) (by rfl) nd rfl rfl (sw_true rfl rfl rfl (by decide +kernel)) (pi_range1 (by rfl) B.range (pa_cons (pe_op op_add (pe_callB (cr_max (by rfl)) (by rfl) B.max (by decide +kernel) (pa_cons (pv 2) pa_nil)) pe_int) pa_nil)) (blkOk_by (N := N_kinds_by) (sc := defScope s_kinds_by) (by decide +kernel)) (fun _ _ _ _ _ => (pg_name (i := 5) nd rfl (Or.inl rfl))) (fun _ _ _ _ _ => pts_nil) (fun _ _ _ _ _ => (pe_lst pa_nil)))
  (pss_cons (ps_for PassesOwn.never rfl (pi_enum (by rfl) B.enumerate (pa_cons (pv 2) pa_nil)) (pg_tup (by rfl) (pgs_cons (pg_name (i := 4) nd rfl (Or.inl rfl)) (pgs_cons (pg_name (i := 5) nd rfl (Or.inl rfl)) pgs_nil)))
  (pss_one (ps_expr (pe_bm PySem.F.plainAttrs_list PySem.F.slot_list_append PySem.F.type_list_append mt_append (pe_ix ix_seq (pv 3) (pv 5) (fun _ _ => rfl)) (pa_cons (pv 4) pa_nil)))))
  (pss_one (ps_ret (pv 3))))))
theorem ok_kinds_by (F : Df K mg "kinds_by" s_kinds_by) (B : Bt mg) (h_alike_by : Good P w K mg base "alike_by" 2 ["web", "many"] (S_alike_by P w K))
    (len : ∀ vs H Q E, S_kinds_by P w K vs H Q E → vs.length = 2) (rd : ∀ vs H Q E, S_kinds_by P w K vs H Q E → t_kinds_by P w K { nx := fun _ J => Q .non J, rt := Q } (start N_kinds_by vs) H) : Good P w K mg base "kinds_by" 3 ["web", "many"] (S_kinds_by P w K) := by
  obtain ⟨f, fd, F, hm⟩ := F
  have b := F.binds (ps := ["web", "many"]) fun _ _ _ _ _ _ us hl => match us, hl with | [_, _], _ => rfl
  refine ⟨f, fd, hm, F.kp, b, F.ok sc_kinds_by (fun vs H Q E h => len vs H Q E h) (fun cdv A outer s H vs Q E hr h => ?_)⟩
  exact ⟨_, d_kinds_by hr B h_alike_by, rd vs H Q E h⟩
abbrev s_story_sight : Stmt := topS 14
abbrev N_story_sight : List Str := ["story", "step"]
theorem sc_story_sight : FnScope N_story_sight ["story"] (defScope s_story_sight) := ⟨rfl, rfl, rfl, by decide +kernel, rfl, by decide +kernel, by decide +kernel⟩
theorem d_story_sight {f : Addr} {cdv : Value} {A : Around} {outer : List Env} {s : Shared} {H : Hp} {E : XK} (hr : Room 0 (A.deeper (envOfC "story_sight" (defScope s_story_sight) s.heap.objs.size f cdv))) (B : Bt mg) :
    PSs (cxOf CX0 P w K mg base N_story_sight "story_sight" (defScope s_story_sight) f cdv A outer s H E).nox (defBody s_story_sight) (t_story_sight P w K) := by
  have nd := sc_story_sight.nd
  have hu := hr.units
  have hu1 := hu_of hr
  have hu65 := room65 hr
  exact (pss_one (ps_ret (pe_op op_catA (pe_tup (pa_cons (pe_ix ix_seq (pv 0) pe_int (fun _ _ => rfl)) pa_nil)) (pe_callTy cr_tup (by rfl) B.tuple (by decide +kernel) (pa_cons (pe_lc (own := [("step", 1)]) (by rfl) nd (pi_tup (pe_ix ix_seq (pv 0) pe_int (fun _ _ => rfl))) (blkOk_by (N := N_story_sight) (sc := defScope s_story_sight) (by decide +kernel)) (fun _ _ _ _ _ => (pg_name (i := 1) nd rfl (Or.inl rfl))) (fun _ _ _ _ _ => pts_nil) (fun _ _ _ _ _ => (pe_callTy cr_tup (by rfl) B.tuple (by decide +kernel) (pa_cons (pe_slice sl_tupA (pv 1) (po_some pe_int) po_none) pa_nil)))) pa_nil)))))
theorem ok_story_sight (F : Df K mg "story_sight" s_story_sight) (B : Bt mg)
    (len : ∀ vs H Q E, S_story_sight P w K vs H Q E → vs.length = 1) (rd : ∀ vs H Q E, S_story_sight P w K vs H Q E → t_story_sight P w K { nx := fun _ J => Q .non J, rt := Q } (start N_story_sight vs) H) : Good P w K mg base "story_sight" 1 ["story"] (S_story_sight P w K) := by
  obtain ⟨f, fd, F, hm⟩ := F
  have b := F.binds (ps := ["story"]) fun _ _ _ _ _ _ us hl => match us, hl with | [_], _ => rfl
  refine ⟨f, fd, hm, F.kp, b, F.ok sc_story_sight (fun vs H Q E h => len vs H Q E h) (fun cdv A outer s H vs Q E hr h => ?_)⟩
  exact ⟨_, d_story_sight hr B, rd vs H Q E h⟩
abbrev s_steps_on : Stmt := topS 22
abbrev N_steps_on : List Str := ["web", "spots", "groups", "found", "door", "ends", "sights", "spot", "group", "end"]
theorem sc_steps_on : FnScope N_steps_on ["web", "spots", "groups"] (defScope s_steps_on) := ⟨rfl, rfl, rfl, by decide +kernel, rfl, by decide +kernel, by decide +kernel⟩
theorem d_steps_on {f : Addr} {cdv : Value} {A : Around} {outer : List Env} {s : Shared} {H : Hp} {E : XK} (hr : Room 1 (A.deeper (envOfC "steps_on" (defScope s_steps_on) s.heap.objs.size f cdv))) (B : Bt mg) (h_doors_of_all : Good P w K mg base "doors_of_all" 1 ["web", "spots"] (S_doors_of_all P w K)) (h_parted_groups : Good P w K mg base "parted_groups" 1 ["sights"] (S_parted_groups P w K)) :
    PSs (cxOf CX0 P w K mg base N_steps_on "steps_on" (defScope s_steps_on) f cdv A outer s H E).nox (defBody s_steps_on) (t_steps_on P w K) := by
  have nd := sc_steps_on.nd
  have hu := hr.units
  have hu1 := hu_of hr
  have hu65 := room65 hr
  exact (pss_cons (ps_asg (pe_lst pa_nil) (pg_name (i := 3) nd rfl (Or.inl rfl)))
  (pss_cons (ps_for PassesOwn.never rfl (pi_range1 (by rfl) B.range (pa_cons (pe_callG h_doors_of_all hr (by decide) (by rfl) (pa_cons (pv 0) (pa_cons (pv 1) pa_nil))) pa_nil)) (pg_name (i := 4) nd rfl (Or.inr rfl))
  (pss_cons (ps_setLc (i := 5) (own := [("spot", 7)]) (by rfl) nd rfl rfl (sw_true rfl rfl rfl (by decide +kernel)) (pi_tup (pv 1)) (blkOk_by (N := N_steps_on) (sc := defScope s_steps_on) (by decide +kernel)) (fun _ _ _ _ _ => (pg_name (i := 7) nd rfl (Or.inl rfl))) (fun _ _ _ _ _ => pts_nil) (fun _ _ _ _ _ => (pe_ix ix_seq (pe_ix ix_seq (pv 0) (pv 7) (fun _ _ => rfl)) (pv 4) (fun _ _ => rfl))))
  (pss_cons (ps_setLc (i := 6) (own := [("group", 8), ("end", 9)]) (by rfl) nd rfl rfl (sw_true rfl rfl rfl (by decide +kernel)) (pi_zipM (by rfl) B.zip (pa_cons (pv 2) (pa_cons (pv 5) pa_nil))) (blkOk_by (N := N_steps_on) (sc := defScope s_steps_on) (by decide +kernel)) (fun _ _ _ _ _ => (pg_tup (by rfl) (pgs_cons (pg_name (i := 8) nd rfl (Or.inl rfl)) (pgs_cons (pg_name (i := 9) nd rfl (Or.inl rfl)) pgs_nil)))) (fun _ _ _ _ _ => pts_nil) (fun _ _ _ _ _ => (pe_tup (pa_cons (pv 8) (pa_cons (pe_ix ix_seq (pv 9) pe_int (fun _ _ => rfl)) (pa_cons (pe_callB cr_len (by rfl) B.len PySem.boot_len (pa_cons (pe_ix ix_seq (pv 0) (pe_ix ix_seq (pv 9) pe_int (fun _ _ => rfl)) (fun _ _ => rfl)) pa_nil)) pa_nil))))))
  (pss_one (ps_expr (pe_bm PySem.F.plainAttrs_list PySem.F.slot_list_append PySem.F.type_list_append mt_append (pv 3) (pa_cons (pe_tup (pa_cons (pe_callTy cr_tup (by rfl) B.tuple (by decide +kernel) (pa_cons (pe_lc (own := [("end", 9)]) (by rfl) nd (pi_list (pv 5)) (blkOk_by (N := N_steps_on) (sc := defScope s_steps_on) (by decide +kernel)) (fun _ _ _ _ _ => (pg_name (i := 9) nd rfl (Or.inl rfl))) (fun _ _ _ _ _ => pts_nil) (fun _ _ _ _ _ => (pe_ix ix_seq (pv 9) pe_int (fun _ _ => rfl)))) pa_nil)) (pa_cons (pe_callG h_parted_groups hr (by decide) (by rfl) (pa_cons (pv 6) pa_nil)) pa_nil))) pa_nil)))))))
  (pss_one (ps_ret (pv 3)))))
theorem ok_steps_on (F : Df K mg "steps_on" s_steps_on) (B : Bt mg) (h_doors_of_all : Good P w K mg base "doors_of_all" 1 ["web", "spots"] (S_doors_of_all P w K)) (h_parted_groups : Good P w K mg base "parted_groups" 1 ["sights"] (S_parted_groups P w K))
    (len : ∀ vs H Q E, S_steps_on P w K vs H Q E → vs.length = 3) (rd : ∀ vs H Q E, S_steps_on P w K vs H Q E → t_steps_on P w K { nx := fun _ J => Q .non J, rt := Q } (start N_steps_on vs) H) : Good P w K mg base "steps_on" 2 ["web", "spots", "groups"] (S_steps_on P w K) := by
  obtain ⟨f, fd, F, hm⟩ := F
  have b := F.binds (ps := ["web", "spots", "groups"]) fun _ _ _ _ _ _ us hl => match us, hl with | [_, _, _], _ => rfl
  refine ⟨f, fd, hm, F.kp, b, F.ok sc_steps_on (fun vs H Q E h => len vs H Q E h) (fun cdv A outer s H vs Q E hr h => ?_)⟩
  exact ⟨_, d_steps_on hr B h_doors_of_all h_parted_groups, rd vs H Q E h⟩
abbrev s_Lring : Stmt := topS 30
abbrev N_Lring : List Str := ["_law_many", "_law_room"]
theorem sc_Lring : FnScope N_Lring ["_law_many"] (defScope s_Lring) := ⟨rfl, rfl, rfl, by decide +kernel, rfl, by decide +kernel, by decide +kernel⟩
theorem d_Lring {f : Addr} {cdv : Value} {A : Around} {outer : List Env} {s : Shared} {H : Hp} {E : XK} (hr : Room 0 (A.deeper (envOfC "_law_ring" (defScope s_Lring) s.heap.objs.size f cdv))) (B : Bt mg) :
    PSs (cxOf CX0 P w K mg base N_Lring "_law_ring" (defScope s_Lring) f cdv A outer s H E).nox (defBody s_Lring) (t_Lring P w K) := by
  have nd := sc_Lring.nd
  have hu := hr.units
  have hu1 := hu_of hr
  have hu65 := room65 hr
  exact (pss_one (ps_ret (pe_callTy cr_tup (by rfl) B.tuple (by decide +kernel) (pa_cons (pe_lc (own := [("_law_room", 1)]) (by rfl) nd (pi_range1 (by rfl) B.range (pa_cons (pv 0) pa_nil)) (blkOk_by (N := N_Lring) (sc := defScope s_Lring) (by decide +kernel)) (fun _ _ _ _ _ => (pg_name (i := 1) nd rfl (Or.inl rfl))) (fun _ _ _ _ _ => pts_nil) (fun _ _ _ _ _ => (pe_tup (pa_cons (pe_tup (pa_cons (pe_op op_modN (pe_op op_add (pv 1) pe_int) (pv 0)) (pa_cons pe_int pa_nil))) (pa_cons (pe_tup (pa_cons (pe_op op_modN (pe_op op_sub (pv 1) pe_int) (pv 0)) (pa_cons pe_int pa_nil))) pa_nil))))) pa_nil))))
theorem ok_Lring (F : Df K mg "_law_ring" s_Lring) (B : Bt mg)
    (len : ∀ vs H Q E, S_Lring P w K vs H Q E → vs.length = 1) (rd : ∀ vs H Q E, S_Lring P w K vs H Q E → t_Lring P w K { nx := fun _ J => Q .non J, rt := Q } (start N_Lring vs) H) : Good P w K mg base "_law_ring" 1 ["_law_many"] (S_Lring P w K) := by
  obtain ⟨f, fd, F, hm⟩ := F
  have b := F.binds (ps := ["_law_many"]) fun _ _ _ _ _ _ us hl => match us, hl with | [_], _ => rfl
  refine ⟨f, fd, hm, F.kp, b, F.ok sc_Lring (fun vs H Q E h => len vs H Q E h) (fun cdv A outer s H vs Q E hr h => ?_)⟩
  exact ⟨_, d_Lring hr B, rd vs H Q E h⟩
abbrev s_Lway : Stmt := topS 37
abbrev N_Lway : List Str := ["_law_box_here", "_law_web_here", "_law_room", "_law_most", "_law_way_here", "_law_turn_here"]
theorem sc_Lway : FnScope N_Lway ["_law_box_here", "_law_web_here", "_law_room", "_law_most"] (defScope s_Lway) := ⟨rfl, rfl, rfl, by decide +kernel, rfl, by decide +kernel, by decide +kernel⟩
theorem d_Lway {f : Addr} {cdv : Value} {A : Around} {outer : List Env} {s : Shared} {H : Hp} {E : XK} (hr : Room 1 (A.deeper (envOfC "_law_way" (defScope s_Lway) s.heap.objs.size f cdv))) (B : Bt mg) (h_Ltake : Good P w K mg base "_law_take" 1 ["_law_box_here", "_law_many"] (S_Ltake P w K)) :
    PSs (cxOf CX0 P w K mg base N_Lway "_law_way" (defScope s_Lway) f cdv A outer s H E).nox (defBody s_Lway) (t_Lway P w K) := by
  have nd := sc_Lway.nd
  have hu := hr.units
  have hu1 := hu_of hr
  have hu65 := room65 hr
  exact (pss_cons (ps_asg (pe_lst pa_nil) (pg_name (i := 4) nd rfl (Or.inl rfl)))
  (pss_cons (ps_for PassesOwn.never rfl (pi_range1 (by rfl) B.range (pa_cons (pe_callG h_Ltake hr (by decide) (by rfl) (pa_cons (pv 0) (pa_cons (pe_op op_add (pv 3) pe_int) pa_nil))) pa_nil)) (pg_name (i := 5) nd rfl (Or.inl rfl))
  (pss_one (ps_if (pt_cmpR op_gt (pe_callB cr_len (by rfl) B.len PySem.boot_len (pa_cons (pe_ix ix_seq (pv 1) (pv 2) (fun _ _ => rfl)) pa_nil)) pe_int (nomark _)) (pss_cons (ps_expr (pe_bm PySem.F.plainAttrs_list PySem.F.slot_list_append PySem.F.type_list_append mt_append (pv 4) (pa_cons (pe_callG h_Ltake hr (by decide) (by rfl) (pa_cons (pv 0) (pa_cons (pe_callB cr_len (by rfl) B.len PySem.boot_len (pa_cons (pe_ix ix_seq (pv 1) (pv 2) (fun _ _ => rfl)) pa_nil)) pa_nil))) pa_nil)))
  (pss_one (ps_asg (pe_ix ix_seq (pe_ix ix_seq (pe_ix ix_seq (pv 1) (pv 2) (fun _ _ => rfl)) (pe_ix ix_seq (pv 4) (pe_un un_neg pe_int) (fun _ _ => rfl)) (fun _ _ => rfl)) pe_int (fun _ _ => rfl)) (pg_name (i := 2) nd rfl (Or.inl rfl))))) pss_nil)))
  (pss_one (ps_ret (pe_callTy cr_tup (by rfl) B.tuple (by decide +kernel) (pa_cons (pv 4) pa_nil))))))
theorem ok_Lway (F : Df K mg "_law_way" s_Lway) (B : Bt mg) (h_Ltake : Good P w K mg base "_law_take" 1 ["_law_box_here", "_law_many"] (S_Ltake P w K))
    (len : ∀ vs H Q E, S_Lway P w K vs H Q E → vs.length = 4) (rd : ∀ vs H Q E, S_Lway P w K vs H Q E → t_Lway P w K { nx := fun _ J => Q .non J, rt := Q } (start N_Lway vs) H) : Good P w K mg base "_law_way" 2 ["_law_box_here", "_law_web_here", "_law_room", "_law_most"] (S_Lway P w K) := by
  obtain ⟨f, fd, F, hm⟩ := F
  have b := F.binds (ps := ["_law_box_here", "_law_web_here", "_law_room", "_law_most"]) fun _ _ _ _ _ _ us hl => match us, hl with | [_, _, _, _], _ => rfl
  refine ⟨f, fd, hm, F.kp, b, F.ok sc_Lway (fun vs H Q E h => len vs H Q E h) (fun cdv A outer s H vs Q E hr h => ?_)⟩
  exact ⟨_, d_Lway hr B h_Ltake, rd vs H Q E h⟩
abbrev s_Lhome : Stmt := topS 44
abbrev N_Lhome : List Str := ["_law_web_here", "_law_pairs", "_law_goals", "_law_met", "_law_todo", "_law_spots", "_law_way_here", "_law_door", "_law_pair", "_law_spot"]
theorem sc_Lhome : FnScope N_Lhome ["_law_web_here", "_law_pairs"] (defScope s_Lhome) := ⟨rfl, rfl, rfl, by decide +kernel, rfl, by decide +kernel, by decide +kernel⟩
theorem d_Lhome {f : Addr} {cdv : Value} {A : Around} {outer : List Env} {s : Shared} {H : Hp} {E : XK} (hr : Room 0 (A.deeper (envOfC "_law_home" (defScope s_Lhome) s.heap.objs.size f cdv))) (B : Bt mg) :
    PSs (cxOf CX0 P w K mg base N_Lhome "_law_home" (defScope s_Lhome) f cdv A outer s H E).nox (defBody s_Lhome) (t_Lhome P w K) := by
  have nd := sc_Lhome.nd
  have hu := hr.units
  have hu1 := hu_of hr
  have hu65 := room65 hr
  exact (pss_cons (ps_asg (pe_callTy cr_tup (by rfl) B.tuple (by decide +kernel) (pa_cons (pe_lc (own := [("_law_pair", 8)]) (by rfl) nd (pi_list (pv 1)) (blkOk_by (N := N_Lhome) (sc := defScope s_Lhome) (by decide +kernel)) (fun _ _ _ _ _ => (pg_name (i := 8) nd rfl (Or.inl rfl))) (fun _ _ _ _ _ => pts_nil) (fun _ _ _ _ _ => (pe_ix ix_seq (pv 8) pe_int (fun _ _ => rfl)))) pa_nil)) (pg_name (i := 2) nd rfl (Or.inl rfl)))
  (pss_cons (ps_asg pe_DNnew (pg_name (i := 3) nd rfl (Or.inl rfl)))
  (pss_cons (ps_asg (pe_lst (pa_cons (pe_tup (pa_cons (pe_callTy cr_tup (by rfl) B.tuple (by decide +kernel) (pa_cons (pe_lc (own := [("_law_pair", 8)]) (by rfl) nd (pi_list (pv 1)) (blkOk_by (N := N_Lhome) (sc := defScope s_Lhome) (by decide +kernel)) (fun _ _ _ _ _ => (pg_name (i := 8) nd rfl (Or.inl rfl))) (fun _ _ _ _ _ => pts_nil) (fun _ _ _ _ _ => (pe_ix ix_seq (pv 8) pe_int (fun _ _ => rfl)))) pa_nil)) (pa_cons (pe_tup pa_nil) pa_nil))) pa_nil)) (pg_name (i := 4) nd rfl (Or.inl rfl)))
  (pss_cons (ps_while PassesOwn.never (pt_cmpR (op_neD hu) (pv 4) (pe_lst pa_nil) (nomark _))
  (pss_cons (ps_asg (pe_bm PySem.F.plainAttrs_list PySem.F.slot_list_pop PySem.F.type_list_pop mt_popAt (pv 4) (pa_cons pe_int pa_nil)) (pg_tup (by rfl) (pgs_cons (pg_name (i := 5) nd rfl (Or.inl rfl)) (pgs_cons (pg_name (i := 6) nd rfl (Or.inl rfl)) pgs_nil))))
  (pss_cons (ps_if (pt_cmpR (op_eqD hu) (pv 5) (pv 2) (nomark _)) (pss_one (ps_ret (pv 6))) pss_nil)
  (pss_one (ps_if (pt_cmpR (op_notInDN hu) (pv 5) (pv 3) (by rfl)) (pss_cons (ps_asg pe_bl (pg_sub (pv 3) (pv 5) (set_DN hu)))
  (pss_one (ps_for PassesOwn.never rfl (pi_range1 (by rfl) B.range (pa_cons (pe_callB (cr_min (by rfl)) (by rfl) B.min (by decide +kernel) (pa_cons (pe_lc (own := [("_law_spot", 9)]) (by rfl) nd (pi_tup (pv 5)) (blkOk_by (N := N_Lhome) (sc := defScope s_Lhome) (by decide +kernel)) (fun _ _ _ _ _ => (pg_name (i := 9) nd rfl (Or.inl rfl))) (fun _ _ _ _ _ => pts_nil) (fun _ _ _ _ _ => (pe_callB cr_len (by rfl) B.len PySem.boot_len (pa_cons (pe_ix ix_seq (pv 0) (pv 9) (fun _ _ => rfl)) pa_nil)))) pa_nil)) pa_nil)) (pg_name (i := 7) nd rfl (Or.inr rfl))
  (pss_one (ps_expr (pe_bm PySem.F.plainAttrs_list PySem.F.slot_list_append PySem.F.type_list_append mt_append (pv 4) (pa_cons (pe_tup (pa_cons (pe_callTy cr_tup (by rfl) B.tuple (by decide +kernel) (pa_cons (pe_lc (own := [("_law_spot", 9)]) (by rfl) nd (pi_tup (pv 5)) (blkOk_by (N := N_Lhome) (sc := defScope s_Lhome) (by decide +kernel)) (fun _ _ _ _ _ => (pg_name (i := 9) nd rfl (Or.inl rfl))) (fun _ _ _ _ _ => pts_nil) (fun _ _ _ _ _ => (pe_ix ix_seq (pe_ix ix_seq (pe_ix ix_seq (pv 0) (pv 9) (fun _ _ => rfl)) (pv 7) (fun _ _ => rfl)) pe_int (fun _ _ => rfl)))) pa_nil)) (pa_cons (pe_op op_catA (pv 6) (pe_tup (pa_cons (pv 7) pa_nil))) pa_nil))) pa_nil))))))) pss_nil)))))
  (pss_one (ps_ret pe_non))))))
theorem ok_Lhome (F : Df K mg "_law_home" s_Lhome) (B : Bt mg)
    (len : ∀ vs H Q E, S_Lhome P w K vs H Q E → vs.length = 2) (rd : ∀ vs H Q E, S_Lhome P w K vs H Q E → t_Lhome P w K { nx := fun _ J => Q .non J, rt := Q } (start N_Lhome vs) H) : Good P w K mg base "_law_home" 1 ["_law_web_here", "_law_pairs"] (S_Lhome P w K) := by
  obtain ⟨f, fd, F, hm⟩ := F
  have b := F.binds (ps := ["_law_web_here", "_law_pairs"]) fun _ _ _ _ _ _ us hl => match us, hl with | [_, _], _ => rfl
  refine ⟨f, fd, hm, F.kp, b, F.ok sc_Lhome (fun vs H Q E h => len vs H Q E h) (fun cdv A outer s H vs Q E hr h => ?_)⟩
  exact ⟨_, d_Lhome hr B, rd vs H Q E h⟩
end
end Wk
/-! WXs4 -/
namespace Wk
set_option maxHeartbeats 4000000
open PySem PySem.Spec PyProof.Rows L2 Evl
section
variable {P : Program} {w : World} {K : PySem.W.Frag} {mg : Str → Option Value} {base : Heap}
abbrev s_kinds : Stmt := topS 5
abbrev N_kinds : List Str := ["web"]
theorem sc_kinds : FnScope N_kinds ["web"] (defScope s_kinds) := ⟨rfl, rfl, rfl, by decide +kernel, rfl, by decide +kernel, by decide +kernel⟩
theorem d_kinds {f : Addr} {cdv : Value} {A : Around} {outer : List Env} {s : Shared} {H : Hp} {E : XK} (hr : Room 3 (A.deeper (envOfC "kinds" (defScope s_kinds) s.heap.objs.size f cdv))) (B : Bt mg) (h_kinds_by : Good P w K mg base "kinds_by" 3 ["web", "many"] (S_kinds_by P w K)) :
    PSs (cxOf CX0 P w K mg base N_kinds "kinds" (defScope s_kinds) f cdv A outer s H E).nox (defBody s_kinds) (t_kinds P w K) := by
  have nd := sc_kinds.nd
  have hu := hr.units
  have hu1 := hu_of hr
  have hu65 := room65 hr
  exact (pss_one (ps_ret (pe_callG h_kinds_by hr (by decide) (by rfl) (pa_cons (pv 0) (pa_cons (pe_callB cr_len (by rfl) B.len PySem.boot_len (pa_cons (pv 0) pa_nil)) pa_nil)))))
theorem ok_kinds (F : Df K mg "kinds" s_kinds) (B : Bt mg) (h_kinds_by : Good P w K mg base "kinds_by" 3 ["web", "many"] (S_kinds_by P w K))
    (len : ∀ vs H Q E, S_kinds P w K vs H Q E → vs.length = 1) (rd : ∀ vs H Q E, S_kinds P w K vs H Q E → t_kinds P w K { nx := fun _ J => Q .non J, rt := Q } (start N_kinds vs) H) : Good P w K mg base "kinds" 4 ["web"] (S_kinds P w K) := by
  obtain ⟨f, fd, F, hm⟩ := F
  have b := F.binds (ps := ["web"]) fun _ _ _ _ _ _ us hl => match us, hl with | [_], _ => rfl
  refine ⟨f, fd, hm, F.kp, b, F.ok sc_kinds (fun vs H Q E h => len vs H Q E h) (fun cdv A outer s H vs Q E hr h => ?_)⟩
  exact ⟨_, d_kinds hr B h_kinds_by, rd vs H Q E h⟩
abbrev s_fits : Stmt := topS 15
abbrev N_fits : List Str := ["web", "room", "story"]
theorem sc_fits : FnScope N_fits ["web", "room", "story"] (defScope s_fits) := ⟨rfl, rfl, rfl, by decide +kernel, rfl, by decide +kernel, by decide +kernel⟩
theorem d_fits {f : Addr} {cdv : Value} {A : Around} {outer : List Env} {s : Shared} {H : Hp} {E : XK} (hr : Room 1 (A.deeper (envOfC "fits" (defScope s_fits) s.heap.objs.size f cdv))) (B : Bt mg) (h_story_way : Good P w K mg base "story_way" 1 ["story"] (S_story_way P w K)) (h_seen : Good P w K mg base "seen" 1 ["web", "room", "way"] (S_seen P w K)) (h_story_sight : Good P w K mg base "story_sight" 1 ["story"] (S_story_sight P w K)) :
    PSs (cxOf CX0 P w K mg base N_fits "fits" (defScope s_fits) f cdv A outer s H E).nox (defBody s_fits) (t_fits P w K) := by
  have nd := sc_fits.nd
  have hu := hr.units
  have hu1 := hu_of hr
  have hu65 := room65 hr
  exact (pss_one (ps_ret (pe_cmpR (op_eqD hu) (pe_callG h_seen hr (by decide) (by rfl) (pa_cons (pv 0) (pa_cons (pv 1) (pa_cons (pe_callG h_story_way hr (by decide) (by rfl) (pa_cons (pv 2) pa_nil)) pa_nil)))) (pe_callG h_story_sight hr (by decide) (by rfl) (pa_cons (pv 2) pa_nil)) (nomark _))))
theorem ok_fits (F : Df K mg "fits" s_fits) (B : Bt mg) (h_story_way : Good P w K mg base "story_way" 1 ["story"] (S_story_way P w K)) (h_seen : Good P w K mg base "seen" 1 ["web", "room", "way"] (S_seen P w K)) (h_story_sight : Good P w K mg base "story_sight" 1 ["story"] (S_story_sight P w K))
    (len : ∀ vs H Q E, S_fits P w K vs H Q E → vs.length = 3) (rd : ∀ vs H Q E, S_fits P w K vs H Q E → t_fits P w K { nx := fun _ J => Q .non J, rt := Q } (start N_fits vs) H) : Good P w K mg base "fits" 2 ["web", "room", "story"] (S_fits P w K) := by
  obtain ⟨f, fd, F, hm⟩ := F
  have b := F.binds (ps := ["web", "room", "story"]) fun _ _ _ _ _ _ us hl => match us, hl with | [_, _, _], _ => rfl
  refine ⟨f, fd, hm, F.kp, b, F.ok sc_fits (fun vs H Q E h => len vs H Q E h) (fun cdv A outer s H vs Q E hr h => ?_)⟩
  exact ⟨_, d_fits hr B h_story_way h_seen h_story_sight, rd vs H Q E h⟩
abbrev s_telling_way : Stmt := topS 23
abbrev N_telling_way : List Str := ["web", "some", "numbers", "kinds_there", "begin", "ways", "last", "further", "spots", "groups", "door", "there", "spot"]
theorem sc_telling_way : FnScope N_telling_way ["web", "some"] (defScope s_telling_way) := ⟨rfl, rfl, rfl, by decide +kernel, rfl, by decide +kernel, by decide +kernel⟩
theorem d_telling_way {f : Addr} {cdv : Value} {A : Around} {outer : List Env} {s : Shared} {H : Hp} {E : XK} (hr : Room 5 (A.deeper (envOfC "telling_way" (defScope s_telling_way) s.heap.objs.size f cdv))) (B : Bt mg) (h_folds_by : Good P w K mg base "folds_by" 5 ["web"] (S_folds_by P w K)) (h_parted_groups : Good P w K mg base "parted_groups" 1 ["sights"] (S_parted_groups P w K)) (h_is_told : Good P w K mg base "is_told" 1 ["groups", "kinds_there"] (S_is_told P w K)) (h_steps_on : Good P w K mg base "steps_on" 2 ["web", "spots", "groups"] (S_steps_on P w K)) :
    PSs (cxOf CX0 P w K mg base N_telling_way "telling_way" (defScope s_telling_way) f cdv A outer s H E).nox (defBody s_telling_way) (t_telling_way P w K) := by
  have nd := sc_telling_way.nd
  have hu := hr.units
  have hu1 := hu_of hr
  have hu65 := room65 hr
  exact (pss_cons (ps_if (pt_cmpR (op_eqD hu) (pe_callB cr_len (by rfl) B.len PySem.boot_len (pa_cons (pv 1) pa_nil)) pe_int (nomark _)) (pss_one (ps_ret (pe_tup pa_nil))) pss_nil)
  (pss_cons (ps_asg (pe_callG h_folds_by hr (by decide) (by rfl) (pa_cons (pv 0) pa_nil)) (pg_name (i := 2) nd rfl (Or.inr rfl)))
  (pss_cons (ps_setLc (i := 3) (own := [("spot", 12)]) (by rfl) nd rfl rfl (sw_true rfl rfl rfl (by decide +kernel)) (pi_list (pv 1)) (blkOk_by (N := N_telling_way) (sc := defScope s_telling_way) (by decide +kernel)) (fun _ _ _ _ _ => (pg_name (i := 12) nd rfl (Or.inl rfl))) (fun _ _ _ _ _ => pts_nil) (fun _ _ _ _ _ => (pe_ix ix_seq (pv 2) (pv 12) (fun _ _ => rfl))))
  (pss_cons (ps_asg (pe_tup (pa_cons (pe_callTy cr_tup (by rfl) B.tuple (by decide +kernel) (pa_cons (pv 1) pa_nil)) (pa_cons (pe_callG h_parted_groups hr (by decide) (by rfl) (pa_cons (pe_lc (own := [("spot", 12)]) (by rfl) nd (pi_list (pv 1)) (blkOk_by (N := N_telling_way) (sc := defScope s_telling_way) (by decide +kernel)) (fun _ _ _ _ _ => (pg_name (i := 12) nd rfl (Or.inl rfl))) (fun _ _ _ _ _ => pts_nil) (fun _ _ _ _ _ => (pe_callB cr_len (by rfl) B.len PySem.boot_len (pa_cons (pe_ix ix_seq (pv 0) (pv 12) (fun _ _ => rfl)) pa_nil)))) pa_nil)) pa_nil))) (pg_name (i := 4) nd rfl (Or.inl rfl)))
  (pss_cons (ps_asg (pe_DNone hu (pv 4) (pe_tup pa_nil)) (pg_name (i := 5) nd rfl (Or.inl rfl)))
  (pss_cons (ps_asg (pe_lst (pa_cons (pv 4) pa_nil)) (pg_name (i := 6) nd rfl (Or.inl rfl)))
  (pss_cons (ps_while PassesOwn.never (pt_cmpR op_gt (pe_callB cr_len (by rfl) B.len PySem.boot_len (pa_cons (pv 6) pa_nil)) pe_int (nomark _))
  (pss_cons (ps_asg (pe_lst pa_nil) (pg_name (i := 7) nd rfl (Or.inl rfl)))
  (pss_cons (ps_for PassesOwn.never rfl (pi_list (pv 6)) (pg_tup (by rfl) (pgs_cons (pg_name (i := 8) nd rfl (Or.inl rfl)) (pgs_cons (pg_name (i := 9) nd rfl (Or.inl rfl)) pgs_nil)))
  (pss_cons (ps_if (pt_val (pe_callG h_is_told hr (by decide) (by rfl) (pa_cons (pv 9) (pa_cons (pv 3) pa_nil)))) (pss_one (ps_ret (pe_ix (ix_DN hu) (pv 5) (pe_tup (pa_cons (pv 8) (pa_cons (pv 9) pa_nil))) (fun _ _ => rfl)))) pss_nil)
  (pss_one (ps_for PassesOwn.never rfl (pi_enum (by rfl) B.enumerate (pa_cons (pe_callG h_steps_on hr (by decide) (by rfl) (pa_cons (pv 0) (pa_cons (pv 8) (pa_cons (pv 9) pa_nil)))) pa_nil)) (pg_tup (by rfl) (pgs_cons (pg_name (i := 10) nd rfl (Or.inl rfl)) (pgs_cons (pg_name (i := 11) nd rfl (Or.inl rfl)) pgs_nil)))
  (pss_one (ps_if (pt_cmpR (op_notInDN hu) (pv 11) (pv 5) (by rfl)) (pss_cons (ps_asg (pe_op op_catA (pe_ix (ix_DN hu) (pv 5) (pe_tup (pa_cons (pv 8) (pa_cons (pv 9) pa_nil))) (fun _ _ => rfl)) (pe_tup (pa_cons (pv 10) pa_nil))) (pg_sub (pv 5) (pv 11) (set_DN hu)))
  (pss_one (ps_expr (pe_bm PySem.F.plainAttrs_list PySem.F.slot_list_append PySem.F.type_list_append mt_append (pv 7) (pa_cons (pv 11) pa_nil))))) pss_nil))))))
  (pss_one (ps_asg (pv 7) (pg_name (i := 6) nd rfl (Or.inl rfl)))))))
  (pss_one (ps_ret pe_non)))))))))
theorem ok_telling_way (F : Df K mg "telling_way" s_telling_way) (B : Bt mg) (h_folds_by : Good P w K mg base "folds_by" 5 ["web"] (S_folds_by P w K)) (h_parted_groups : Good P w K mg base "parted_groups" 1 ["sights"] (S_parted_groups P w K)) (h_is_told : Good P w K mg base "is_told" 1 ["groups", "kinds_there"] (S_is_told P w K)) (h_steps_on : Good P w K mg base "steps_on" 2 ["web", "spots", "groups"] (S_steps_on P w K))
    (len : ∀ vs H Q E, S_telling_way P w K vs H Q E → vs.length = 2) (rd : ∀ vs H Q E, S_telling_way P w K vs H Q E → t_telling_way P w K { nx := fun _ J => Q .non J, rt := Q } (start N_telling_way vs) H) : Good P w K mg base "telling_way" 6 ["web", "some"] (S_telling_way P w K) := by
  obtain ⟨f, fd, F, hm⟩ := F
  have b := F.binds (ps := ["web", "some"]) fun _ _ _ _ _ _ us hl => match us, hl with | [_, _], _ => rfl
  refine ⟨f, fd, hm, F.kp, b, F.ok sc_telling_way (fun vs H Q E h => len vs H Q E h) (fun cdv A outer s H vs Q E hr h => ?_)⟩
  exact ⟨_, d_telling_way hr B h_folds_by h_parted_groups h_is_told h_steps_on, rd vs H Q E h⟩
abbrev s_Lends : Stmt := topS 31
abbrev N_Lends : List Str := ["_law_web_here", "_law_found", "_law_room", "_law_door"]
theorem sc_Lends : FnScope N_Lends ["_law_web_here"] (defScope s_Lends) := ⟨rfl, rfl, rfl, by decide +kernel, rfl, by decide +kernel, by decide +kernel⟩
theorem d_Lends {f : Addr} {cdv : Value} {A : Around} {outer : List Env} {s : Shared} {H : Hp} {E : XK} (hr : Room 0 (A.deeper (envOfC "_law_ends" (defScope s_Lends) s.heap.objs.size f cdv))) (B : Bt mg) :
    PSs (cxOf CX0 P w K mg base N_Lends "_law_ends" (defScope s_Lends) f cdv A outer s H E).nox (defBody s_Lends) (t_Lends P w K) := by
  have nd := sc_Lends.nd
  have hu := hr.units
  have hu1 := hu_of hr
  have hu65 := room65 hr
  exact (pss_cons (ps_asg (pe_lst pa_nil) (pg_name (i := 1) nd rfl (Or.inl rfl)))
  (pss_cons (ps_for PassesOwn.never rfl (pi_range1 (by rfl) B.range (pa_cons (pe_callB cr_len (by rfl) B.len PySem.boot_len (pa_cons (pv 0) pa_nil)) pa_nil)) (pg_name (i := 2) nd rfl (Or.inl rfl))
  (pss_one (ps_for PassesOwn.never rfl (pi_range1 (by rfl) B.range (pa_cons (pe_callB cr_len (by rfl) B.len PySem.boot_len (pa_cons (pe_ix ix_seq (pv 0) (pv 2) (fun _ _ => rfl)) pa_nil)) pa_nil)) (pg_name (i := 3) nd rfl (Or.inl rfl))
  (pss_one (ps_if (pt_cmpR (op_leT hr.units0) (pe_tup (pa_cons (pv 2) (pa_cons (pv 3) pa_nil))) (pe_ix ix_seq (pe_ix ix_seq (pv 0) (pv 2) (fun _ _ => rfl)) (pv 3) (fun _ _ => rfl)) (nomark _)) (pss_one (ps_expr (pe_bm PySem.F.plainAttrs_list PySem.F.slot_list_append PySem.F.type_list_append mt_append (pv 1) (pa_cons (pe_tup (pa_cons (pe_tup (pa_cons (pv 2) (pa_cons (pv 3) pa_nil))) (pa_cons (pe_ix ix_seq (pe_ix ix_seq (pv 0) (pv 2) (fun _ _ => rfl)) (pv 3) (fun _ _ => rfl)) pa_nil))) pa_nil)))) pss_nil)))))
  (pss_one (ps_ret (pv 1)))))
theorem ok_Lends (F : Df K mg "_law_ends" s_Lends) (B : Bt mg)
    (len : ∀ vs H Q E, S_Lends P w K vs H Q E → vs.length = 1) (rd : ∀ vs H Q E, S_Lends P w K vs H Q E → t_Lends P w K { nx := fun _ J => Q .non J, rt := Q } (start N_Lends vs) H) : Good P w K mg base "_law_ends" 1 ["_law_web_here"] (S_Lends P w K) := by
  obtain ⟨f, fd, F, hm⟩ := F
  have b := F.binds (ps := ["_law_web_here"]) fun _ _ _ _ _ _ us hl => match us, hl with | [_], _ => rfl
  refine ⟨f, fd, hm, F.kp, b, F.ok sc_Lends (fun vs H Q E h => len vs H Q E h) (fun cdv A outer s H vs Q E hr h => ?_)⟩
  exact ⟨_, d_Lends hr B, rd vs H Q E h⟩
abbrev s_Lkinds : Stmt := topS 38
abbrev N_Lkinds : List Str := ["_law_web_here", "_law_marks", "_law_turn_here", "_law_made", "_law_room", "_law_some", "_law_doors", "_law_one", "_law_other", "_law_door"]
theorem sc_Lkinds : FnScope N_Lkinds ["_law_web_here"] (defScope s_Lkinds) := ⟨rfl, rfl, rfl, by decide +kernel, rfl, by decide +kernel, by decide +kernel⟩
theorem d_Lkinds {f : Addr} {cdv : Value} {A : Around} {outer : List Env} {s : Shared} {H : Hp} {E : XK} (hr : Room 0 (A.deeper (envOfC "_law_kinds" (defScope s_Lkinds) s.heap.objs.size f cdv))) (B : Bt mg) :
    PSs (cxOf CX0 P w K mg base N_Lkinds "_law_kinds" (defScope s_Lkinds) f cdv A outer s H E).nox (defBody s_Lkinds) (t_Lkinds P w K) := by
  have nd := sc_Lkinds.nd
  have hu := hr.units
  have hu1 := hu_of hr
  have hu65 := room65 hr
  exact (pss_cons (ps_asg (pe_lc (own := [("_law_doors", 6)]) (by rfl) nd (pi_tup (pv 0)) (blkOk_by (N := N_Lkinds) (sc := defScope s_Lkinds) (by decide +kernel)) (fun _ _ _ _ _ => (pg_name (i := 6) nd rfl (Or.inl rfl))) (fun _ _ _ _ _ => pts_nil) (fun _ _ _ _ _ => (pe_callB cr_len (by rfl) B.len PySem.boot_len (pa_cons (pv 6) pa_nil)))) (pg_name (i := 1) nd rfl (Or.inr rfl)))
  (pss_cons (ps_for PassesOwn.never rfl (pi_range1 (by rfl) B.range (pa_cons (pe_callB cr_len (by rfl) B.len PySem.boot_len (pa_cons (pv 0) pa_nil)) pa_nil)) (pg_name (i := 2) nd rfl (Or.inl rfl))
  (pss_cons (ps_asg (pe_lst pa_nil) (pg_name (i := 3) nd rfl (Or.inl rfl)))
  (pss_cons (ps_for PassesOwn.never rfl (pi_range1 (by rfl) B.range (pa_cons (pe_callB cr_len (by rfl) B.len PySem.boot_len (pa_cons (pv 0) pa_nil)) pa_nil)) (pg_name (i := 4) nd rfl (Or.inl rfl))
  (pss_one (ps_expr (pe_bm PySem.F.plainAttrs_list PySem.F.slot_list_append PySem.F.type_list_append mt_append (pv 3) (pa_cons (pe_tup (pa_cons (pe_ix ix_seq (pv 1) (pv 4) (fun _ _ => rfl)) (pa_cons (pe_callTy cr_tup (by rfl) B.tuple (by decide +kernel) (pa_cons (pe_lc (own := [("_law_other", 8), ("_law_door", 9)]) (by rfl) nd (pi_tup (pe_ix ix_seq (pv 0) (pv 4) (fun _ _ => rfl))) (blkOk_by (N := N_Lkinds) (sc := defScope s_Lkinds) (by decide +kernel)) (fun _ _ _ _ _ => (pg_tup (by rfl) (pgs_cons (pg_name (i := 8) nd rfl (Or.inl rfl)) (pgs_cons (pg_name (i := 9) nd rfl (Or.inl rfl)) pgs_nil)))) (fun _ _ _ _ _ => pts_nil) (fun _ _ _ _ _ => (pe_tup (pa_cons (pv 9) (pa_cons (pe_ix ix_seq (pv 1) (pv 8) (fun _ _ => rfl)) pa_nil))))) pa_nil)) pa_nil))) pa_nil)))))
  (pss_cons (ps_asg (pe_sortSet hu (by rfl) (by rfl) B.sorted (by rfl) B.set (pv 3)) (pg_name (i := 5) nd rfl (Or.inr rfl)))
  (pss_one (ps_asg (pe_lc (own := [("_law_one", 7)]) (by rfl) nd (pi_list (pv 3)) (blkOk_by (N := N_Lkinds) (sc := defScope s_Lkinds) (by decide +kernel)) (fun _ _ _ _ _ => (pg_name (i := 7) nd rfl (Or.inl rfl))) (fun _ _ _ _ _ => pts_nil) (fun _ _ _ _ _ => (pe_bm PySem.F.plainAttrs_list PySem.F.slot_list_index PySem.F.type_list_index (mt_indexD hu65) (pv 5) (pa_cons (pv 7) pa_nil)))) (pg_name (i := 1) nd rfl (Or.inr rfl))))))))
  (pss_one (ps_ret (pv 1)))))
theorem ok_Lkinds (F : Df K mg "_law_kinds" s_Lkinds) (B : Bt mg)
    (len : ∀ vs H Q E, S_Lkinds P w K vs H Q E → vs.length = 1) (rd : ∀ vs H Q E, S_Lkinds P w K vs H Q E → t_Lkinds P w K { nx := fun _ J => Q .non J, rt := Q } (start N_Lkinds vs) H) : Good P w K mg base "_law_kinds" 1 ["_law_web_here"] (S_Lkinds P w K) := by
  obtain ⟨f, fd, F, hm⟩ := F
  have b := F.binds (ps := ["_law_web_here"]) fun _ _ _ _ _ _ us hl => match us, hl with | [_], _ => rfl
  refine ⟨f, fd, hm, F.kp, b, F.ok sc_Lkinds (fun vs H Q E h => len vs H Q E h) (fun cdv A outer s H vs Q E hr h => ?_)⟩
  exact ⟨_, d_Lkinds hr B, rd vs H Q E h⟩
abbrev s_Lhome_right : Stmt := topS 45
abbrev N_Lhome_right : List Str := ["_law_web_here", "_law_story", "_law_pairs", "_law_found", "_law_first", "_law_last"]
theorem sc_Lhome_right : FnScope N_Lhome_right ["_law_web_here", "_law_story"] (defScope s_Lhome_right) := ⟨rfl, rfl, rfl, by decide +kernel, rfl, by decide +kernel, by decide +kernel⟩
theorem d_Lhome_right {f : Addr} {cdv : Value} {A : Around} {outer : List Env} {s : Shared} {H : Hp} {E : XK} (hr : Room 4 (A.deeper (envOfC "_law_home_right" (defScope s_Lhome_right) s.heap.objs.size f cdv))) (B : Bt mg) (h_Lfitting : Good P w K mg base "_law_fitting" 2 ["_law_web_here", "_law_story"] (S_Lfitting P w K)) (h_way_home : Good P w K mg base "way_home" 4 ["web", "story"] (S_way_home P w K)) (h_stands : Good P w K mg base "stands" 3 ["web", "story"] (S_stands P w K)) (h_Lhome : Good P w K mg base "_law_home" 1 ["_law_web_here", "_law_pairs"] (S_Lhome P w K)) (h_Lsight : Good P w K mg base "_law_sight" 1 ["_law_web_here", "_law_room", "_law_way_here"] (S_Lsight P w K)) :
    PSs (cxOf CX0 P w K mg base N_Lhome_right "_law_home_right" (defScope s_Lhome_right) f cdv A outer s H E).nox (defBody s_Lhome_right) (t_Lhome_right P w K) := by
  have nd := sc_Lhome_right.nd
  have hu := hr.units
  have hu1 := hu_of hr
  have hu65 := room65 hr
  exact (pss_cons (ps_asg (pe_callG h_Lfitting hr (by decide) (by rfl) (pa_cons (pv 0) (pa_cons (pv 1) pa_nil))) (pg_name (i := 2) nd rfl (Or.inl rfl)))
  (pss_cons (ps_asg (pe_callG h_way_home hr (by decide) (by rfl) (pa_cons (pv 0) (pa_cons (pv 1) pa_nil))) (pg_name (i := 3) nd rfl (Or.inr rfl)))
  (pss_cons (ps_if (pt_cmpR (op_neD hu) (pe_callG h_stands hr (by decide) (by rfl) (pa_cons (pv 0) (pa_cons (pv 1) pa_nil))) (pv 2) (nomark _)) (pss_one (ps_ret pe_bl)) pss_nil)
  (pss_cons (ps_if (pt_cmpR (op_eqD hu) (pv 2) (pe_lst pa_nil) (nomark _)) (pss_one (ps_ret (pe_cmpR op_isN (pv 3) pe_non (nomark _)))) pss_nil)
  (pss_cons (ps_if (PW.pt (pw_or (pt_not (pt_val (pe_callB call_isi (by rfl) B.isinstance (by decide +kernel) (pa_cons (pv 3) (pa_cons (pe_bltn (by rfl) B.tuple (by decide +kernel) rfl) pa_nil))))) (pw_or (pt_cmpR op_gt (pe_callB cr_len (by rfl) B.len PySem.boot_len (pa_cons (pv 3) pa_nil)) (pe_callB cr_len (by rfl) B.len PySem.boot_len (pa_cons (pe_ix ix_seq (pv 1) pe_int (fun _ _ => rfl)) pa_nil)) (nomark _)) (pw_or1 (pt_cmpR (op_neD hu) (pv 3) (pe_callG h_Lhome hr (by decide) (by rfl) (pa_cons (pv 0) (pa_cons (pv 2) pa_nil))) (nomark _)))))) (pss_one (ps_ret pe_bl)) pss_nil)
  (pss_one (ps_ret (pe_callB (cr_all (by rfl)) (by rfl) B.all (by decide +kernel) (pa_cons (pe_lc (own := [("_law_first", 4), ("_law_last", 5)]) (by rfl) nd (pi_list (pv 2)) (blkOk_by (N := N_Lhome_right) (sc := defScope s_Lhome_right) (by decide +kernel)) (fun _ _ _ _ _ => (pg_tup (by rfl) (pgs_cons (pg_name (i := 4) nd rfl (Or.inl rfl)) (pgs_cons (pg_name (i := 5) nd rfl (Or.inl rfl)) pgs_nil)))) (fun _ _ _ _ _ => pts_nil) (fun _ _ _ _ _ => (pe_cmpR (op_eqD hu) (pe_ix ix_seq (pe_callG h_Lsight hr (by decide) (by rfl) (pa_cons (pv 0) (pa_cons (pv 5) (pa_cons (pv 3) pa_nil)))) pe_int (fun _ _ => rfl)) (pv 4) (nomark _)))) pa_nil)))))))))
theorem ok_Lhome_right (F : Df K mg "_law_home_right" s_Lhome_right) (B : Bt mg) (h_Lfitting : Good P w K mg base "_law_fitting" 2 ["_law_web_here", "_law_story"] (S_Lfitting P w K)) (h_way_home : Good P w K mg base "way_home" 4 ["web", "story"] (S_way_home P w K)) (h_stands : Good P w K mg base "stands" 3 ["web", "story"] (S_stands P w K)) (h_Lhome : Good P w K mg base "_law_home" 1 ["_law_web_here", "_law_pairs"] (S_Lhome P w K)) (h_Lsight : Good P w K mg base "_law_sight" 1 ["_law_web_here", "_law_room", "_law_way_here"] (S_Lsight P w K))
    (len : ∀ vs H Q E, S_Lhome_right P w K vs H Q E → vs.length = 2) (rd : ∀ vs H Q E, S_Lhome_right P w K vs H Q E → t_Lhome_right P w K { nx := fun _ J => Q .non J, rt := Q } (start N_Lhome_right vs) H) : Good P w K mg base "_law_home_right" 5 ["_law_web_here", "_law_story"] (S_Lhome_right P w K) := by
  obtain ⟨f, fd, F, hm⟩ := F
  have b := F.binds (ps := ["_law_web_here", "_law_story"]) fun _ _ _ _ _ _ us hl => match us, hl with | [_, _], _ => rfl
  refine ⟨f, fd, hm, F.kp, b, F.ok sc_Lhome_right (fun vs H Q E h => len vs H Q E h) (fun cdv A outer s H vs Q E hr h => ?_)⟩
  exact ⟨_, d_Lhome_right hr B h_Lfitting h_way_home h_stands h_Lhome h_Lsight, rd vs H Q E h⟩
end
end Wk
/-! WXs5 -/
namespace Wk
set_option maxHeartbeats 4000000
open PySem PySem.Spec PyProof.Rows L2 Evl
section
variable {P : Program} {w : World} {K : PySem.W.Frag} {mg : Str → Option Value} {base : Heap}
abbrev s_gone : Stmt := topS 7
abbrev N_gone : List Str := ["web", "room", "way", "came", "door"]
theorem sc_gone : FnScope N_gone ["web", "room", "way"] (defScope s_gone) := ⟨rfl, rfl, rfl, by decide +kernel, rfl, by decide +kernel, by decide +kernel⟩
theorem d_gone {f : Addr} {cdv : Value} {A : Around} {outer : List Env} {s : Shared} {H : Hp} {E : XK} (hr : Room 0 (A.deeper (envOfC "gone" (defScope s_gone) s.heap.objs.size f cdv))) (B : Bt mg) :
    PSs (cxOf CX0 P w K mg base N_gone "gone" (defScope s_gone) f cdv A outer s H E).nox (defBody s_gone) (t_gone P w K) := by
  have nd := sc_gone.nd
  have hu := hr.units
  have hu1 := hu_of hr
  have hu65 := room65 hr
  exact (pss_cons (ps_asg pe_non (pg_name (i := 3) nd rfl (Or.inl rfl)))
  (pss_cons (ps_for PassesOwn.never rfl (pi_tup (pv 2)) (pg_name (i := 4) nd rfl (Or.inl rfl))
  (pss_cons (ps_if (pt_cmpR op_ge (pv 4) (pe_callB cr_len (by rfl) B.len PySem.boot_len (pa_cons (pe_ix ix_seq (pv 0) (pv 1) (fun _ _ => rfl)) pa_nil)) (nomark _)) (pss_one (ps_ret pe_non)) pss_nil)
  (pss_one (ps_asg (pe_ix ix_seq (pe_ix ix_seq (pv 0) (pv 1) (fun _ _ => rfl)) (pv 4) (fun _ _ => rfl)) (pg_tup (by rfl) (pgs_cons (pg_name (i := 1) nd rfl (Or.inl rfl)) (pgs_cons (pg_name (i := 3) nd rfl (Or.inl rfl)) pgs_nil)))))))
  (pss_one (ps_ret (pe_tup (pa_cons (pv 1) (pa_cons (pv 3) pa_nil)))))))
theorem ok_gone (F : Df K mg "gone" s_gone) (B : Bt mg)
    (len : ∀ vs H Q E, S_gone P w K vs H Q E → vs.length = 3) (rd : ∀ vs H Q E, S_gone P w K vs H Q E → t_gone P w K { nx := fun _ J => Q .non J, rt := Q } (start N_gone vs) H) : Good P w K mg base "gone" 1 ["web", "room", "way"] (S_gone P w K) := by
  obtain ⟨f, fd, F, hm⟩ := F
  have b := F.binds (ps := ["web", "room", "way"]) fun _ _ _ _ _ _ us hl => match us, hl with | [_, _, _], _ => rfl
  refine ⟨f, fd, hm, F.kp, b, F.ok sc_gone (fun vs H Q E h => len vs H Q E h) (fun cdv A outer s H vs Q E hr h => ?_)⟩
  exact ⟨_, d_gone hr B, rd vs H Q E h⟩
abbrev s_stands : Stmt := topS 16
abbrev N_stands : List Str := ["web", "story", "way", "room"]
theorem sc_stands : FnScope N_stands ["web", "story"] (defScope s_stands) := ⟨rfl, rfl, rfl, by decide +kernel, rfl, by decide +kernel, by decide +kernel⟩
theorem d_stands {f : Addr} {cdv : Value} {A : Around} {outer : List Env} {s : Shared} {H : Hp} {E : XK} (hr : Room 2 (A.deeper (envOfC "stands" (defScope s_stands) s.heap.objs.size f cdv))) (B : Bt mg) (h_story_way : Good P w K mg base "story_way" 1 ["story"] (S_story_way P w K)) (h_fits : Good P w K mg base "fits" 2 ["web", "room", "story"] (S_fits P w K)) (h_gone : Good P w K mg base "gone" 1 ["web", "room", "way"] (S_gone P w K)) :
    PSs (cxOf CX0 P w K mg base N_stands "stands" (defScope s_stands) f cdv A outer s H E).nox (defBody s_stands) (t_stands P w K) := by
  have nd := sc_stands.nd
  have hu := hr.units
  have hu1 := hu_of hr
  have hu65 := room65 hr
  exact (pss_cons (ps_asg (pe_callG h_story_way hr (by decide) (by rfl) (pa_cons (pv 1) pa_nil)) (pg_name (i := 2) nd rfl (Or.inr rfl)))
  (pss_one (ps_ret (pe_lc (own := [("room", 3)]) (by rfl) nd (pi_range1 (by rfl) B.range (pa_cons (pe_callB cr_len (by rfl) B.len PySem.boot_len (pa_cons (pv 0) pa_nil)) pa_nil)) (blkOk_by (N := N_stands) (sc := defScope s_stands) (by decide +kernel)) (fun _ _ _ _ _ => (pg_name (i := 3) nd rfl (Or.inl rfl))) (fun _ _ _ _ _ => (pts_one (pt_val (pe_callG h_fits hr (by decide) (by rfl) (pa_cons (pv 0) (pa_cons (pv 3) (pa_cons (pv 1) pa_nil))))))) (fun _ _ _ _ _ => (pe_tup (pa_cons (pv 3) (pa_cons (pe_ix ix_seq (pe_callG h_gone hr (by decide) (by rfl) (pa_cons (pv 0) (pa_cons (pv 3) (pa_cons (pv 2) pa_nil)))) pe_int (fun _ _ => rfl)) pa_nil))))))))
theorem ok_stands (F : Df K mg "stands" s_stands) (B : Bt mg) (h_story_way : Good P w K mg base "story_way" 1 ["story"] (S_story_way P w K)) (h_fits : Good P w K mg base "fits" 2 ["web", "room", "story"] (S_fits P w K)) (h_gone : Good P w K mg base "gone" 1 ["web", "room", "way"] (S_gone P w K))
    (len : ∀ vs H Q E, S_stands P w K vs H Q E → vs.length = 2) (rd : ∀ vs H Q E, S_stands P w K vs H Q E → t_stands P w K { nx := fun _ J => Q .non J, rt := Q } (start N_stands vs) H) : Good P w K mg base "stands" 3 ["web", "story"] (S_stands P w K) := by
  obtain ⟨f, fd, F, hm⟩ := F
  have b := F.binds (ps := ["web", "story"]) fun _ _ _ _ _ _ us hl => match us, hl with | [_, _], _ => rfl
  refine ⟨f, fd, hm, F.kp, b, F.ok sc_stands (fun vs H Q E h => len vs H Q E h) (fun cdv A outer s H vs Q E hr h => ?_)⟩
  exact ⟨_, d_stands hr B h_story_way h_fits h_gone, rd vs H Q E h⟩
abbrev s_Lbox : Stmt := topS 25
abbrev N_Lbox : List Str := ["_law_script", "_law_k", "_law_cell"]
theorem sc_Lbox : FnScope N_Lbox ["_law_script", "_law_k"] (defScope s_Lbox) := ⟨rfl, rfl, rfl, by decide +kernel, rfl, by decide +kernel, by decide +kernel⟩
theorem d_Lbox {f : Addr} {cdv : Value} {A : Around} {outer : List Env} {s : Shared} {H : Hp} {E : XK} (hr : Room 0 (A.deeper (envOfC "_law_box" (defScope s_Lbox) s.heap.objs.size f cdv))) (B : Bt mg) :
    PSs (cxOf CX0 P w K mg base N_Lbox "_law_box" (defScope s_Lbox) f cdv A outer s H E).nox (defBody s_Lbox) (t_Lbox P w K) := by
  have nd := sc_Lbox.nd
  have hu := hr.units
  have hu1 := hu_of hr
  have hu65 := room65 hr
  exact (pss_cons (ps_asg (pe_ix ix_seq (pe_op op_cat (pv 0) (pe_op op_rep (pe_lst (pa_cons pe_int pa_nil)) (pe_op op_add (pv 1) pe_int))) (pv 1) (fun _ _ => rfl)) (pg_name (i := 2) nd rfl (Or.inl rfl)))
  (pss_one (ps_ret (pe_lst (pa_cons (pe_op op_mul (pe_callB cr_abs (by rfl) B.abs (by decide +kernel) (pa_cons (pv 2) pa_nil)) (pe_callTy cr_int (by rfl) B.int (by decide +kernel) (pa_cons (pe_cmpR op_ge (pe_callB cr_abs (by rfl) B.abs (by decide +kernel) (pa_cons (pv 2) pa_nil)) (pe_op op_pow pe_int pe_int) (nomark _)) pa_nil))) (pa_cons (pe_op op_modN (pe_op op_mul (pe_op op_add (pe_op op_add (pe_op op_modN (pv 2) pe_int) (pe_op op_mul pe_int (pv 1))) pe_int) pe_int) pe_int) (pa_cons pe_int pa_nil)))))))
theorem ok_Lbox (F : Df K mg "_law_box" s_Lbox) (B : Bt mg)
    (len : ∀ vs H Q E, S_Lbox P w K vs H Q E → vs.length = 2) (rd : ∀ vs H Q E, S_Lbox P w K vs H Q E → t_Lbox P w K { nx := fun _ J => Q .non J, rt := Q } (start N_Lbox vs) H) : Good P w K mg base "_law_box" 1 ["_law_script", "_law_k"] (S_Lbox P w K) := by
  obtain ⟨f, fd, F, hm⟩ := F
  have b := F.binds (ps := ["_law_script", "_law_k"]) fun _ _ _ _ _ _ us hl => match us, hl with | [_, _], _ => rfl
  refine ⟨f, fd, hm, F.kp, b, F.ok sc_Lbox (fun vs H Q E h => len vs H Q E h) (fun cdv A outer s H vs Q E hr h => ?_)⟩
  exact ⟨_, d_Lbox hr B, rd vs H Q E h⟩
abbrev s_Lreached : Stmt := topS 32
abbrev N_Lreached : List Str := ["_law_web_here", "_law_room", "_law_found", "_law_at", "_law_other", "_law_door"]
theorem sc_Lreached : FnScope N_Lreached ["_law_web_here", "_law_room"] (defScope s_Lreached) := ⟨rfl, rfl, rfl, by decide +kernel, rfl, by decide +kernel, by decide +kernel⟩
theorem d_Lreached {f : Addr} {cdv : Value} {A : Around} {outer : List Env} {s : Shared} {H : Hp} {E : XK} (hr : Room 0 (A.deeper (envOfC "_law_reached" (defScope s_Lreached) s.heap.objs.size f cdv))) (B : Bt mg) :
    PSs (cxOf CX0 P w K mg base N_Lreached "_law_reached" (defScope s_Lreached) f cdv A outer s H E).nox (defBody s_Lreached) (t_Lreached P w K) := by
  have nd := sc_Lreached.nd
  have hu := hr.units
  have hu1 := hu_of hr
  have hu65 := room65 hr
  exact (pss_cons (ps_asg (pe_lst (pa_cons (pv 1) pa_nil)) (pg_name (i := 2) nd rfl (Or.inl rfl)))
  (pss_cons (ps_asg pe_int (pg_name (i := 3) nd rfl (Or.inl rfl)))
  (pss_cons (ps_while PassesOwn.never (pt_cmpR op_lt (pv 3) (pe_callB cr_len (by rfl) B.len PySem.boot_len (pa_cons (pv 2) pa_nil)) (nomark _))
  (pss_cons (ps_for PassesOwn.never rfl (pi_tup (pe_ix ix_seq (pv 0) (pe_ix ix_seq (pv 2) (pv 3) (fun _ _ => rfl)) (fun _ _ => rfl))) (pg_tup (by rfl) (pgs_cons (pg_name (i := 4) nd rfl (Or.inl rfl)) (pgs_cons (pg_name (i := 5) nd rfl (Or.inl rfl)) pgs_nil)))
  (pss_one (ps_if (pt_cmpR op_notIn_seq (pv 4) (pv 2) (by rfl)) (pss_one (ps_expr (pe_bm PySem.F.plainAttrs_list PySem.F.slot_list_append PySem.F.type_list_append mt_append (pv 2) (pa_cons (pv 4) pa_nil)))) pss_nil)))
  (pss_one (ps_asg (pe_op op_add (pv 3) pe_int) (pg_name (i := 3) nd rfl (Or.inl rfl))))))
  (pss_one (ps_ret (pv 2))))))
theorem ok_Lreached (F : Df K mg "_law_reached" s_Lreached) (B : Bt mg)
    (len : ∀ vs H Q E, S_Lreached P w K vs H Q E → vs.length = 2) (rd : ∀ vs H Q E, S_Lreached P w K vs H Q E → t_Lreached P w K { nx := fun _ J => Q .non J, rt := Q } (start N_Lreached vs) H) : Good P w K mg base "_law_reached" 1 ["_law_web_here", "_law_room"] (S_Lreached P w K) := by
  obtain ⟨f, fd, F, hm⟩ := F
  have b := F.binds (ps := ["_law_web_here", "_law_room"]) fun _ _ _ _ _ _ us hl => match us, hl with | [_, _], _ => rfl
  refine ⟨f, fd, hm, F.kp, b, F.ok sc_Lreached (fun vs H Q E h => len vs H Q E h) (fun cdv A outer s H vs Q E hr h => ?_)⟩
  exact ⟨_, d_Lreached hr B, rd vs H Q E h⟩
abbrev s_Lline : Stmt := topS 39
abbrev N_Lline : List Str := ["_law_many", "_law_made", "_law_room", "_law_back", "_law_ahead"]
theorem sc_Lline : FnScope N_Lline ["_law_many"] (defScope s_Lline) := ⟨rfl, rfl, rfl, by decide +kernel, rfl, by decide +kernel, by decide +kernel⟩
theorem d_Lline {f : Addr} {cdv : Value} {A : Around} {outer : List Env} {s : Shared} {H : Hp} {E : XK} (hr : Room 0 (A.deeper (envOfC "_law_line" (defScope s_Lline) s.heap.objs.size f cdv))) (B : Bt mg) :
    PSs (cxOf CX0 P w K mg base N_Lline "_law_line" (defScope s_Lline) f cdv A outer s H E).nox (defBody s_Lline) (t_Lline P w K) := by
  have nd := sc_Lline.nd
  have hu := hr.units
  have hu1 := hu_of hr
  have hu65 := room65 hr
  exact (pss_cons (ps_asg (pe_lst pa_nil) (pg_name (i := 1) nd rfl (Or.inl rfl)))
  (pss_cons (ps_for PassesOwn.never rfl (pi_range1 (by rfl) B.range (pa_cons (pv 0) pa_nil)) (pg_name (i := 2) nd rfl (Or.inl rfl))
  (pss_cons (ps_asg (pe_ifExp (pt_cmpR op_gt (pv 2) pe_int (nomark _)) (pe_tup (pa_cons (pe_op op_sub (pv 2) pe_int) (pa_cons pe_int pa_nil))) (pe_tup (pa_cons pe_int (pa_cons pe_int pa_nil)))) (pg_name (i := 3) nd rfl (Or.inl rfl)))
  (pss_cons (ps_asg (pe_ifExp (pt_cmpR op_lt (pv 2) (pe_op op_sub (pv 0) pe_int) (nomark _)) (pe_tup (pa_cons (pe_op op_add (pv 2) pe_int) (pa_cons pe_int pa_nil))) (pe_tup (pa_cons (pv 2) (pa_cons pe_int pa_nil)))) (pg_name (i := 4) nd rfl (Or.inl rfl)))
  (pss_one (ps_expr (pe_bm PySem.F.plainAttrs_list PySem.F.slot_list_append PySem.F.type_list_append mt_append (pv 1) (pa_cons (pe_tup (pa_cons (pv 3) (pa_cons (pv 4) pa_nil))) pa_nil)))))))
  (pss_one (ps_ret (pe_callTy cr_tup (by rfl) B.tuple (by decide +kernel) (pa_cons (pv 1) pa_nil))))))
theorem ok_Lline (F : Df K mg "_law_line" s_Lline) (B : Bt mg)
    (len : ∀ vs H Q E, S_Lline P w K vs H Q E → vs.length = 1) (rd : ∀ vs H Q E, S_Lline P w K vs H Q E → t_Lline P w K { nx := fun _ J => Q .non J, rt := Q } (start N_Lline vs) H) : Good P w K mg base "_law_line" 1 ["_law_many"] (S_Lline P w K) := by
  obtain ⟨f, fd, F, hm⟩ := F
  have b := F.binds (ps := ["_law_many"]) fun _ _ _ _ _ _ us hl => match us, hl with | [_], _ => rfl
  refine ⟨f, fd, hm, F.kp, b, F.ok sc_Lline (fun vs H Q E h => len vs H Q E h) (fun cdv A outer s H vs Q E hr h => ?_)⟩
  exact ⟨_, d_Lline hr B, rd vs H Q E h⟩
abbrev s_Ltelling_right : Stmt := topS 46
abbrev N_Ltelling_right : List Str := ["_law_web_here", "_law_some", "_law_sorts", "_law_found", "_law_begin", "_law_room", "_law_doors"]
theorem sc_Ltelling_right : FnScope N_Ltelling_right ["_law_web_here", "_law_some"] (defScope s_Ltelling_right) := ⟨rfl, rfl, rfl, by decide +kernel, rfl, by decide +kernel, by decide +kernel⟩
theorem d_Ltelling_right {f : Addr} {cdv : Value} {A : Around} {outer : List Env} {s : Shared} {H : Hp} {E : XK} (hr : Room 6 (A.deeper (envOfC "_law_telling_right" (defScope s_Ltelling_right) s.heap.objs.size f cdv))) (B : Bt mg) (h_Lkinds : Good P w K mg base "_law_kinds" 1 ["_law_web_here"] (S_Lkinds P w K)) (h_telling_way : Good P w K mg base "telling_way" 6 ["web", "some"] (S_telling_way P w K)) (h_Lleast : Good P w K mg base "_law_least" 1 ["_law_web_here", "_law_begin", "_law_there"] (S_Lleast P w K)) :
    PSs (cxOf CX0 P w K mg base N_Ltelling_right "_law_telling_right" (defScope s_Ltelling_right) f cdv A outer s H E).nox (defBody s_Ltelling_right) (t_Ltelling_right P w K) := by
  have nd := sc_Ltelling_right.nd
  have hu := hr.units
  have hu1 := hu_of hr
  have hu65 := room65 hr
  exact (pss_cons (ps_asg (pe_callG h_Lkinds hr (by decide) (by rfl) (pa_cons (pv 0) pa_nil)) (pg_name (i := 2) nd rfl (Or.inr rfl)))
  (pss_cons (ps_asg (pe_callG h_telling_way hr (by decide) (by rfl) (pa_cons (pv 0) (pa_cons (pe_callTy cr_list (by rfl) B.list (by decide +kernel) (pa_cons (pv 1) pa_nil)) pa_nil))) (pg_name (i := 3) nd rfl (Or.inl rfl)))
  (pss_cons (ps_if (pt_cmpR op_lt (pe_callB cr_len (by rfl) B.len PySem.boot_len (pa_cons (pv 1) pa_nil)) pe_int (nomark _)) (pss_one (ps_ret (pe_cmpR (op_eqD hu) (pv 3) (pe_tup pa_nil) (nomark _)))) pss_nil)
  (pss_cons (ps_asg (pe_lc (own := [("_law_room", 5)]) (by rfl) nd (pi_list (pv 1)) (blkOk_by (N := N_Ltelling_right) (sc := defScope s_Ltelling_right) (by decide +kernel)) (fun _ _ _ _ _ => (pg_name (i := 5) nd rfl (Or.inl rfl))) (fun _ _ _ _ _ => pts_nil) (fun _ _ _ _ _ => (pe_callB cr_len (by rfl) B.len PySem.boot_len (pa_cons (pe_ix ix_seq (pv 0) (pv 5) (fun _ _ => rfl)) pa_nil)))) (pg_name (i := 4) nd rfl (Or.inr rfl)))
  (pss_cons (ps_asg (pe_tup (pa_cons (pe_callTy cr_tup (by rfl) B.tuple (by decide +kernel) (pa_cons (pv 1) pa_nil)) (pa_cons (pe_callTy cr_tup (by rfl) B.tuple (by decide +kernel) (pa_cons (pe_lc (own := [("_law_doors", 6)]) (by rfl) nd (pi_list (pv 4)) (blkOk_by (N := N_Ltelling_right) (sc := defScope s_Ltelling_right) (by decide +kernel)) (fun _ _ _ _ _ => (pg_name (i := 6) nd rfl (Or.inl rfl))) (fun _ _ _ _ _ => pts_nil) (fun _ _ _ _ _ => (pe_bm PySem.F.plainAttrs_list PySem.F.slot_list_index PySem.F.type_list_index (mt_indexD hu65) (pv 4) (pa_cons (pv 6) pa_nil)))) pa_nil)) pa_nil))) (pg_name (i := 4) nd rfl (Or.inr rfl)))
  (pss_one (ps_ret (pe_cmpR (op_eqD hu) (pv 3) (pe_callG h_Lleast hr (by decide) (by rfl) (pa_cons (pv 0) (pa_cons (pv 4) (pa_cons (pe_lc (own := [("_law_room", 5)]) (by rfl) nd (pi_list (pv 1)) (blkOk_by (N := N_Ltelling_right) (sc := defScope s_Ltelling_right) (by decide +kernel)) (fun _ _ _ _ _ => (pg_name (i := 5) nd rfl (Or.inl rfl))) (fun _ _ _ _ _ => pts_nil) (fun _ _ _ _ _ => (pe_ix ix_seq (pv 2) (pv 5) (fun _ _ => rfl)))) pa_nil)))) (nomark _)))))))))
theorem ok_Ltelling_right (F : Df K mg "_law_telling_right" s_Ltelling_right) (B : Bt mg) (h_Lkinds : Good P w K mg base "_law_kinds" 1 ["_law_web_here"] (S_Lkinds P w K)) (h_telling_way : Good P w K mg base "telling_way" 6 ["web", "some"] (S_telling_way P w K)) (h_Lleast : Good P w K mg base "_law_least" 1 ["_law_web_here", "_law_begin", "_law_there"] (S_Lleast P w K))
    (len : ∀ vs H Q E, S_Ltelling_right P w K vs H Q E → vs.length = 2) (rd : ∀ vs H Q E, S_Ltelling_right P w K vs H Q E → t_Ltelling_right P w K { nx := fun _ J => Q .non J, rt := Q } (start N_Ltelling_right vs) H) : Good P w K mg base "_law_telling_right" 7 ["_law_web_here", "_law_some"] (S_Ltelling_right P w K) := by
  obtain ⟨f, fd, F, hm⟩ := F
  have b := F.binds (ps := ["_law_web_here", "_law_some"]) fun _ _ _ _ _ _ us hl => match us, hl with | [_, _], _ => rfl
  refine ⟨f, fd, hm, F.kp, b, F.ok sc_Ltelling_right (fun vs H Q E h => len vs H Q E h) (fun cdv A outer s H vs Q E hr h => ?_)⟩
  exact ⟨_, d_Ltelling_right hr B h_Lkinds h_telling_way h_Lleast, rd vs H Q E h⟩
end
end Wk
/-! WXs6 -/
namespace Wk
set_option maxHeartbeats 4000000
open PySem PySem.Spec PyProof.Rows L2 Evl
section
variable {P : Program} {w : World} {K : PySem.W.Frag} {mg : Str → Option Value} {base : Heap}
abbrev s_seen : Stmt := topS 8
abbrev N_seen : List Str := ["web", "room", "way", "told", "door", "came"]
theorem sc_seen : FnScope N_seen ["web", "room", "way"] (defScope s_seen) := ⟨rfl, rfl, rfl, by decide +kernel, rfl, by decide +kernel, by decide +kernel⟩
theorem d_seen {f : Addr} {cdv : Value} {A : Around} {outer : List Env} {s : Shared} {H : Hp} {E : XK} (hr : Room 0 (A.deeper (envOfC "seen" (defScope s_seen) s.heap.objs.size f cdv))) (B : Bt mg) :
    PSs (cxOf CX0 P w K mg base N_seen "seen" (defScope s_seen) f cdv A outer s H E).nox (defBody s_seen) (t_seen P w K) := by
  have nd := sc_seen.nd
  have hu := hr.units
  have hu1 := hu_of hr
  have hu65 := room65 hr
  exact (pss_cons (ps_asg (pe_lst (pa_cons (pe_callB cr_len (by rfl) B.len PySem.boot_len (pa_cons (pe_ix ix_seq (pv 0) (pv 1) (fun _ _ => rfl)) pa_nil)) pa_nil)) (pg_name (i := 3) nd rfl (Or.inl rfl)))
  (pss_cons (ps_for PassesOwn.never rfl (pi_tup (pv 2)) (pg_name (i := 4) nd rfl (Or.inl rfl))
  (pss_cons (ps_if (pt_cmpR op_ge (pv 4) (pe_callB cr_len (by rfl) B.len PySem.boot_len (pa_cons (pe_ix ix_seq (pv 0) (pv 1) (fun _ _ => rfl)) pa_nil)) (nomark _)) (pss_one (ps_ret pe_non)) pss_nil)
  (pss_cons (ps_asg (pe_ix ix_seq (pe_ix ix_seq (pv 0) (pv 1) (fun _ _ => rfl)) (pv 4) (fun _ _ => rfl)) (pg_tup (by rfl) (pgs_cons (pg_name (i := 1) nd rfl (Or.inl rfl)) (pgs_cons (pg_name (i := 5) nd rfl (Or.inl rfl)) pgs_nil))))
  (pss_one (ps_expr (pe_bm PySem.F.plainAttrs_list PySem.F.slot_list_append PySem.F.type_list_append mt_append (pv 3) (pa_cons (pe_tup (pa_cons (pv 5) (pa_cons (pe_callB cr_len (by rfl) B.len PySem.boot_len (pa_cons (pe_ix ix_seq (pv 0) (pv 1) (fun _ _ => rfl)) pa_nil)) pa_nil))) pa_nil)))))))
  (pss_one (ps_ret (pe_callTy cr_tup (by rfl) B.tuple (by decide +kernel) (pa_cons (pv 3) pa_nil))))))
theorem ok_seen (F : Df K mg "seen" s_seen) (B : Bt mg)
    (len : ∀ vs H Q E, S_seen P w K vs H Q E → vs.length = 3) (rd : ∀ vs H Q E, S_seen P w K vs H Q E → t_seen P w K { nx := fun _ J => Q .non J, rt := Q } (start N_seen vs) H) : Good P w K mg base "seen" 1 ["web", "room", "way"] (S_seen P w K) := by
  obtain ⟨f, fd, F, hm⟩ := F
  have b := F.binds (ps := ["web", "room", "way"]) fun _ _ _ _ _ _ us hl => match us, hl with | [_, _, _], _ => rfl
  refine ⟨f, fd, hm, F.kp, b, F.ok sc_seen (fun vs H Q E h => len vs H Q E h) (fun cdv A outer s H vs Q E hr h => ?_)⟩
  exact ⟨_, d_seen hr B, rd vs H Q E h⟩
abbrev s_doors_of_all : Stmt := topS 18
abbrev N_doors_of_all : List Str := ["web", "spots", "spot"]
theorem sc_doors_of_all : FnScope N_doors_of_all ["web", "spots"] (defScope s_doors_of_all) := ⟨rfl, rfl, rfl, by decide +kernel, rfl, by decide +kernel, by decide +kernel⟩
theorem d_doors_of_all {f : Addr} {cdv : Value} {A : Around} {outer : List Env} {s : Shared} {H : Hp} {E : XK} (hr : Room 0 (A.deeper (envOfC "doors_of_all" (defScope s_doors_of_all) s.heap.objs.size f cdv))) (B : Bt mg) :
    PSs (cxOf CX0 P w K mg base N_doors_of_all "doors_of_all" (defScope s_doors_of_all) f cdv A outer s H E).nox (defBody s_doors_of_all) (t_doors_of_all P w K) := by
  have nd := sc_doors_of_all.nd
  have hu := hr.units
  have hu1 := hu_of hr
  have hu65 := room65 hr
  exact (pss_one (ps_ret (pe_callB (cr_min (by rfl)) (by rfl) B.min (by decide +kernel) (pa_cons (pe_lc (own := [("spot", 2)]) (by rfl) nd (pi_tup (pv 1)) (blkOk_by (N := N_doors_of_all) (sc := defScope s_doors_of_all) (by decide +kernel)) (fun _ _ _ _ _ => (pg_name (i := 2) nd rfl (Or.inl rfl))) (fun _ _ _ _ _ => pts_nil) (fun _ _ _ _ _ => (pe_callB cr_len (by rfl) B.len PySem.boot_len (pa_cons (pe_ix ix_seq (pv 0) (pv 2) (fun _ _ => rfl)) pa_nil)))) pa_nil))))
theorem ok_doors_of_all (F : Df K mg "doors_of_all" s_doors_of_all) (B : Bt mg)
    (len : ∀ vs H Q E, S_doors_of_all P w K vs H Q E → vs.length = 2) (rd : ∀ vs H Q E, S_doors_of_all P w K vs H Q E → t_doors_of_all P w K { nx := fun _ J => Q .non J, rt := Q } (start N_doors_of_all vs) H) : Good P w K mg base "doors_of_all" 1 ["web", "spots"] (S_doors_of_all P w K) := by
  obtain ⟨f, fd, F, hm⟩ := F
  have b := F.binds (ps := ["web", "spots"]) fun _ _ _ _ _ _ us hl => match us, hl with | [_, _], _ => rfl
  refine ⟨f, fd, hm, F.kp, b, F.ok sc_doors_of_all (fun vs H Q E h => len vs H Q E h) (fun cdv A outer s H vs Q E hr h => ?_)⟩
  exact ⟨_, d_doors_of_all hr B, rd vs H Q E h⟩
abbrev s_Ltake : Stmt := topS 26
abbrev N_Ltake : List Str := ["_law_box_here", "_law_many", "_law_found", "_law_once"]
theorem sc_Ltake : FnScope N_Ltake ["_law_box_here", "_law_many"] (defScope s_Ltake) := ⟨rfl, rfl, rfl, by decide +kernel, rfl, by decide +kernel, by decide +kernel⟩
theorem d_Ltake {f : Addr} {cdv : Value} {A : Around} {outer : List Env} {s : Shared} {H : Hp} {E : XK} (hr : Room 0 (A.deeper (envOfC "_law_take" (defScope s_Ltake) s.heap.objs.size f cdv))) (B : Bt mg) :
    PSs (cxOf CX0 P w K mg base N_Ltake "_law_take" (defScope s_Ltake) f cdv A outer s H E).nox (defBody s_Ltake) (t_Ltake P w K) := by
  have nd := sc_Ltake.nd
  have hu := hr.units
  have hu1 := hu_of hr
  have hu65 := room65 hr
  exact (pss_cons (ps_if (pt_cmpR op_gt (pe_ix ix_seq (pv 0) pe_int (fun _ _ => rfl)) pe_int (nomark _)) (pss_cons (ps_asg (pe_callB cr_divmod (by rfl) B.divmod (by decide +kernel) (pa_cons (pe_ix ix_seq (pv 0) pe_int (fun _ _ => rfl)) (pa_cons (pv 1) pa_nil))) (pg_tup (by rfl) (pgs_cons (pg_sub (pv 0) pe_int set_list) (pgs_cons (pg_name (i := 2) nd rfl (Or.inl rfl)) pgs_nil))))
  (pss_one (ps_ret (pv 2)))) pss_nil)
  (pss_cons (ps_asg (pe_op op_add (pe_ix ix_seq (pv 0) pe_int (fun _ _ => rfl)) pe_int) (pg_sub (pv 0) pe_int set_list))
  (pss_cons (ps_asg (pe_op op_modN (pe_op op_mul (pe_op op_add (pe_ix ix_seq (pv 0) pe_int (fun _ _ => rfl)) (pe_op op_mul pe_int (pe_ix ix_seq (pv 0) pe_int (fun _ _ => rfl)))) (pe_op op_add pe_int (pe_ix ix_seq (pv 0) pe_int (fun _ _ => rfl)))) pe_int) (pg_name (i := 3) nd rfl (Or.inl rfl)))
  (pss_cons (ps_asg (pe_op op_modN (pe_op op_add (pe_op op_mul (pv 3) (pe_op op_add (pe_op op_modN (pv 3) pe_int) pe_int)) (pe_ix ix_seq (pv 0) pe_int (fun _ _ => rfl))) pe_int) (pg_sub (pv 0) pe_int set_list))
  (pss_one (ps_ret (pe_op op_modN (pe_op op_fdiv (pe_op op_modN (pe_op op_mul (pe_ix ix_seq (pv 0) pe_int (fun _ _ => rfl)) (pe_op op_add (pe_op op_modN (pe_ix ix_seq (pv 0) pe_int (fun _ _ => rfl)) pe_int) pe_int)) pe_int) pe_int) (pv 1))))))))
theorem ok_Ltake (F : Df K mg "_law_take" s_Ltake) (B : Bt mg)
    (len : ∀ vs H Q E, S_Ltake P w K vs H Q E → vs.length = 2) (rd : ∀ vs H Q E, S_Ltake P w K vs H Q E → t_Ltake P w K { nx := fun _ J => Q .non J, rt := Q } (start N_Ltake vs) H) : Good P w K mg base "_law_take" 1 ["_law_box_here", "_law_many"] (S_Ltake P w K) := by
  obtain ⟨f, fd, F, hm⟩ := F
  have b := F.binds (ps := ["_law_box_here", "_law_many"]) fun _ _ _ _ _ _ us hl => match us, hl with | [_, _], _ => rfl
  refine ⟨f, fd, hm, F.kp, b, F.ok sc_Ltake (fun vs H Q E h => len vs H Q E h) (fun cdv A outer s H vs Q E hr h => ?_)⟩
  exact ⟨_, d_Ltake hr B, rd vs H Q E h⟩
abbrev s_Lsheeted : Stmt := topS 33
abbrev N_Lsheeted : List Str := ["_law_web_here", "_law_turns", "_law_many", "_law_made", "_law_t", "_law_one", "_law_other", "_law_k", "_law_spot", "_law_there", "_law_n", "_law_room"]
theorem sc_Lsheeted : FnScope N_Lsheeted ["_law_web_here", "_law_turns", "_law_many"] (defScope s_Lsheeted) := ⟨rfl, rfl, rfl, by decide +kernel, rfl, by decide +kernel, by decide +kernel⟩
theorem d_Lsheeted {f : Addr} {cdv : Value} {A : Around} {outer : List Env} {s : Shared} {H : Hp} {E : XK} (hr : Room 1 (A.deeper (envOfC "_law_sheeted" (defScope s_Lsheeted) s.heap.objs.size f cdv))) (B : Bt mg) (h_Lends : Good P w K mg base "_law_ends" 1 ["_law_web_here"] (S_Lends P w K)) :
    PSs (cxOf CX0 P w K mg base N_Lsheeted "_law_sheeted" (defScope s_Lsheeted) f cdv A outer s H E).nox (defBody s_Lsheeted) (t_Lsheeted P w K) := by
  have nd := sc_Lsheeted.nd
  have hu := hr.units
  have hu1 := hu_of hr
  have hu65 := room65 hr
  exact (pss_cons (ps_setLc (i := 3) (own := [("_law_n", 10)]) (by rfl) nd rfl rfl (sw_true rfl rfl rfl (by decide +kernel)) (pi_range1 (by rfl) B.range (pa_cons (pe_op op_mul (pv 2) (pe_callB cr_len (by rfl) B.len PySem.boot_len (pa_cons (pv 0) pa_nil))) pa_nil)) (blkOk_by (N := N_Lsheeted) (sc := defScope s_Lsheeted) (by decide +kernel)) (fun _ _ _ _ _ => (pg_name (i := 10) nd rfl (Or.inl rfl))) (fun _ _ _ _ _ => pts_nil) (fun _ _ _ _ _ => (pe_op op_rep (pe_lst (pa_cons pe_non pa_nil)) (pe_callB cr_len (by rfl) B.len PySem.boot_len (pa_cons (pe_ix ix_seq (pv 0) (pe_op op_modN (pv 10) (pe_callB cr_len (by rfl) B.len PySem.boot_len (pa_cons (pv 0) pa_nil))) (fun _ _ => rfl)) pa_nil)))))
  (pss_cons (ps_for PassesOwn.never rfl (pi_enum (by rfl) B.enumerate (pa_cons (pe_callG h_Lends hr (by decide) (by rfl) (pa_cons (pv 0) pa_nil)) pa_nil)) (pg_tup (by rfl) (pgs_cons (pg_name (i := 4) nd rfl (Or.inl rfl)) (pgs_cons (pg_tup (by rfl) (pgs_cons (pg_name (i := 5) nd rfl (Or.inl rfl)) (pgs_cons (pg_name (i := 6) nd rfl (Or.inl rfl)) pgs_nil))) pgs_nil)))
  (pss_one (ps_for PassesOwn.never rfl (pi_range1 (by rfl) B.range (pa_cons (pv 2) pa_nil)) (pg_name (i := 7) nd rfl (Or.inl rfl))
  (pss_cons (ps_asg (pe_op op_add (pe_ix ix_seq (pv 5) pe_int (fun _ _ => rfl)) (pe_op op_mul (pv 7) (pe_callB cr_len (by rfl) B.len PySem.boot_len (pa_cons (pv 0) pa_nil)))) (pg_name (i := 8) nd rfl (Or.inl rfl)))
  (pss_cons (ps_asg (pe_op op_add (pe_ix ix_seq (pv 6) pe_int (fun _ _ => rfl)) (pe_op op_mul (pe_ix ix_seq (pe_ix ix_seq (pv 1) (pv 4) (fun _ _ => rfl)) (pv 7) (fun _ _ => rfl)) (pe_callB cr_len (by rfl) B.len PySem.boot_len (pa_cons (pv 0) pa_nil)))) (pg_name (i := 9) nd rfl (Or.inl rfl)))
  (pss_cons (ps_asg (pe_tup (pa_cons (pv 9) (pa_cons (pe_ix ix_seq (pv 6) pe_int (fun _ _ => rfl)) pa_nil))) (pg_sub (pe_ix ix_seq (pv 3) (pv 8) (fun _ _ => rfl)) (pe_ix ix_seq (pv 5) pe_int (fun _ _ => rfl)) set_list))
  (pss_one (ps_asg (pe_tup (pa_cons (pv 8) (pa_cons (pe_ix ix_seq (pv 5) pe_int (fun _ _ => rfl)) pa_nil))) (pg_sub (pe_ix ix_seq (pv 3) (pv 9) (fun _ _ => rfl)) (pe_ix ix_seq (pv 6) pe_int (fun _ _ => rfl)) set_list)))))))))
  (pss_one (ps_ret (pe_callTy cr_tup (by rfl) B.tuple (by decide +kernel) (pa_cons (pe_lc (own := [("_law_room", 11)]) (by rfl) nd (pi_list (pv 3)) (blkOk_by (N := N_Lsheeted) (sc := defScope s_Lsheeted) (by decide +kernel)) (fun _ _ _ _ _ => (pg_name (i := 11) nd rfl (Or.inl rfl))) (fun _ _ _ _ _ => pts_nil) (fun _ _ _ _ _ => (pe_callTy cr_tup (by rfl) B.tuple (by decide +kernel) (pa_cons (pv 11) pa_nil)))) pa_nil))))))
theorem ok_Lsheeted (F : Df K mg "_law_sheeted" s_Lsheeted) (B : Bt mg) (h_Lends : Good P w K mg base "_law_ends" 1 ["_law_web_here"] (S_Lends P w K))
    (len : ∀ vs H Q E, S_Lsheeted P w K vs H Q E → vs.length = 3) (rd : ∀ vs H Q E, S_Lsheeted P w K vs H Q E → t_Lsheeted P w K { nx := fun _ J => Q .non J, rt := Q } (start N_Lsheeted vs) H) : Good P w K mg base "_law_sheeted" 2 ["_law_web_here", "_law_turns", "_law_many"] (S_Lsheeted P w K) := by
  obtain ⟨f, fd, F, hm⟩ := F
  have b := F.binds (ps := ["_law_web_here", "_law_turns", "_law_many"]) fun _ _ _ _ _ _ us hl => match us, hl with | [_, _, _], _ => rfl
  refine ⟨f, fd, hm, F.kp, b, F.ok sc_Lsheeted (fun vs H Q E h => len vs H Q E h) (fun cdv A outer s H vs Q E hr h => ?_)⟩
  exact ⟨_, d_Lsheeted hr B h_Lends, rd vs H Q E h⟩
abbrev s_Lsmall_web : Stmt := topS 40
abbrev N_Lsmall_web : List Str := ["_law_box_here", "_law_most", "_law_way_here", "_law_base"]
theorem sc_Lsmall_web : FnScope N_Lsmall_web ["_law_box_here", "_law_most"] (defScope s_Lsmall_web) := ⟨rfl, rfl, rfl, by decide +kernel, rfl, by decide +kernel, by decide +kernel⟩
theorem d_Lsmall_web {f : Addr} {cdv : Value} {A : Around} {outer : List Env} {s : Shared} {H : Hp} {E : XK} (hr : Room 3 (A.deeper (envOfC "_law_small_web" (defScope s_Lsmall_web) s.heap.objs.size f cdv))) (B : Bt mg) (h_Ltake : Good P w K mg base "_law_take" 1 ["_law_box_here", "_law_many"] (S_Ltake P w K)) (h_Lring : Good P w K mg base "_law_ring" 1 ["_law_many"] (S_Lring P w K)) (h_Lline : Good P w K mg base "_law_line" 1 ["_law_many"] (S_Lline P w K)) (h_Lweb : Good P w K mg base "_law_web" 3 ["_law_box_here", "_law_many", "_law_most"] (S_Lweb P w K)) (h_Lcovered : Good P w K mg base "_law_covered" 3 ["_law_box_here", "_law_web_here", "_law_many"] (S_Lcovered P w K)) :
    PSs (cxOf CX0 P w K mg base N_Lsmall_web "_law_small_web" (defScope s_Lsmall_web) f cdv A outer s H E).nox (defBody s_Lsmall_web) (t_Lsmall_web P w K) := by
  have nd := sc_Lsmall_web.nd
  have hu := hr.units
  have hu1 := hu_of hr
  have hu65 := room65 hr
  exact (pss_cons (ps_asg (pe_callG h_Ltake hr (by decide) (by rfl) (pa_cons (pv 0) (pa_cons pe_int pa_nil))) (pg_name (i := 2) nd rfl (Or.inl rfl)))
  (pss_cons (ps_if (pt_cmpR (op_eqD hu) (pv 2) pe_int (nomark _)) (pss_one (ps_ret (pe_callG h_Lring hr (by decide) (by rfl) (pa_cons (pe_op op_add pe_int (pe_callG h_Ltake hr (by decide) (by rfl) (pa_cons (pv 0) (pa_cons (pe_op op_sub (pv 1) pe_int) pa_nil)))) pa_nil)))) pss_nil)
  (pss_cons (ps_if (pt_cmpR (op_eqD hu) (pv 2) pe_int (nomark _)) (pss_one (ps_ret (pe_callG h_Lline hr (by decide) (by rfl) (pa_cons (pe_op op_add pe_int (pe_callG h_Ltake hr (by decide) (by rfl) (pa_cons (pv 0) (pa_cons (pe_op op_sub (pv 1) pe_int) pa_nil)))) pa_nil)))) pss_nil)
  (pss_cons (ps_if (pt_cmpR (op_eqD hu) (pv 2) pe_int (nomark _)) (pss_cons (ps_asg (pe_callG h_Lweb hr (by decide) (by rfl) (pa_cons (pv 0) (pa_cons (pe_op op_add pe_int (pe_callG h_Ltake hr (by decide) (by rfl) (pa_cons (pv 0) (pa_cons (pe_op op_fdiv (pv 1) pe_int) pa_nil)))) (pa_cons (pe_op op_add pe_int (pe_callG h_Ltake hr (by decide) (by rfl) (pa_cons (pv 0) (pa_cons pe_int pa_nil)))) pa_nil)))) (pg_name (i := 3) nd rfl (Or.inl rfl)))
  (pss_one (ps_ret (pe_callG h_Lcovered hr (by decide) (by rfl) (pa_cons (pv 0) (pa_cons (pv 3) (pa_cons (pe_op op_add pe_int (pe_callG h_Ltake hr (by decide) (by rfl) (pa_cons (pv 0) (pa_cons (pe_op op_sub (pe_op op_fdiv (pv 1) (pe_callB cr_len (by rfl) B.len PySem.boot_len (pa_cons (pv 3) pa_nil))) pe_int) pa_nil)))) pa_nil))))))) pss_nil)
  (pss_one (ps_ret (pe_callG h_Lweb hr (by decide) (by rfl) (pa_cons (pv 0) (pa_cons (pe_op op_add pe_int (pe_callG h_Ltake hr (by decide) (by rfl) (pa_cons (pv 0) (pa_cons (pe_op op_sub (pv 1) pe_int) pa_nil)))) (pa_cons (pe_op op_add pe_int (pe_callG h_Ltake hr (by decide) (by rfl) (pa_cons (pv 0) (pa_cons pe_int pa_nil)))) pa_nil))))))))))
theorem ok_Lsmall_web (F : Df K mg "_law_small_web" s_Lsmall_web) (B : Bt mg) (h_Ltake : Good P w K mg base "_law_take" 1 ["_law_box_here", "_law_many"] (S_Ltake P w K)) (h_Lring : Good P w K mg base "_law_ring" 1 ["_law_many"] (S_Lring P w K)) (h_Lline : Good P w K mg base "_law_line" 1 ["_law_many"] (S_Lline P w K)) (h_Lweb : Good P w K mg base "_law_web" 3 ["_law_box_here", "_law_many", "_law_most"] (S_Lweb P w K)) (h_Lcovered : Good P w K mg base "_law_covered" 3 ["_law_box_here", "_law_web_here", "_law_many"] (S_Lcovered P w K))
    (len : ∀ vs H Q E, S_Lsmall_web P w K vs H Q E → vs.length = 2) (rd : ∀ vs H Q E, S_Lsmall_web P w K vs H Q E → t_Lsmall_web P w K { nx := fun _ J => Q .non J, rt := Q } (start N_Lsmall_web vs) H) : Good P w K mg base "_law_small_web" 4 ["_law_box_here", "_law_most"] (S_Lsmall_web P w K) := by
  obtain ⟨f, fd, F, hm⟩ := F
  have b := F.binds (ps := ["_law_box_here", "_law_most"]) fun _ _ _ _ _ _ us hl => match us, hl with | [_, _], _ => rfl
  refine ⟨f, fd, hm, F.kp, b, F.ok sc_Lsmall_web (fun vs H Q E h => len vs H Q E h) (fun cdv A outer s H vs Q E hr h => ?_)⟩
  exact ⟨_, d_Lsmall_web hr B h_Ltake h_Lring h_Lline h_Lweb h_Lcovered, rd vs H Q E h⟩
abbrev s_Lbent : Stmt := topS 47
abbrev N_Lbent : List Str := ["_law_box_here", "_law_story", "_law_told", "_law_k", "_law_way_here", "_law_came", "_law_doors"]
theorem sc_Lbent : FnScope N_Lbent ["_law_box_here", "_law_story"] (defScope s_Lbent) := ⟨rfl, rfl, rfl, by decide +kernel, rfl, by decide +kernel, by decide +kernel⟩
theorem d_Lbent {f : Addr} {cdv : Value} {A : Around} {outer : List Env} {s : Shared} {H : Hp} {E : XK} (hr : Room 1 (A.deeper (envOfC "_law_bent" (defScope s_Lbent) s.heap.objs.size f cdv))) (B : Bt mg) (h_Ltake : Good P w K mg base "_law_take" 1 ["_law_box_here", "_law_many"] (S_Ltake P w K)) :
    PSs (cxOf CX0 P w K mg base N_Lbent "_law_bent" (defScope s_Lbent) f cdv A outer s H E).nox (defBody s_Lbent) (t_Lbent P w K) := by
  have nd := sc_Lbent.nd
  have hu := hr.units
  have hu1 := hu_of hr
  have hu65 := room65 hr
  exact (pss_cons (ps_asg (pe_callTy cr_list (by rfl) B.list (by decide +kernel) (pa_cons (pe_ix ix_seq (pv 1) pe_int (fun _ _ => rfl)) pa_nil)) (pg_name (i := 2) nd rfl (Or.inl rfl)))
  (pss_cons (ps_if (pt_cmpR (op_eqD hu) (pv 2) (pe_lst pa_nil) (nomark _)) (pss_one (ps_ret (pe_tup (pa_cons (pe_op op_add (pe_ix ix_seq (pv 1) pe_int (fun _ _ => rfl)) pe_int) (pa_cons (pe_ix ix_seq (pv 1) pe_int (fun _ _ => rfl)) pa_nil))))) pss_nil)
  (pss_cons (ps_asg (pe_callG h_Ltake hr (by decide) (by rfl) (pa_cons (pv 0) (pa_cons (pe_callB cr_len (by rfl) B.len PySem.boot_len (pa_cons (pv 2) pa_nil)) pa_nil))) (pg_name (i := 3) nd rfl (Or.inl rfl)))
  (pss_cons (ps_asg (pe_ix ix_seq (pv 2) (pv 3) (fun _ _ => rfl)) (pg_tup (by rfl) (pgs_cons (pg_name (i := 4) nd rfl (Or.inl rfl)) (pgs_cons (pg_name (i := 5) nd rfl (Or.inl rfl)) (pgs_cons (pg_name (i := 6) nd rfl (Or.inl rfl)) pgs_nil)))))
  (pss_cons (ps_asg (pe_ix ix_seq (pe_lst (pa_cons (pe_tup (pa_cons (pv 4) (pa_cons (pe_op op_add (pv 5) pe_int) (pa_cons (pv 6) pa_nil)))) (pa_cons (pe_tup (pa_cons (pv 4) (pa_cons (pv 5) (pa_cons (pe_op op_add (pv 6) pe_int) pa_nil)))) (pa_cons (pe_tup (pa_cons (pe_op op_add (pv 4) pe_int) (pa_cons (pv 5) (pa_cons (pv 6) pa_nil)))) pa_nil)))) (pe_callG h_Ltake hr (by decide) (by rfl) (pa_cons (pv 0) (pa_cons pe_int pa_nil))) (fun _ _ => rfl)) (pg_sub (pv 2) (pv 3) set_list))
  (pss_one (ps_ret (pe_tup (pa_cons (pe_ix ix_seq (pv 1) pe_int (fun _ _ => rfl)) (pa_cons (pe_callTy cr_tup (by rfl) B.tuple (by decide +kernel) (pa_cons (pv 2) pa_nil)) pa_nil))))))))))
theorem ok_Lbent (F : Df K mg "_law_bent" s_Lbent) (B : Bt mg) (h_Ltake : Good P w K mg base "_law_take" 1 ["_law_box_here", "_law_many"] (S_Ltake P w K))
    (len : ∀ vs H Q E, S_Lbent P w K vs H Q E → vs.length = 2) (rd : ∀ vs H Q E, S_Lbent P w K vs H Q E → t_Lbent P w K { nx := fun _ J => Q .non J, rt := Q } (start N_Lbent vs) H) : Good P w K mg base "_law_bent" 2 ["_law_box_here", "_law_story"] (S_Lbent P w K) := by
  obtain ⟨f, fd, F, hm⟩ := F
  have b := F.binds (ps := ["_law_box_here", "_law_story"]) fun _ _ _ _ _ _ us hl => match us, hl with | [_, _], _ => rfl
  refine ⟨f, fd, hm, F.kp, b, F.ok sc_Lbent (fun vs H Q E h => len vs H Q E h) (fun cdv A outer s H vs Q E hr h => ?_)⟩
  exact ⟨_, d_Lbent hr B h_Ltake, rd vs H Q E h⟩
end
end Wk
namespace Wk
open PySem PySem.Spec PyProof.Rows L2 Evl
set_option maxHeartbeats 4000000
abbrev DfX {K : PySem.W.Frag} {h : Heap} (_ : K.In h) (mg : Str → Option Value) (x : Str) (st : Stmt) : Prop := Df K mg x st
theorem df_mk {K : PySem.W.Frag} {h : Heap} {mg : Str → Option Value} {x : Str} {st : Stmt} {f : Addr} {od an : Option Addr} {sl : Array (Option Value)} {oc kV dc pm cd ct : Value} (X : K.In h) (G : h.Ns mainGlobals mg)
    (a : PySem.W.nsIn K mainGlobals x = some (some (.ref f))) (l : K.lookup f = some ⟨oc, od, .func (PySem.W.fnOf x x (defArgs st) (defBody st) (defScope st) .none kV dc pm an cd ct), sl⟩) (c : PySem.W.codeIn K cd x = true) (k : PySem.W.keepIn K (.ref f) = true) : Df K mg x st :=
  ⟨f, _, fun_mk (st := st) l c k, PySem.W.mg_of X G a⟩
theorem law_mk {l : PySem.W.OpenLaw} {w : World} {K : PySem.W.Frag} {h : Heap} {mg : Str → Option Value} {fa f4 : Addr} (X : K.In h) (G : h.Ns mainGlobals mg) (hfa : mg "law" = some (.ref fa))
    {od4 an4 : Option Addr} {sl4 : Array (Option Value)} {oc4 kV4 dc4 pm4 cd4 ct4 : Value} (B : Bt mg) (d_Lfolded : Df K mg "_law_folded" s_Lfolded) (d_Lbox : Df K mg "_law_box" s_Lbox) (d_Ltake : Df K mg "_law_take" s_Ltake) (d_Lring : Df K mg "_law_ring" s_Lring) (d_Lline : Df K mg "_law_line" s_Lline) (d_Ljoined : Df K mg "_law_joined" s_Ljoined) (d_Ldoors_put : Df K mg "_law_doors_put" s_Ldoors_put) (d_Lweb : Df K mg "_law_web" s_Lweb) (d_Lends : Df K mg "_law_ends" s_Lends) (d_Lturn : Df K mg "_law_turn" s_Lturn) (d_Lsheeted : Df K mg "_law_sheeted" s_Lsheeted) (d_Lreached : Df K mg "_law_reached" s_Lreached) (d_Lcovered : Df K mg "_law_covered" s_Lcovered) (d_Lsmall_web : Df K mg "_law_small_web" s_Lsmall_web) (d_Lway : Df K mg "_law_way" s_Lway) (d_seen : Df K mg "seen" s_seen) (d_story_of : Df K mg "story_of" s_story_of) (d_Lsight : Df K mg "_law_sight" s_Lsight) (d_Lfitting : Df K mg "_law_fitting" s_Lfitting) (d_story_way : Df K mg "story_way" s_story_way) (d_story_sight : Df K mg "story_sight" s_story_sight) (d_fits : Df K mg "fits" s_fits) (d_gone : Df K mg "gone" s_gone) (d_stands : Df K mg "stands" s_stands) (d_doors_of_all : Df K mg "doors_of_all" s_doors_of_all) (d_way_home : Df K mg "way_home" s_way_home) (d_Lhome : Df K mg "_law_home" s_Lhome) (d_Lhome_right : Df K mg "_law_home_right" s_Lhome_right) (d_Lbent : Df K mg "_law_bent" s_Lbent) (d_Lkinds : Df K mg "_law_kinds" s_Lkinds) (d_numbered_looks : Df K mg "numbered_looks" s_numbered_looks) (d_finer_looks : Df K mg "finer_looks" s_finer_looks) (d_alike_by : Df K mg "alike_by" s_alike_by) (d_kinds_by : Df K mg "kinds_by" s_kinds_by) (d_kinds : Df K mg "kinds" s_kinds) (d_folds_by : Df K mg "folds_by" s_folds_by) (d_parted_groups : Df K mg "parted_groups" s_parted_groups) (d_is_told : Df K mg "is_told" s_is_told) (d_steps_on : Df K mg "steps_on" s_steps_on) (d_telling_way : Df K mg "telling_way" s_telling_way) (d_Lleast : Df K mg "_law_least" s_Lleast) (d_Ltelling_right : Df K mg "_law_telling_right" s_Ltelling_right)
    (a4 : PySem.W.nsIn K mainGlobals "law" = some (some (.ref f4))) (l4 : K.lookup f4 = some ⟨oc4, od4, .func (PySem.W.fnOf "law" "law" (defArgs s_law) (defBody s_law) (defScope s_law) .none kV4 dc4 pm4 an4 cd4 ct4), sl4⟩) (c4 : PySem.W.codeIn K cd4 "law" = true) (k4 : PySem.W.keepIn K (.ref f4) = true) :
    ∃ fd : FuncData, (∀ (s : Shared) (v : Value), BindsTo s fd ⟨[v], []⟩ [("_law_script", v)]) ∧ ∀ base : Heap, K.In base → base.Ns mainGlobals mg → FnOk l.prog w K mg base CX0 8 fa fd ["_law_script"] (S_law l.prog w K) := by
  have e := hfa.symm.trans (PySem.W.mg_of X G a4)
  cases e
  refine ⟨PySem.W.fnOf "law" "law" (defArgs s_law) (defBody s_law) (defScope s_law) .none kV4 dc4 pm4 an4 cd4 ct4, fun s v => .of_eq rfl, fun base _ _ => ?_⟩
  have g_Lfolded : Good l.prog w K mg base "_law_folded" 1 ["_law_script", "_law_many"] (S_Lfolded l.prog w K) := ok_Lfolded d_Lfolded B  (fun vs H Q E h => by obtain ⟨_, _, rfl, _⟩ := h; rfl) (fun vs H Q E h => rd_Lfolded h)
  have g_Lbox : Good l.prog w K mg base "_law_box" 1 ["_law_script", "_law_k"] (S_Lbox l.prog w K) := ok_Lbox d_Lbox B  (fun vs H Q E h => by obtain ⟨_, _, _, rfl, _⟩ := h; rfl) (fun vs H Q E h => rd_Lbox h)
  have g_Ltake : Good l.prog w K mg base "_law_take" 1 ["_law_box_here", "_law_many"] (S_Ltake l.prog w K) := ok_Ltake d_Ltake B  (fun vs H Q E h => by obtain ⟨_, _, _, rfl, _⟩ := h; rfl) (fun vs H Q E h => rd_Ltake h)
  have g_Lring : Good l.prog w K mg base "_law_ring" 1 ["_law_many"] (S_Lring l.prog w K) := ok_Lring d_Lring B  (fun vs H Q E h => by obtain ⟨_, _, rfl, _⟩ := h; rfl) (fun vs H Q E h => rd_Lring h)
  have g_Lline : Good l.prog w K mg base "_law_line" 1 ["_law_many"] (S_Lline l.prog w K) := ok_Lline d_Lline B  (fun vs H Q E h => by obtain ⟨_, _, rfl, _⟩ := h; rfl) (fun vs H Q E h => rd_Lline h)
  have g_Ljoined : Good l.prog w K mg base "_law_joined" 1 ["_law_halves"] (S_Ljoined l.prog w K) := ok_Ljoined d_Ljoined B  (fun vs H Q E h => by obtain ⟨_, _, _, hd, _⟩ := h; exact dps_len hd) (fun vs H Q E h => rd_Ljoined h)
  have g_Ldoors_put : Good l.prog w K mg base "_law_doors_put" 2 ["_law_box_here", "_law_pairs", "_law_many"] (S_Ldoors_put l.prog w K) := ok_Ldoors_put d_Ldoors_put B g_Ltake g_Ljoined (fun vs H Q E h => by obtain ⟨_, _, _, _, _, _, rfl, _⟩ := h; rfl) (fun vs H Q E h => rd_Ldoors_put h)
  have g_Lweb : Good l.prog w K mg base "_law_web" 3 ["_law_box_here", "_law_many", "_law_most"] (S_Lweb l.prog w K) := ok_Lweb d_Lweb B g_Ltake g_Ldoors_put (fun vs H Q E h => by obtain ⟨_, _, _, _, _, rfl, _⟩ := h; rfl) (fun vs H Q E h => rd_Lweb h)
  have g_Lends : Good l.prog w K mg base "_law_ends" 1 ["_law_web_here"] (S_Lends l.prog w K) := ok_Lends d_Lends B  (fun vs H Q E h => spD_len h fun ds d r => by obtain ⟨_, _, rfl, _⟩ := r; rfl) (fun vs H Q E h => rd_Lends h)
  have g_Lturn : Good l.prog w K mg base "_law_turn" 2 ["_law_box_here", "_law_many", "_law_own"] (S_Lturn l.prog w K) := ok_Lturn d_Lturn B g_Ltake (fun vs H Q E h => by obtain ⟨_, _, _, _, _, rfl, _⟩ := h; rfl) (fun vs H Q E h => rd_Lturn h)
  have g_Lsheeted : Good l.prog w K mg base "_law_sheeted" 2 ["_law_web_here", "_law_turns", "_law_many"] (S_Lsheeted l.prog w K) := ok_Lsheeted d_Lsheeted B g_Lends (fun vs H Q E h => by obtain ⟨_, _, _, _, _, hd, _⟩ := h; exact dps_len hd) (fun vs H Q E h => rd_Lsheeted h)
  have g_Lreached : Good l.prog w K mg base "_law_reached" 1 ["_law_web_here", "_law_room"] (S_Lreached l.prog w K) := ok_Lreached d_Lreached B  (fun vs H Q E h => by obtain ⟨_, _, _, _, hd, _⟩ := h; exact dps_len hd) (fun vs H Q E h => rd_Lreached h)
  have g_Lcovered : Good l.prog w K mg base "_law_covered" 3 ["_law_box_here", "_law_web_here", "_law_many"] (S_Lcovered l.prog w K) := ok_Lcovered d_Lcovered B g_Lends g_Lturn g_Lsheeted g_Lreached (fun vs H Q E h => by obtain ⟨_, _, _, _, _, _, rfl, _⟩ := h; rfl) (fun vs H Q E h => rd_Lcovered h)
  have g_Lsmall_web : Good l.prog w K mg base "_law_small_web" 4 ["_law_box_here", "_law_most"] (S_Lsmall_web l.prog w K) := ok_Lsmall_web d_Lsmall_web B g_Ltake g_Lring g_Lline g_Lweb g_Lcovered (fun vs H Q E h => by obtain ⟨_, _, _, rfl, _⟩ := h; rfl) (fun vs H Q E h => rd_Lsmall_web h)
  have g_Lway : Good l.prog w K mg base "_law_way" 2 ["_law_box_here", "_law_web_here", "_law_room", "_law_most"] (S_Lway l.prog w K) := ok_Lway d_Lway B g_Ltake (fun vs H Q E h => by obtain ⟨_, _, _, _, _, _, _, rfl, _⟩ := h; rfl) (fun vs H Q E h => rd_Lway h)
  have g_seen : Good l.prog w K mg base "seen" 1 ["web", "room", "way"] (S_seen l.prog w K) := ok_seen d_seen B  (fun vs H Q E h => spD_len h fun ds d r => by obtain ⟨_, _, _, _, _, _, rfl, _⟩ := r; rfl) (fun vs H Q E h => rd_seen h)
  have g_story_of : Good l.prog w K mg base "story_of" 2 ["web", "room", "way"] (S_story_of l.prog w K) := ok_story_of d_story_of B g_seen (fun vs H Q E h => spD_len h fun ds d r => by obtain ⟨_, _, _, _, _, _, _, _, rfl, _⟩ := r; rfl) (fun vs H Q E h => rd_story_of h)
  have g_Lsight : Good l.prog w K mg base "_law_sight" 1 ["_law_web_here", "_law_room", "_law_way_here"] (S_Lsight l.prog w K) := ok_Lsight d_Lsight B  (fun vs H Q E h => spD_len h fun ds d r => by obtain ⟨_, _, _, _, _, _, rfl | rfl, _⟩ := r <;> rfl) (fun vs H Q E h => rd_Lsight h)
  have g_Lfitting : Good l.prog w K mg base "_law_fitting" 2 ["_law_web_here", "_law_story"] (S_Lfitting l.prog w K) := ok_Lfitting d_Lfitting B g_Lsight (fun vs H Q E h => spD_len h fun ds d r => by obtain ⟨_, _, _, _, rfl, _⟩ := r; rfl) (fun vs H Q E h => rd_Lfitting h)
  have g_story_way : Good l.prog w K mg base "story_way" 1 ["story"] (S_story_way l.prog w K) := ok_story_way d_story_way B  (fun vs H Q E h => spD_len h fun ds d r => by obtain ⟨_, _, rfl, _⟩ := r; rfl) (fun vs H Q E h => rd_story_way h)
  have g_story_sight : Good l.prog w K mg base "story_sight" 1 ["story"] (S_story_sight l.prog w K) := ok_story_sight d_story_sight B  (fun vs H Q E h => spD_len h fun ds d r => by obtain ⟨_, _, rfl, _⟩ := r; rfl) (fun vs H Q E h => rd_story_sight h)
  have g_fits : Good l.prog w K mg base "fits" 2 ["web", "room", "story"] (S_fits l.prog w K) := ok_fits d_fits B g_story_way g_seen g_story_sight (fun vs H Q E h => spD_len h fun ds d r => by obtain ⟨_, _, _, _, _, _, rfl, _⟩ := r; rfl) (fun vs H Q E h => rd_fits h)
  have g_gone : Good l.prog w K mg base "gone" 1 ["web", "room", "way"] (S_gone l.prog w K) := ok_gone d_gone B  (fun vs H Q E h => spD_len h fun ds d r => by obtain ⟨_, _, _, _, _, _, rfl, _⟩ := r; rfl) (fun vs H Q E h => rd_gone h)
  have g_stands : Good l.prog w K mg base "stands" 3 ["web", "story"] (S_stands l.prog w K) := ok_stands d_stands B g_story_way g_fits g_gone (fun vs H Q E h => spD_len h fun ds d r => by obtain ⟨_, _, _, _, rfl, _⟩ := r; rfl) (fun vs H Q E h => rd_stands h)
  have g_doors_of_all : Good l.prog w K mg base "doors_of_all" 1 ["web", "spots"] (S_doors_of_all l.prog w K) := ok_doors_of_all d_doors_of_all B  (fun vs H Q E h => spD_len h fun ds d r => by obtain ⟨_, _, _, _, _, _, rfl, _⟩ := r; rfl) (fun vs H Q E h => rd_doors_of_all h)
  have g_way_home : Good l.prog w K mg base "way_home" 4 ["web", "story"] (S_way_home l.prog w K) := ok_way_home d_way_home B g_stands g_doors_of_all (fun vs H Q E h => spD_len h fun ds d r => by obtain ⟨_, _, _, _, rfl, _⟩ := r; rfl) (fun vs H Q E h => rd_way_home h)
  have g_Lhome : Good l.prog w K mg base "_law_home" 1 ["_law_web_here", "_law_pairs"] (S_Lhome l.prog w K) := ok_Lhome d_Lhome B  (fun vs H Q E h => spD_len h fun ds d r => by obtain ⟨_, _, _, _, _, _, _, _, rfl, _⟩ := r; rfl) (fun vs H Q E h => rd_Lhome h)
  have g_Lhome_right : Good l.prog w K mg base "_law_home_right" 5 ["_law_web_here", "_law_story"] (S_Lhome_right l.prog w K) := ok_Lhome_right d_Lhome_right B g_Lfitting g_way_home g_stands g_Lhome g_Lsight (fun vs H Q E h => spD_len h fun ds d r => by obtain ⟨_, _, _, _, rfl, _⟩ := r; rfl) (fun vs H Q E h => rd_Lhome_right h)
  have g_Lbent : Good l.prog w K mg base "_law_bent" 2 ["_law_box_here", "_law_story"] (S_Lbent l.prog w K) := ok_Lbent d_Lbent B g_Ltake (fun vs H Q E h => by obtain ⟨_, _, _, _, _, rfl, _⟩ := h; rfl) (fun vs H Q E h => rd_Lbent h)
  have g_Lkinds : Good l.prog w K mg base "_law_kinds" 1 ["_law_web_here"] (S_Lkinds l.prog w K) := ok_Lkinds d_Lkinds B  (fun vs H Q E h => by obtain ⟨_, _, _, hd, _⟩ := h; exact dps_len hd) (fun vs H Q E h => rd_Lkinds h)
  have g_numbered_looks : Good l.prog w K mg base "numbered_looks" 1 ["looks"] (S_numbered_looks l.prog w K) := ok_numbered_looks d_numbered_looks B  (fun vs H Q E h => spD_len h fun ds d r => by rcases r with ⟨_, _, rfl, _⟩ | ⟨_, _, rfl, _⟩ <;> rfl) (fun vs H Q E h => rd_numbered_looks h)
  have g_finer_looks : Good l.prog w K mg base "finer_looks" 1 ["web", "numbers"] (S_finer_looks l.prog w K) := ok_finer_looks d_finer_looks B  (fun vs H Q E h => spD_len h fun ds d r => by obtain ⟨_, _, _, _, rfl, _⟩ := r; rfl) (fun vs H Q E h => rd_finer_looks h)
  have g_alike_by : Good l.prog w K mg base "alike_by" 2 ["web", "many"] (S_alike_by l.prog w K) := ok_alike_by d_alike_by B g_numbered_looks g_finer_looks (fun vs H Q E h => spD_len h fun ds d r => by obtain ⟨_, _, _, _, rfl, _⟩ := r; rfl) (fun vs H Q E h => rd_alike_by h)
  have g_kinds_by : Good l.prog w K mg base "kinds_by" 3 ["web", "many"] (S_kinds_by l.prog w K) := ok_kinds_by d_kinds_by B g_alike_by (fun vs H Q E h => spD_len h fun ds d r => by obtain ⟨_, _, _, _, rfl, _⟩ := r; rfl) (fun vs H Q E h => rd_kinds_by h)
  have g_kinds : Good l.prog w K mg base "kinds" 4 ["web"] (S_kinds l.prog w K) := ok_kinds d_kinds B g_kinds_by (fun vs H Q E h => spD_len h fun ds d r => by obtain ⟨_, _, rfl, _⟩ := r; rfl) (fun vs H Q E h => rd_kinds h)
  have g_folds_by : Good l.prog w K mg base "folds_by" 5 ["web"] (S_folds_by l.prog w K) := ok_folds_by d_folds_by B g_kinds (fun vs H Q E h => spD_len h fun ds d r => by obtain ⟨_, _, rfl, _⟩ := r; rfl) (fun vs H Q E h => rd_folds_by h)
  have g_parted_groups : Good l.prog w K mg base "parted_groups" 1 ["sights"] (S_parted_groups l.prog w K) := ok_parted_groups d_parted_groups B  (fun vs H Q E h => spD_len h fun ds d r => by obtain ⟨_, _, _, _, rfl, _⟩ := r; rfl) (fun vs H Q E h => rd_parted_groups h)
  have g_is_told : Good l.prog w K mg base "is_told" 1 ["groups", "kinds_there"] (S_is_told l.prog w K) := ok_is_told d_is_told B  (fun vs H Q E h => spD_len h fun ds d r => by obtain ⟨_, _, _, _, _, rfl, _⟩ := r; rfl) (fun vs H Q E h => rd_is_told h)
  have g_steps_on : Good l.prog w K mg base "steps_on" 2 ["web", "spots", "groups"] (S_steps_on l.prog w K) := ok_steps_on d_steps_on B g_doors_of_all g_parted_groups (fun vs H Q E h => spD_len h fun ds d r => by obtain ⟨_, _, _, _, _, _, _, rfl, _⟩ := r; rfl) (fun vs H Q E h => rd_steps_on h)
  have g_telling_way : Good l.prog w K mg base "telling_way" 6 ["web", "some"] (S_telling_way l.prog w K) := ok_telling_way d_telling_way B g_folds_by g_parted_groups g_is_told g_steps_on (fun vs H Q E h => spD_len h fun ds d r => by obtain ⟨_, _, _, _, _, rfl, _⟩ := r; rfl) (fun vs H Q E h => rd_telling_way h)
  have g_Lleast : Good l.prog w K mg base "_law_least" 1 ["_law_web_here", "_law_begin", "_law_there"] (S_Lleast l.prog w K) := ok_Lleast d_Lleast B  (fun vs H Q E h => spD_len h fun ds d r => by obtain ⟨_, _, _, _, _, _, _, _, _, rfl, _⟩ := r; rfl) (fun vs H Q E h => rd_Lleast h)
  have g_Ltelling_right : Good l.prog w K mg base "_law_telling_right" 7 ["_law_web_here", "_law_some"] (S_Ltelling_right l.prog w K) := ok_Ltelling_right d_Ltelling_right B g_Lkinds g_telling_way g_Lleast (fun vs H Q E h => spD_len h fun ds d r => by obtain ⟨_, _, _, _, _, rfl, _⟩ := r; rfl) (fun vs H Q E h => rd_Ltelling_right h)
  exact (fun_mk (st := s_law) l4 c4 k4).ok sc_law (fun vs H Q E h => by obtain ⟨_, _, rfl, _⟩ := h; rfl) (fun cdv A outer s H vs Q E hr h => ⟨_, d_law hr B g_Lfolded g_Lbox g_Lsmall_web g_Ltake g_Lway g_story_of g_Lhome_right g_Lbent g_Lturn g_Ltelling_right, rd_law h⟩)
theorem walk {l : PySem.W.OpenLaw} {q : Program} {loose : List Str} {XP : (Str → Option Value) → Heap → Prop} {YP : World → Heap → Prop} {d : DefRec} {K : Params → PySem.W.Frag} (hn : l.most = some 63) (hdf : d.params.defaults = [])
    (hY : ∀ (w : World) (h : Heap), YP w h → (K w.params).In h)
    (F : ∀ (w : World) (mg : Str → Option Value) (fa : Addr) (h : Heap), (K w.params).In h → h.Ns mainGlobals mg → mg d.name = some (.ref fa) →
      ∃ fd : FuncData, (∀ (s : Shared) (u : Value), BindsTo s fd ⟨[u], []⟩ [("_law_script", u)]) ∧ ∀ base : Heap, (K w.params).In base → base.Ns mainGlobals mg → FnOk l.prog w (K w.params) mg base CX0 8 fa fd ["_law_script"] (S_law l.prog w (K w.params))) :
    PySem.W.WalkO q loose XP YP l.row.toRowW d [] (fun f vs => PySem.call f vs) :=
  L2.walk_of (n := 63) (k := 8) (x := "_law_script") (CX := fun _ => CX0) (sp := fun w => S_law l.prog w (K w.params)) hn (by decide) hdf ⟨rfl, by decide, by decide⟩ hY F (fun _ _ a ns hl _ hS => ⟨a, ns, rfl, hS, hl, fun _ => rfl⟩) fun _ _ _ _ _ z => z
end Wk
open PySem PySem.W PyProof.Rows in
set_option maxRecDepth 100000 in
set_option maxHeartbeats 0 in
theorem PySem.Challenge.cw_stonewalker_k93_whole_home_from_wherever_holds : PySem.Challenge.rw_stonewalker_k93_whole_home_from_wherever.Holds := by
  w_on; o_law; k_head; (case hw => w_witness2)
  k_fill
  refine Wk.walk (l := PySem.Challenge.rw_stonewalker_k93_whole_home_from_wherever) rfl rfl (fun w h Y => PySem.W.kIn_of Y) ?F
  case F =>
    intro w mg fa h KX G hmg
    have b_len : mg "len" = none := by
      refine' PySem.W.mg_none_of KX G ?z
      (case z => k_is)
    have b_range : mg "range" = none := by
      refine' PySem.W.mg_none_of KX G ?z
      (case z => k_is)
    have b_enumerate : mg "enumerate" = none := by
      refine' PySem.W.mg_none_of KX G ?z
      (case z => k_is)
    have b_zip : mg "zip" = none := by
      refine' PySem.W.mg_none_of KX G ?z
      (case z => k_is)
    have b_tuple : mg "tuple" = none := by
      refine' PySem.W.mg_none_of KX G ?z
      (case z => k_is)
    have b_list : mg "list" = none := by
      refine' PySem.W.mg_none_of KX G ?z
      (case z => k_is)
    have b_min : mg "min" = none := by
      refine' PySem.W.mg_none_of KX G ?z
      (case z => k_is)
    have b_max : mg "max" = none := by
      refine' PySem.W.mg_none_of KX G ?z
      (case z => k_is)
    have b_abs : mg "abs" = none := by
      refine' PySem.W.mg_none_of KX G ?z
      (case z => k_is)
    have b_int : mg "int" = none := by
      refine' PySem.W.mg_none_of KX G ?z
      (case z => k_is)
    have b_all : mg "all" = none := by
      refine' PySem.W.mg_none_of KX G ?z
      (case z => k_is)
    have b_isinstance : mg "isinstance" = none := by
      refine' PySem.W.mg_none_of KX G ?z
      (case z => k_is)
    have b_sorted : mg "sorted" = none := by
      refine' PySem.W.mg_none_of KX G ?z
      (case z => k_is)
    have b_set : mg "set" = none := by
      refine' PySem.W.mg_none_of KX G ?z
      (case z => k_is)
    have b_divmod : mg "divmod" = none := by
      refine' PySem.W.mg_none_of KX G ?z
      (case z => k_is)
    have B : Wk.Bt mg := ⟨b_len, b_range, b_enumerate, b_zip, b_tuple, b_list, b_min, b_max, b_abs, b_int, b_all, b_isinstance, b_sorted, b_set, b_divmod⟩
    have d_Lfolded : Wk.DfX KX mg "_law_folded" Wk.s_Lfolded := by
      refine' Wk.df_mk KX G ?a ?l ?c ?k
      (case a => k_is)
      (case l => k_is)
      (case c => k_is)
      (case k => k_is)
    have d_Lbox : Wk.DfX KX mg "_law_box" Wk.s_Lbox := by
      refine' Wk.df_mk KX G ?a ?l ?c ?k
      (case a => k_is)
      (case l => k_is)
      (case c => k_is)
      (case k => k_is)
    have d_Ltake : Wk.DfX KX mg "_law_take" Wk.s_Ltake := by
      refine' Wk.df_mk KX G ?a ?l ?c ?k
      (case a => k_is)
      (case l => k_is)
      (case c => k_is)
      (case k => k_is)
    have d_Lring : Wk.DfX KX mg "_law_ring" Wk.s_Lring := by
      refine' Wk.df_mk KX G ?a ?l ?c ?k
      (case a => k_is)
      (case l => k_is)
      (case c => k_is)
      (case k => k_is)
    have d_Lline : Wk.DfX KX mg "_law_line" Wk.s_Lline := by
      refine' Wk.df_mk KX G ?a ?l ?c ?k
      (case a => k_is)
      (case l => k_is)
      (case c => k_is)
      (case k => k_is)
    have d_Ljoined : Wk.DfX KX mg "_law_joined" Wk.s_Ljoined := by
      refine' Wk.df_mk KX G ?a ?l ?c ?k
      (case a => k_is)
      (case l => k_is)
      (case c => k_is)
      (case k => k_is)
    have d_Ldoors_put : Wk.DfX KX mg "_law_doors_put" Wk.s_Ldoors_put := by
      refine' Wk.df_mk KX G ?a ?l ?c ?k
      (case a => k_is)
      (case l => k_is)
      (case c => k_is)
      (case k => k_is)
    have d_Lweb : Wk.DfX KX mg "_law_web" Wk.s_Lweb := by
      refine' Wk.df_mk KX G ?a ?l ?c ?k
      (case a => k_is)
      (case l => k_is)
      (case c => k_is)
      (case k => k_is)
    have d_Lends : Wk.DfX KX mg "_law_ends" Wk.s_Lends := by
      refine' Wk.df_mk KX G ?a ?l ?c ?k
      (case a => k_is)
      (case l => k_is)
      (case c => k_is)
      (case k => k_is)
    have d_Lturn : Wk.DfX KX mg "_law_turn" Wk.s_Lturn := by
      refine' Wk.df_mk KX G ?a ?l ?c ?k
      (case a => k_is)
      (case l => k_is)
      (case c => k_is)
      (case k => k_is)
    have d_Lsheeted : Wk.DfX KX mg "_law_sheeted" Wk.s_Lsheeted := by
      refine' Wk.df_mk KX G ?a ?l ?c ?k
      (case a => k_is)
      (case l => k_is)
      (case c => k_is)
      (case k => k_is)
    have d_Lreached : Wk.DfX KX mg "_law_reached" Wk.s_Lreached := by
      refine' Wk.df_mk KX G ?a ?l ?c ?k
      (case a => k_is)
      (case l => k_is)
      (case c => k_is)
      (case k => k_is)
    have d_Lcovered : Wk.DfX KX mg "_law_covered" Wk.s_Lcovered := by
      refine' Wk.df_mk KX G ?a ?l ?c ?k
      (case a => k_is)
      (case l => k_is)
      (case c => k_is)
      (case k => k_is)
    have d_Lsmall_web : Wk.DfX KX mg "_law_small_web" Wk.s_Lsmall_web := by
      refine' Wk.df_mk KX G ?a ?l ?c ?k
      (case a => k_is)
      (case l => k_is)
      (case c => k_is)
      (case k => k_is)
    have d_Lway : Wk.DfX KX mg "_law_way" Wk.s_Lway := by
      refine' Wk.df_mk KX G ?a ?l ?c ?k
      (case a => k_is)
      (case l => k_is)
      (case c => k_is)
      (case k => k_is)
    have d_seen : Wk.DfX KX mg "seen" Wk.s_seen := by
      refine' Wk.df_mk KX G ?a ?l ?c ?k
      (case a => k_is)
      (case l => k_is)
      (case c => k_is)
      (case k => k_is)
    have d_story_of : Wk.DfX KX mg "story_of" Wk.s_story_of := by
      refine' Wk.df_mk KX G ?a ?l ?c ?k
      (case a => k_is)
      (case l => k_is)
      (case c => k_is)
      (case k => k_is)
    have d_Lsight : Wk.DfX KX mg "_law_sight" Wk.s_Lsight := by
      refine' Wk.df_mk KX G ?a ?l ?c ?k
      (case a => k_is)
      (case l => k_is)
      (case c => k_is)
      (case k => k_is)
    have d_Lfitting : Wk.DfX KX mg "_law_fitting" Wk.s_Lfitting := by
      refine' Wk.df_mk KX G ?a ?l ?c ?k
      (case a => k_is)
      (case l => k_is)
      (case c => k_is)
      (case k => k_is)
    have d_story_way : Wk.DfX KX mg "story_way" Wk.s_story_way := by
      refine' Wk.df_mk KX G ?a ?l ?c ?k
      (case a => k_is)
      (case l => k_is)
      (case c => k_is)
      (case k => k_is)
    have d_story_sight : Wk.DfX KX mg "story_sight" Wk.s_story_sight := by
      refine' Wk.df_mk KX G ?a ?l ?c ?k
      (case a => k_is)
      (case l => k_is)
      (case c => k_is)
      (case k => k_is)
    have d_fits : Wk.DfX KX mg "fits" Wk.s_fits := by
      refine' Wk.df_mk KX G ?a ?l ?c ?k
      (case a => k_is)
      (case l => k_is)
      (case c => k_is)
      (case k => k_is)
    have d_gone : Wk.DfX KX mg "gone" Wk.s_gone := by
      refine' Wk.df_mk KX G ?a ?l ?c ?k
      (case a => k_is)
      (case l => k_is)
      (case c => k_is)
      (case k => k_is)
    have d_stands : Wk.DfX KX mg "stands" Wk.s_stands := by
      refine' Wk.df_mk KX G ?a ?l ?c ?k
      (case a => k_is)
      (case l => k_is)
      (case c => k_is)
      (case k => k_is)
    have d_doors_of_all : Wk.DfX KX mg "doors_of_all" Wk.s_doors_of_all := by
      refine' Wk.df_mk KX G ?a ?l ?c ?k
      (case a => k_is)
      (case l => k_is)
      (case c => k_is)
      (case k => k_is)
    have d_way_home : Wk.DfX KX mg "way_home" Wk.s_way_home := by
      refine' Wk.df_mk KX G ?a ?l ?c ?k
      (case a => k_is)
      (case l => k_is)
      (case c => k_is)
      (case k => k_is)
    have d_Lhome : Wk.DfX KX mg "_law_home" Wk.s_Lhome := by
      refine' Wk.df_mk KX G ?a ?l ?c ?k
      (case a => k_is)
      (case l => k_is)
      (case c => k_is)
      (case k => k_is)
    have d_Lhome_right : Wk.DfX KX mg "_law_home_right" Wk.s_Lhome_right := by
      refine' Wk.df_mk KX G ?a ?l ?c ?k
      (case a => k_is)
      (case l => k_is)
      (case c => k_is)
      (case k => k_is)
    have d_Lbent : Wk.DfX KX mg "_law_bent" Wk.s_Lbent := by
      refine' Wk.df_mk KX G ?a ?l ?c ?k
      (case a => k_is)
      (case l => k_is)
      (case c => k_is)
      (case k => k_is)
    have d_Lkinds : Wk.DfX KX mg "_law_kinds" Wk.s_Lkinds := by
      refine' Wk.df_mk KX G ?a ?l ?c ?k
      (case a => k_is)
      (case l => k_is)
      (case c => k_is)
      (case k => k_is)
    have d_numbered_looks : Wk.DfX KX mg "numbered_looks" Wk.s_numbered_looks := by
      refine' Wk.df_mk KX G ?a ?l ?c ?k
      (case a => k_is)
      (case l => k_is)
      (case c => k_is)
      (case k => k_is)
    have d_finer_looks : Wk.DfX KX mg "finer_looks" Wk.s_finer_looks := by
      refine' Wk.df_mk KX G ?a ?l ?c ?k
      (case a => k_is)
      (case l => k_is)
      (case c => k_is)
      (case k => k_is)
    have d_alike_by : Wk.DfX KX mg "alike_by" Wk.s_alike_by := by
      refine' Wk.df_mk KX G ?a ?l ?c ?k
      (case a => k_is)
      (case l => k_is)
      (case c => k_is)
      (case k => k_is)
    have d_kinds_by : Wk.DfX KX mg "kinds_by" Wk.s_kinds_by := by
      refine' Wk.df_mk KX G ?a ?l ?c ?k
      (case a => k_is)
      (case l => k_is)
      (case c => k_is)
      (case k => k_is)
    have d_kinds : Wk.DfX KX mg "kinds" Wk.s_kinds := by
      refine' Wk.df_mk KX G ?a ?l ?c ?k
      (case a => k_is)
      (case l => k_is)
      (case c => k_is)
      (case k => k_is)
    have d_folds_by : Wk.DfX KX mg "folds_by" Wk.s_folds_by := by
      refine' Wk.df_mk KX G ?a ?l ?c ?k
      (case a => k_is)
      (case l => k_is)
      (case c => k_is)
      (case k => k_is)
    have d_parted_groups : Wk.DfX KX mg "parted_groups" Wk.s_parted_groups := by
      refine' Wk.df_mk KX G ?a ?l ?c ?k
      (case a => k_is)
      (case l => k_is)
      (case c => k_is)
      (case k => k_is)
    have d_is_told : Wk.DfX KX mg "is_told" Wk.s_is_told := by
      refine' Wk.df_mk KX G ?a ?l ?c ?k
      (case a => k_is)
      (case l => k_is)
      (case c => k_is)
      (case k => k_is)
    have d_steps_on : Wk.DfX KX mg "steps_on" Wk.s_steps_on := by
      refine' Wk.df_mk KX G ?a ?l ?c ?k
      (case a => k_is)
      (case l => k_is)
      (case c => k_is)
      (case k => k_is)
    have d_telling_way : Wk.DfX KX mg "telling_way" Wk.s_telling_way := by
      refine' Wk.df_mk KX G ?a ?l ?c ?k
      (case a => k_is)
      (case l => k_is)
      (case c => k_is)
      (case k => k_is)
    have d_Lleast : Wk.DfX KX mg "_law_least" Wk.s_Lleast := by
      refine' Wk.df_mk KX G ?a ?l ?c ?k
      (case a => k_is)
      (case l => k_is)
      (case c => k_is)
      (case k => k_is)
    have d_Ltelling_right : Wk.DfX KX mg "_law_telling_right" Wk.s_Ltelling_right := by
      refine' Wk.df_mk KX G ?a ?l ?c ?k
      (case a => k_is)
      (case l => k_is)
      (case c => k_is)
      (case k => k_is)
    refine' Wk.law_mk KX G hmg B d_Lfolded d_Lbox d_Ltake d_Lring d_Lline d_Ljoined d_Ldoors_put d_Lweb d_Lends d_Lturn d_Lsheeted d_Lreached d_Lcovered d_Lsmall_web d_Lway d_seen d_story_of d_Lsight d_Lfitting d_story_way d_story_sight d_fits d_gone d_stands d_doors_of_all d_way_home d_Lhome d_Lhome_right d_Lbent d_Lkinds d_numbered_looks d_finer_looks d_alike_by d_kinds_by d_kinds d_folds_by d_parted_groups d_is_told d_steps_on d_telling_way d_Lleast d_Ltelling_right ?a4 ?l4 ?c4 ?k4
    (case a4 => k_is)
    (case l4 => k_is)
    (case c4 => k_is)
    (case k4 => k_is)
