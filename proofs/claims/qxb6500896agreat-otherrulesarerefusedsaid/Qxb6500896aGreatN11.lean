import Derived.Test.Qxb6500896aGreatN10
namespace Go.Proofs.Qxb6500896aGreat
open Go.Sh Go.RowKit
set_option linter.unusedVariables false
set_option linter.unusedSimpArgs false

/-! ### other rules -/
/-- the park with a larger attraction -/
def parkAO (i : Nat) : List Att := parkA.set i (let a := (parkA[i]?).getD ⟨0, 0, 0, 0, 0⟩; { a with cap := a.cap + 1 })
def parkO (i : Nat) : Cfg := { park with ats := parkAO i }
theorem parkO_v {i : Nat} (h : i < 3) : vCfg (parkO i) = true := by
  match i, h with
  | 0, _ => decide +kernel
  | 1, _ => decide +kernel
  | 2, _ => decide +kernel
theorem parkO_fp {i : Nat} (h : i < 3) : fp park ≠ fp (parkO i) := by
  match i, h with
  | 0, _ => decide +kernel
  | 1, _ => decide +kernel
  | 2, _ => decide +kernel
/-- the park tuned -/
def parkU : Cfg := { park with pg := 8, se := 8 }
theorem parkU_v : vCfg parkU = true := by decide +kernel
theorem parkU_fp : fp parkU = fp park := by decide +kernel
theorem chkRsU (now : Int) : ∀ (rs : List Rec) (k : Nat), chkRs parkU now k rs = chkRs park now k rs
  | [], k => rfl
  | r :: rs, k => by
    have e : chkRec parkU now r = chkRec park now r := rfl
    rw [chkRs, chkRs, chkRsU now rs, e]
theorem chkLsU (rs : List Rec) : ∀ (ls : List (List Int)) (k : Nat), chkLs parkU rs k ls = chkLs park rs k ls
  | [], k => rfl
  | l :: ls, k => by
    have e : parkU.mx = park.mx := rfl
    rw [chkLs, chkLs, chkLsU rs ls, e]
theorem chkLdU (rs : List Rec) (cls : Int) : ∀ (ls : List Leg), chkLoadL parkU rs cls ls = chkLoadL park rs cls ls
  | [] => rfl
  | l :: ls => by
    have e : capOk parkU rs l = capOk park rs l := rfl
    have e2 : nextOk parkU l ls = nextOk park l ls := by cases ls <;> rfl
    have e3 : attOf parkU l.a = attOf park l.a := rfl
    rw [chkLoadL, chkLoadL, chkLdU rs cls ls, e, e2, e3]
theorem chkU (im : Img) : chkImg parkU im = chkImg park im := by
  have e1 : chkLines parkU im.rs im.ls = chkLines park im.rs im.ls := by
    have e : parkU.ats = park.ats := rfl
    unfold chkLines
    rw [chkLsU, e]
  have e2 : chkLoad parkU im.rs = chkLoad park im.rs := by
    unfold chkLoad
    congr 1
    funext r
    rw [chkLdU]
  have e3 : parkU.mc = park.mc := rfl
  have e4 : parkU.mb = park.mb := rfl
  unfold chkImg
  rw [parkU_fp, chkRsU, e1, e2, e3, e4]
section
variable {σ : Sg} {J : Jr}
theorem img_rules (C : Cfg) (σ : Sg) : (img C σ).rules = fp C := rfl
theorem opn_other {i : Nat} (h : i < 3) (hi : RgI park σ J) : opn1 (parkO i) (snJ park σ J) = none := by
  have hd := decImg_enc (imE park_cv park_mb hi.g)
  have hc : chkImg (parkO i) (img park σ) = false := by
    unfold chkImg
    have e0 := img_rules park σ
    have e : decide (fp park = fp (parkO i)) = false := decide_eq_false (parkO_fp h)
    rw [e0, e]
    simp only [Bool.false_and]
  have e0 : opn0 (parkO i) (snJ park σ J) = none := by
    have e1 : (snJ park σ J).has = true := rfl
    have e2 : (snJ park σ J).snap = encImg (img park σ) := rfl
    unfold opn0
    rw [e2, hd, if_pos e1, if_neg (by simp only; rw [hc]; simp)]
  unfold opn1
  rw [e0]
theorem opn_tuned (hi : RgI park σ J) : opnS parkU (snJ park σ J) = (snJ park σ J, some { (sg0 parkU).im (img park σ) with res := true, tail := ((0 : Nat) : Int) }, 0) := by
  have hd := decImg_enc (imE park_cv park_mb hi.g)
  have hc : chkImg parkU (img park σ) = true := by rw [chkU]; exact hi.g.chk park_cv
  have e0 : opn0 parkU (snJ park σ J) = some { (sg0 parkU).im (img park σ) with res := true } := by
    have e1 : (snJ park σ J).has = true := rfl
    have e2 : (snJ park σ J).snap = encImg (img park σ) := rfl
    unfold opn0
    rw [e2, hd, if_pos e1, if_pos ⟨rfl, hc⟩]
  have e1 : opn1 parkU (snJ park σ J) = some { (sg0 parkU).im (img park σ) with res := true } := by
    unfold opn1
    rw [e0]
    rfl
  have h1 : (snJ park σ J).off = false := hi.off
  have h2 : (snJ park σ J).left = 0 := hi.lf
  unfold opnS
  rw [if_neg (by rw [h1]; decide), if_neg (by rw [h2]; decide), e1, due0 h2]
  have h3 : (snJ park σ J).log.length = 0 := rfl
  rw [h3]
  have h4 : ∀ s : Sg, s.tail = ((0 : Nat) : Int) → aftS parkU s (snJ park σ J) = (s, snJ park σ J, 0) := fun s hs => by
    unfold aftS
    rw [if_pos (by rw [hs]; decide)]
  simp only
  rw [h4 _ rfl, if_pos rfl]
end
end Go.Proofs.Qxb6500896aGreat
