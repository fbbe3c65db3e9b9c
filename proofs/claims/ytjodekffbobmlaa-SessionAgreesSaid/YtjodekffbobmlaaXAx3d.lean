/- Go functions of this seat as Lean functions, with proofs that the calls come to them. (Written by xprint.py, a program of this session, over the kit's print.) -/
import Derived.Test.YtjodekffbobmlaaXAx0
import Derived.Test.YtjodekffbobmlaaXAx1
import Derived.Test.YtjodekffbobmlaaXAx2
namespace Go.Proofs.Ytjodekffbobmlaa.XA
open Go.RowKit Go.Proofs.YtjodekffbobmlaaW.PrintWords Go.Proofs.YtjodekffbobmlaaW.PrintLast Go.Proofs.YtjodekffbobmlaaW.PrintMore
attribute [local go_sem] max2_int min2_int max_two min_two max_three min_three max_four min_four   -- for this text's walks alone
set_option linter.unusedVariables false
set_option linter.unusedSimpArgs false
open List renaming setIfInBounds_toArray → xA, set_cons_zero → xB, set_cons_succ → xC
open Go.Proofs.YtjodekffbobmlaaW.PrintWords renaming blk_drewN → bN, blk_drew → bD, blk_alloc → bA, below_set → bS, blk_frozen → bF, blk_cell → bC, cell_far → cF, blk_far → bZ, blk_below → bB, pw_below_drewN → bwN, below_drew1 → bw1, below_alloc → bwA
open Go.Proofs.YtjodekffbobmlaaW.PrintZ
open Bool renaming true → T,false → F

/-! ### beaconlaw12_SessionAgrees: function 5 -/
mutual
def beaconlaw12_SessionAgrees.l0 : Nat → List (S33) → Int → Int → Int → Int → Int → Bool → Int → Int → Int → Bool → Int → Option (Bool)
 | 0, _, _, _, _, _, _, _, _, _, _, _, _ => none
 | k + 1, x1, x6, x150000, x150001, x151000, x151001, x151002, x151003, x151004, x151005, x151006, x151007 => if x6 < 2 then (if x6 = 0 then ((session_New.f x150000).bind fun bt151 => (if bt151.2.2.2.2 = 0 then (beaconlaw12_SessionAgrees.l0 k x1 1 x150000 x150001 bt151.1 bt151.2.1 bt151.2.2.1 bt151.2.2.2.1 x151004 x151005 x151006 x151007) else (if x150000 = 0 then ((beaconlaw12_awake.f k).bind fun t157 => (some t157)) else (some false)))) else (if x6 = 1 then ((session_New.f x150001).bind fun bt158 => (if bt158.2.2.2.2 = 0 then (beaconlaw12_SessionAgrees.l0 k x1 2 x150000 x150001 x151000 x151001 x151002 x151003 bt158.1 bt158.2.1 bt158.2.2.1 bt158.2.2.2.1) else (if x150001 = 0 then ((beaconlaw12_awake.f k).bind fun t164 => (some t164)) else (some false)))) else (none))) else (beaconlaw12_SessionAgrees.l1 k x1 ([] : List (S50)) 0 x151000 x151001 x151002 x151003 x151004 x151005 x151006 x151007)
def beaconlaw12_SessionAgrees.l1 : Nat → List (S33) → List (S50) → Int → Int → Int → Bool → Int → Int → Int → Bool → Int → Option (Bool)
 | 0, _, _, _, _, _, _, _, _, _, _, _ => none
 | k + 1, x1, x9, x10, x151000, x151001, x151002, x151003, x151004, x151005, x151006, x151007 => if x10 < (x1.length : Int) then (if 0 ≤ x10 then (if (Go.bits .and .i64 ((rd_T33 x1 x10).f0) 1) = 0 then (if ((rd_T33 x1 x10).f1) = 0 then ((session_Hello.f x151000 x151001 x151002 x151003).bind fun bt168 => (if x9.length < 5864062014805 then (beaconlaw12_SessionAgrees.j6 k x1 (x9 ++ [(⟨0, bt168.1, bt168.2⟩ : S50)]) x10 0 x151000 x151001 x151002 x151003 x151004 x151005 x151006 x151007 x151000 x151001 x151002 x151003) else (none))) else (if ((rd_T33 x1 x10).f1) = 1 then (beaconlaw12_SessionAgrees.j2 k x1 x9 x10 0 ((rd_T33 x1 x10).f1) (((rd_T33 x1 x10).f1) == 1) x151000 x151001 x151002 x151003 x151004 x151005 x151006 x151007 ((rd_T33 x1 x10).f0) ((rd_T33 x1 x10).f1) ((rd_T33 x1 x10).f2) ((rd_T33 x1 x10).f3) x151000 x151001 x151002 x151003) else (beaconlaw12_SessionAgrees.j2 k x1 x9 x10 0 ((rd_T33 x1 x10).f1) (((rd_T33 x1 x10).f1) == 2) x151000 x151001 x151002 x151003 x151004 x151005 x151006 x151007 ((rd_T33 x1 x10).f0) ((rd_T33 x1 x10).f1) ((rd_T33 x1 x10).f2) ((rd_T33 x1 x10).f3) x151000 x151001 x151002 x151003))) else (if (Go.bits .and .i64 ((rd_T33 x1 x10).f0) 1) = 1 then (if ((rd_T33 x1 x10).f1) = 0 then ((session_Hello.f x151004 x151005 x151006 x151007).bind fun bt227 => (if x9.length < 5864062014805 then (beaconlaw12_SessionAgrees.j13 k x1 (x9 ++ [(⟨1, bt227.1, bt227.2⟩ : S50)]) x10 1 x151000 x151001 x151002 x151003 x151004 x151005 x151006 x151007 x151004 x151005 x151006 x151007) else (none))) else (if ((rd_T33 x1 x10).f1) = 1 then (beaconlaw12_SessionAgrees.j9 k x1 x9 x10 1 ((rd_T33 x1 x10).f1) (((rd_T33 x1 x10).f1) == 1) x151000 x151001 x151002 x151003 x151004 x151005 x151006 x151007 ((rd_T33 x1 x10).f0) ((rd_T33 x1 x10).f1) ((rd_T33 x1 x10).f2) ((rd_T33 x1 x10).f3) x151004 x151005 x151006 x151007) else (beaconlaw12_SessionAgrees.j9 k x1 x9 x10 1 ((rd_T33 x1 x10).f1) (((rd_T33 x1 x10).f1) == 2) x151000 x151001 x151002 x151003 x151004 x151005 x151006 x151007 ((rd_T33 x1 x10).f0) ((rd_T33 x1 x10).f1) ((rd_T33 x1 x10).f2) ((rd_T33 x1 x10).f3) x151004 x151005 x151006 x151007))) else (none))) else (none)) else ((beaconlaw12_awake.f k).bind fun t285 => (some t285))
def beaconlaw12_SessionAgrees.j6 : Nat → List (S33) → List (S50) → Int → Int → Int → Int → Bool → Int → Int → Int → Bool → Int → Int → Int → Bool → Int → Option (Bool)
 | 0, _, _, _, _, _, _, _, _, _, _, _, _, _, _, _, _ => none
 | k + 1, x1, x9, x10, x12, x151000, x151001, x151002, x151003, x151004, x151005, x151006, x151007, x168000, x168001, x168002, x168003 => if x12 = 0 then (if x151000 < x168000 then (beaconlaw12_SessionAgrees.j7 k x1 x9 x10 true x151000 x151001 x151002 x151003 x151004 x151005 x151006 x151007) else (if x151001 < x168001 then (if x151001 = 0 then (if x151002 = true then ((beaconlaw12_heard.f k x9 0 x151000 x151001 x151002 x151003).bind fun t221 => (beaconlaw12_SessionAgrees.j7 k x1 x9 x10 (!t221) x151000 x151001 x151002 x151003 x151004 x151005 x151006 x151007)) else (beaconlaw12_SessionAgrees.j7 k x1 x9 x10 false x151000 x151001 x151002 x151003 x151004 x151005 x151006 x151007)) else (beaconlaw12_SessionAgrees.j7 k x1 x9 x10 true x151000 x151001 x151002 x151003 x151004 x151005 x151006 x151007)) else (if x151002 = true then ((beaconlaw12_heard.f k x9 0 x151000 x151001 x151002 x151003).bind fun t222 => (beaconlaw12_SessionAgrees.j7 k x1 x9 x10 (!t222) x151000 x151001 x151002 x151003 x151004 x151005 x151006 x151007)) else (beaconlaw12_SessionAgrees.j7 k x1 x9 x10 false x151000 x151001 x151002 x151003 x151004 x151005 x151006 x151007)))) else (if x12 = 1 then (if x151004 < x168000 then (beaconlaw12_SessionAgrees.j8 k x1 x9 x10 true x151000 x151001 x151002 x151003 x151004 x151005 x151006 x151007) else (if x151005 < x168001 then (if x151005 = 0 then (if x151006 = true then ((beaconlaw12_heard.f k x9 1 x151004 x151005 x151006 x151007).bind fun t224 => (beaconlaw12_SessionAgrees.j8 k x1 x9 x10 (!t224) x151000 x151001 x151002 x151003 x151004 x151005 x151006 x151007)) else (beaconlaw12_SessionAgrees.j8 k x1 x9 x10 false x151000 x151001 x151002 x151003 x151004 x151005 x151006 x151007)) else (beaconlaw12_SessionAgrees.j8 k x1 x9 x10 true x151000 x151001 x151002 x151003 x151004 x151005 x151006 x151007)) else (if x151006 = true then ((beaconlaw12_heard.f k x9 1 x151004 x151005 x151006 x151007).bind fun t225 => (beaconlaw12_SessionAgrees.j8 k x1 x9 x10 (!t225) x151000 x151001 x151002 x151003 x151004 x151005 x151006 x151007)) else (beaconlaw12_SessionAgrees.j8 k x1 x9 x10 false x151000 x151001 x151002 x151003 x151004 x151005 x151006 x151007)))) else (none))
def beaconlaw12_SessionAgrees.j7 : Nat → List (S33) → List (S50) → Int → Bool → Int → Int → Bool → Int → Int → Int → Bool → Int → Option (Bool)
 | 0, _, _, _, _, _, _, _, _, _, _, _, _ => none
 | k + 1, x1, x9, x10, x204, x151000, x151001, x151002, x151003, x151004, x151005, x151006, x151007 => if x204 = true then (some false) else (beaconlaw12_SessionAgrees.l1 k x1 x9 (wrap64 (x10 + 1)) x151000 x151001 x151002 x151003 x151004 x151005 x151006 x151007)
def beaconlaw12_SessionAgrees.j8 : Nat → List (S33) → List (S50) → Int → Bool → Int → Int → Bool → Int → Int → Int → Bool → Int → Option (Bool)
 | 0, _, _, _, _, _, _, _, _, _, _, _, _ => none
 | k + 1, x1, x9, x10, x204, x151000, x151001, x151002, x151003, x151004, x151005, x151006, x151007 => if x204 = true then (some false) else (beaconlaw12_SessionAgrees.l1 k x1 x9 (wrap64 (x10 + 1)) x151000 x151001 x151002 x151003 x151004 x151005 x151006 x151007)
def beaconlaw12_SessionAgrees.j2 : Nat → List (S33) → List (S50) → Int → Int → Int → Bool → Int → Int → Bool → Int → Int → Int → Bool → Int → Int → Int → Int → Int → Int → Int → Bool → Int → Option (Bool)
 | 0, _, _, _, _, _, _, _, _, _, _, _, _, _, _, _, _, _, _, _, _, _, _ => none
 | k + 1, x1, x9, x10, x12, x61, x78, x151000, x151001, x151002, x151003, x151004, x151005, x151006, x151007, x167000, x167001, x167002, x167003, x168000, x168001, x168002, x168003 => if x78 = true then (if x167002 < 0 then (beaconlaw12_SessionAgrees.j3 k x1 x9 x10 x12 true x151000 x151001 x151002 x151003 x151004 x151005 x151006 x151007 x167000 x167001 x167002 x167003 x168000 x168001 x168002 x168003) else (if x167002 ≥ (x9.length : Int) then (beaconlaw12_SessionAgrees.j3 k x1 x9 x10 x12 true x151000 x151001 x151002 x151003 x151004 x151005 x151006 x151007 x167000 x167001 x167002 x167003 x168000 x168001 x168002 x168003) else (if 0 ≤ x167002 then (if x167002 < (x9.length : Int) then (beaconlaw12_SessionAgrees.j3 k x1 x9 x10 x12 (((rd_T50 x9 x167002).f0) == x12) x151000 x151001 x151002 x151003 x151004 x151005 x151006 x151007 x167000 x167001 x167002 x167003 x168000 x168001 x168002 x168003) else (none)) else (none)))) else (if x61 = 3 then (if x12 = 0 then ((session_Tick.f k x151000 x151001 x151002 x151003 x167003).bind fun bt202 => (beaconlaw12_SessionAgrees.j6 k x1 x9 x10 0 bt202.1 bt202.2.1 bt202.2.2.1 bt202.2.2.2.1 x151004 x151005 x151006 x151007 x168000 x168001 x168002 x168003)) else (if x12 = 1 then ((session_Tick.f k x151004 x151005 x151006 x151007 x167003).bind fun bt207 => (beaconlaw12_SessionAgrees.j6 k x1 x9 x10 1 x151000 x151001 x151002 x151003 bt207.1 bt207.2.1 bt207.2.2.1 bt207.2.2.2.1 x168000 x168001 x168002 x168003)) else (none))) else (if x61 = 4 then (if x12 = 0 then ((session_Down.f x151000 x151001 x151002 x151003).bind fun bt212 => (beaconlaw12_SessionAgrees.j6 k x1 x9 x10 0 bt212.1 bt212.2.1 bt212.2.2.1 bt212.2.2.2 x151004 x151005 x151006 x151007 x168000 x168001 x168002 x168003)) else (if x12 = 1 then ((session_Down.f x151004 x151005 x151006 x151007).bind fun bt216 => (beaconlaw12_SessionAgrees.j6 k x1 x9 x10 1 x151000 x151001 x151002 x151003 bt216.1 bt216.2.1 bt216.2.2.1 bt216.2.2.2 x168000 x168001 x168002 x168003)) else (none))) else (beaconlaw12_SessionAgrees.j6 k x1 x9 x10 x12 x151000 x151001 x151002 x151003 x151004 x151005 x151006 x151007 x168000 x168001 x168002 x168003)))
def beaconlaw12_SessionAgrees.j3 : Nat → List (S33) → List (S50) → Int → Int → Bool → Int → Int → Bool → Int → Int → Int → Bool → Int → Int → Int → Int → Int → Int → Int → Bool → Int → Option (Bool)
 | 0, _, _, _, _, _, _, _, _, _, _, _, _, _, _, _, _, _, _, _, _, _ => none
 | k + 1, x1, x9, x10, x12, x100, x151000, x151001, x151002, x151003, x151004, x151005, x151006, x151007, x167000, x167001, x167002, x167003, x168000, x168001, x168002, x168003 => if x100 = true then (beaconlaw12_SessionAgrees.l1 k x1 x9 (wrap64 (x10 + 1)) x151000 x151001 x151002 x151003 x151004 x151005 x151006 x151007) else (if 0 ≤ x167002 then (if x167002 < (x9.length : Int) then (if x167001 = 1 then (if x12 = 0 then ((session_Hear.f k x151000 x151001 x151002 x151003 ((rd_T50 x9 x167002).f1) ((rd_T50 x9 x167002).f2)).bind fun bt176 => (beaconlaw12_SessionAgrees.j6 k x1 x9 x10 0 bt176.1 bt176.2.1 bt176.2.2.1 bt176.2.2.2.1 x151004 x151005 x151006 x151007 x168000 x168001 x168002 x168003)) else (if x12 = 1 then ((session_Hear.f k x151004 x151005 x151006 x151007 ((rd_T50 x9 x167002).f1) ((rd_T50 x9 x167002).f2)).bind fun bt182 => (beaconlaw12_SessionAgrees.j6 k x1 x9 x10 1 x151000 x151001 x151002 x151003 bt182.1 bt182.2.1 bt182.2.2.1 bt182.2.2.2.1 x168000 x168001 x168002 x168003)) else (none))) else (if x12 = 0 then ((session_Accept.f k x151000 x151001 x151002 x151003 ((rd_T50 x9 x167002).f1) ((rd_T50 x9 x167002).f2)).bind fun bt188 => (if bt188.2.2.2.2.1 = true then (if ((rd_T50 x9 x167002).f1) = x168001 then (beaconlaw12_SessionAgrees.j4 k x1 x9 x10 0 (((rd_T50 x9 x167002).f2) != x168000) bt188.1 bt188.2.1 bt188.2.2.1 bt188.2.2.2.1 x151004 x151005 x151006 x151007 x168000 x168001 x168002 x168003) else (beaconlaw12_SessionAgrees.j4 k x1 x9 x10 0 true bt188.1 bt188.2.1 bt188.2.2.1 bt188.2.2.2.1 x151004 x151005 x151006 x151007 x168000 x168001 x168002 x168003)) else (beaconlaw12_SessionAgrees.j4 k x1 x9 x10 0 false bt188.1 bt188.2.1 bt188.2.2.1 bt188.2.2.2.1 x151004 x151005 x151006 x151007 x168000 x168001 x168002 x168003))) else (if x12 = 1 then ((session_Accept.f k x151004 x151005 x151006 x151007 ((rd_T50 x9 x167002).f1) ((rd_T50 x9 x167002).f2)).bind fun bt195 => (if bt195.2.2.2.2.1 = true then (if ((rd_T50 x9 x167002).f1) = x168001 then (beaconlaw12_SessionAgrees.j5 k x1 x9 x10 1 (((rd_T50 x9 x167002).f2) != x168000) x151000 x151001 x151002 x151003 bt195.1 bt195.2.1 bt195.2.2.1 bt195.2.2.2.1 x168000 x168001 x168002 x168003) else (beaconlaw12_SessionAgrees.j5 k x1 x9 x10 1 true x151000 x151001 x151002 x151003 bt195.1 bt195.2.1 bt195.2.2.1 bt195.2.2.2.1 x168000 x168001 x168002 x168003)) else (beaconlaw12_SessionAgrees.j5 k x1 x9 x10 1 false x151000 x151001 x151002 x151003 bt195.1 bt195.2.1 bt195.2.2.1 bt195.2.2.2.1 x168000 x168001 x168002 x168003))) else (none)))) else (none)) else (none))
def beaconlaw12_SessionAgrees.j4 : Nat → List (S33) → List (S50) → Int → Int → Bool → Int → Int → Bool → Int → Int → Int → Bool → Int → Int → Int → Bool → Int → Option (Bool)
 | 0, _, _, _, _, _, _, _, _, _, _, _, _, _, _, _, _, _ => none
 | k + 1, x1, x9, x10, x12, x152, x151000, x151001, x151002, x151003, x151004, x151005, x151006, x151007, x168000, x168001, x168002, x168003 => if x152 = true then (some false) else (beaconlaw12_SessionAgrees.j6 k x1 x9 x10 x12 x151000 x151001 x151002 x151003 x151004 x151005 x151006 x151007 x168000 x168001 x168002 x168003)
def beaconlaw12_SessionAgrees.j5 : Nat → List (S33) → List (S50) → Int → Int → Bool → Int → Int → Bool → Int → Int → Int → Bool → Int → Int → Int → Bool → Int → Option (Bool)
 | 0, _, _, _, _, _, _, _, _, _, _, _, _, _, _, _, _, _ => none
 | k + 1, x1, x9, x10, x12, x152, x151000, x151001, x151002, x151003, x151004, x151005, x151006, x151007, x168000, x168001, x168002, x168003 => if x152 = true then (some false) else (beaconlaw12_SessionAgrees.j6 k x1 x9 x10 x12 x151000 x151001 x151002 x151003 x151004 x151005 x151006 x151007 x168000 x168001 x168002 x168003)
def beaconlaw12_SessionAgrees.j13 : Nat → List (S33) → List (S50) → Int → Int → Int → Int → Bool → Int → Int → Int → Bool → Int → Int → Int → Bool → Int → Option (Bool)
 | 0, _, _, _, _, _, _, _, _, _, _, _, _, _, _, _, _ => none
 | k + 1, x1, x9, x10, x12, x151000, x151001, x151002, x151003, x151004, x151005, x151006, x151007, x227000, x227001, x227002, x227003 => if x12 = 0 then (if x151000 < x227000 then (beaconlaw12_SessionAgrees.j14 k x1 x9 x10 true x151000 x151001 x151002 x151003 x151004 x151005 x151006 x151007) else (if x151001 < x227001 then (if x151001 = 0 then (if x151002 = true then ((beaconlaw12_heard.f k x9 0 x151000 x151001 x151002 x151003).bind fun t280 => (beaconlaw12_SessionAgrees.j14 k x1 x9 x10 (!t280) x151000 x151001 x151002 x151003 x151004 x151005 x151006 x151007)) else (beaconlaw12_SessionAgrees.j14 k x1 x9 x10 false x151000 x151001 x151002 x151003 x151004 x151005 x151006 x151007)) else (beaconlaw12_SessionAgrees.j14 k x1 x9 x10 true x151000 x151001 x151002 x151003 x151004 x151005 x151006 x151007)) else (if x151002 = true then ((beaconlaw12_heard.f k x9 0 x151000 x151001 x151002 x151003).bind fun t281 => (beaconlaw12_SessionAgrees.j14 k x1 x9 x10 (!t281) x151000 x151001 x151002 x151003 x151004 x151005 x151006 x151007)) else (beaconlaw12_SessionAgrees.j14 k x1 x9 x10 false x151000 x151001 x151002 x151003 x151004 x151005 x151006 x151007)))) else (if x12 = 1 then (if x151004 < x227000 then (beaconlaw12_SessionAgrees.j15 k x1 x9 x10 true x151000 x151001 x151002 x151003 x151004 x151005 x151006 x151007) else (if x151005 < x227001 then (if x151005 = 0 then (if x151006 = true then ((beaconlaw12_heard.f k x9 1 x151004 x151005 x151006 x151007).bind fun t283 => (beaconlaw12_SessionAgrees.j15 k x1 x9 x10 (!t283) x151000 x151001 x151002 x151003 x151004 x151005 x151006 x151007)) else (beaconlaw12_SessionAgrees.j15 k x1 x9 x10 false x151000 x151001 x151002 x151003 x151004 x151005 x151006 x151007)) else (beaconlaw12_SessionAgrees.j15 k x1 x9 x10 true x151000 x151001 x151002 x151003 x151004 x151005 x151006 x151007)) else (if x151006 = true then ((beaconlaw12_heard.f k x9 1 x151004 x151005 x151006 x151007).bind fun t284 => (beaconlaw12_SessionAgrees.j15 k x1 x9 x10 (!t284) x151000 x151001 x151002 x151003 x151004 x151005 x151006 x151007)) else (beaconlaw12_SessionAgrees.j15 k x1 x9 x10 false x151000 x151001 x151002 x151003 x151004 x151005 x151006 x151007)))) else (none))
def beaconlaw12_SessionAgrees.j14 : Nat → List (S33) → List (S50) → Int → Bool → Int → Int → Bool → Int → Int → Int → Bool → Int → Option (Bool)
 | 0, _, _, _, _, _, _, _, _, _, _, _, _ => none
 | k + 1, x1, x9, x10, x204, x151000, x151001, x151002, x151003, x151004, x151005, x151006, x151007 => if x204 = true then (some false) else (beaconlaw12_SessionAgrees.l1 k x1 x9 (wrap64 (x10 + 1)) x151000 x151001 x151002 x151003 x151004 x151005 x151006 x151007)
def beaconlaw12_SessionAgrees.j15 : Nat → List (S33) → List (S50) → Int → Bool → Int → Int → Bool → Int → Int → Int → Bool → Int → Option (Bool)
 | 0, _, _, _, _, _, _, _, _, _, _, _, _ => none
 | k + 1, x1, x9, x10, x204, x151000, x151001, x151002, x151003, x151004, x151005, x151006, x151007 => if x204 = true then (some false) else (beaconlaw12_SessionAgrees.l1 k x1 x9 (wrap64 (x10 + 1)) x151000 x151001 x151002 x151003 x151004 x151005 x151006 x151007)
def beaconlaw12_SessionAgrees.j9 : Nat → List (S33) → List (S50) → Int → Int → Int → Bool → Int → Int → Bool → Int → Int → Int → Bool → Int → Int → Int → Int → Int → Int → Int → Bool → Int → Option (Bool)
 | 0, _, _, _, _, _, _, _, _, _, _, _, _, _, _, _, _, _, _, _, _, _, _ => none
 | k + 1, x1, x9, x10, x12, x61, x78, x151000, x151001, x151002, x151003, x151004, x151005, x151006, x151007, x167000, x167001, x167002, x167003, x227000, x227001, x227002, x227003 => if x78 = true then (if x167002 < 0 then (beaconlaw12_SessionAgrees.j10 k x1 x9 x10 x12 true x151000 x151001 x151002 x151003 x151004 x151005 x151006 x151007 x167000 x167001 x167002 x167003 x227000 x227001 x227002 x227003) else (if x167002 ≥ (x9.length : Int) then (beaconlaw12_SessionAgrees.j10 k x1 x9 x10 x12 true x151000 x151001 x151002 x151003 x151004 x151005 x151006 x151007 x167000 x167001 x167002 x167003 x227000 x227001 x227002 x227003) else (if 0 ≤ x167002 then (if x167002 < (x9.length : Int) then (beaconlaw12_SessionAgrees.j10 k x1 x9 x10 x12 (((rd_T50 x9 x167002).f0) == x12) x151000 x151001 x151002 x151003 x151004 x151005 x151006 x151007 x167000 x167001 x167002 x167003 x227000 x227001 x227002 x227003) else (none)) else (none)))) else (if x61 = 3 then (if x12 = 0 then ((session_Tick.f k x151000 x151001 x151002 x151003 x167003).bind fun bt261 => (beaconlaw12_SessionAgrees.j13 k x1 x9 x10 0 bt261.1 bt261.2.1 bt261.2.2.1 bt261.2.2.2.1 x151004 x151005 x151006 x151007 x227000 x227001 x227002 x227003)) else (if x12 = 1 then ((session_Tick.f k x151004 x151005 x151006 x151007 x167003).bind fun bt266 => (beaconlaw12_SessionAgrees.j13 k x1 x9 x10 1 x151000 x151001 x151002 x151003 bt266.1 bt266.2.1 bt266.2.2.1 bt266.2.2.2.1 x227000 x227001 x227002 x227003)) else (none))) else (if x61 = 4 then (if x12 = 0 then ((session_Down.f x151000 x151001 x151002 x151003).bind fun bt271 => (beaconlaw12_SessionAgrees.j13 k x1 x9 x10 0 bt271.1 bt271.2.1 bt271.2.2.1 bt271.2.2.2 x151004 x151005 x151006 x151007 x227000 x227001 x227002 x227003)) else (if x12 = 1 then ((session_Down.f x151004 x151005 x151006 x151007).bind fun bt275 => (beaconlaw12_SessionAgrees.j13 k x1 x9 x10 1 x151000 x151001 x151002 x151003 bt275.1 bt275.2.1 bt275.2.2.1 bt275.2.2.2 x227000 x227001 x227002 x227003)) else (none))) else (beaconlaw12_SessionAgrees.j13 k x1 x9 x10 x12 x151000 x151001 x151002 x151003 x151004 x151005 x151006 x151007 x227000 x227001 x227002 x227003)))
def beaconlaw12_SessionAgrees.j10 : Nat → List (S33) → List (S50) → Int → Int → Bool → Int → Int → Bool → Int → Int → Int → Bool → Int → Int → Int → Int → Int → Int → Int → Bool → Int → Option (Bool)
 | 0, _, _, _, _, _, _, _, _, _, _, _, _, _, _, _, _, _, _, _, _, _ => none
 | k + 1, x1, x9, x10, x12, x100, x151000, x151001, x151002, x151003, x151004, x151005, x151006, x151007, x167000, x167001, x167002, x167003, x227000, x227001, x227002, x227003 => if x100 = true then (beaconlaw12_SessionAgrees.l1 k x1 x9 (wrap64 (x10 + 1)) x151000 x151001 x151002 x151003 x151004 x151005 x151006 x151007) else (if 0 ≤ x167002 then (if x167002 < (x9.length : Int) then (if x167001 = 1 then (if x12 = 0 then ((session_Hear.f k x151000 x151001 x151002 x151003 ((rd_T50 x9 x167002).f1) ((rd_T50 x9 x167002).f2)).bind fun bt235 => (beaconlaw12_SessionAgrees.j13 k x1 x9 x10 0 bt235.1 bt235.2.1 bt235.2.2.1 bt235.2.2.2.1 x151004 x151005 x151006 x151007 x227000 x227001 x227002 x227003)) else (if x12 = 1 then ((session_Hear.f k x151004 x151005 x151006 x151007 ((rd_T50 x9 x167002).f1) ((rd_T50 x9 x167002).f2)).bind fun bt241 => (beaconlaw12_SessionAgrees.j13 k x1 x9 x10 1 x151000 x151001 x151002 x151003 bt241.1 bt241.2.1 bt241.2.2.1 bt241.2.2.2.1 x227000 x227001 x227002 x227003)) else (none))) else (if x12 = 0 then ((session_Accept.f k x151000 x151001 x151002 x151003 ((rd_T50 x9 x167002).f1) ((rd_T50 x9 x167002).f2)).bind fun bt247 => (if bt247.2.2.2.2.1 = true then (if ((rd_T50 x9 x167002).f1) = x227001 then (beaconlaw12_SessionAgrees.j11 k x1 x9 x10 0 (((rd_T50 x9 x167002).f2) != x227000) bt247.1 bt247.2.1 bt247.2.2.1 bt247.2.2.2.1 x151004 x151005 x151006 x151007 x227000 x227001 x227002 x227003) else (beaconlaw12_SessionAgrees.j11 k x1 x9 x10 0 true bt247.1 bt247.2.1 bt247.2.2.1 bt247.2.2.2.1 x151004 x151005 x151006 x151007 x227000 x227001 x227002 x227003)) else (beaconlaw12_SessionAgrees.j11 k x1 x9 x10 0 false bt247.1 bt247.2.1 bt247.2.2.1 bt247.2.2.2.1 x151004 x151005 x151006 x151007 x227000 x227001 x227002 x227003))) else (if x12 = 1 then ((session_Accept.f k x151004 x151005 x151006 x151007 ((rd_T50 x9 x167002).f1) ((rd_T50 x9 x167002).f2)).bind fun bt254 => (if bt254.2.2.2.2.1 = true then (if ((rd_T50 x9 x167002).f1) = x227001 then (beaconlaw12_SessionAgrees.j12 k x1 x9 x10 1 (((rd_T50 x9 x167002).f2) != x227000) x151000 x151001 x151002 x151003 bt254.1 bt254.2.1 bt254.2.2.1 bt254.2.2.2.1 x227000 x227001 x227002 x227003) else (beaconlaw12_SessionAgrees.j12 k x1 x9 x10 1 true x151000 x151001 x151002 x151003 bt254.1 bt254.2.1 bt254.2.2.1 bt254.2.2.2.1 x227000 x227001 x227002 x227003)) else (beaconlaw12_SessionAgrees.j12 k x1 x9 x10 1 false x151000 x151001 x151002 x151003 bt254.1 bt254.2.1 bt254.2.2.1 bt254.2.2.2.1 x227000 x227001 x227002 x227003))) else (none)))) else (none)) else (none))
def beaconlaw12_SessionAgrees.j11 : Nat → List (S33) → List (S50) → Int → Int → Bool → Int → Int → Bool → Int → Int → Int → Bool → Int → Int → Int → Bool → Int → Option (Bool)
 | 0, _, _, _, _, _, _, _, _, _, _, _, _, _, _, _, _, _ => none
 | k + 1, x1, x9, x10, x12, x152, x151000, x151001, x151002, x151003, x151004, x151005, x151006, x151007, x227000, x227001, x227002, x227003 => if x152 = true then (some false) else (beaconlaw12_SessionAgrees.j13 k x1 x9 x10 x12 x151000 x151001 x151002 x151003 x151004 x151005 x151006 x151007 x227000 x227001 x227002 x227003)
def beaconlaw12_SessionAgrees.j12 : Nat → List (S33) → List (S50) → Int → Int → Bool → Int → Int → Bool → Int → Int → Int → Bool → Int → Int → Int → Bool → Int → Option (Bool)
 | 0, _, _, _, _, _, _, _, _, _, _, _, _, _, _, _, _, _ => none
 | k + 1, x1, x9, x10, x12, x152, x151000, x151001, x151002, x151003, x151004, x151005, x151006, x151007, x227000, x227001, x227002, x227003 => if x152 = true then (some false) else (beaconlaw12_SessionAgrees.j13 k x1 x9 x10 x12 x151000 x151001 x151002 x151003 x151004 x151005 x151006 x151007 x227000 x227001 x227002 x227003)
end
def beaconlaw12_SessionAgrees.f (k : Nat) (a0_0 : Int) (a0_1 : Int) (l1 : List (S33)) : Option (Bool) := beaconlaw12_SessionAgrees.l0 k l1 0 a0_0 a0_1 0 0 false 0 0 0 false 0
theorem beaconlaw12_SessionAgrees.mono_l : ∀ k, (∀ y0 y1 y2 y3 y4 y5 y6 y7 y8 y9 y10 y11, LeO (beaconlaw12_SessionAgrees.l0 k y0 y1 y2 y3 y4 y5 y6 y7 y8 y9 y10 y11) (beaconlaw12_SessionAgrees.l0 (k + 1) y0 y1 y2 y3 y4 y5 y6 y7 y8 y9 y10 y11)) ∧ (∀ y0 y1 y2 y3 y4 y5 y6 y7 y8 y9 y10, LeO (beaconlaw12_SessionAgrees.l1 k y0 y1 y2 y3 y4 y5 y6 y7 y8 y9 y10) (beaconlaw12_SessionAgrees.l1 (k + 1) y0 y1 y2 y3 y4 y5 y6 y7 y8 y9 y10)) ∧ (∀ y0 y1 y2 y3 y4 y5 y6 y7 y8 y9 y10 y11 y12 y13 y14 y15, LeO (beaconlaw12_SessionAgrees.j6 k y0 y1 y2 y3 y4 y5 y6 y7 y8 y9 y10 y11 y12 y13 y14 y15) (beaconlaw12_SessionAgrees.j6 (k + 1) y0 y1 y2 y3 y4 y5 y6 y7 y8 y9 y10 y11 y12 y13 y14 y15)) ∧ (∀ y0 y1 y2 y3 y4 y5 y6 y7 y8 y9 y10 y11, LeO (beaconlaw12_SessionAgrees.j7 k y0 y1 y2 y3 y4 y5 y6 y7 y8 y9 y10 y11) (beaconlaw12_SessionAgrees.j7 (k + 1) y0 y1 y2 y3 y4 y5 y6 y7 y8 y9 y10 y11)) ∧ (∀ y0 y1 y2 y3 y4 y5 y6 y7 y8 y9 y10 y11, LeO (beaconlaw12_SessionAgrees.j8 k y0 y1 y2 y3 y4 y5 y6 y7 y8 y9 y10 y11) (beaconlaw12_SessionAgrees.j8 (k + 1) y0 y1 y2 y3 y4 y5 y6 y7 y8 y9 y10 y11)) ∧ (∀ y0 y1 y2 y3 y4 y5 y6 y7 y8 y9 y10 y11 y12 y13 y14 y15 y16 y17 y18 y19 y20 y21, LeO (beaconlaw12_SessionAgrees.j2 k y0 y1 y2 y3 y4 y5 y6 y7 y8 y9 y10 y11 y12 y13 y14 y15 y16 y17 y18 y19 y20 y21) (beaconlaw12_SessionAgrees.j2 (k + 1) y0 y1 y2 y3 y4 y5 y6 y7 y8 y9 y10 y11 y12 y13 y14 y15 y16 y17 y18 y19 y20 y21)) ∧ (∀ y0 y1 y2 y3 y4 y5 y6 y7 y8 y9 y10 y11 y12 y13 y14 y15 y16 y17 y18 y19 y20, LeO (beaconlaw12_SessionAgrees.j3 k y0 y1 y2 y3 y4 y5 y6 y7 y8 y9 y10 y11 y12 y13 y14 y15 y16 y17 y18 y19 y20) (beaconlaw12_SessionAgrees.j3 (k + 1) y0 y1 y2 y3 y4 y5 y6 y7 y8 y9 y10 y11 y12 y13 y14 y15 y16 y17 y18 y19 y20)) ∧ (∀ y0 y1 y2 y3 y4 y5 y6 y7 y8 y9 y10 y11 y12 y13 y14 y15 y16, LeO (beaconlaw12_SessionAgrees.j4 k y0 y1 y2 y3 y4 y5 y6 y7 y8 y9 y10 y11 y12 y13 y14 y15 y16) (beaconlaw12_SessionAgrees.j4 (k + 1) y0 y1 y2 y3 y4 y5 y6 y7 y8 y9 y10 y11 y12 y13 y14 y15 y16)) ∧ (∀ y0 y1 y2 y3 y4 y5 y6 y7 y8 y9 y10 y11 y12 y13 y14 y15 y16, LeO (beaconlaw12_SessionAgrees.j5 k y0 y1 y2 y3 y4 y5 y6 y7 y8 y9 y10 y11 y12 y13 y14 y15 y16) (beaconlaw12_SessionAgrees.j5 (k + 1) y0 y1 y2 y3 y4 y5 y6 y7 y8 y9 y10 y11 y12 y13 y14 y15 y16)) ∧ (∀ y0 y1 y2 y3 y4 y5 y6 y7 y8 y9 y10 y11 y12 y13 y14 y15, LeO (beaconlaw12_SessionAgrees.j13 k y0 y1 y2 y3 y4 y5 y6 y7 y8 y9 y10 y11 y12 y13 y14 y15) (beaconlaw12_SessionAgrees.j13 (k + 1) y0 y1 y2 y3 y4 y5 y6 y7 y8 y9 y10 y11 y12 y13 y14 y15)) ∧ (∀ y0 y1 y2 y3 y4 y5 y6 y7 y8 y9 y10 y11, LeO (beaconlaw12_SessionAgrees.j14 k y0 y1 y2 y3 y4 y5 y6 y7 y8 y9 y10 y11) (beaconlaw12_SessionAgrees.j14 (k + 1) y0 y1 y2 y3 y4 y5 y6 y7 y8 y9 y10 y11)) ∧ (∀ y0 y1 y2 y3 y4 y5 y6 y7 y8 y9 y10 y11, LeO (beaconlaw12_SessionAgrees.j15 k y0 y1 y2 y3 y4 y5 y6 y7 y8 y9 y10 y11) (beaconlaw12_SessionAgrees.j15 (k + 1) y0 y1 y2 y3 y4 y5 y6 y7 y8 y9 y10 y11)) ∧ (∀ y0 y1 y2 y3 y4 y5 y6 y7 y8 y9 y10 y11 y12 y13 y14 y15 y16 y17 y18 y19 y20 y21, LeO (beaconlaw12_SessionAgrees.j9 k y0 y1 y2 y3 y4 y5 y6 y7 y8 y9 y10 y11 y12 y13 y14 y15 y16 y17 y18 y19 y20 y21) (beaconlaw12_SessionAgrees.j9 (k + 1) y0 y1 y2 y3 y4 y5 y6 y7 y8 y9 y10 y11 y12 y13 y14 y15 y16 y17 y18 y19 y20 y21)) ∧ (∀ y0 y1 y2 y3 y4 y5 y6 y7 y8 y9 y10 y11 y12 y13 y14 y15 y16 y17 y18 y19 y20, LeO (beaconlaw12_SessionAgrees.j10 k y0 y1 y2 y3 y4 y5 y6 y7 y8 y9 y10 y11 y12 y13 y14 y15 y16 y17 y18 y19 y20) (beaconlaw12_SessionAgrees.j10 (k + 1) y0 y1 y2 y3 y4 y5 y6 y7 y8 y9 y10 y11 y12 y13 y14 y15 y16 y17 y18 y19 y20)) ∧ (∀ y0 y1 y2 y3 y4 y5 y6 y7 y8 y9 y10 y11 y12 y13 y14 y15 y16, LeO (beaconlaw12_SessionAgrees.j11 k y0 y1 y2 y3 y4 y5 y6 y7 y8 y9 y10 y11 y12 y13 y14 y15 y16) (beaconlaw12_SessionAgrees.j11 (k + 1) y0 y1 y2 y3 y4 y5 y6 y7 y8 y9 y10 y11 y12 y13 y14 y15 y16)) ∧ (∀ y0 y1 y2 y3 y4 y5 y6 y7 y8 y9 y10 y11 y12 y13 y14 y15 y16, LeO (beaconlaw12_SessionAgrees.j12 k y0 y1 y2 y3 y4 y5 y6 y7 y8 y9 y10 y11 y12 y13 y14 y15 y16) (beaconlaw12_SessionAgrees.j12 (k + 1) y0 y1 y2 y3 y4 y5 y6 y7 y8 y9 y10 y11 y12 y13 y14 y15 y16))
 | 0 => ⟨fun _ _ _ _ _ _ _ _ _ _ _ _ r h => by simp [beaconlaw12_SessionAgrees.l0] at h, fun _ _ _ _ _ _ _ _ _ _ _ r h => by simp [beaconlaw12_SessionAgrees.l1] at h, fun _ _ _ _ _ _ _ _ _ _ _ _ _ _ _ _ r h => by simp [beaconlaw12_SessionAgrees.j6] at h, fun _ _ _ _ _ _ _ _ _ _ _ _ r h => by simp [beaconlaw12_SessionAgrees.j7] at h, fun _ _ _ _ _ _ _ _ _ _ _ _ r h => by simp [beaconlaw12_SessionAgrees.j8] at h, fun _ _ _ _ _ _ _ _ _ _ _ _ _ _ _ _ _ _ _ _ _ _ r h => by simp [beaconlaw12_SessionAgrees.j2] at h, fun _ _ _ _ _ _ _ _ _ _ _ _ _ _ _ _ _ _ _ _ _ r h => by simp [beaconlaw12_SessionAgrees.j3] at h, fun _ _ _ _ _ _ _ _ _ _ _ _ _ _ _ _ _ r h => by simp [beaconlaw12_SessionAgrees.j4] at h, fun _ _ _ _ _ _ _ _ _ _ _ _ _ _ _ _ _ r h => by simp [beaconlaw12_SessionAgrees.j5] at h, fun _ _ _ _ _ _ _ _ _ _ _ _ _ _ _ _ r h => by simp [beaconlaw12_SessionAgrees.j13] at h, fun _ _ _ _ _ _ _ _ _ _ _ _ r h => by simp [beaconlaw12_SessionAgrees.j14] at h, fun _ _ _ _ _ _ _ _ _ _ _ _ r h => by simp [beaconlaw12_SessionAgrees.j15] at h, fun _ _ _ _ _ _ _ _ _ _ _ _ _ _ _ _ _ _ _ _ _ _ r h => by simp [beaconlaw12_SessionAgrees.j9] at h, fun _ _ _ _ _ _ _ _ _ _ _ _ _ _ _ _ _ _ _ _ _ r h => by simp [beaconlaw12_SessionAgrees.j10] at h, fun _ _ _ _ _ _ _ _ _ _ _ _ _ _ _ _ _ r h => by simp [beaconlaw12_SessionAgrees.j11] at h, fun _ _ _ _ _ _ _ _ _ _ _ _ _ _ _ _ _ r h => by simp [beaconlaw12_SessionAgrees.j12] at h⟩
 | k + 1 => by
  obtain ⟨ih0,ih1,ih2,ih3,ih4,ih5,ih6,ih7,ih8,ih9,ih10,ih11,ih12,ih13,ih14,ih15⟩:=beaconlaw12_SessionAgrees.mono_l k
  refine ⟨?_,?_,?_,?_,?_,?_,?_,?_,?_,?_,?_,?_,?_,?_,?_,?_⟩
  ·intro y0 y1 y2 y3 y4 y5 y6 y7 y8 y9 y10 y11
   unfold beaconlaw12_SessionAgrees.l0
   repeat' first
   | (with_reducible exact ih0 _ _ _ _ _ _ _ _ _ _ _ _)
   | (with_reducible exact ih1 _ _ _ _ _ _ _ _ _ _ _)
   | (with_reducible exact ih2 _ _ _ _ _ _ _ _ _ _ _ _ _ _ _ _)
   | (with_reducible exact ih3 _ _ _ _ _ _ _ _ _ _ _ _)
   | (with_reducible exact ih4 _ _ _ _ _ _ _ _ _ _ _ _)
   | (with_reducible exact ih5 _ _ _ _ _ _ _ _ _ _ _ _ _ _ _ _ _ _ _ _ _ _)
   | (with_reducible exact ih6 _ _ _ _ _ _ _ _ _ _ _ _ _ _ _ _ _ _ _ _ _)
   | (with_reducible exact ih7 _ _ _ _ _ _ _ _ _ _ _ _ _ _ _ _ _)
   | (with_reducible exact ih8 _ _ _ _ _ _ _ _ _ _ _ _ _ _ _ _ _)
   | (with_reducible exact ih9 _ _ _ _ _ _ _ _ _ _ _ _ _ _ _ _)
   | (with_reducible exact ih10 _ _ _ _ _ _ _ _ _ _ _ _)
   | (with_reducible exact ih11 _ _ _ _ _ _ _ _ _ _ _ _)
   | (with_reducible exact ih12 _ _ _ _ _ _ _ _ _ _ _ _ _ _ _ _ _ _ _ _ _ _)
   | (with_reducible exact ih13 _ _ _ _ _ _ _ _ _ _ _ _ _ _ _ _ _ _ _ _ _)
   | (with_reducible exact ih14 _ _ _ _ _ _ _ _ _ _ _ _ _ _ _ _ _)
   | (with_reducible exact ih15 _ _ _ _ _ _ _ _ _ _ _ _ _ _ _ _ _)
   | (with_reducible exact beaconlaw12_awake.mono _)
   | (with_reducible exact beaconlaw12_heard.mono _ _ _ _ _ _ _)
   | (with_reducible exact session_Accept.mono _ _ _ _ _ _ _)
   | (with_reducible exact session_Hear.mono _ _ _ _ _ _ _)
   | (with_reducible exact session_Tick.mono _ _ _ _ _ _)
   | (with_reducible exact LeO.refl _)
   | (with_reducible exact LeO.none _)
   | (with_reducible refine LeO.ite ?_ ?_)
   | (with_reducible refine LeO.bind ?_ (fun _ => ?_))
   | exact ih0 _ _ _ _ _ _ _ _ _ _ _ _
   | exact ih1 _ _ _ _ _ _ _ _ _ _ _
   | exact ih2 _ _ _ _ _ _ _ _ _ _ _ _ _ _ _ _
   | exact ih3 _ _ _ _ _ _ _ _ _ _ _ _
   | exact ih4 _ _ _ _ _ _ _ _ _ _ _ _
   | exact ih5 _ _ _ _ _ _ _ _ _ _ _ _ _ _ _ _ _ _ _ _ _ _
   | exact ih6 _ _ _ _ _ _ _ _ _ _ _ _ _ _ _ _ _ _ _ _ _
   | exact ih7 _ _ _ _ _ _ _ _ _ _ _ _ _ _ _ _ _
   | exact ih8 _ _ _ _ _ _ _ _ _ _ _ _ _ _ _ _ _
   | exact ih9 _ _ _ _ _ _ _ _ _ _ _ _ _ _ _ _
   | exact ih10 _ _ _ _ _ _ _ _ _ _ _ _
   | exact ih11 _ _ _ _ _ _ _ _ _ _ _ _
   | exact ih12 _ _ _ _ _ _ _ _ _ _ _ _ _ _ _ _ _ _ _ _ _ _
   | exact ih13 _ _ _ _ _ _ _ _ _ _ _ _ _ _ _ _ _ _ _ _ _
   | exact ih14 _ _ _ _ _ _ _ _ _ _ _ _ _ _ _ _ _
   | exact ih15 _ _ _ _ _ _ _ _ _ _ _ _ _ _ _ _ _
   | exact beaconlaw12_awake.mono _
   | exact beaconlaw12_heard.mono _ _ _ _ _ _ _
   | exact session_Accept.mono _ _ _ _ _ _ _
   | exact session_Hear.mono _ _ _ _ _ _ _
   | exact session_Tick.mono _ _ _ _ _ _
   | exact LeO.none _
   | refine LeO.ite ?_ ?_
   | refine LeO.bind ?_ (fun _ => ?_)
  ·intro y0 y1 y2 y3 y4 y5 y6 y7 y8 y9 y10
   unfold beaconlaw12_SessionAgrees.l1
   repeat' first
   | (with_reducible exact ih0 _ _ _ _ _ _ _ _ _ _ _ _)
   | (with_reducible exact ih1 _ _ _ _ _ _ _ _ _ _ _)
   | (with_reducible exact ih2 _ _ _ _ _ _ _ _ _ _ _ _ _ _ _ _)
   | (with_reducible exact ih3 _ _ _ _ _ _ _ _ _ _ _ _)
   | (with_reducible exact ih4 _ _ _ _ _ _ _ _ _ _ _ _)
   | (with_reducible exact ih5 _ _ _ _ _ _ _ _ _ _ _ _ _ _ _ _ _ _ _ _ _ _)
   | (with_reducible exact ih6 _ _ _ _ _ _ _ _ _ _ _ _ _ _ _ _ _ _ _ _ _)
   | (with_reducible exact ih7 _ _ _ _ _ _ _ _ _ _ _ _ _ _ _ _ _)
   | (with_reducible exact ih8 _ _ _ _ _ _ _ _ _ _ _ _ _ _ _ _ _)
   | (with_reducible exact ih9 _ _ _ _ _ _ _ _ _ _ _ _ _ _ _ _)
   | (with_reducible exact ih10 _ _ _ _ _ _ _ _ _ _ _ _)
   | (with_reducible exact ih11 _ _ _ _ _ _ _ _ _ _ _ _)
   | (with_reducible exact ih12 _ _ _ _ _ _ _ _ _ _ _ _ _ _ _ _ _ _ _ _ _ _)
   | (with_reducible exact ih13 _ _ _ _ _ _ _ _ _ _ _ _ _ _ _ _ _ _ _ _ _)
   | (with_reducible exact ih14 _ _ _ _ _ _ _ _ _ _ _ _ _ _ _ _ _)
   | (with_reducible exact ih15 _ _ _ _ _ _ _ _ _ _ _ _ _ _ _ _ _)
   | (with_reducible exact beaconlaw12_awake.mono _)
   | (with_reducible exact beaconlaw12_heard.mono _ _ _ _ _ _ _)
   | (with_reducible exact session_Accept.mono _ _ _ _ _ _ _)
   | (with_reducible exact session_Hear.mono _ _ _ _ _ _ _)
   | (with_reducible exact session_Tick.mono _ _ _ _ _ _)
   | (with_reducible exact LeO.refl _)
   | (with_reducible exact LeO.none _)
   | (with_reducible refine LeO.ite ?_ ?_)
   | (with_reducible refine LeO.bind ?_ (fun _ => ?_))
   | exact ih0 _ _ _ _ _ _ _ _ _ _ _ _
   | exact ih1 _ _ _ _ _ _ _ _ _ _ _
   | exact ih2 _ _ _ _ _ _ _ _ _ _ _ _ _ _ _ _
   | exact ih3 _ _ _ _ _ _ _ _ _ _ _ _
   | exact ih4 _ _ _ _ _ _ _ _ _ _ _ _
   | exact ih5 _ _ _ _ _ _ _ _ _ _ _ _ _ _ _ _ _ _ _ _ _ _
   | exact ih6 _ _ _ _ _ _ _ _ _ _ _ _ _ _ _ _ _ _ _ _ _
   | exact ih7 _ _ _ _ _ _ _ _ _ _ _ _ _ _ _ _ _
   | exact ih8 _ _ _ _ _ _ _ _ _ _ _ _ _ _ _ _ _
   | exact ih9 _ _ _ _ _ _ _ _ _ _ _ _ _ _ _ _
   | exact ih10 _ _ _ _ _ _ _ _ _ _ _ _
   | exact ih11 _ _ _ _ _ _ _ _ _ _ _ _
   | exact ih12 _ _ _ _ _ _ _ _ _ _ _ _ _ _ _ _ _ _ _ _ _ _
   | exact ih13 _ _ _ _ _ _ _ _ _ _ _ _ _ _ _ _ _ _ _ _ _
   | exact ih14 _ _ _ _ _ _ _ _ _ _ _ _ _ _ _ _ _
   | exact ih15 _ _ _ _ _ _ _ _ _ _ _ _ _ _ _ _ _
   | exact beaconlaw12_awake.mono _
   | exact beaconlaw12_heard.mono _ _ _ _ _ _ _
   | exact session_Accept.mono _ _ _ _ _ _ _
   | exact session_Hear.mono _ _ _ _ _ _ _
   | exact session_Tick.mono _ _ _ _ _ _
   | exact LeO.none _
   | refine LeO.ite ?_ ?_
   | refine LeO.bind ?_ (fun _ => ?_)
  ·intro y0 y1 y2 y3 y4 y5 y6 y7 y8 y9 y10 y11 y12 y13 y14 y15
   unfold beaconlaw12_SessionAgrees.j6
   repeat' first
   | (with_reducible exact ih0 _ _ _ _ _ _ _ _ _ _ _ _)
   | (with_reducible exact ih1 _ _ _ _ _ _ _ _ _ _ _)
   | (with_reducible exact ih2 _ _ _ _ _ _ _ _ _ _ _ _ _ _ _ _)
   | (with_reducible exact ih3 _ _ _ _ _ _ _ _ _ _ _ _)
   | (with_reducible exact ih4 _ _ _ _ _ _ _ _ _ _ _ _)
   | (with_reducible exact ih5 _ _ _ _ _ _ _ _ _ _ _ _ _ _ _ _ _ _ _ _ _ _)
   | (with_reducible exact ih6 _ _ _ _ _ _ _ _ _ _ _ _ _ _ _ _ _ _ _ _ _)
   | (with_reducible exact ih7 _ _ _ _ _ _ _ _ _ _ _ _ _ _ _ _ _)
   | (with_reducible exact ih8 _ _ _ _ _ _ _ _ _ _ _ _ _ _ _ _ _)
   | (with_reducible exact ih9 _ _ _ _ _ _ _ _ _ _ _ _ _ _ _ _)
   | (with_reducible exact ih10 _ _ _ _ _ _ _ _ _ _ _ _)
   | (with_reducible exact ih11 _ _ _ _ _ _ _ _ _ _ _ _)
   | (with_reducible exact ih12 _ _ _ _ _ _ _ _ _ _ _ _ _ _ _ _ _ _ _ _ _ _)
   | (with_reducible exact ih13 _ _ _ _ _ _ _ _ _ _ _ _ _ _ _ _ _ _ _ _ _)
   | (with_reducible exact ih14 _ _ _ _ _ _ _ _ _ _ _ _ _ _ _ _ _)
   | (with_reducible exact ih15 _ _ _ _ _ _ _ _ _ _ _ _ _ _ _ _ _)
   | (with_reducible exact beaconlaw12_awake.mono _)
   | (with_reducible exact beaconlaw12_heard.mono _ _ _ _ _ _ _)
   | (with_reducible exact session_Accept.mono _ _ _ _ _ _ _)
   | (with_reducible exact session_Hear.mono _ _ _ _ _ _ _)
   | (with_reducible exact session_Tick.mono _ _ _ _ _ _)
   | (with_reducible exact LeO.refl _)
   | (with_reducible exact LeO.none _)
   | (with_reducible refine LeO.ite ?_ ?_)
   | (with_reducible refine LeO.bind ?_ (fun _ => ?_))
   | exact ih0 _ _ _ _ _ _ _ _ _ _ _ _
   | exact ih1 _ _ _ _ _ _ _ _ _ _ _
   | exact ih2 _ _ _ _ _ _ _ _ _ _ _ _ _ _ _ _
   | exact ih3 _ _ _ _ _ _ _ _ _ _ _ _
   | exact ih4 _ _ _ _ _ _ _ _ _ _ _ _
   | exact ih5 _ _ _ _ _ _ _ _ _ _ _ _ _ _ _ _ _ _ _ _ _ _
   | exact ih6 _ _ _ _ _ _ _ _ _ _ _ _ _ _ _ _ _ _ _ _ _
   | exact ih7 _ _ _ _ _ _ _ _ _ _ _ _ _ _ _ _ _
   | exact ih8 _ _ _ _ _ _ _ _ _ _ _ _ _ _ _ _ _
   | exact ih9 _ _ _ _ _ _ _ _ _ _ _ _ _ _ _ _
   | exact ih10 _ _ _ _ _ _ _ _ _ _ _ _
   | exact ih11 _ _ _ _ _ _ _ _ _ _ _ _
   | exact ih12 _ _ _ _ _ _ _ _ _ _ _ _ _ _ _ _ _ _ _ _ _ _
   | exact ih13 _ _ _ _ _ _ _ _ _ _ _ _ _ _ _ _ _ _ _ _ _
   | exact ih14 _ _ _ _ _ _ _ _ _ _ _ _ _ _ _ _ _
   | exact ih15 _ _ _ _ _ _ _ _ _ _ _ _ _ _ _ _ _
   | exact beaconlaw12_awake.mono _
   | exact beaconlaw12_heard.mono _ _ _ _ _ _ _
   | exact session_Accept.mono _ _ _ _ _ _ _
   | exact session_Hear.mono _ _ _ _ _ _ _
   | exact session_Tick.mono _ _ _ _ _ _
   | exact LeO.none _
   | refine LeO.ite ?_ ?_
   | refine LeO.bind ?_ (fun _ => ?_)
  ·intro y0 y1 y2 y3 y4 y5 y6 y7 y8 y9 y10 y11
   unfold beaconlaw12_SessionAgrees.j7
   repeat' first
   | (with_reducible exact ih0 _ _ _ _ _ _ _ _ _ _ _ _)
   | (with_reducible exact ih1 _ _ _ _ _ _ _ _ _ _ _)
   | (with_reducible exact ih2 _ _ _ _ _ _ _ _ _ _ _ _ _ _ _ _)
   | (with_reducible exact ih3 _ _ _ _ _ _ _ _ _ _ _ _)
   | (with_reducible exact ih4 _ _ _ _ _ _ _ _ _ _ _ _)
   | (with_reducible exact ih5 _ _ _ _ _ _ _ _ _ _ _ _ _ _ _ _ _ _ _ _ _ _)
   | (with_reducible exact ih6 _ _ _ _ _ _ _ _ _ _ _ _ _ _ _ _ _ _ _ _ _)
   | (with_reducible exact ih7 _ _ _ _ _ _ _ _ _ _ _ _ _ _ _ _ _)
   | (with_reducible exact ih8 _ _ _ _ _ _ _ _ _ _ _ _ _ _ _ _ _)
   | (with_reducible exact ih9 _ _ _ _ _ _ _ _ _ _ _ _ _ _ _ _)
   | (with_reducible exact ih10 _ _ _ _ _ _ _ _ _ _ _ _)
   | (with_reducible exact ih11 _ _ _ _ _ _ _ _ _ _ _ _)
   | (with_reducible exact ih12 _ _ _ _ _ _ _ _ _ _ _ _ _ _ _ _ _ _ _ _ _ _)
   | (with_reducible exact ih13 _ _ _ _ _ _ _ _ _ _ _ _ _ _ _ _ _ _ _ _ _)
   | (with_reducible exact ih14 _ _ _ _ _ _ _ _ _ _ _ _ _ _ _ _ _)
   | (with_reducible exact ih15 _ _ _ _ _ _ _ _ _ _ _ _ _ _ _ _ _)
   | (with_reducible exact beaconlaw12_awake.mono _)
   | (with_reducible exact beaconlaw12_heard.mono _ _ _ _ _ _ _)
   | (with_reducible exact session_Accept.mono _ _ _ _ _ _ _)
   | (with_reducible exact session_Hear.mono _ _ _ _ _ _ _)
   | (with_reducible exact session_Tick.mono _ _ _ _ _ _)
   | (with_reducible exact LeO.refl _)
   | (with_reducible exact LeO.none _)
   | (with_reducible refine LeO.ite ?_ ?_)
   | (with_reducible refine LeO.bind ?_ (fun _ => ?_))
   | exact ih0 _ _ _ _ _ _ _ _ _ _ _ _
   | exact ih1 _ _ _ _ _ _ _ _ _ _ _
   | exact ih2 _ _ _ _ _ _ _ _ _ _ _ _ _ _ _ _
   | exact ih3 _ _ _ _ _ _ _ _ _ _ _ _
   | exact ih4 _ _ _ _ _ _ _ _ _ _ _ _
   | exact ih5 _ _ _ _ _ _ _ _ _ _ _ _ _ _ _ _ _ _ _ _ _ _
   | exact ih6 _ _ _ _ _ _ _ _ _ _ _ _ _ _ _ _ _ _ _ _ _
   | exact ih7 _ _ _ _ _ _ _ _ _ _ _ _ _ _ _ _ _
   | exact ih8 _ _ _ _ _ _ _ _ _ _ _ _ _ _ _ _ _
   | exact ih9 _ _ _ _ _ _ _ _ _ _ _ _ _ _ _ _
   | exact ih10 _ _ _ _ _ _ _ _ _ _ _ _
   | exact ih11 _ _ _ _ _ _ _ _ _ _ _ _
   | exact ih12 _ _ _ _ _ _ _ _ _ _ _ _ _ _ _ _ _ _ _ _ _ _
   | exact ih13 _ _ _ _ _ _ _ _ _ _ _ _ _ _ _ _ _ _ _ _ _
   | exact ih14 _ _ _ _ _ _ _ _ _ _ _ _ _ _ _ _ _
   | exact ih15 _ _ _ _ _ _ _ _ _ _ _ _ _ _ _ _ _
   | exact beaconlaw12_awake.mono _
   | exact beaconlaw12_heard.mono _ _ _ _ _ _ _
   | exact session_Accept.mono _ _ _ _ _ _ _
   | exact session_Hear.mono _ _ _ _ _ _ _
   | exact session_Tick.mono _ _ _ _ _ _
   | exact LeO.none _
   | refine LeO.ite ?_ ?_
   | refine LeO.bind ?_ (fun _ => ?_)
  ·intro y0 y1 y2 y3 y4 y5 y6 y7 y8 y9 y10 y11
   unfold beaconlaw12_SessionAgrees.j8
   repeat' first
   | (with_reducible exact ih0 _ _ _ _ _ _ _ _ _ _ _ _)
   | (with_reducible exact ih1 _ _ _ _ _ _ _ _ _ _ _)
   | (with_reducible exact ih2 _ _ _ _ _ _ _ _ _ _ _ _ _ _ _ _)
   | (with_reducible exact ih3 _ _ _ _ _ _ _ _ _ _ _ _)
   | (with_reducible exact ih4 _ _ _ _ _ _ _ _ _ _ _ _)
   | (with_reducible exact ih5 _ _ _ _ _ _ _ _ _ _ _ _ _ _ _ _ _ _ _ _ _ _)
   | (with_reducible exact ih6 _ _ _ _ _ _ _ _ _ _ _ _ _ _ _ _ _ _ _ _ _)
   | (with_reducible exact ih7 _ _ _ _ _ _ _ _ _ _ _ _ _ _ _ _ _)
   | (with_reducible exact ih8 _ _ _ _ _ _ _ _ _ _ _ _ _ _ _ _ _)
   | (with_reducible exact ih9 _ _ _ _ _ _ _ _ _ _ _ _ _ _ _ _)
   | (with_reducible exact ih10 _ _ _ _ _ _ _ _ _ _ _ _)
   | (with_reducible exact ih11 _ _ _ _ _ _ _ _ _ _ _ _)
   | (with_reducible exact ih12 _ _ _ _ _ _ _ _ _ _ _ _ _ _ _ _ _ _ _ _ _ _)
   | (with_reducible exact ih13 _ _ _ _ _ _ _ _ _ _ _ _ _ _ _ _ _ _ _ _ _)
   | (with_reducible exact ih14 _ _ _ _ _ _ _ _ _ _ _ _ _ _ _ _ _)
   | (with_reducible exact ih15 _ _ _ _ _ _ _ _ _ _ _ _ _ _ _ _ _)
   | (with_reducible exact beaconlaw12_awake.mono _)
   | (with_reducible exact beaconlaw12_heard.mono _ _ _ _ _ _ _)
   | (with_reducible exact session_Accept.mono _ _ _ _ _ _ _)
   | (with_reducible exact session_Hear.mono _ _ _ _ _ _ _)
   | (with_reducible exact session_Tick.mono _ _ _ _ _ _)
   | (with_reducible exact LeO.refl _)
   | (with_reducible exact LeO.none _)
   | (with_reducible refine LeO.ite ?_ ?_)
   | (with_reducible refine LeO.bind ?_ (fun _ => ?_))
   | exact ih0 _ _ _ _ _ _ _ _ _ _ _ _
   | exact ih1 _ _ _ _ _ _ _ _ _ _ _
   | exact ih2 _ _ _ _ _ _ _ _ _ _ _ _ _ _ _ _
   | exact ih3 _ _ _ _ _ _ _ _ _ _ _ _
   | exact ih4 _ _ _ _ _ _ _ _ _ _ _ _
   | exact ih5 _ _ _ _ _ _ _ _ _ _ _ _ _ _ _ _ _ _ _ _ _ _
   | exact ih6 _ _ _ _ _ _ _ _ _ _ _ _ _ _ _ _ _ _ _ _ _
   | exact ih7 _ _ _ _ _ _ _ _ _ _ _ _ _ _ _ _ _
   | exact ih8 _ _ _ _ _ _ _ _ _ _ _ _ _ _ _ _ _
   | exact ih9 _ _ _ _ _ _ _ _ _ _ _ _ _ _ _ _
   | exact ih10 _ _ _ _ _ _ _ _ _ _ _ _
   | exact ih11 _ _ _ _ _ _ _ _ _ _ _ _
   | exact ih12 _ _ _ _ _ _ _ _ _ _ _ _ _ _ _ _ _ _ _ _ _ _
   | exact ih13 _ _ _ _ _ _ _ _ _ _ _ _ _ _ _ _ _ _ _ _ _
   | exact ih14 _ _ _ _ _ _ _ _ _ _ _ _ _ _ _ _ _
   | exact ih15 _ _ _ _ _ _ _ _ _ _ _ _ _ _ _ _ _
   | exact beaconlaw12_awake.mono _
   | exact beaconlaw12_heard.mono _ _ _ _ _ _ _
   | exact session_Accept.mono _ _ _ _ _ _ _
   | exact session_Hear.mono _ _ _ _ _ _ _
   | exact session_Tick.mono _ _ _ _ _ _
   | exact LeO.none _
   | refine LeO.ite ?_ ?_
   | refine LeO.bind ?_ (fun _ => ?_)
  ·intro y0 y1 y2 y3 y4 y5 y6 y7 y8 y9 y10 y11 y12 y13 y14 y15 y16 y17 y18 y19 y20 y21
   unfold beaconlaw12_SessionAgrees.j2
   repeat' first
   | (with_reducible exact ih0 _ _ _ _ _ _ _ _ _ _ _ _)
   | (with_reducible exact ih1 _ _ _ _ _ _ _ _ _ _ _)
   | (with_reducible exact ih2 _ _ _ _ _ _ _ _ _ _ _ _ _ _ _ _)
   | (with_reducible exact ih3 _ _ _ _ _ _ _ _ _ _ _ _)
   | (with_reducible exact ih4 _ _ _ _ _ _ _ _ _ _ _ _)
   | (with_reducible exact ih5 _ _ _ _ _ _ _ _ _ _ _ _ _ _ _ _ _ _ _ _ _ _)
   | (with_reducible exact ih6 _ _ _ _ _ _ _ _ _ _ _ _ _ _ _ _ _ _ _ _ _)
   | (with_reducible exact ih7 _ _ _ _ _ _ _ _ _ _ _ _ _ _ _ _ _)
   | (with_reducible exact ih8 _ _ _ _ _ _ _ _ _ _ _ _ _ _ _ _ _)
   | (with_reducible exact ih9 _ _ _ _ _ _ _ _ _ _ _ _ _ _ _ _)
   | (with_reducible exact ih10 _ _ _ _ _ _ _ _ _ _ _ _)
   | (with_reducible exact ih11 _ _ _ _ _ _ _ _ _ _ _ _)
   | (with_reducible exact ih12 _ _ _ _ _ _ _ _ _ _ _ _ _ _ _ _ _ _ _ _ _ _)
   | (with_reducible exact ih13 _ _ _ _ _ _ _ _ _ _ _ _ _ _ _ _ _ _ _ _ _)
   | (with_reducible exact ih14 _ _ _ _ _ _ _ _ _ _ _ _ _ _ _ _ _)
   | (with_reducible exact ih15 _ _ _ _ _ _ _ _ _ _ _ _ _ _ _ _ _)
   | (with_reducible exact beaconlaw12_awake.mono _)
   | (with_reducible exact beaconlaw12_heard.mono _ _ _ _ _ _ _)
   | (with_reducible exact session_Accept.mono _ _ _ _ _ _ _)
   | (with_reducible exact session_Hear.mono _ _ _ _ _ _ _)
   | (with_reducible exact session_Tick.mono _ _ _ _ _ _)
   | (with_reducible exact LeO.refl _)
   | (with_reducible exact LeO.none _)
   | (with_reducible refine LeO.ite ?_ ?_)
   | (with_reducible refine LeO.bind ?_ (fun _ => ?_))
   | exact ih0 _ _ _ _ _ _ _ _ _ _ _ _
   | exact ih1 _ _ _ _ _ _ _ _ _ _ _
   | exact ih2 _ _ _ _ _ _ _ _ _ _ _ _ _ _ _ _
   | exact ih3 _ _ _ _ _ _ _ _ _ _ _ _
   | exact ih4 _ _ _ _ _ _ _ _ _ _ _ _
   | exact ih5 _ _ _ _ _ _ _ _ _ _ _ _ _ _ _ _ _ _ _ _ _ _
   | exact ih6 _ _ _ _ _ _ _ _ _ _ _ _ _ _ _ _ _ _ _ _ _
   | exact ih7 _ _ _ _ _ _ _ _ _ _ _ _ _ _ _ _ _
   | exact ih8 _ _ _ _ _ _ _ _ _ _ _ _ _ _ _ _ _
   | exact ih9 _ _ _ _ _ _ _ _ _ _ _ _ _ _ _ _
   | exact ih10 _ _ _ _ _ _ _ _ _ _ _ _
   | exact ih11 _ _ _ _ _ _ _ _ _ _ _ _
   | exact ih12 _ _ _ _ _ _ _ _ _ _ _ _ _ _ _ _ _ _ _ _ _ _
   | exact ih13 _ _ _ _ _ _ _ _ _ _ _ _ _ _ _ _ _ _ _ _ _
   | exact ih14 _ _ _ _ _ _ _ _ _ _ _ _ _ _ _ _ _
   | exact ih15 _ _ _ _ _ _ _ _ _ _ _ _ _ _ _ _ _
   | exact beaconlaw12_awake.mono _
   | exact beaconlaw12_heard.mono _ _ _ _ _ _ _
   | exact session_Accept.mono _ _ _ _ _ _ _
   | exact session_Hear.mono _ _ _ _ _ _ _
   | exact session_Tick.mono _ _ _ _ _ _
   | exact LeO.none _
   | refine LeO.ite ?_ ?_
   | refine LeO.bind ?_ (fun _ => ?_)
  ·intro y0 y1 y2 y3 y4 y5 y6 y7 y8 y9 y10 y11 y12 y13 y14 y15 y16 y17 y18 y19 y20
   unfold beaconlaw12_SessionAgrees.j3
   repeat' first
   | (with_reducible exact ih0 _ _ _ _ _ _ _ _ _ _ _ _)
   | (with_reducible exact ih1 _ _ _ _ _ _ _ _ _ _ _)
   | (with_reducible exact ih2 _ _ _ _ _ _ _ _ _ _ _ _ _ _ _ _)
   | (with_reducible exact ih3 _ _ _ _ _ _ _ _ _ _ _ _)
   | (with_reducible exact ih4 _ _ _ _ _ _ _ _ _ _ _ _)
   | (with_reducible exact ih5 _ _ _ _ _ _ _ _ _ _ _ _ _ _ _ _ _ _ _ _ _ _)
   | (with_reducible exact ih6 _ _ _ _ _ _ _ _ _ _ _ _ _ _ _ _ _ _ _ _ _)
   | (with_reducible exact ih7 _ _ _ _ _ _ _ _ _ _ _ _ _ _ _ _ _)
   | (with_reducible exact ih8 _ _ _ _ _ _ _ _ _ _ _ _ _ _ _ _ _)
   | (with_reducible exact ih9 _ _ _ _ _ _ _ _ _ _ _ _ _ _ _ _)
   | (with_reducible exact ih10 _ _ _ _ _ _ _ _ _ _ _ _)
   | (with_reducible exact ih11 _ _ _ _ _ _ _ _ _ _ _ _)
   | (with_reducible exact ih12 _ _ _ _ _ _ _ _ _ _ _ _ _ _ _ _ _ _ _ _ _ _)
   | (with_reducible exact ih13 _ _ _ _ _ _ _ _ _ _ _ _ _ _ _ _ _ _ _ _ _)
   | (with_reducible exact ih14 _ _ _ _ _ _ _ _ _ _ _ _ _ _ _ _ _)
   | (with_reducible exact ih15 _ _ _ _ _ _ _ _ _ _ _ _ _ _ _ _ _)
   | (with_reducible exact beaconlaw12_awake.mono _)
   | (with_reducible exact beaconlaw12_heard.mono _ _ _ _ _ _ _)
   | (with_reducible exact session_Accept.mono _ _ _ _ _ _ _)
   | (with_reducible exact session_Hear.mono _ _ _ _ _ _ _)
   | (with_reducible exact session_Tick.mono _ _ _ _ _ _)
   | (with_reducible exact LeO.refl _)
   | (with_reducible exact LeO.none _)
   | (with_reducible refine LeO.ite ?_ ?_)
   | (with_reducible refine LeO.bind ?_ (fun _ => ?_))
   | exact ih0 _ _ _ _ _ _ _ _ _ _ _ _
   | exact ih1 _ _ _ _ _ _ _ _ _ _ _
   | exact ih2 _ _ _ _ _ _ _ _ _ _ _ _ _ _ _ _
   | exact ih3 _ _ _ _ _ _ _ _ _ _ _ _
   | exact ih4 _ _ _ _ _ _ _ _ _ _ _ _
   | exact ih5 _ _ _ _ _ _ _ _ _ _ _ _ _ _ _ _ _ _ _ _ _ _
   | exact ih6 _ _ _ _ _ _ _ _ _ _ _ _ _ _ _ _ _ _ _ _ _
   | exact ih7 _ _ _ _ _ _ _ _ _ _ _ _ _ _ _ _ _
   | exact ih8 _ _ _ _ _ _ _ _ _ _ _ _ _ _ _ _ _
   | exact ih9 _ _ _ _ _ _ _ _ _ _ _ _ _ _ _ _
   | exact ih10 _ _ _ _ _ _ _ _ _ _ _ _
   | exact ih11 _ _ _ _ _ _ _ _ _ _ _ _
   | exact ih12 _ _ _ _ _ _ _ _ _ _ _ _ _ _ _ _ _ _ _ _ _ _
   | exact ih13 _ _ _ _ _ _ _ _ _ _ _ _ _ _ _ _ _ _ _ _ _
   | exact ih14 _ _ _ _ _ _ _ _ _ _ _ _ _ _ _ _ _
   | exact ih15 _ _ _ _ _ _ _ _ _ _ _ _ _ _ _ _ _
   | exact beaconlaw12_awake.mono _
   | exact beaconlaw12_heard.mono _ _ _ _ _ _ _
   | exact session_Accept.mono _ _ _ _ _ _ _
   | exact session_Hear.mono _ _ _ _ _ _ _
   | exact session_Tick.mono _ _ _ _ _ _
   | exact LeO.none _
   | refine LeO.ite ?_ ?_
   | refine LeO.bind ?_ (fun _ => ?_)
  ·intro y0 y1 y2 y3 y4 y5 y6 y7 y8 y9 y10 y11 y12 y13 y14 y15 y16
   unfold beaconlaw12_SessionAgrees.j4
   repeat' first
   | (with_reducible exact ih0 _ _ _ _ _ _ _ _ _ _ _ _)
   | (with_reducible exact ih1 _ _ _ _ _ _ _ _ _ _ _)
   | (with_reducible exact ih2 _ _ _ _ _ _ _ _ _ _ _ _ _ _ _ _)
   | (with_reducible exact ih3 _ _ _ _ _ _ _ _ _ _ _ _)
   | (with_reducible exact ih4 _ _ _ _ _ _ _ _ _ _ _ _)
   | (with_reducible exact ih5 _ _ _ _ _ _ _ _ _ _ _ _ _ _ _ _ _ _ _ _ _ _)
   | (with_reducible exact ih6 _ _ _ _ _ _ _ _ _ _ _ _ _ _ _ _ _ _ _ _ _)
   | (with_reducible exact ih7 _ _ _ _ _ _ _ _ _ _ _ _ _ _ _ _ _)
   | (with_reducible exact ih8 _ _ _ _ _ _ _ _ _ _ _ _ _ _ _ _ _)
   | (with_reducible exact ih9 _ _ _ _ _ _ _ _ _ _ _ _ _ _ _ _)
   | (with_reducible exact ih10 _ _ _ _ _ _ _ _ _ _ _ _)
   | (with_reducible exact ih11 _ _ _ _ _ _ _ _ _ _ _ _)
   | (with_reducible exact ih12 _ _ _ _ _ _ _ _ _ _ _ _ _ _ _ _ _ _ _ _ _ _)
   | (with_reducible exact ih13 _ _ _ _ _ _ _ _ _ _ _ _ _ _ _ _ _ _ _ _ _)
   | (with_reducible exact ih14 _ _ _ _ _ _ _ _ _ _ _ _ _ _ _ _ _)
   | (with_reducible exact ih15 _ _ _ _ _ _ _ _ _ _ _ _ _ _ _ _ _)
   | (with_reducible exact beaconlaw12_awake.mono _)
   | (with_reducible exact beaconlaw12_heard.mono _ _ _ _ _ _ _)
   | (with_reducible exact session_Accept.mono _ _ _ _ _ _ _)
   | (with_reducible exact session_Hear.mono _ _ _ _ _ _ _)
   | (with_reducible exact session_Tick.mono _ _ _ _ _ _)
   | (with_reducible exact LeO.refl _)
   | (with_reducible exact LeO.none _)
   | (with_reducible refine LeO.ite ?_ ?_)
   | (with_reducible refine LeO.bind ?_ (fun _ => ?_))
   | exact ih0 _ _ _ _ _ _ _ _ _ _ _ _
   | exact ih1 _ _ _ _ _ _ _ _ _ _ _
   | exact ih2 _ _ _ _ _ _ _ _ _ _ _ _ _ _ _ _
   | exact ih3 _ _ _ _ _ _ _ _ _ _ _ _
   | exact ih4 _ _ _ _ _ _ _ _ _ _ _ _
   | exact ih5 _ _ _ _ _ _ _ _ _ _ _ _ _ _ _ _ _ _ _ _ _ _
   | exact ih6 _ _ _ _ _ _ _ _ _ _ _ _ _ _ _ _ _ _ _ _ _
   | exact ih7 _ _ _ _ _ _ _ _ _ _ _ _ _ _ _ _ _
   | exact ih8 _ _ _ _ _ _ _ _ _ _ _ _ _ _ _ _ _
   | exact ih9 _ _ _ _ _ _ _ _ _ _ _ _ _ _ _ _
   | exact ih10 _ _ _ _ _ _ _ _ _ _ _ _
   | exact ih11 _ _ _ _ _ _ _ _ _ _ _ _
   | exact ih12 _ _ _ _ _ _ _ _ _ _ _ _ _ _ _ _ _ _ _ _ _ _
   | exact ih13 _ _ _ _ _ _ _ _ _ _ _ _ _ _ _ _ _ _ _ _ _
   | exact ih14 _ _ _ _ _ _ _ _ _ _ _ _ _ _ _ _ _
   | exact ih15 _ _ _ _ _ _ _ _ _ _ _ _ _ _ _ _ _
   | exact beaconlaw12_awake.mono _
   | exact beaconlaw12_heard.mono _ _ _ _ _ _ _
   | exact session_Accept.mono _ _ _ _ _ _ _
   | exact session_Hear.mono _ _ _ _ _ _ _
   | exact session_Tick.mono _ _ _ _ _ _
   | exact LeO.none _
   | refine LeO.ite ?_ ?_
   | refine LeO.bind ?_ (fun _ => ?_)
  ·intro y0 y1 y2 y3 y4 y5 y6 y7 y8 y9 y10 y11 y12 y13 y14 y15 y16
   unfold beaconlaw12_SessionAgrees.j5
   repeat' first
   | (with_reducible exact ih0 _ _ _ _ _ _ _ _ _ _ _ _)
   | (with_reducible exact ih1 _ _ _ _ _ _ _ _ _ _ _)
   | (with_reducible exact ih2 _ _ _ _ _ _ _ _ _ _ _ _ _ _ _ _)
   | (with_reducible exact ih3 _ _ _ _ _ _ _ _ _ _ _ _)
   | (with_reducible exact ih4 _ _ _ _ _ _ _ _ _ _ _ _)
   | (with_reducible exact ih5 _ _ _ _ _ _ _ _ _ _ _ _ _ _ _ _ _ _ _ _ _ _)
   | (with_reducible exact ih6 _ _ _ _ _ _ _ _ _ _ _ _ _ _ _ _ _ _ _ _ _)
   | (with_reducible exact ih7 _ _ _ _ _ _ _ _ _ _ _ _ _ _ _ _ _)
   | (with_reducible exact ih8 _ _ _ _ _ _ _ _ _ _ _ _ _ _ _ _ _)
   | (with_reducible exact ih9 _ _ _ _ _ _ _ _ _ _ _ _ _ _ _ _)
   | (with_reducible exact ih10 _ _ _ _ _ _ _ _ _ _ _ _)
   | (with_reducible exact ih11 _ _ _ _ _ _ _ _ _ _ _ _)
   | (with_reducible exact ih12 _ _ _ _ _ _ _ _ _ _ _ _ _ _ _ _ _ _ _ _ _ _)
   | (with_reducible exact ih13 _ _ _ _ _ _ _ _ _ _ _ _ _ _ _ _ _ _ _ _ _)
   | (with_reducible exact ih14 _ _ _ _ _ _ _ _ _ _ _ _ _ _ _ _ _)
   | (with_reducible exact ih15 _ _ _ _ _ _ _ _ _ _ _ _ _ _ _ _ _)
   | (with_reducible exact beaconlaw12_awake.mono _)
   | (with_reducible exact beaconlaw12_heard.mono _ _ _ _ _ _ _)
   | (with_reducible exact session_Accept.mono _ _ _ _ _ _ _)
   | (with_reducible exact session_Hear.mono _ _ _ _ _ _ _)
   | (with_reducible exact session_Tick.mono _ _ _ _ _ _)
   | (with_reducible exact LeO.refl _)
   | (with_reducible exact LeO.none _)
   | (with_reducible refine LeO.ite ?_ ?_)
   | (with_reducible refine LeO.bind ?_ (fun _ => ?_))
   | exact ih0 _ _ _ _ _ _ _ _ _ _ _ _
   | exact ih1 _ _ _ _ _ _ _ _ _ _ _
   | exact ih2 _ _ _ _ _ _ _ _ _ _ _ _ _ _ _ _
   | exact ih3 _ _ _ _ _ _ _ _ _ _ _ _
   | exact ih4 _ _ _ _ _ _ _ _ _ _ _ _
   | exact ih5 _ _ _ _ _ _ _ _ _ _ _ _ _ _ _ _ _ _ _ _ _ _
   | exact ih6 _ _ _ _ _ _ _ _ _ _ _ _ _ _ _ _ _ _ _ _ _
   | exact ih7 _ _ _ _ _ _ _ _ _ _ _ _ _ _ _ _ _
   | exact ih8 _ _ _ _ _ _ _ _ _ _ _ _ _ _ _ _ _
   | exact ih9 _ _ _ _ _ _ _ _ _ _ _ _ _ _ _ _
   | exact ih10 _ _ _ _ _ _ _ _ _ _ _ _
   | exact ih11 _ _ _ _ _ _ _ _ _ _ _ _
   | exact ih12 _ _ _ _ _ _ _ _ _ _ _ _ _ _ _ _ _ _ _ _ _ _
   | exact ih13 _ _ _ _ _ _ _ _ _ _ _ _ _ _ _ _ _ _ _ _ _
   | exact ih14 _ _ _ _ _ _ _ _ _ _ _ _ _ _ _ _ _
   | exact ih15 _ _ _ _ _ _ _ _ _ _ _ _ _ _ _ _ _
   | exact beaconlaw12_awake.mono _
   | exact beaconlaw12_heard.mono _ _ _ _ _ _ _
   | exact session_Accept.mono _ _ _ _ _ _ _
   | exact session_Hear.mono _ _ _ _ _ _ _
   | exact session_Tick.mono _ _ _ _ _ _
   | exact LeO.none _
   | refine LeO.ite ?_ ?_
   | refine LeO.bind ?_ (fun _ => ?_)
  ·intro y0 y1 y2 y3 y4 y5 y6 y7 y8 y9 y10 y11 y12 y13 y14 y15
   unfold beaconlaw12_SessionAgrees.j13
   repeat' first
   | (with_reducible exact ih0 _ _ _ _ _ _ _ _ _ _ _ _)
   | (with_reducible exact ih1 _ _ _ _ _ _ _ _ _ _ _)
   | (with_reducible exact ih2 _ _ _ _ _ _ _ _ _ _ _ _ _ _ _ _)
   | (with_reducible exact ih3 _ _ _ _ _ _ _ _ _ _ _ _)
   | (with_reducible exact ih4 _ _ _ _ _ _ _ _ _ _ _ _)
   | (with_reducible exact ih5 _ _ _ _ _ _ _ _ _ _ _ _ _ _ _ _ _ _ _ _ _ _)
   | (with_reducible exact ih6 _ _ _ _ _ _ _ _ _ _ _ _ _ _ _ _ _ _ _ _ _)
   | (with_reducible exact ih7 _ _ _ _ _ _ _ _ _ _ _ _ _ _ _ _ _)
   | (with_reducible exact ih8 _ _ _ _ _ _ _ _ _ _ _ _ _ _ _ _ _)
   | (with_reducible exact ih9 _ _ _ _ _ _ _ _ _ _ _ _ _ _ _ _)
   | (with_reducible exact ih10 _ _ _ _ _ _ _ _ _ _ _ _)
   | (with_reducible exact ih11 _ _ _ _ _ _ _ _ _ _ _ _)
   | (with_reducible exact ih12 _ _ _ _ _ _ _ _ _ _ _ _ _ _ _ _ _ _ _ _ _ _)
   | (with_reducible exact ih13 _ _ _ _ _ _ _ _ _ _ _ _ _ _ _ _ _ _ _ _ _)
   | (with_reducible exact ih14 _ _ _ _ _ _ _ _ _ _ _ _ _ _ _ _ _)
   | (with_reducible exact ih15 _ _ _ _ _ _ _ _ _ _ _ _ _ _ _ _ _)
   | (with_reducible exact beaconlaw12_awake.mono _)
   | (with_reducible exact beaconlaw12_heard.mono _ _ _ _ _ _ _)
   | (with_reducible exact session_Accept.mono _ _ _ _ _ _ _)
   | (with_reducible exact session_Hear.mono _ _ _ _ _ _ _)
   | (with_reducible exact session_Tick.mono _ _ _ _ _ _)
   | (with_reducible exact LeO.refl _)
   | (with_reducible exact LeO.none _)
   | (with_reducible refine LeO.ite ?_ ?_)
   | (with_reducible refine LeO.bind ?_ (fun _ => ?_))
   | exact ih0 _ _ _ _ _ _ _ _ _ _ _ _
   | exact ih1 _ _ _ _ _ _ _ _ _ _ _
   | exact ih2 _ _ _ _ _ _ _ _ _ _ _ _ _ _ _ _
   | exact ih3 _ _ _ _ _ _ _ _ _ _ _ _
   | exact ih4 _ _ _ _ _ _ _ _ _ _ _ _
   | exact ih5 _ _ _ _ _ _ _ _ _ _ _ _ _ _ _ _ _ _ _ _ _ _
   | exact ih6 _ _ _ _ _ _ _ _ _ _ _ _ _ _ _ _ _ _ _ _ _
   | exact ih7 _ _ _ _ _ _ _ _ _ _ _ _ _ _ _ _ _
   | exact ih8 _ _ _ _ _ _ _ _ _ _ _ _ _ _ _ _ _
   | exact ih9 _ _ _ _ _ _ _ _ _ _ _ _ _ _ _ _
   | exact ih10 _ _ _ _ _ _ _ _ _ _ _ _
   | exact ih11 _ _ _ _ _ _ _ _ _ _ _ _
   | exact ih12 _ _ _ _ _ _ _ _ _ _ _ _ _ _ _ _ _ _ _ _ _ _
   | exact ih13 _ _ _ _ _ _ _ _ _ _ _ _ _ _ _ _ _ _ _ _ _
   | exact ih14 _ _ _ _ _ _ _ _ _ _ _ _ _ _ _ _ _
   | exact ih15 _ _ _ _ _ _ _ _ _ _ _ _ _ _ _ _ _
   | exact beaconlaw12_awake.mono _
   | exact beaconlaw12_heard.mono _ _ _ _ _ _ _
   | exact session_Accept.mono _ _ _ _ _ _ _
   | exact session_Hear.mono _ _ _ _ _ _ _
   | exact session_Tick.mono _ _ _ _ _ _
   | exact LeO.none _
   | refine LeO.ite ?_ ?_
   | refine LeO.bind ?_ (fun _ => ?_)
  ·intro y0 y1 y2 y3 y4 y5 y6 y7 y8 y9 y10 y11
   unfold beaconlaw12_SessionAgrees.j14
   repeat' first
   | (with_reducible exact ih0 _ _ _ _ _ _ _ _ _ _ _ _)
   | (with_reducible exact ih1 _ _ _ _ _ _ _ _ _ _ _)
   | (with_reducible exact ih2 _ _ _ _ _ _ _ _ _ _ _ _ _ _ _ _)
   | (with_reducible exact ih3 _ _ _ _ _ _ _ _ _ _ _ _)
   | (with_reducible exact ih4 _ _ _ _ _ _ _ _ _ _ _ _)
   | (with_reducible exact ih5 _ _ _ _ _ _ _ _ _ _ _ _ _ _ _ _ _ _ _ _ _ _)
   | (with_reducible exact ih6 _ _ _ _ _ _ _ _ _ _ _ _ _ _ _ _ _ _ _ _ _)
   | (with_reducible exact ih7 _ _ _ _ _ _ _ _ _ _ _ _ _ _ _ _ _)
   | (with_reducible exact ih8 _ _ _ _ _ _ _ _ _ _ _ _ _ _ _ _ _)
   | (with_reducible exact ih9 _ _ _ _ _ _ _ _ _ _ _ _ _ _ _ _)
   | (with_reducible exact ih10 _ _ _ _ _ _ _ _ _ _ _ _)
   | (with_reducible exact ih11 _ _ _ _ _ _ _ _ _ _ _ _)
   | (with_reducible exact ih12 _ _ _ _ _ _ _ _ _ _ _ _ _ _ _ _ _ _ _ _ _ _)
   | (with_reducible exact ih13 _ _ _ _ _ _ _ _ _ _ _ _ _ _ _ _ _ _ _ _ _)
   | (with_reducible exact ih14 _ _ _ _ _ _ _ _ _ _ _ _ _ _ _ _ _)
   | (with_reducible exact ih15 _ _ _ _ _ _ _ _ _ _ _ _ _ _ _ _ _)
   | (with_reducible exact beaconlaw12_awake.mono _)
   | (with_reducible exact beaconlaw12_heard.mono _ _ _ _ _ _ _)
   | (with_reducible exact session_Accept.mono _ _ _ _ _ _ _)
   | (with_reducible exact session_Hear.mono _ _ _ _ _ _ _)
   | (with_reducible exact session_Tick.mono _ _ _ _ _ _)
   | (with_reducible exact LeO.refl _)
   | (with_reducible exact LeO.none _)
   | (with_reducible refine LeO.ite ?_ ?_)
   | (with_reducible refine LeO.bind ?_ (fun _ => ?_))
   | exact ih0 _ _ _ _ _ _ _ _ _ _ _ _
   | exact ih1 _ _ _ _ _ _ _ _ _ _ _
   | exact ih2 _ _ _ _ _ _ _ _ _ _ _ _ _ _ _ _
   | exact ih3 _ _ _ _ _ _ _ _ _ _ _ _
   | exact ih4 _ _ _ _ _ _ _ _ _ _ _ _
   | exact ih5 _ _ _ _ _ _ _ _ _ _ _ _ _ _ _ _ _ _ _ _ _ _
   | exact ih6 _ _ _ _ _ _ _ _ _ _ _ _ _ _ _ _ _ _ _ _ _
   | exact ih7 _ _ _ _ _ _ _ _ _ _ _ _ _ _ _ _ _
   | exact ih8 _ _ _ _ _ _ _ _ _ _ _ _ _ _ _ _ _
   | exact ih9 _ _ _ _ _ _ _ _ _ _ _ _ _ _ _ _
   | exact ih10 _ _ _ _ _ _ _ _ _ _ _ _
   | exact ih11 _ _ _ _ _ _ _ _ _ _ _ _
   | exact ih12 _ _ _ _ _ _ _ _ _ _ _ _ _ _ _ _ _ _ _ _ _ _
   | exact ih13 _ _ _ _ _ _ _ _ _ _ _ _ _ _ _ _ _ _ _ _ _
   | exact ih14 _ _ _ _ _ _ _ _ _ _ _ _ _ _ _ _ _
   | exact ih15 _ _ _ _ _ _ _ _ _ _ _ _ _ _ _ _ _
   | exact beaconlaw12_awake.mono _
   | exact beaconlaw12_heard.mono _ _ _ _ _ _ _
   | exact session_Accept.mono _ _ _ _ _ _ _
   | exact session_Hear.mono _ _ _ _ _ _ _
   | exact session_Tick.mono _ _ _ _ _ _
   | exact LeO.none _
   | refine LeO.ite ?_ ?_
   | refine LeO.bind ?_ (fun _ => ?_)
  ·intro y0 y1 y2 y3 y4 y5 y6 y7 y8 y9 y10 y11
   unfold beaconlaw12_SessionAgrees.j15
   repeat' first
   | (with_reducible exact ih0 _ _ _ _ _ _ _ _ _ _ _ _)
   | (with_reducible exact ih1 _ _ _ _ _ _ _ _ _ _ _)
   | (with_reducible exact ih2 _ _ _ _ _ _ _ _ _ _ _ _ _ _ _ _)
   | (with_reducible exact ih3 _ _ _ _ _ _ _ _ _ _ _ _)
   | (with_reducible exact ih4 _ _ _ _ _ _ _ _ _ _ _ _)
   | (with_reducible exact ih5 _ _ _ _ _ _ _ _ _ _ _ _ _ _ _ _ _ _ _ _ _ _)
   | (with_reducible exact ih6 _ _ _ _ _ _ _ _ _ _ _ _ _ _ _ _ _ _ _ _ _)
   | (with_reducible exact ih7 _ _ _ _ _ _ _ _ _ _ _ _ _ _ _ _ _)
   | (with_reducible exact ih8 _ _ _ _ _ _ _ _ _ _ _ _ _ _ _ _ _)
   | (with_reducible exact ih9 _ _ _ _ _ _ _ _ _ _ _ _ _ _ _ _)
   | (with_reducible exact ih10 _ _ _ _ _ _ _ _ _ _ _ _)
   | (with_reducible exact ih11 _ _ _ _ _ _ _ _ _ _ _ _)
   | (with_reducible exact ih12 _ _ _ _ _ _ _ _ _ _ _ _ _ _ _ _ _ _ _ _ _ _)
   | (with_reducible exact ih13 _ _ _ _ _ _ _ _ _ _ _ _ _ _ _ _ _ _ _ _ _)
   | (with_reducible exact ih14 _ _ _ _ _ _ _ _ _ _ _ _ _ _ _ _ _)
   | (with_reducible exact ih15 _ _ _ _ _ _ _ _ _ _ _ _ _ _ _ _ _)
   | (with_reducible exact beaconlaw12_awake.mono _)
   | (with_reducible exact beaconlaw12_heard.mono _ _ _ _ _ _ _)
   | (with_reducible exact session_Accept.mono _ _ _ _ _ _ _)
   | (with_reducible exact session_Hear.mono _ _ _ _ _ _ _)
   | (with_reducible exact session_Tick.mono _ _ _ _ _ _)
   | (with_reducible exact LeO.refl _)
   | (with_reducible exact LeO.none _)
   | (with_reducible refine LeO.ite ?_ ?_)
   | (with_reducible refine LeO.bind ?_ (fun _ => ?_))
   | exact ih0 _ _ _ _ _ _ _ _ _ _ _ _
   | exact ih1 _ _ _ _ _ _ _ _ _ _ _
   | exact ih2 _ _ _ _ _ _ _ _ _ _ _ _ _ _ _ _
   | exact ih3 _ _ _ _ _ _ _ _ _ _ _ _
   | exact ih4 _ _ _ _ _ _ _ _ _ _ _ _
   | exact ih5 _ _ _ _ _ _ _ _ _ _ _ _ _ _ _ _ _ _ _ _ _ _
   | exact ih6 _ _ _ _ _ _ _ _ _ _ _ _ _ _ _ _ _ _ _ _ _
   | exact ih7 _ _ _ _ _ _ _ _ _ _ _ _ _ _ _ _ _
   | exact ih8 _ _ _ _ _ _ _ _ _ _ _ _ _ _ _ _ _
   | exact ih9 _ _ _ _ _ _ _ _ _ _ _ _ _ _ _ _
   | exact ih10 _ _ _ _ _ _ _ _ _ _ _ _
   | exact ih11 _ _ _ _ _ _ _ _ _ _ _ _
   | exact ih12 _ _ _ _ _ _ _ _ _ _ _ _ _ _ _ _ _ _ _ _ _ _
   | exact ih13 _ _ _ _ _ _ _ _ _ _ _ _ _ _ _ _ _ _ _ _ _
   | exact ih14 _ _ _ _ _ _ _ _ _ _ _ _ _ _ _ _ _
   | exact ih15 _ _ _ _ _ _ _ _ _ _ _ _ _ _ _ _ _
   | exact beaconlaw12_awake.mono _
   | exact beaconlaw12_heard.mono _ _ _ _ _ _ _
   | exact session_Accept.mono _ _ _ _ _ _ _
   | exact session_Hear.mono _ _ _ _ _ _ _
   | exact session_Tick.mono _ _ _ _ _ _
   | exact LeO.none _
   | refine LeO.ite ?_ ?_
   | refine LeO.bind ?_ (fun _ => ?_)
  ·intro y0 y1 y2 y3 y4 y5 y6 y7 y8 y9 y10 y11 y12 y13 y14 y15 y16 y17 y18 y19 y20 y21
   unfold beaconlaw12_SessionAgrees.j9
   repeat' first
   | (with_reducible exact ih0 _ _ _ _ _ _ _ _ _ _ _ _)
   | (with_reducible exact ih1 _ _ _ _ _ _ _ _ _ _ _)
   | (with_reducible exact ih2 _ _ _ _ _ _ _ _ _ _ _ _ _ _ _ _)
   | (with_reducible exact ih3 _ _ _ _ _ _ _ _ _ _ _ _)
   | (with_reducible exact ih4 _ _ _ _ _ _ _ _ _ _ _ _)
   | (with_reducible exact ih5 _ _ _ _ _ _ _ _ _ _ _ _ _ _ _ _ _ _ _ _ _ _)
   | (with_reducible exact ih6 _ _ _ _ _ _ _ _ _ _ _ _ _ _ _ _ _ _ _ _ _)
   | (with_reducible exact ih7 _ _ _ _ _ _ _ _ _ _ _ _ _ _ _ _ _)
   | (with_reducible exact ih8 _ _ _ _ _ _ _ _ _ _ _ _ _ _ _ _ _)
   | (with_reducible exact ih9 _ _ _ _ _ _ _ _ _ _ _ _ _ _ _ _)
   | (with_reducible exact ih10 _ _ _ _ _ _ _ _ _ _ _ _)
   | (with_reducible exact ih11 _ _ _ _ _ _ _ _ _ _ _ _)
   | (with_reducible exact ih12 _ _ _ _ _ _ _ _ _ _ _ _ _ _ _ _ _ _ _ _ _ _)
   | (with_reducible exact ih13 _ _ _ _ _ _ _ _ _ _ _ _ _ _ _ _ _ _ _ _ _)
   | (with_reducible exact ih14 _ _ _ _ _ _ _ _ _ _ _ _ _ _ _ _ _)
   | (with_reducible exact ih15 _ _ _ _ _ _ _ _ _ _ _ _ _ _ _ _ _)
   | (with_reducible exact beaconlaw12_awake.mono _)
   | (with_reducible exact beaconlaw12_heard.mono _ _ _ _ _ _ _)
   | (with_reducible exact session_Accept.mono _ _ _ _ _ _ _)
   | (with_reducible exact session_Hear.mono _ _ _ _ _ _ _)
   | (with_reducible exact session_Tick.mono _ _ _ _ _ _)
   | (with_reducible exact LeO.refl _)
   | (with_reducible exact LeO.none _)
   | (with_reducible refine LeO.ite ?_ ?_)
   | (with_reducible refine LeO.bind ?_ (fun _ => ?_))
   | exact ih0 _ _ _ _ _ _ _ _ _ _ _ _
   | exact ih1 _ _ _ _ _ _ _ _ _ _ _
   | exact ih2 _ _ _ _ _ _ _ _ _ _ _ _ _ _ _ _
   | exact ih3 _ _ _ _ _ _ _ _ _ _ _ _
   | exact ih4 _ _ _ _ _ _ _ _ _ _ _ _
   | exact ih5 _ _ _ _ _ _ _ _ _ _ _ _ _ _ _ _ _ _ _ _ _ _
   | exact ih6 _ _ _ _ _ _ _ _ _ _ _ _ _ _ _ _ _ _ _ _ _
   | exact ih7 _ _ _ _ _ _ _ _ _ _ _ _ _ _ _ _ _
   | exact ih8 _ _ _ _ _ _ _ _ _ _ _ _ _ _ _ _ _
   | exact ih9 _ _ _ _ _ _ _ _ _ _ _ _ _ _ _ _
   | exact ih10 _ _ _ _ _ _ _ _ _ _ _ _
   | exact ih11 _ _ _ _ _ _ _ _ _ _ _ _
   | exact ih12 _ _ _ _ _ _ _ _ _ _ _ _ _ _ _ _ _ _ _ _ _ _
   | exact ih13 _ _ _ _ _ _ _ _ _ _ _ _ _ _ _ _ _ _ _ _ _
   | exact ih14 _ _ _ _ _ _ _ _ _ _ _ _ _ _ _ _ _
   | exact ih15 _ _ _ _ _ _ _ _ _ _ _ _ _ _ _ _ _
   | exact beaconlaw12_awake.mono _
   | exact beaconlaw12_heard.mono _ _ _ _ _ _ _
   | exact session_Accept.mono _ _ _ _ _ _ _
   | exact session_Hear.mono _ _ _ _ _ _ _
   | exact session_Tick.mono _ _ _ _ _ _
   | exact LeO.none _
   | refine LeO.ite ?_ ?_
   | refine LeO.bind ?_ (fun _ => ?_)
  ·intro y0 y1 y2 y3 y4 y5 y6 y7 y8 y9 y10 y11 y12 y13 y14 y15 y16 y17 y18 y19 y20
   unfold beaconlaw12_SessionAgrees.j10
   repeat' first
   | (with_reducible exact ih0 _ _ _ _ _ _ _ _ _ _ _ _)
   | (with_reducible exact ih1 _ _ _ _ _ _ _ _ _ _ _)
   | (with_reducible exact ih2 _ _ _ _ _ _ _ _ _ _ _ _ _ _ _ _)
   | (with_reducible exact ih3 _ _ _ _ _ _ _ _ _ _ _ _)
   | (with_reducible exact ih4 _ _ _ _ _ _ _ _ _ _ _ _)
   | (with_reducible exact ih5 _ _ _ _ _ _ _ _ _ _ _ _ _ _ _ _ _ _ _ _ _ _)
   | (with_reducible exact ih6 _ _ _ _ _ _ _ _ _ _ _ _ _ _ _ _ _ _ _ _ _)
   | (with_reducible exact ih7 _ _ _ _ _ _ _ _ _ _ _ _ _ _ _ _ _)
   | (with_reducible exact ih8 _ _ _ _ _ _ _ _ _ _ _ _ _ _ _ _ _)
   | (with_reducible exact ih9 _ _ _ _ _ _ _ _ _ _ _ _ _ _ _ _)
   | (with_reducible exact ih10 _ _ _ _ _ _ _ _ _ _ _ _)
   | (with_reducible exact ih11 _ _ _ _ _ _ _ _ _ _ _ _)
   | (with_reducible exact ih12 _ _ _ _ _ _ _ _ _ _ _ _ _ _ _ _ _ _ _ _ _ _)
   | (with_reducible exact ih13 _ _ _ _ _ _ _ _ _ _ _ _ _ _ _ _ _ _ _ _ _)
   | (with_reducible exact ih14 _ _ _ _ _ _ _ _ _ _ _ _ _ _ _ _ _)
   | (with_reducible exact ih15 _ _ _ _ _ _ _ _ _ _ _ _ _ _ _ _ _)
   | (with_reducible exact beaconlaw12_awake.mono _)
   | (with_reducible exact beaconlaw12_heard.mono _ _ _ _ _ _ _)
   | (with_reducible exact session_Accept.mono _ _ _ _ _ _ _)
   | (with_reducible exact session_Hear.mono _ _ _ _ _ _ _)
   | (with_reducible exact session_Tick.mono _ _ _ _ _ _)
   | (with_reducible exact LeO.refl _)
   | (with_reducible exact LeO.none _)
   | (with_reducible refine LeO.ite ?_ ?_)
   | (with_reducible refine LeO.bind ?_ (fun _ => ?_))
   | exact ih0 _ _ _ _ _ _ _ _ _ _ _ _
   | exact ih1 _ _ _ _ _ _ _ _ _ _ _
   | exact ih2 _ _ _ _ _ _ _ _ _ _ _ _ _ _ _ _
   | exact ih3 _ _ _ _ _ _ _ _ _ _ _ _
   | exact ih4 _ _ _ _ _ _ _ _ _ _ _ _
   | exact ih5 _ _ _ _ _ _ _ _ _ _ _ _ _ _ _ _ _ _ _ _ _ _
   | exact ih6 _ _ _ _ _ _ _ _ _ _ _ _ _ _ _ _ _ _ _ _ _
   | exact ih7 _ _ _ _ _ _ _ _ _ _ _ _ _ _ _ _ _
   | exact ih8 _ _ _ _ _ _ _ _ _ _ _ _ _ _ _ _ _
   | exact ih9 _ _ _ _ _ _ _ _ _ _ _ _ _ _ _ _
   | exact ih10 _ _ _ _ _ _ _ _ _ _ _ _
   | exact ih11 _ _ _ _ _ _ _ _ _ _ _ _
   | exact ih12 _ _ _ _ _ _ _ _ _ _ _ _ _ _ _ _ _ _ _ _ _ _
   | exact ih13 _ _ _ _ _ _ _ _ _ _ _ _ _ _ _ _ _ _ _ _ _
   | exact ih14 _ _ _ _ _ _ _ _ _ _ _ _ _ _ _ _ _
   | exact ih15 _ _ _ _ _ _ _ _ _ _ _ _ _ _ _ _ _
   | exact beaconlaw12_awake.mono _
   | exact beaconlaw12_heard.mono _ _ _ _ _ _ _
   | exact session_Accept.mono _ _ _ _ _ _ _
   | exact session_Hear.mono _ _ _ _ _ _ _
   | exact session_Tick.mono _ _ _ _ _ _
   | exact LeO.none _
   | refine LeO.ite ?_ ?_
   | refine LeO.bind ?_ (fun _ => ?_)
  ·intro y0 y1 y2 y3 y4 y5 y6 y7 y8 y9 y10 y11 y12 y13 y14 y15 y16
   unfold beaconlaw12_SessionAgrees.j11
   repeat' first
   | (with_reducible exact ih0 _ _ _ _ _ _ _ _ _ _ _ _)
   | (with_reducible exact ih1 _ _ _ _ _ _ _ _ _ _ _)
   | (with_reducible exact ih2 _ _ _ _ _ _ _ _ _ _ _ _ _ _ _ _)
   | (with_reducible exact ih3 _ _ _ _ _ _ _ _ _ _ _ _)
   | (with_reducible exact ih4 _ _ _ _ _ _ _ _ _ _ _ _)
   | (with_reducible exact ih5 _ _ _ _ _ _ _ _ _ _ _ _ _ _ _ _ _ _ _ _ _ _)
   | (with_reducible exact ih6 _ _ _ _ _ _ _ _ _ _ _ _ _ _ _ _ _ _ _ _ _)
   | (with_reducible exact ih7 _ _ _ _ _ _ _ _ _ _ _ _ _ _ _ _ _)
   | (with_reducible exact ih8 _ _ _ _ _ _ _ _ _ _ _ _ _ _ _ _ _)
   | (with_reducible exact ih9 _ _ _ _ _ _ _ _ _ _ _ _ _ _ _ _)
   | (with_reducible exact ih10 _ _ _ _ _ _ _ _ _ _ _ _)
   | (with_reducible exact ih11 _ _ _ _ _ _ _ _ _ _ _ _)
   | (with_reducible exact ih12 _ _ _ _ _ _ _ _ _ _ _ _ _ _ _ _ _ _ _ _ _ _)
   | (with_reducible exact ih13 _ _ _ _ _ _ _ _ _ _ _ _ _ _ _ _ _ _ _ _ _)
   | (with_reducible exact ih14 _ _ _ _ _ _ _ _ _ _ _ _ _ _ _ _ _)
   | (with_reducible exact ih15 _ _ _ _ _ _ _ _ _ _ _ _ _ _ _ _ _)
   | (with_reducible exact beaconlaw12_awake.mono _)
   | (with_reducible exact beaconlaw12_heard.mono _ _ _ _ _ _ _)
   | (with_reducible exact session_Accept.mono _ _ _ _ _ _ _)
   | (with_reducible exact session_Hear.mono _ _ _ _ _ _ _)
   | (with_reducible exact session_Tick.mono _ _ _ _ _ _)
   | (with_reducible exact LeO.refl _)
   | (with_reducible exact LeO.none _)
   | (with_reducible refine LeO.ite ?_ ?_)
   | (with_reducible refine LeO.bind ?_ (fun _ => ?_))
   | exact ih0 _ _ _ _ _ _ _ _ _ _ _ _
   | exact ih1 _ _ _ _ _ _ _ _ _ _ _
   | exact ih2 _ _ _ _ _ _ _ _ _ _ _ _ _ _ _ _
   | exact ih3 _ _ _ _ _ _ _ _ _ _ _ _
   | exact ih4 _ _ _ _ _ _ _ _ _ _ _ _
   | exact ih5 _ _ _ _ _ _ _ _ _ _ _ _ _ _ _ _ _ _ _ _ _ _
   | exact ih6 _ _ _ _ _ _ _ _ _ _ _ _ _ _ _ _ _ _ _ _ _
   | exact ih7 _ _ _ _ _ _ _ _ _ _ _ _ _ _ _ _ _
   | exact ih8 _ _ _ _ _ _ _ _ _ _ _ _ _ _ _ _ _
   | exact ih9 _ _ _ _ _ _ _ _ _ _ _ _ _ _ _ _
   | exact ih10 _ _ _ _ _ _ _ _ _ _ _ _
   | exact ih11 _ _ _ _ _ _ _ _ _ _ _ _
   | exact ih12 _ _ _ _ _ _ _ _ _ _ _ _ _ _ _ _ _ _ _ _ _ _
   | exact ih13 _ _ _ _ _ _ _ _ _ _ _ _ _ _ _ _ _ _ _ _ _
   | exact ih14 _ _ _ _ _ _ _ _ _ _ _ _ _ _ _ _ _
   | exact ih15 _ _ _ _ _ _ _ _ _ _ _ _ _ _ _ _ _
   | exact beaconlaw12_awake.mono _
   | exact beaconlaw12_heard.mono _ _ _ _ _ _ _
   | exact session_Accept.mono _ _ _ _ _ _ _
   | exact session_Hear.mono _ _ _ _ _ _ _
   | exact session_Tick.mono _ _ _ _ _ _
   | exact LeO.none _
   | refine LeO.ite ?_ ?_
   | refine LeO.bind ?_ (fun _ => ?_)
  intro y0 y1 y2 y3 y4 y5 y6 y7 y8 y9 y10 y11 y12 y13 y14 y15 y16
  unfold beaconlaw12_SessionAgrees.j12
  repeat' first
  | (with_reducible exact ih0 _ _ _ _ _ _ _ _ _ _ _ _)
  | (with_reducible exact ih1 _ _ _ _ _ _ _ _ _ _ _)
  | (with_reducible exact ih2 _ _ _ _ _ _ _ _ _ _ _ _ _ _ _ _)
  | (with_reducible exact ih3 _ _ _ _ _ _ _ _ _ _ _ _)
  | (with_reducible exact ih4 _ _ _ _ _ _ _ _ _ _ _ _)
  | (with_reducible exact ih5 _ _ _ _ _ _ _ _ _ _ _ _ _ _ _ _ _ _ _ _ _ _)
  | (with_reducible exact ih6 _ _ _ _ _ _ _ _ _ _ _ _ _ _ _ _ _ _ _ _ _)
  | (with_reducible exact ih7 _ _ _ _ _ _ _ _ _ _ _ _ _ _ _ _ _)
  | (with_reducible exact ih8 _ _ _ _ _ _ _ _ _ _ _ _ _ _ _ _ _)
  | (with_reducible exact ih9 _ _ _ _ _ _ _ _ _ _ _ _ _ _ _ _)
  | (with_reducible exact ih10 _ _ _ _ _ _ _ _ _ _ _ _)
  | (with_reducible exact ih11 _ _ _ _ _ _ _ _ _ _ _ _)
  | (with_reducible exact ih12 _ _ _ _ _ _ _ _ _ _ _ _ _ _ _ _ _ _ _ _ _ _)
  | (with_reducible exact ih13 _ _ _ _ _ _ _ _ _ _ _ _ _ _ _ _ _ _ _ _ _)
  | (with_reducible exact ih14 _ _ _ _ _ _ _ _ _ _ _ _ _ _ _ _ _)
  | (with_reducible exact ih15 _ _ _ _ _ _ _ _ _ _ _ _ _ _ _ _ _)
  | (with_reducible exact beaconlaw12_awake.mono _)
  | (with_reducible exact beaconlaw12_heard.mono _ _ _ _ _ _ _)
  | (with_reducible exact session_Accept.mono _ _ _ _ _ _ _)
  | (with_reducible exact session_Hear.mono _ _ _ _ _ _ _)
  | (with_reducible exact session_Tick.mono _ _ _ _ _ _)
  | (with_reducible exact LeO.refl _)
  | (with_reducible exact LeO.none _)
  | (with_reducible refine LeO.ite ?_ ?_)
  | (with_reducible refine LeO.bind ?_ (fun _ => ?_))
  | exact ih0 _ _ _ _ _ _ _ _ _ _ _ _
  | exact ih1 _ _ _ _ _ _ _ _ _ _ _
  | exact ih2 _ _ _ _ _ _ _ _ _ _ _ _ _ _ _ _
  | exact ih3 _ _ _ _ _ _ _ _ _ _ _ _
  | exact ih4 _ _ _ _ _ _ _ _ _ _ _ _
  | exact ih5 _ _ _ _ _ _ _ _ _ _ _ _ _ _ _ _ _ _ _ _ _ _
  | exact ih6 _ _ _ _ _ _ _ _ _ _ _ _ _ _ _ _ _ _ _ _ _
  | exact ih7 _ _ _ _ _ _ _ _ _ _ _ _ _ _ _ _ _
  | exact ih8 _ _ _ _ _ _ _ _ _ _ _ _ _ _ _ _ _
  | exact ih9 _ _ _ _ _ _ _ _ _ _ _ _ _ _ _ _
  | exact ih10 _ _ _ _ _ _ _ _ _ _ _ _
  | exact ih11 _ _ _ _ _ _ _ _ _ _ _ _
  | exact ih12 _ _ _ _ _ _ _ _ _ _ _ _ _ _ _ _ _ _ _ _ _ _
  | exact ih13 _ _ _ _ _ _ _ _ _ _ _ _ _ _ _ _ _ _ _ _ _
  | exact ih14 _ _ _ _ _ _ _ _ _ _ _ _ _ _ _ _ _
  | exact ih15 _ _ _ _ _ _ _ _ _ _ _ _ _ _ _ _ _
  | exact beaconlaw12_awake.mono _
  | exact beaconlaw12_heard.mono _ _ _ _ _ _ _
  | exact session_Accept.mono _ _ _ _ _ _ _
  | exact session_Hear.mono _ _ _ _ _ _ _
  | exact session_Tick.mono _ _ _ _ _ _
  | exact LeO.none _
  | refine LeO.ite ?_ ?_
  | refine LeO.bind ?_ (fun _ => ?_)
theorem beaconlaw12_SessionAgrees.mono : ∀ a0 a1 a2 k, LeO (beaconlaw12_SessionAgrees.f k a0 a1 a2) (beaconlaw12_SessionAgrees.f (k + 1) a0 a1 a2) := by
 intro a0 a1 a2 k
 obtain ⟨ih0,ih1,ih2,ih3,ih4,ih5,ih6,ih7,ih8,ih9,ih10,ih11,ih12,ih13,ih14,ih15⟩:=beaconlaw12_SessionAgrees.mono_l k
 unfold beaconlaw12_SessionAgrees.f
 repeat' first
   | (with_reducible exact ih0 _ _ _ _ _ _ _ _ _ _ _ _)
   | (with_reducible exact ih1 _ _ _ _ _ _ _ _ _ _ _)
   | (with_reducible exact ih2 _ _ _ _ _ _ _ _ _ _ _ _ _ _ _ _)
   | (with_reducible exact ih3 _ _ _ _ _ _ _ _ _ _ _ _)
   | (with_reducible exact ih4 _ _ _ _ _ _ _ _ _ _ _ _)
   | (with_reducible exact ih5 _ _ _ _ _ _ _ _ _ _ _ _ _ _ _ _ _ _ _ _ _ _)
   | (with_reducible exact ih6 _ _ _ _ _ _ _ _ _ _ _ _ _ _ _ _ _ _ _ _ _)
   | (with_reducible exact ih7 _ _ _ _ _ _ _ _ _ _ _ _ _ _ _ _ _)
   | (with_reducible exact ih8 _ _ _ _ _ _ _ _ _ _ _ _ _ _ _ _ _)
   | (with_reducible exact ih9 _ _ _ _ _ _ _ _ _ _ _ _ _ _ _ _)
   | (with_reducible exact ih10 _ _ _ _ _ _ _ _ _ _ _ _)
   | (with_reducible exact ih11 _ _ _ _ _ _ _ _ _ _ _ _)
   | (with_reducible exact ih12 _ _ _ _ _ _ _ _ _ _ _ _ _ _ _ _ _ _ _ _ _ _)
   | (with_reducible exact ih13 _ _ _ _ _ _ _ _ _ _ _ _ _ _ _ _ _ _ _ _ _)
   | (with_reducible exact ih14 _ _ _ _ _ _ _ _ _ _ _ _ _ _ _ _ _)
   | (with_reducible exact ih15 _ _ _ _ _ _ _ _ _ _ _ _ _ _ _ _ _)
   | (with_reducible exact beaconlaw12_awake.mono _)
   | (with_reducible exact beaconlaw12_heard.mono _ _ _ _ _ _ _)
   | (with_reducible exact session_Accept.mono _ _ _ _ _ _ _)
   | (with_reducible exact session_Hear.mono _ _ _ _ _ _ _)
   | (with_reducible exact session_Tick.mono _ _ _ _ _ _)
   | (with_reducible exact LeO.refl _)
   | (with_reducible exact LeO.none _)
   | (with_reducible refine LeO.ite ?_ ?_)
   | (with_reducible refine LeO.bind ?_ (fun _ => ?_))
   | exact ih0 _ _ _ _ _ _ _ _ _ _ _ _
   | exact ih1 _ _ _ _ _ _ _ _ _ _ _
   | exact ih2 _ _ _ _ _ _ _ _ _ _ _ _ _ _ _ _
   | exact ih3 _ _ _ _ _ _ _ _ _ _ _ _
   | exact ih4 _ _ _ _ _ _ _ _ _ _ _ _
   | exact ih5 _ _ _ _ _ _ _ _ _ _ _ _ _ _ _ _ _ _ _ _ _ _
   | exact ih6 _ _ _ _ _ _ _ _ _ _ _ _ _ _ _ _ _ _ _ _ _
   | exact ih7 _ _ _ _ _ _ _ _ _ _ _ _ _ _ _ _ _
   | exact ih8 _ _ _ _ _ _ _ _ _ _ _ _ _ _ _ _ _
   | exact ih9 _ _ _ _ _ _ _ _ _ _ _ _ _ _ _ _
   | exact ih10 _ _ _ _ _ _ _ _ _ _ _ _
   | exact ih11 _ _ _ _ _ _ _ _ _ _ _ _
   | exact ih12 _ _ _ _ _ _ _ _ _ _ _ _ _ _ _ _ _ _ _ _ _ _
   | exact ih13 _ _ _ _ _ _ _ _ _ _ _ _ _ _ _ _ _ _ _ _ _
   | exact ih14 _ _ _ _ _ _ _ _ _ _ _ _ _ _ _ _ _
   | exact ih15 _ _ _ _ _ _ _ _ _ _ _ _ _ _ _ _ _
   | exact beaconlaw12_awake.mono _
   | exact beaconlaw12_heard.mono _ _ _ _ _ _ _
   | exact session_Accept.mono _ _ _ _ _ _ _
   | exact session_Hear.mono _ _ _ _ _ _ _
   | exact session_Tick.mono _ _ _ _ _ _
   | exact LeO.none _
   | refine LeO.ite ?_ ?_
   | refine LeO.bind ?_ (fun _ => ?_)
def beaconlaw12_SessionAgrees.T25 : Bool × List (List Nat × List Nat) := (true, [([], []), ([], []), ([1], [1]), ([2], [2]), ([], []), ([4], [4]), ([], []), ([6], [6]), ([3, 5, 7], [3, 5, 7]), ([8], [8]), ([9], [9]), ([9], [9]), ([9], [9]), ([0, 0, 1, 2, 3, 4, 5, 6, 7, 8, 9, 10], [0]), ([13, 10, 8, 0, 1, 2, 3, 4, 5, 6, 7, 8, 9, 10], [10, 13])])
def beaconlaw12_SessionAgrees.B25 : List Nat := [0, 0, 2, 6, 0, 16, 0, 64, 254, 510, 1022, 1022, 1022, 2047, 10239]
theorem beaconlaw12_SessionAgrees.tab25 : rtab .any (opsOf Try.f5 25) = beaconlaw12_SessionAgrees.T25 := by kernel_rfl
theorem beaconlaw12_SessionAgrees.bits25 : waitsOk beaconlaw12_SessionAgrees.T25.2 beaconlaw12_SessionAgrees.B25 = true := by kernel_rfl
def beaconlaw12_SessionAgrees.T26 : Bool × List (List Nat × List Nat) := (true, [([], []), ([0], [0]), ([1], [1]), ([], []), ([3], [3]), ([], []), ([5], [5]), ([2, 4, 6], [2, 4, 6]), ([7], [7]), ([8], [8]), ([8], [8]), ([8], [8]), ([], []), ([12, 9, 7, 0, 1, 2, 3, 4, 5, 6, 7, 8, 9, 12], [9, 12]), ([10, 13, 0, 1, 2, 3, 4, 5, 6, 7, 8, 9, 10, 12, 13], [10]), ([11, 14, 0, 1, 2, 3, 4, 5, 6, 7, 8, 9, 10, 11, 12, 13, 14], [11])])
def beaconlaw12_SessionAgrees.B26 : List Nat := [0, 1, 3, 0, 8, 0, 32, 127, 255, 511, 511, 511, 0, 5119, 14335, 32767]
theorem beaconlaw12_SessionAgrees.tab26 : rtab .any (opsOf Try.f5 26) = beaconlaw12_SessionAgrees.T26 := by kernel_rfl
theorem beaconlaw12_SessionAgrees.bits26 : waitsOk beaconlaw12_SessionAgrees.T26.2 beaconlaw12_SessionAgrees.B26 = true := by kernel_rfl
def beaconlaw12_SessionAgrees.T31 : Bool × List (List Nat × List Nat) := (true, [([], []), ([], []), ([1], [1]), ([2], [2]), ([], []), ([4], [4]), ([3, 5], [3, 5]), ([6], [6]), ([7], [7]), ([7], [7]), ([0, 0, 1, 2, 3, 4, 5, 6, 7, 8], [0]), ([10, 8, 6, 0, 1, 2, 3, 4, 5, 6, 7, 8], [8, 10])])
def beaconlaw12_SessionAgrees.B31 : List Nat := [0, 0, 2, 6, 0, 16, 62, 126, 254, 254, 511, 1535]
theorem beaconlaw12_SessionAgrees.tab31 : rtab .any (opsOf Try.f5 31) = beaconlaw12_SessionAgrees.T31 := by kernel_rfl
theorem beaconlaw12_SessionAgrees.bits31 : waitsOk beaconlaw12_SessionAgrees.T31.2 beaconlaw12_SessionAgrees.B31 = true := by kernel_rfl
end Go.Proofs.Ytjodekffbobmlaa.XA
