/- Go functions of this seat as Lean functions, with proofs that the calls come to them. (Written by xprint.py, a program of this session, over the kit's print.) -/
import Derived.Test.YtpcgjdllgdkobaaXDx0
import Derived.Test.YtpcgjdllgdkobaaXDx2
import Derived.Test.YtpcgjdllgdkobaaXDx3
import Derived.Test.YtpcgjdllgdkobaaXDx12
namespace Go.Proofs.Ytpcgjdllgdkobaa.XD
open Go.RowKit Go.Proofs.YtpcgjdllgdkobaaW.PrintWords Go.Proofs.YtpcgjdllgdkobaaW.PrintLast Go.Proofs.YtpcgjdllgdkobaaW.PrintMore
attribute [local go_sem] max2_int min2_int max_two min_two max_three min_three max_four min_four   -- for this text's walks alone
set_option linter.unusedVariables false
set_option linter.unusedSimpArgs false
open List renaming setIfInBounds_toArray → xA, set_cons_zero → xB, set_cons_succ → xC
open Go.Proofs.YtpcgjdllgdkobaaW.PrintWords renaming blk_drewN → bN, blk_drew → bD, blk_alloc → bA, below_set → bS, blk_frozen → bF, blk_cell → bC, cell_far → cF, blk_far → bZ, blk_below → bB, pw_below_drewN → bwN, below_drew1 → bw1, below_alloc → bwA
open Go.Proofs.YtpcgjdllgdkobaaW.PrintZ
open Bool renaming true → T,false → F

/-! ### beaconlaw14_DeltaTakes: function 3 -/
def beaconlaw14_DeltaTakes.l0 : Nat → List Int → Int → Int → Int → Option (Bool)
 | 0, _, _, _, _ => none
 | k + 1, x1, x6, x177000, x178000 => if x6 < (x1.length : Int) then (if 0 ≤ x6 then ((delta_Take.f x177000 (rd x1 x6)).bind fun bt180 => ((beaconref14_Take.f x178000 (rd x1 x6)).bind fun bt185 => (if bt180.1 = bt185.1 then (if (bt180.2.1 != bt185.2.1) = true then (some false) else (if (bt180.2.2 != bt185.2.2) = true then (some false) else (beaconlaw14_DeltaTakes.l0 k x1 (wrap64 (x6 + 1)) bt180.1 bt185.1))) else (some false)))) else (none)) else ((beaconlaw14_awake.f k).bind fun t178 => (some t178))
def beaconlaw14_DeltaTakes.f (k : Nat) (a0_0 : Int) (l1 : List Int) : Option (Bool) := beaconlaw14_DeltaTakes.l0 k l1 0 a0_0 a0_0
theorem beaconlaw14_DeltaTakes.mono_l : ∀ k, (∀ y0 y1 y2 y3, LeO (beaconlaw14_DeltaTakes.l0 k y0 y1 y2 y3) (beaconlaw14_DeltaTakes.l0 (k + 1) y0 y1 y2 y3))
 | 0 => fun _ _ _ _ r h => by simp [beaconlaw14_DeltaTakes.l0] at h
 | k + 1 => by
  have ih0:=beaconlaw14_DeltaTakes.mono_l k
  ·intro y0 y1 y2 y3
   unfold beaconlaw14_DeltaTakes.l0
   repeat' first
   | (with_reducible exact ih0 _ _ _ _)
   | (with_reducible exact beaconlaw14_awake.mono _)
   | (with_reducible exact LeO.refl _)
   | (with_reducible exact LeO.none _)
   | (with_reducible refine LeO.ite ?_ ?_)
   | (with_reducible refine LeO.bind ?_ (fun _ => ?_))
   | exact ih0 _ _ _ _
   | exact beaconlaw14_awake.mono _
   | exact LeO.none _
   | refine LeO.ite ?_ ?_
   | refine LeO.bind ?_ (fun _ => ?_)
theorem beaconlaw14_DeltaTakes.mono : ∀ a0 a1 k, LeO (beaconlaw14_DeltaTakes.f k a0 a1) (beaconlaw14_DeltaTakes.f (k + 1) a0 a1) := by
 intro a0 a1 k
 have ih0:=beaconlaw14_DeltaTakes.mono_l k
 unfold beaconlaw14_DeltaTakes.f
 repeat' first
   | (with_reducible exact ih0 _ _ _ _)
   | (with_reducible exact beaconlaw14_awake.mono _)
   | (with_reducible exact LeO.refl _)
   | (with_reducible exact LeO.none _)
   | (with_reducible refine LeO.ite ?_ ?_)
   | (with_reducible refine LeO.bind ?_ (fun _ => ?_))
   | exact ih0 _ _ _ _
   | exact beaconlaw14_awake.mono _
   | exact LeO.none _
   | refine LeO.ite ?_ ?_
   | refine LeO.bind ?_ (fun _ => ?_)
def beaconlaw14_DeltaTakes.T5 : Bool × List (List Nat × List Nat) := (true, [([], []), ([], []), ([], []), ([1, 2], [1, 2]), ([3], [3]), ([0, 4], [0, 4]), ([5], [5]), ([6], [6]), ([6], [6]), ([6], [6]), ([], []), ([10, 7, 5, 0, 1, 2, 3, 4, 5, 6, 7, 10], [7, 10]), ([8, 11, 0, 1, 2, 3, 4, 5, 6, 7, 8, 10, 11], [8]), ([9, 12, 0, 1, 2, 3, 4, 5, 6, 7, 8, 9, 10, 11, 12], [9])])
def beaconlaw14_DeltaTakes.B5 : List Nat := [0, 0, 0, 6, 14, 31, 63, 127, 127, 127, 0, 1279, 3583, 8191]
theorem beaconlaw14_DeltaTakes.tab5 : rtab .any (opsOf Try.f3 5) = beaconlaw14_DeltaTakes.T5 := by kernel_rfl
theorem beaconlaw14_DeltaTakes.bits5 : waitsOk beaconlaw14_DeltaTakes.T5.2 beaconlaw14_DeltaTakes.B5 = true := by kernel_rfl
def beaconlaw14_DeltaTakes.T6 : Bool × List (List Nat × List Nat) := (true, [([], []), ([], []), ([], []), ([1, 2], [1, 2]), ([3], [3]), ([0, 4], [0, 4]), ([5], [5]), ([6], [6]), ([6], [6]), ([6], [6]), ([], []), ([10, 7, 5, 0, 1, 2, 3, 4, 5, 6, 7, 10], [7, 10]), ([8, 11, 0, 1, 2, 3, 4, 5, 6, 7, 8, 10, 11], [8]), ([9, 12, 0, 1, 2, 3, 4, 5, 6, 7, 8, 9, 10, 11, 12], [9])])
def beaconlaw14_DeltaTakes.B6 : List Nat := [0, 0, 0, 6, 14, 31, 63, 127, 127, 127, 0, 1279, 3583, 8191]
theorem beaconlaw14_DeltaTakes.tab6 : rtab .any (opsOf Try.f3 6) = beaconlaw14_DeltaTakes.T6 := by kernel_rfl
theorem beaconlaw14_DeltaTakes.bits6 : waitsOk beaconlaw14_DeltaTakes.T6.2 beaconlaw14_DeltaTakes.B6 = true := by kernel_rfl
set_option maxHeartbeats 8000000 in
set_option maxRecDepth 100000 in
theorem beaconlaw14_DeltaTakes.calls (k : Nat) (a0_0 : Int) (A1 : Option Addr) (c1 : Nat) (l1 : List Int) (r : Bool) (w : World) (hr1 : Kd.C (Kd.int .u64) w A1 l1.length l1) (hc1 : l1.length ≤ c1) (h : beaconlaw14_DeltaTakes.f k a0_0 l1 = some r) (hr_ : r = true) :
  Calls Try.prog 3 #[.agg #[.int .u64 a0_0],.slice A1 l1.length c1] w fun e w' => e = .returned (.bool r) ∧ Below w.heap.size w w':=by
 have hu24:=Try.underlying24
 have HR1:=zA hr1
 have HC1:=zA hc1
 clear hr1 hc1
 have HB:=zA (Below.refl w.heap.size w)
 have HR_:=zA hr_
 clear hr_
 have H : (beaconlaw14_DeltaTakes.l0 k l1 0 a0_0 a0_0) = some r:=h
 clear h
 have H':=zA H
 clear H
 go_enter Try.func3,Try.ntmps3
 go_wp2_with (first|((with_reducible refine gate_dst (N:=2) rfl ?_);refine zb (N:=2) (cs:=#[.int .u64 a0_0]) (t:=24) ?_;intro G176 hg w3 hbox hb;have K176:=zA (hbox);have GW176:=zN HB hg;have GE176:=zN HB hg;replace HB:=zS HB hb;clear hb hbox hg;have hcz4_0 : w3.cell? ⟨G176,0,none⟩ = some (.int .u64 a0_0):=zk K176 0;have hfz4_0:=bF K176.1 0)|((with_reducible refine gate_dst (N:=5) rfl ?_);refine zb (N:=5) (cs:=#[.int .u64 0]) (t:=24) ?_;intro G177 hg w5 hbox hb;have K177:=zA (hbox);have GW177:=zN HB hg;have GE177:=zN HB hg;replace HB:=zS HB hb;have NB176_177:=zL K176 hg;have NB177_176:=zG K176 hg;replace K176:=zB K176 hb;clear hb hbox hg;have:=NB177_176.1;have:=NB176_177.1;have hcz7_0 : w5.cell? ⟨G177,0,none⟩ = some (.int .u64 0):=zk K177 0;have hfz7_0:=bF K177.1 0))
 go_loopg [6] k (fun kq v6 w' => ∃ (x6_1 : Int) (x177000_1 : Int) (x178000_1 : Int),v6 = .int .i64 x6_1 ∧ Aside0 (beaconlaw14_DeltaTakes.l0 kq l1 x6_1 x177000_1 x178000_1 = some r) ∧ Aside0 (kq ≤ k) ∧ Aside0 (w'.heap[G176]? = some (.cells #[.int .u64 x177000_1] 24 (0,0))) ∧ Aside0 (w'.heap[G177]? = some (.cells #[.int .u64 x178000_1] 24 (0,0))) ∧ Aside0 (Below w.heap.size w w'))
 case atStart => exact ⟨(0),(a0_0),(a0_0),ze,H',⟨Nat.le_refl _⟩,⟨zf K176⟩,⟨zF K177⟩,⟨zH HB⟩⟩
 case round =>
  clear H'
  try clear c1;try clear hcz4_0;try clear hcz7_0;try clear hfz4_0;try clear hfz7_0
  obtain ⟨x6_1,x177000_1,x178000_1,rfl,HA,HK1,K176,K177,HB⟩:=hrel
  cases gk with
  | zero => exact absurd HA.out (by simp [beaconlaw14_DeltaTakes.l0])
  | succ k1 =>
   have H:=HA.out
   clear HA
   simp only [beaconlaw14_DeltaTakes.l0] at H
   by_cases c8 : x6_1 < (l1.length : Int)
   ·rw [if_pos c8] at H
    have c8b0 : decide (x6_1 < (l1.length : Int)) = true:=decide_eq_true c8
    clear c8
    by_cases c9 : 0 ≤ x6_1
    ·rw [if_pos c9] at H
     have c9b0 : decide (0 ≤ x6_1) = true:=decide_eq_true c9
     clear c9
     replace H:=Option.bind_eq_some_iff.mp H
     obtain ⟨⟨t180,t181,t182⟩,A100,H⟩:=H
     (try dsimp only at H)
     have A10:=zA A100
     clear A100
     replace H:=Option.bind_eq_some_iff.mp H
     obtain ⟨⟨t185,t186,t187⟩,A110,H⟩:=H
     (try dsimp only at H)
     have A11:=zA A110
     clear A110
     by_cases c12 : t180 = t185
     ·rw [if_pos c12] at H
      have c12b0 : (t180 == t185) = true:=beq_iff_eq.mpr c12
      have c12b1 : (t180 != t185) = false:=bne_eq_false_iff_eq.mpr c12
      clear c12
      by_cases c13 : (t181 != t186) = true
      ·rw [if_pos c13] at H
       have c13b0 : (t181 != t186) = true:=c13
       (try (have c13b1 : decide (t181 = t186) = false:=by simpa using c13))
       (try (have c13b2 : (t181 == t186) = false:=by simpa using c13))
       (try (have c13b3 : ¬ (t181 = t186):=by simpa using c13))
       clear c13
       exact absurd ((Option.some.inj H).trans HR_.out) (by decide)
      ·rw [if_neg c13] at H
       have c13b0 : (t181 != t186) = false:=by simpa using c13
       (try (have c13b1 : decide (t181 = t186) = true:=by simpa using c13))
       (try (have c13b2 : (t181 == t186) = true:=by simpa using c13))
       clear c13
       by_cases c14 : (t182 != t187) = true
       ·rw [if_pos c14] at H
        have c14b0 : (t182 != t187) = true:=c14
        (try (have c14b1 : decide (t182 = t187) = false:=by simpa using c14))
        (try (have c14b2 : (t182 == t187) = false:=by simpa using c14))
        (try (have c14b3 : ¬ (t182 = t187):=by simpa using c14))
        clear c14
        exact absurd ((Option.some.inj H).trans HR_.out) (by decide)
       ·rw [if_neg c14] at H
        have c14b0 : (t182 != t187) = false:=by simpa using c14
        (try (have c14b1 : decide (t182 = t187) = true:=by simpa using c14))
        (try (have c14b2 : (t182 == t187) = true:=by simpa using c14))
        clear c14
        have H':=zA H
        clear H
        try go_wp2
        replace K176:=zA (bD K176.1)
        replace K177:=zA (bD K177.1)
        replace HB:=zA (bw1 HB.1)
        have p179 : 0 ≤ (x6_1 : Int):=zd
        have q179 : x6_1 < (l1.length : Int):=zd
        obtain ⟨ad179,e179,hx179_0⟩:=Kd.at_int HR1.out x6_1 p179 q179
        have hw179_0:=hx179_0
        cases e179
        replace hx179_0:=zh HB hx179_0
        replace p179:=eq_true p179
        replace q179:=eq_true q179
        refine start_ (n:=14) (S:=fun w' => w'.cell? ⟨G176,0,none⟩ = some (.int .u64 x177000_1) ∧ w'.cell? (ad179.add (x6_1).toNat) = some (.int .u64 (rd l1 x6_1))) (ds:=[]) #[F,F,F,F,F,F,F,F,F,F,F,F,F,F] (by kernel_rfl) rfl rfl ⟨zk K176 0,(zh HB hw179_0)⟩ (fun hHeld => ?_);refine with_tabW beaconlaw14_DeltaTakes.tab5 beaconlaw14_DeltaTakes.bits5 (fun HT_ HW_ => ?_)
        generalize wr.drew = w15 at K176 K177 HB hx179_0 hHeld ⊢
        refine pz 1 22 #[F,T,F,F,F,F,F,F,F,F,F,F,F,F] HT_.1 ?_
        refine pz 2 23 #[F,T,T,F,F,F,F,F,F,F,F,F,F,F] HT_.1 ?_
        refine pz 3 24 #[F,T,T,T,F,F,F,F,F,F,F,F,F,F] HT_.1 ?_
        refine tz 0 21 #[T,T,T,T,F,F,F,F,F,F,F,F,F,F] HT_.1 HW_.1 hHeld ?_
        refine tz 4 25 #[T,T,T,T,T,F,F,F,F,F,F,F,F,F] HT_.1 HW_.1 hHeld ?_
        refine join_ (σ:=Nat) 3 #[T,T,T,T,T,T,T,T,T,T,T,F,F,F] (fun s_ => [(26,.tuple #[.agg #[.int .u64 t180],.bool t181,.bool t182]),(7,.pointer (some ⟨s_,0,none⟩)),(20,.tuple #[.agg #[.int .u64 t180],.bool t181,.bool t182]),(27,.agg #[.int .u64 t180]),(28,.bool t181),(29,.bool t182)]) (fun s_ w' => (w'.cell? ⟨G176,0,none⟩ = some (.int .u64 x177000_1) ∧ w'.cell? (ad179.add (x6_1).toNat) = some (.int .u64 (rd l1 x6_1))) ∧ (w'.heap[G176]? = some (.cells #[.int .u64 x177000_1] 24 (0,0))) ∧ (w'.heap[G177]? = some (.cells #[.int .u64 x178000_1] 24 (0,0))) ∧ (w'.heap[s_]? = some (.cells #[.int .u64 0] 24 (0,0))) ∧ (w.heap.size ≤ s_) ∧ (w.heap.size ≤ s_) ∧ (G176 ≠ s_) ∧ (s_ ≠ G176) ∧ (G177 ≠ s_) ∧ (s_ ≠ G177) ∧ (Below w.heap.size w w')) ?_ ?_
        rotate_left
        ·intro hCont
         refine two_ (i:=5) (j:=10) (Ni:=some 26) (Nj:=some 7) #[T,T,T,T,T,T,F,F,F,F,F,F,F,F] #[T,T,T,T,T,F,F,F,F,F,T,F,F,F] rfl rfl rfl rfl (two_of HT_.out (by kernel_rfl)) (by decide) (by decide) (fun K hK => ?_) (fun K hK => ?_)
         ·skip
          refine zo_ Try.func9 #[.agg #[.int .u64 x177000_1],.int .u64 (rd l1 x6_1)] ?_
          with_reducible refine (delta_Take.calls x177000_1 (rd l1 x6_1) t180 t181 t182 _ A10.out).mono ?_
          rintro e w16 ⟨rfl,hb⟩
          refine ⟨_,rfl,?_⟩
          replace K176:=zB K176 hb
          replace K177:=zB K177 hb
          replace HB:=zS HB hb
          (try clear hb)
          (try clear hb2)
          (try clear hk)
          (try clear hi)
          refine hK.out _ _ ⟨zk K176 0,(zh HB hw179_0)⟩ (fun hHeld => ?_)
          clear hK K
          refine nz 26 ?_
          refine pz 6 20 #[T,T,T,T,T,T,T,F,F,F,F,F,F,F] HT_.1 ?_
          refine pz 7 27 #[T,T,T,T,T,T,T,T,F,F,F,F,F,F] HT_.1 ?_
          refine pz 8 28 #[T,T,T,T,T,T,T,T,T,F,F,F,F,F] HT_.1 ?_
          refine pz 9 29 #[T,T,T,T,T,T,T,T,T,T,F,F,F,F] HT_.1 ?_
          refine one_ (i:=10) (N:=some 7) #[T,T,T,T,T,T,T,T,T,T,T,F,F,F] rfl rfl (one_of HT_.out (by kernel_rfl)) (by decide) (fun K hK => ?_)
          refine zs_ (N:=7) (cs:=#[.int .u64 0]) (t:=24) ?_
          intro G183 hg w17 hbox hb
          have K183:=zA (hbox)
          have GW183:=zN HB hg
          have GE183:=zN HB hg
          replace HB:=zS HB hb
          have NB176_183:=zL K176 hg
          have NB183_176:=zG K176 hg
          replace K176:=zB K176 hb
          have NB177_183:=zL K177 hg
          have NB183_177:=zG K177 hg
          replace K177:=zB K177 hb
          clear hb hbox hg
          refine hK.out _ _ ⟨zk K176 0,(zh HB hw179_0)⟩ (fun hHeld => ?_)
          clear hK K
          refine nz 7 ?_
          exact norm_ (by simp only [putAll,Act.put,xA,xB,xC]) (hCont (G183) _ ⟨hHeld,(z1 K176.1),(z1 K177.1),(z1 K183.1),GW183.1,GE183.1,NB176_183.1,NB183_176.1,NB177_183.1,NB183_177.1,(zH HB)⟩)
         ·skip
          refine zs_ (N:=7) (cs:=#[.int .u64 0]) (t:=24) ?_
          intro G183 hg w16 hbox hb
          have K183:=zA (hbox)
          have GW183:=zN HB hg
          have GE183:=zN HB hg
          replace HB:=zS HB hb
          have NB176_183:=zL K176 hg
          have NB183_176:=zG K176 hg
          replace K176:=zB K176 hb
          have NB177_183:=zL K177 hg
          have NB183_177:=zG K177 hg
          replace K177:=zB K177 hb
          clear hb hbox hg
          refine hK.out _ _ ⟨zk K176 0,(zh HB hw179_0)⟩ (fun hHeld => ?_)
          clear hK K
          refine nz 7 ?_
          refine one_ (i:=5) (N:=some 26) #[T,T,T,T,T,T,F,F,F,F,T,F,F,F] rfl rfl (one_of HT_.out (by kernel_rfl)) (by decide) (fun K hK => ?_)
          refine zo_ Try.func9 #[.agg #[.int .u64 x177000_1],.int .u64 (rd l1 x6_1)] ?_
          with_reducible refine (delta_Take.calls x177000_1 (rd l1 x6_1) t180 t181 t182 _ A10.out).mono ?_
          rintro e w17 ⟨rfl,hb⟩
          refine ⟨_,rfl,?_⟩
          replace K176:=zB K176 hb
          replace K177:=zB K177 hb
          replace K183:=zB K183 hb
          replace HB:=zS HB hb
          (try clear hb)
          (try clear hb2)
          (try clear hk)
          (try clear hi)
          refine hK.out _ _ ⟨zk K176 0,(zh HB hw179_0)⟩ (fun hHeld => ?_)
          clear hK K
          refine nz 26 ?_
          refine pz 6 20 #[T,T,T,T,T,T,T,F,F,F,T,F,F,F] HT_.1 ?_
          refine pz 7 27 #[T,T,T,T,T,T,T,T,F,F,T,F,F,F] HT_.1 ?_
          refine pz 8 28 #[T,T,T,T,T,T,T,T,T,F,T,F,F,F] HT_.1 ?_
          refine pz 9 29 #[T,T,T,T,T,T,T,T,T,T,T,F,F,F] HT_.1 ?_
          exact norm_ (by simp only [putAll,Act.put,xA,xB,xC]) (hCont (G183) _ ⟨hHeld,(z1 K176.1),(z1 K177.1),(z1 K183.1),GW183.1,GE183.1,NB176_183.1,NB183_176.1,NB177_183.1,NB183_177.1,(zH HB)⟩)
        rintro G183 w18 ⟨hS_,h0_,h1_,h2_,h3_,h4_,h5_,h6_,h7_,h8_,h9_⟩
        replace K176 : Aside0 (w18.heap[G176]? = some (.cells #[.int .u64 x177000_1] 24 (0,0))):=⟨h0_⟩
        replace K177 : Aside0 (w18.heap[G177]? = some (.cells #[.int .u64 x178000_1] 24 (0,0))):=⟨h1_⟩
        have K183 : Aside0 (w18.heap[G183]? = some (.cells #[.int .u64 0] 24 (0,0))):=⟨h2_⟩
        have GW183 : Aside0 (w.heap.size ≤ G183):=⟨h3_⟩
        have GE183 : Aside0 (w.heap.size ≤ G183):=⟨h4_⟩
        have NB176_183 : Aside0 (G176 ≠ G183):=⟨h5_⟩
        have NB183_176 : Aside0 (G183 ≠ G176):=⟨h6_⟩
        have NB177_183 : Aside0 (G177 ≠ G183):=⟨h7_⟩
        have NB183_177 : Aside0 (G183 ≠ G177):=⟨h8_⟩
        replace HB : Aside0 (Below w.heap.size w w18):=⟨h9_⟩
        clear h0_ h1_ h2_ h3_ h4_ h5_ h6_ h7_ h8_ h9_
        have hHeld : w18.cell? ⟨G176,0,none⟩ = some (.int .u64 x177000_1) ∧ w18.cell? (ad179.add (x6_1).toNat) = some (.int .u64 (rd l1 x6_1)):=hS_
        refine norm_ (a':=?_) ?_ ?_
        rotate_left
        ·simp only [putAll,Act.put,xA,xB,xC]
         rfl
        refine one_ (i:=11) (N:=none) #[T,T,T,T,T,T,T,T,T,T,T,T,F,F] rfl rfl (one_of HT_.out (by kernel_rfl)) (by decide) (fun K hK => ?_)
        have hs19 : w18.cell? ⟨G183,0,none⟩ = some (.int .u64 0):=zk K183 0
        have hfs19:=bF K183.1 0
        have:=NB176_183.1
        have:=NB177_183.1
        have:=NB183_176.1
        have:=NB183_177.1
        refine sz ?_
        refine hK.out _ _ ⟨((cF (p:=⟨G183,_,none⟩) NB176_183.1 _).trans (hHeld.1)),((cF (p:=⟨G183,_,none⟩) (ne_c hw179_0 GW183.1) _).trans (hHeld.2))⟩ (fun hHeld => ?_)
        clear hK K
        refine pz 12 8 #[T,T,T,T,T,T,T,T,T,T,T,T,T,F] HT_.1 ?_
        refine pz 13 9 #[T,T,T,T,T,T,T,T,T,T,T,T,T,T] HT_.1 ?_
        refine done_ (done_of HT_.out (by kernel_rfl)) ?_
        try go_wp2
        have n0_ : Aside0 ((w18.setCell ⟨G183,0,none⟩ (.int .u64 t180)).heap[G176]? = some (.cells #[.int .u64 x177000_1] 24 (0,0))):=⟨zf K176⟩
        have n1_ : Aside0 ((w18.setCell ⟨G183,0,none⟩ (.int .u64 t180)).heap[G177]? = some (.cells #[.int .u64 x178000_1] 24 (0,0))):=⟨zf K177⟩
        have n2_ : Aside0 ((w18.setCell ⟨G183,0,none⟩ (.int .u64 t180)).heap[G183]? = some (.cells #[.int .u64 t180] 24 (0,0))):=⟨zF K183⟩
        have n3_ : Aside0 (Below w.heap.size w (w18.setCell ⟨G183,0,none⟩ (.int .u64 t180))):=⟨zH HB⟩
        (try clear K176)
        (try clear K177)
        (try clear K183)
        (try clear HB)
        generalize (w18.setCell ⟨G183,0,none⟩ (.int .u64 t180)) = w20 at n0_ n1_ n2_ n3_ ⊢
        have K176:=n0_
        have K177:=n1_
        have K183:=n2_
        have HB:=n3_
        clear n0_ n1_ n2_ n3_
        replace K176:=zA (bD K176.1)
        replace K177:=zA (bD K177.1)
        replace K183:=zA (bD K183.1)
        replace HB:=zA (bw1 HB.1)
        have p184 : 0 ≤ (x6_1 : Int):=zd
        have q184 : x6_1 < (l1.length : Int):=zd
        obtain ⟨ad184,e184,hx184_0⟩:=Kd.at_int HR1.out x6_1 p184 q184
        have hw184_0:=hx184_0
        obtain rfl : ad179 = ad184:=(by injection e184)
        replace hx184_0:=zh HB hx184_0
        replace p184:=eq_true p184
        replace q184:=eq_true q184
        refine start_ (n:=14) (S:=fun w' => w'.cell? ⟨G177,0,none⟩ = some (.int .u64 x178000_1) ∧ w'.cell? (ad179.add (x6_1).toNat) = some (.int .u64 (rd l1 x6_1))) (ds:=[]) #[F,F,F,F,F,F,F,F,F,F,F,F,F,F] (by kernel_rfl) rfl rfl ⟨zk K177 0,(zh HB hw184_0)⟩ (fun hHeld => ?_);refine with_tabW beaconlaw14_DeltaTakes.tab6 beaconlaw14_DeltaTakes.bits6 (fun HT_ HW_ => ?_)
        generalize w20.drew = w21 at K176 K177 K183 HB hx184_0 hHeld ⊢
        refine pz 1 32 #[F,T,F,F,F,F,F,F,F,F,F,F,F,F] HT_.1 ?_
        refine pz 2 33 #[F,T,T,F,F,F,F,F,F,F,F,F,F,F] HT_.1 ?_
        refine pz 3 34 #[F,T,T,T,F,F,F,F,F,F,F,F,F,F] HT_.1 ?_
        refine tz 0 31 #[T,T,T,T,F,F,F,F,F,F,F,F,F,F] HT_.1 HW_.1 hHeld ?_
        refine tz 4 35 #[T,T,T,T,T,F,F,F,F,F,F,F,F,F] HT_.1 HW_.1 hHeld ?_
        refine join_ (σ:=Nat) 3 #[T,T,T,T,T,T,T,T,T,T,T,F,F,F] (fun s_ => [(36,.tuple #[.agg #[.int .u64 t185],.bool t186,.bool t187]),(10,.pointer (some ⟨s_,0,none⟩)),(30,.tuple #[.agg #[.int .u64 t185],.bool t186,.bool t187]),(37,.agg #[.int .u64 t185]),(38,.bool t186),(39,.bool t187)]) (fun s_ w' => (w'.cell? ⟨G177,0,none⟩ = some (.int .u64 x178000_1) ∧ w'.cell? (ad179.add (x6_1).toNat) = some (.int .u64 (rd l1 x6_1))) ∧ (w'.heap[G176]? = some (.cells #[.int .u64 x177000_1] 24 (0,0))) ∧ (w'.heap[G177]? = some (.cells #[.int .u64 x178000_1] 24 (0,0))) ∧ (w'.heap[G183]? = some (.cells #[.int .u64 t180] 24 (0,0))) ∧ (w'.heap[s_]? = some (.cells #[.int .u64 0] 24 (0,0))) ∧ (w.heap.size ≤ s_) ∧ (w.heap.size ≤ s_) ∧ (G176 ≠ s_) ∧ (s_ ≠ G176) ∧ (G177 ≠ s_) ∧ (s_ ≠ G177) ∧ (G183 ≠ s_) ∧ (s_ ≠ G183) ∧ (Below w.heap.size w w')) ?_ ?_
        rotate_left
        ·intro hCont
         refine two_ (i:=5) (j:=10) (Ni:=some 36) (Nj:=some 10) #[T,T,T,T,T,T,F,F,F,F,F,F,F,F] #[T,T,T,T,T,F,F,F,F,F,T,F,F,F] rfl rfl rfl rfl (two_of HT_.out (by kernel_rfl)) (by decide) (by decide) (fun K hK => ?_) (fun K hK => ?_)
         ·skip
          refine zo_ Try.func10 #[.agg #[.int .u64 x178000_1],.int .u64 (rd l1 x6_1)] ?_
          with_reducible refine (beaconref14_Take.calls x178000_1 (rd l1 x6_1) t185 t186 t187 _ A11.out).mono ?_
          rintro e w22 ⟨rfl,hb⟩
          refine ⟨_,rfl,?_⟩
          replace K176:=zB K176 hb
          replace K177:=zB K177 hb
          replace K183:=zB K183 hb
          replace HB:=zS HB hb
          (try clear hb)
          (try clear hb2)
          (try clear hk)
          (try clear hi)
          refine hK.out _ _ ⟨zk K177 0,(zh HB hw184_0)⟩ (fun hHeld => ?_)
          clear hK K
          refine nz 36 ?_
          refine pz 6 30 #[T,T,T,T,T,T,T,F,F,F,F,F,F,F] HT_.1 ?_
          refine pz 7 37 #[T,T,T,T,T,T,T,T,F,F,F,F,F,F] HT_.1 ?_
          refine pz 8 38 #[T,T,T,T,T,T,T,T,T,F,F,F,F,F] HT_.1 ?_
          refine pz 9 39 #[T,T,T,T,T,T,T,T,T,T,F,F,F,F] HT_.1 ?_
          refine one_ (i:=10) (N:=some 10) #[T,T,T,T,T,T,T,T,T,T,T,F,F,F] rfl rfl (one_of HT_.out (by kernel_rfl)) (by decide) (fun K hK => ?_)
          refine zs_ (N:=10) (cs:=#[.int .u64 0]) (t:=24) ?_
          intro G188 hg w23 hbox hb
          have K188:=zA (hbox)
          have GW188:=zN HB hg
          have GE188:=zN HB hg
          replace HB:=zS HB hb
          have NB176_188:=zL K176 hg
          have NB188_176:=zG K176 hg
          replace K176:=zB K176 hb
          have NB177_188:=zL K177 hg
          have NB188_177:=zG K177 hg
          replace K177:=zB K177 hb
          have NB183_188:=zL K183 hg
          have NB188_183:=zG K183 hg
          replace K183:=zB K183 hb
          clear hb hbox hg
          refine hK.out _ _ ⟨zk K177 0,(zh HB hw184_0)⟩ (fun hHeld => ?_)
          clear hK K
          refine nz 10 ?_
          exact norm_ (by simp only [putAll,Act.put,xA,xB,xC]) (hCont (G188) _ ⟨hHeld,(z1 K176.1),(z1 K177.1),(z1 K183.1),(z1 K188.1),GW188.1,GE188.1,NB176_188.1,NB188_176.1,NB177_188.1,NB188_177.1,NB183_188.1,NB188_183.1,(zH HB)⟩)
         ·skip
          refine zs_ (N:=10) (cs:=#[.int .u64 0]) (t:=24) ?_
          intro G188 hg w22 hbox hb
          have K188:=zA (hbox)
          have GW188:=zN HB hg
          have GE188:=zN HB hg
          replace HB:=zS HB hb
          have NB176_188:=zL K176 hg
          have NB188_176:=zG K176 hg
          replace K176:=zB K176 hb
          have NB177_188:=zL K177 hg
          have NB188_177:=zG K177 hg
          replace K177:=zB K177 hb
          have NB183_188:=zL K183 hg
          have NB188_183:=zG K183 hg
          replace K183:=zB K183 hb
          clear hb hbox hg
          refine hK.out _ _ ⟨zk K177 0,(zh HB hw184_0)⟩ (fun hHeld => ?_)
          clear hK K
          refine nz 10 ?_
          refine one_ (i:=5) (N:=some 36) #[T,T,T,T,T,T,F,F,F,F,T,F,F,F] rfl rfl (one_of HT_.out (by kernel_rfl)) (by decide) (fun K hK => ?_)
          refine zo_ Try.func10 #[.agg #[.int .u64 x178000_1],.int .u64 (rd l1 x6_1)] ?_
          with_reducible refine (beaconref14_Take.calls x178000_1 (rd l1 x6_1) t185 t186 t187 _ A11.out).mono ?_
          rintro e w23 ⟨rfl,hb⟩
          refine ⟨_,rfl,?_⟩
          replace K176:=zB K176 hb
          replace K177:=zB K177 hb
          replace K183:=zB K183 hb
          replace K188:=zB K188 hb
          replace HB:=zS HB hb
          (try clear hb)
          (try clear hb2)
          (try clear hk)
          (try clear hi)
          refine hK.out _ _ ⟨zk K177 0,(zh HB hw184_0)⟩ (fun hHeld => ?_)
          clear hK K
          refine nz 36 ?_
          refine pz 6 30 #[T,T,T,T,T,T,T,F,F,F,T,F,F,F] HT_.1 ?_
          refine pz 7 37 #[T,T,T,T,T,T,T,T,F,F,T,F,F,F] HT_.1 ?_
          refine pz 8 38 #[T,T,T,T,T,T,T,T,T,F,T,F,F,F] HT_.1 ?_
          refine pz 9 39 #[T,T,T,T,T,T,T,T,T,T,T,F,F,F] HT_.1 ?_
          exact norm_ (by simp only [putAll,Act.put,xA,xB,xC]) (hCont (G188) _ ⟨hHeld,(z1 K176.1),(z1 K177.1),(z1 K183.1),(z1 K188.1),GW188.1,GE188.1,NB176_188.1,NB188_176.1,NB177_188.1,NB188_177.1,NB183_188.1,NB188_183.1,(zH HB)⟩)
        rintro G188 w24 ⟨hS_,h0_,h1_,h2_,h3_,h4_,h5_,h6_,h7_,h8_,h9_,h10_,h11_,h12_⟩
        replace K176 : Aside0 (w24.heap[G176]? = some (.cells #[.int .u64 x177000_1] 24 (0,0))):=⟨h0_⟩
        replace K177 : Aside0 (w24.heap[G177]? = some (.cells #[.int .u64 x178000_1] 24 (0,0))):=⟨h1_⟩
        replace K183 : Aside0 (w24.heap[G183]? = some (.cells #[.int .u64 t180] 24 (0,0))):=⟨h2_⟩
        have K188 : Aside0 (w24.heap[G188]? = some (.cells #[.int .u64 0] 24 (0,0))):=⟨h3_⟩
        have GW188 : Aside0 (w.heap.size ≤ G188):=⟨h4_⟩
        have GE188 : Aside0 (w.heap.size ≤ G188):=⟨h5_⟩
        have NB176_188 : Aside0 (G176 ≠ G188):=⟨h6_⟩
        have NB188_176 : Aside0 (G188 ≠ G176):=⟨h7_⟩
        have NB177_188 : Aside0 (G177 ≠ G188):=⟨h8_⟩
        have NB188_177 : Aside0 (G188 ≠ G177):=⟨h9_⟩
        have NB183_188 : Aside0 (G183 ≠ G188):=⟨h10_⟩
        have NB188_183 : Aside0 (G188 ≠ G183):=⟨h11_⟩
        replace HB : Aside0 (Below w.heap.size w w24):=⟨h12_⟩
        clear h0_ h10_ h11_ h12_ h1_ h2_ h3_ h4_ h5_ h6_ h7_ h8_ h9_
        have hHeld : w24.cell? ⟨G177,0,none⟩ = some (.int .u64 x178000_1) ∧ w24.cell? (ad179.add (x6_1).toNat) = some (.int .u64 (rd l1 x6_1)):=hS_
        refine norm_ (a':=?_) ?_ ?_
        rotate_left
        ·simp only [putAll,Act.put,xA,xB,xC]
         rfl
        refine one_ (i:=11) (N:=none) #[T,T,T,T,T,T,T,T,T,T,T,T,F,F] rfl rfl (one_of HT_.out (by kernel_rfl)) (by decide) (fun K hK => ?_)
        have hs25 : w24.cell? ⟨G188,0,none⟩ = some (.int .u64 0):=zk K188 0
        have hfs25:=bF K188.1 0
        have:=NB176_188.1
        have:=NB177_188.1
        have:=NB183_188.1
        have:=NB188_176.1
        have:=NB188_177.1
        have:=NB188_183.1
        refine sz ?_
        refine hK.out _ _ ⟨((cF (p:=⟨G188,_,none⟩) NB177_188.1 _).trans (hHeld.1)),((cF (p:=⟨G188,_,none⟩) (ne_c hw184_0 GW188.1) _).trans (hHeld.2))⟩ (fun hHeld => ?_)
        clear hK K
        refine pz 12 11 #[T,T,T,T,T,T,T,T,T,T,T,T,T,F] HT_.1 ?_
        refine pz 13 12 #[T,T,T,T,T,T,T,T,T,T,T,T,T,T] HT_.1 ?_
        refine done_ (done_of HT_.out (by kernel_rfl)) ?_
        have hcz29_0 : w24.cell? ⟨G183,0,none⟩ = some (.int .u64 t180):=zk K183 0
        have hfz29_0:=bF K183.1 0
        have hcz32_0 : w24.cell? ⟨G188,0,none⟩ = some (.int .u64 0):=zk K188 0
        have hfz32_0:=bF K188.1 0
        try go_wp2
        have n0_ : Aside0 ((w24.setCell ⟨G188,0,none⟩ (.int .u64 t185)).heap[G176]? = some (.cells #[.int .u64 x177000_1] 24 (0,0))):=⟨zf K176⟩
        have n1_ : Aside0 ((w24.setCell ⟨G188,0,none⟩ (.int .u64 t185)).heap[G177]? = some (.cells #[.int .u64 x178000_1] 24 (0,0))):=⟨zf K177⟩
        have n2_ : Aside0 ((w24.setCell ⟨G188,0,none⟩ (.int .u64 t185)).heap[G183]? = some (.cells #[.int .u64 t180] 24 (0,0))):=⟨zf K183⟩
        have n3_ : Aside0 ((w24.setCell ⟨G188,0,none⟩ (.int .u64 t185)).heap[G188]? = some (.cells #[.int .u64 t185] 24 (0,0))):=⟨zF K188⟩
        have n4_ : Aside0 (Below w.heap.size w (w24.setCell ⟨G188,0,none⟩ (.int .u64 t185))):=⟨zH HB⟩
        (try clear K176)
        (try clear K177)
        (try clear K183)
        (try clear K188)
        (try clear HB)
        generalize (w24.setCell ⟨G188,0,none⟩ (.int .u64 t185)) = w33 at n0_ n1_ n2_ n3_ n4_ ⊢
        have K176:=n0_
        have K177:=n1_
        have K183:=n2_
        have K188:=n3_
        have HB:=n4_
        clear n0_ n1_ n2_ n3_ n4_
        replace K176:=zA (bD K176.1)
        replace K177:=zA (bD K177.1)
        replace K183:=zA (bD K183.1)
        replace K188:=zA (bD K188.1)
        replace HB:=zA (bw1 HB.1)
        refine start_ (n:=4) (S:=fun w' => w'.cell? ⟨G183,0,none⟩ = some (.int .u64 t180) ∧ w'.cell? ⟨G188,0,none⟩ = some (.int .u64 t185)) (ds:=[]) #[F,F,F,F] (by kernel_rfl) rfl rfl ⟨zk K183 0,zk K188 0⟩ (fun hHeld => ?_)
        generalize w33.drew = w34 at K176 K177 K183 K188 HB hHeld ⊢
        refine tk 0 55 #[T,F,F,F] hHeld ?_
        refine tk 1 56 #[T,T,F,F] hHeld ?_
        refine one_ (i:=2) (N:=none) #[T,T,T,F] rfl rfl (by kernel_rfl) (by decide) (fun K hK => ?_)
        have hs35 : w34.cell? ⟨G176,0,none⟩ = some (.int .u64 x177000_1):=zk K176 0
        have hfs35:=bF K176.1 0
        have:=NB177_176.1
        have:=NB176_177.1
        refine sz ?_
        refine hK.out _ _ ⟨((cF (p:=⟨G176,_,none⟩) NB183_176.1 _).trans (hHeld.1)),((cF (p:=⟨G176,_,none⟩) NB188_176.1 _).trans (hHeld.2))⟩ (fun hHeld => ?_)
        clear hK K
        refine one_ (i:=3) (N:=none) #[T,T,T,T] rfl rfl (by kernel_rfl) (by decide) (fun K hK => ?_)
        have hs36 : w34.cell? ⟨G177,0,none⟩ = some (.int .u64 x178000_1):=zk K177 0
        have hfs36:=bF K177.1 0
        refine sz ?_
        refine hK.out _ _ ⟨((cF (p:=⟨G177,_,none⟩) NB183_177.1 _).trans (hHeld.1)),((cF (p:=⟨G177,_,none⟩) NB188_177.1 _).trans (hHeld.2))⟩ (fun hHeld => ?_)
        clear hK K
        refine done_ (by kernel_rfl) ?_
        try go_wp2
        go_roundg k1
        case measure => have:=HK1.out;omega
        case rel => exact ⟨(wrap64 (x6_1 + 1)),(t180),(t185),ze,H',⟨by have:=HK1.out;omega⟩,⟨zF K176⟩,⟨zF K177⟩,⟨zH HB⟩⟩
     ·rw [if_neg c12] at H
      have c12b0 : (t180 == t185) = false:=beq_eq_false_iff_ne.mpr c12
      have c12b1 : (t180 != t185) = true:=bne_iff_ne.mpr c12
      exact absurd ((Option.some.inj H).trans HR_.out) (by decide)
    ·rw [if_neg c9] at H
     exact absurd H (by simp)
   ·rw [if_neg c8] at H
    have c8b0 : decide (x6_1 < (l1.length : Int)) = false:=decide_eq_false c8
    clear c8
    replace H:=Option.bind_eq_some_iff.mp H
    obtain ⟨t178,A370,H⟩:=H
    (try dsimp only at H)
    have A37:=zA A370
    clear A370
    obtain rfl:=Option.some.inj H
    go_wp2_with (first|((with_reducible refine gate_callee (f:=11) rfl ?_);refine zg (some 57) Try.func11 #[] ?_;(with_reducible refine (beaconlaw14_awake.calls k1  t178 _ A37.out).mono ?_);rintro e w38 ⟨rfl,hb⟩;refine ⟨_,rfl,?_⟩;replace K176:=zB K176 hb;replace K177:=zB K177 hb;replace HB:=zS HB hb;(try clear hb)))
    go_ret
    exact ⟨zE,zH HB⟩

end Go.Proofs.Ytpcgjdllgdkobaa.XD
