/- Go functions of this seat as Lean functions, with proofs that the calls come to them. (Written by xprint.py, a program of this session, over the kit's print.) -/
import Derived.Test.YtgmjlhpigfaicaaXFx0
import Derived.Test.YtgmjlhpigfaicaaXFx10
import Derived.Test.YtgmjlhpigfaicaaXFx18
namespace Go.Proofs.Ytgmjlhpigfaicaa.XF
open Go.RowKit Go.Proofs.YtgmjlhpigfaicaaW.PrintWords Go.Proofs.YtgmjlhpigfaicaaW.PrintLast Go.Proofs.YtgmjlhpigfaicaaW.PrintMore
attribute [local go_sem] max2_int min2_int max_two min_two max_three min_three max_four min_four   -- for this text's walks alone
set_option linter.unusedVariables false
set_option linter.unusedSimpArgs false
open List renaming setIfInBounds_toArray → xA, set_cons_zero → xB, set_cons_succ → xC
open Go.Proofs.YtgmjlhpigfaicaaW.PrintWords renaming blk_drewN → bN, blk_drew → bD, blk_alloc → bA, below_set → bS, blk_frozen → bF, blk_cell → bC, cell_far → cF, blk_far → bZ, blk_below → bB, pw_below_drewN → bwN, below_drew1 → bw1, below_alloc → bwA
open Go.Proofs.YtgmjlhpigfaicaaW.PrintZ
open Bool renaming true → T,false → F

/-! ### beaconlaw19_awake: function 34 -/
def beaconlaw19_awake.f (k : Nat)  : Option (Bool) := (beaconlaw19_data.f 5 9 1 4).bind fun bt320 => ((forward_Decide.f k 5 (([(⟨1, 1, 4613937818241073152, 2, 0, 0⟩ : S39)] : List (S39))) false bt320.1 bt320.2.1 bt320.2.2.1 bt320.2.2.2.1 bt320.2.2.2.2.1 bt320.2.2.2.2.2.1 bt320.2.2.2.2.2.2.1 bt320.2.2.2.2.2.2.2.1 bt320.2.2.2.2.2.2.2.2.1 bt320.2.2.2.2.2.2.2.2.2.1 bt320.2.2.2.2.2.2.2.2.2.2.1 bt320.2.2.2.2.2.2.2.2.2.2.2).bind fun bt332 => (if bt332.2.2.2.2.2.2.2.2.2.2.2.2.2.2 = 0 then (if bt332.1 = 2 then (if bt332.2.1 = 2 then (some (bt332.2.2.2.2.2.2.2.1 == 3)) else (some false)) else (some false)) else (some false)))
theorem beaconlaw19_awake.mono : ∀ k, LeO (beaconlaw19_awake.f k ) (beaconlaw19_awake.f (k + 1) ) := by
 intro  k
 unfold beaconlaw19_awake.f
 repeat' first
   | (with_reducible exact forward_Decide.mono _ _ _ _ _ _ _ _ _ _ _ _ _ _ _ _)
   | (with_reducible exact LeO.refl _)
   | (with_reducible exact LeO.none _)
   | (with_reducible refine LeO.ite ?_ ?_)
   | (with_reducible refine LeO.bind ?_ (fun _ => ?_))
   | exact forward_Decide.mono _ _ _ _ _ _ _ _ _ _ _ _ _ _ _ _
   | exact LeO.none _
   | refine LeO.ite ?_ ?_
   | refine LeO.bind ?_ (fun _ => ?_)
def beaconlaw19_awake.T2 : Bool × List (List Nat × List Nat) := (true, [([], []), ([], []), ([0, 1, 1], [0, 1]), ([2], [2]), ([3], [3]), ([3], [3]), ([], []), ([6, 4, 2, 0, 1, 2, 3, 4, 6], [4, 6]), ([5, 7, 0, 1, 2, 3, 4, 5, 6, 7], [5])])
def beaconlaw19_awake.B2 : List Nat := [0, 0, 3, 7, 15, 15, 0, 95, 255]
theorem beaconlaw19_awake.tab2 : rtab .any (opsOf Try.f34 2) = beaconlaw19_awake.T2 := by kernel_rfl
theorem beaconlaw19_awake.bits2 : waitsOk beaconlaw19_awake.T2.2 beaconlaw19_awake.B2 = true := by kernel_rfl
set_option maxHeartbeats 8000000 in
set_option maxRecDepth 100000 in
theorem beaconlaw19_awake.calls (k : Nat)  (r : Bool) (w : World) (h : beaconlaw19_awake.f k  = some r) :
  Calls Try.prog 34 #[] w fun e w' => e = .returned (.bool r) ∧ Below w.heap.size w w':=by
 have hu39:=Try.underlying39
 have hu24:=Try.underlying24
 have hu50:=Try.underlying50
 have HB:=Aside0.mk (Below.refl w.heap.size w)
 have H : ((beaconlaw19_data.f 5 9 1 4).bind fun bt320 => ((forward_Decide.f k 5 (([(⟨1,1,4613937818241073152,2,0,0⟩ : S39)] : List (S39))) false bt320.1 bt320.2.1 bt320.2.2.1 bt320.2.2.2.1 bt320.2.2.2.2.1 bt320.2.2.2.2.2.1 bt320.2.2.2.2.2.2.1 bt320.2.2.2.2.2.2.2.1 bt320.2.2.2.2.2.2.2.2.1 bt320.2.2.2.2.2.2.2.2.2.1 bt320.2.2.2.2.2.2.2.2.2.2.1 bt320.2.2.2.2.2.2.2.2.2.2.2).bind fun bt332 => (if bt332.2.2.2.2.2.2.2.2.2.2.2.2.2.2 = 0 then (if bt332.1 = 2 then (if bt332.2.1 = 2 then (some (bt332.2.2.2.2.2.2.2.1 == 3)) else (some false)) else (some false)) else (some false)))) = some r:=h
 clear h
 obtain ⟨y316,hy316⟩ : ∃ y_ : List (S39),y_ = (([(⟨1,1,4613937818241073152,2,0,0⟩ : S39)] : List (S39))):=⟨_,rfl⟩
 replace H : ((beaconlaw19_data.f 5 9 1 4).bind fun bt320 => ((forward_Decide.f k 5 y316 false bt320.1 bt320.2.1 bt320.2.2.1 bt320.2.2.2.1 bt320.2.2.2.2.1 bt320.2.2.2.2.2.1 bt320.2.2.2.2.2.2.1 bt320.2.2.2.2.2.2.2.1 bt320.2.2.2.2.2.2.2.2.1 bt320.2.2.2.2.2.2.2.2.2.1 bt320.2.2.2.2.2.2.2.2.2.2.1 bt320.2.2.2.2.2.2.2.2.2.2.2).bind fun bt332 => (if bt332.2.2.2.2.2.2.2.2.2.2.2.2.2.2 = 0 then (if bt332.1 = 2 then (if bt332.2.1 = 2 then (some (bt332.2.2.2.2.2.2.2.1 == 3)) else (some false)) else (some false)) else (some false)))) = some r:=by first|(rw [hy316];with_reducible exact H)|(have H2_:=(Option.bind_some _ _).symm.trans H;rw [hy316];with_reducible exact H2_)|(have H2_:=(Option.bind_some _ _).symm.trans H;with_reducible exact H2_)|with_reducible exact H|(rw [hy316];exact H)|exact H
 have Ny316:=Aside0.mk hy316
 clear hy316
 replace H:=Option.bind_eq_some_iff.mp H
 obtain ⟨⟨t320,t321,t322,t323,t324,t325,t326,t327,t328,t329,t330,t331⟩,A10,H⟩:=H
 (try dsimp only at H)
 have A1:=Aside0.mk A10
 clear A10
 replace H:=Option.bind_eq_some_iff.mp H
 obtain ⟨⟨t332,t333,t334,t335,t336,t337,t338,t339,t340,t341,t342,t343,t344,t345,t346⟩,A20,H⟩:=H
 (try dsimp only at H)
 have A2:=Aside0.mk A20
 clear A20
 by_cases c3 : t346 = 0
 ·rw [if_pos c3] at H
  have c3b0 : (t346 == 0) = true:=beq_iff_eq.mpr c3
  have c3b1 : (t346 != 0) = false:=bne_eq_false_iff_eq.mpr c3
  clear c3
  by_cases c4 : t332 = 2
  ·rw [if_pos c4] at H
   have c4b0 : (t332 == 2) = true:=beq_iff_eq.mpr c4
   have c4b1 : (t332 != 2) = false:=bne_eq_false_iff_eq.mpr c4
   clear c4
   by_cases c5 : t333 = 2
   ·rw [if_pos c5] at H
    have c5b0 : (t333 == 2) = true:=beq_iff_eq.mpr c5
    have c5b1 : (t333 != 2) = false:=bne_eq_false_iff_eq.mpr c5
    clear c5
    obtain rfl:=Option.some.inj H
    go_enter Try.func34,Try.ntmps34
    try go_wp2_with (first|((with_reducible refine gate_dst (N:=5) rfl ?_);refine Kd.R_lit k39 _ 39 ?hg (N:=5) ?hd (xs:=([(⟨1,1,4613937818241073152,2,0,0⟩ : S39)] : List (S39))) (inner:=[.int .i64 1,.int .i64 1,.float .f64 4613937818241073152,.int .i64 2,.float .f64 0,.int .i64 0]) (ok:=fun _ => True) (okp:=fun _ => True) ?hr ?hp (fun _ hk => hk) trivial (Below.refl _ _) (Nat.le_refl _) (by simp) ?_;(case hd => rfl);(case hg => rfl);(case hr => first|(go_simp;done)|(go_simp;rfl));(case hp => exact (Reps.c6 (show Kd.M k39 _ _ _ (⟨1,1,4613937818241073152,2,0,0⟩ : S39) [.int .i64 1,.int .i64 1,.float .f64 4613937818241073152,.int .i64 2,.float .f64 0,.int .i64 0] from (k39_mkM _ _ _ (⟨1,1,4613937818241073152,2,0,0⟩ : S39) )) (Reps.none _ _)));intro v317 w6 ho7 hb hg_ hnew_;clear hg_ hnew_;(first|rw [← Ny316.out] at ho7|(simp only [Int.reduceToNat] at ho7;rw [← Ny316.out] at ho7));have HO318:=Aside0.mk (Kd.R_lower ho7 (zW HB));replace HB:=zS HB hb;clear hb ho7;obtain ⟨Ao8,co8,eo8⟩:=Kd.R_slice HO318.out;subst eo8)|((with_reducible refine gate_dst (N:=1) rfl ?_);refine zb (N:=1) (cs:=#[.slice none 0 0,.bool false]) (t:=24) ?_;intro G319 hg w9 hbox hb;replace HO318:=zRb HO318 hb;have K319:=Aside0.mk (hbox);have GW319:=zN HB hg;have GE319:=zN HB hg;replace HB:=zS HB hb;clear hb hbox hg;obtain ⟨hcz10_0,hcz10_1,hfz10_0,hfz10_1⟩:=zc2 K319))
    have n0_ : Aside0 (Kd.R k39 39 ((w9.setCell ⟨G319,0,none⟩ (.slice Ao8 y316.length co8)).setCell ⟨G319,1,none⟩ (.bool false)) w.heap.size (fun _ => True) (.slice Ao8 y316.length co8) y316):=⟨zRf HO318 K319 (fun _ hk => trivial)⟩
    have n1_ : Aside0 (((w9.setCell ⟨G319,0,none⟩ (.slice Ao8 y316.length co8)).setCell ⟨G319,1,none⟩ (.bool false)).heap[G319]? = some (.cells #[.slice Ao8 y316.length co8,.bool false] 24 (0,0))):=⟨zF K319⟩
    have n2_ : Aside0 (Below w.heap.size w ((w9.setCell ⟨G319,0,none⟩ (.slice Ao8 y316.length co8)).setCell ⟨G319,1,none⟩ (.bool false))):=⟨zH HB⟩
    (try clear HO318)
    (try clear K319)
    (try clear HB)
    generalize ((w9.setCell ⟨G319,0,none⟩ (.slice Ao8 y316.length co8)).setCell ⟨G319,1,none⟩ (.bool false)) = w11 at n0_ n1_ n2_ ⊢
    have HO318:=n0_
    have K319:=n1_
    have HB:=n2_
    clear n0_ n1_ n2_
    replace HO318:=Aside0.mk (Kd.R_drew HO318.out)
    replace K319:=Aside0.mk (bD K319.1)
    replace HB:=Aside0.mk (bw1 HB.1)
    refine start_ (n:=9) (S:=fun w' => w'.cell? ⟨G319,0,none⟩ = some (.slice Ao8 y316.length co8) ∧ w'.cell? ⟨G319,1,none⟩ = some (.bool false)) (ds:=[]) #[F,F,F,F,F,F,F,F,F] (by kernel_rfl) rfl rfl ⟨zk K319 0,zk K319 1⟩ (fun hHeld => ?_);refine with_tabW beaconlaw19_awake.tab2 beaconlaw19_awake.bits2 (fun HT_ HW_ => ?_)
    generalize w11.drew = w12 at HO318 K319 HB hHeld ⊢
    refine tz 0 8 #[T,F,F,F,F,F,F,F,F] HT_.1 HW_.1 hHeld ?_
    refine join_ (σ:=Nat) 2 #[T,T,T,T,T,T,T,F,F] (fun s_ => [(9,.agg #[.int .i64 t320,.int .i64 t321,.int .i64 t322,.int .i64 t323,.int .i64 t324,.int .i64 t325,.int .u64 t326,.int .i64 t327,.string t328,.int .i64 t329,.int .i64 t330,.string t331]),(10,.tuple #[.agg #[.int .i64 t332,.int .i64 t333,.int .i64 t334,.int .i64 t335,.int .i64 t336,.int .i64 t337,.int .i64 t338,.int .i64 t339,.int .u64 t340,.int .i64 t341,.string t342,.int .i64 t343,.int .i64 t344,.string t345],.int .i64 t346]),(2,.pointer (some ⟨s_,0,none⟩)),(7,.tuple #[.agg #[.int .i64 t332,.int .i64 t333,.int .i64 t334,.int .i64 t335,.int .i64 t336,.int .i64 t337,.int .i64 t338,.int .i64 t339,.int .u64 t340,.int .i64 t341,.string t342,.int .i64 t343,.int .i64 t344,.string t345],.int .i64 t346]),(11,.agg #[.int .i64 t332,.int .i64 t333,.int .i64 t334,.int .i64 t335,.int .i64 t336,.int .i64 t337,.int .i64 t338,.int .i64 t339,.int .u64 t340,.int .i64 t341,.string t342,.int .i64 t343,.int .i64 t344,.string t345]),(12,.int .i64 t346)]) (fun s_ w' => (w'.cell? ⟨G319,0,none⟩ = some (.slice Ao8 y316.length co8) ∧ w'.cell? ⟨G319,1,none⟩ = some (.bool false)) ∧ (Kd.R k39 39 w' w.heap.size (fun _ => True) (.slice Ao8 y316.length co8) y316) ∧ (w'.heap[G319]? = some (.cells #[.slice Ao8 y316.length co8,.bool false] 24 (0,0))) ∧ (w'.heap[s_]? = some (.cells #[.int .i64 0,.int .i64 0,.int .i64 0,.int .i64 0,.int .i64 0,.int .i64 0,.int .i64 0,.int .i64 0,.int .u64 0,.int .i64 0,.string (⟨#[]⟩ : ByteArray),.int .i64 0,.int .i64 0,.string (⟨#[]⟩ : ByteArray)] 50 (0,0))) ∧ (w.heap.size ≤ s_) ∧ (w.heap.size ≤ s_) ∧ (G319 ≠ s_) ∧ (s_ ≠ G319) ∧ (Below w.heap.size w w')) ?_ ?_
    rotate_left
    ·intro hCont
     refine two_ (i:=1) (j:=6) (Ni:=some 9) (Nj:=some 2) #[T,T,F,F,F,F,F,F,F] #[T,F,F,F,F,F,T,F,F] rfl rfl rfl rfl (two_of HT_.out (by kernel_rfl)) (by decide) (by decide) (fun K hK => ?_) (fun K hK => ?_)
     ·skip
      refine zo_ Try.func41 #[.int .i64 5,.int .i64 9,.int .i64 1,.int .i64 4] ?_
      with_reducible refine (beaconlaw19_data.calls 5 9 1 4 t320 t321 t322 t323 t324 t325 t326 t327 t328 t329 t330 t331 _ A1.out).mono ?_
      rintro e w13 ⟨rfl,hb⟩
      refine ⟨_,rfl,?_⟩
      replace HO318:=zRb HO318 hb
      replace K319:=zB K319 hb
      replace HB:=zS HB hb
      (try clear hb)
      (try clear hb2)
      (try clear hk)
      (try clear hi)
      refine hK.out _ _ ⟨zk K319 0,zk K319 1⟩ (fun hHeld => ?_)
      clear hK K
      refine nz 9 ?_
      refine two_ (i:=2) (j:=6) (Ni:=some 10) (Nj:=some 2) #[T,T,T,F,F,F,F,F,F] #[T,T,F,F,F,F,T,F,F] rfl rfl rfl rfl (two_of HT_.out (by kernel_rfl)) (by decide) (by decide) (fun K hK => ?_) (fun K hK => ?_)
      ·skip
       refine zo_ Try.func28 #[.int .i64 5,.agg #[.slice Ao8 y316.length co8,.bool false],.agg #[.int .i64 t320,.int .i64 t321,.int .i64 t322,.int .i64 t323,.int .i64 t324,.int .i64 t325,.int .u64 t326,.int .i64 t327,.string t328,.int .i64 t329,.int .i64 t330,.string t331]] ?_
       with_reducible refine (forward_Decide.calls k 5 _ _ y316 false t320 t321 t322 t323 t324 t325 t326 t327 t328 t329 t330 t331 t332 t333 t334 t335 t336 t337 t338 t339 t340 t341 t342 t343 t344 t345 t346 _ ?side1 ?side2 A2.out).mono ?_
       (case side1 => exact zC ((Kd.R_reads' HO318.out).2.2))
       (case side2 => exact (Kd.R_reads' HO318.out).2.1)
       rintro e w14 ⟨rfl,hb⟩
       refine ⟨_,rfl,?_⟩
       replace HO318:=zRb HO318 hb
       replace K319:=zB K319 hb
       replace HB:=zS HB hb
       (try clear hb)
       (try clear hb2)
       (try clear hk)
       (try clear hi)
       refine hK.out _ _ ⟨zk K319 0,zk K319 1⟩ (fun hHeld => ?_)
       clear hK K
       refine nz 10 ?_
       refine pz 3 7 #[T,T,T,T,F,F,F,F,F] HT_.1 ?_
       refine pz 4 11 #[T,T,T,T,T,F,F,F,F] HT_.1 ?_
       refine pz 5 12 #[T,T,T,T,T,T,F,F,F] HT_.1 ?_
       refine one_ (i:=6) (N:=some 2) #[T,T,T,T,T,T,T,F,F] rfl rfl (one_of HT_.out (by kernel_rfl)) (by decide) (fun K hK => ?_)
       refine zs_ (N:=2) (cs:=#[.int .i64 0,.int .i64 0,.int .i64 0,.int .i64 0,.int .i64 0,.int .i64 0,.int .i64 0,.int .i64 0,.int .u64 0,.int .i64 0,.string (⟨#[]⟩ : ByteArray),.int .i64 0,.int .i64 0,.string (⟨#[]⟩ : ByteArray)]) (t:=50) ?_
       intro G347 hg w15 hbox hb
       replace HO318:=zRb HO318 hb
       have K347:=Aside0.mk (hbox)
       have GW347:=zN HB hg
       have GE347:=zN HB hg
       replace HB:=zS HB hb
       have NB319_347:=zL K319 hg
       have NB347_319:=zG K319 hg
       replace K319:=zB K319 hb
       clear hb hbox hg
       refine hK.out _ _ ⟨zk K319 0,zk K319 1⟩ (fun hHeld => ?_)
       clear hK K
       refine nz 2 ?_
       exact norm_ (by simp only [putAll,Act.put,xA,xB,xC]) (hCont (G347) _ ⟨hHeld,(zR HO318),(z1 K319.1),(z1 K347.1),GW347.1,GE347.1,NB319_347.1,NB347_319.1,(zH HB)⟩)
      ·skip
       refine zs_ (N:=2) (cs:=#[.int .i64 0,.int .i64 0,.int .i64 0,.int .i64 0,.int .i64 0,.int .i64 0,.int .i64 0,.int .i64 0,.int .u64 0,.int .i64 0,.string (⟨#[]⟩ : ByteArray),.int .i64 0,.int .i64 0,.string (⟨#[]⟩ : ByteArray)]) (t:=50) ?_
       intro G347 hg w14 hbox hb
       replace HO318:=zRb HO318 hb
       have K347:=Aside0.mk (hbox)
       have GW347:=zN HB hg
       have GE347:=zN HB hg
       replace HB:=zS HB hb
       have NB319_347:=zL K319 hg
       have NB347_319:=zG K319 hg
       replace K319:=zB K319 hb
       clear hb hbox hg
       refine hK.out _ _ ⟨zk K319 0,zk K319 1⟩ (fun hHeld => ?_)
       clear hK K
       refine nz 2 ?_
       refine one_ (i:=2) (N:=some 10) #[T,T,T,F,F,F,T,F,F] rfl rfl (one_of HT_.out (by kernel_rfl)) (by decide) (fun K hK => ?_)
       refine zo_ Try.func28 #[.int .i64 5,.agg #[.slice Ao8 y316.length co8,.bool false],.agg #[.int .i64 t320,.int .i64 t321,.int .i64 t322,.int .i64 t323,.int .i64 t324,.int .i64 t325,.int .u64 t326,.int .i64 t327,.string t328,.int .i64 t329,.int .i64 t330,.string t331]] ?_
       with_reducible refine (forward_Decide.calls k 5 _ _ y316 false t320 t321 t322 t323 t324 t325 t326 t327 t328 t329 t330 t331 t332 t333 t334 t335 t336 t337 t338 t339 t340 t341 t342 t343 t344 t345 t346 _ ?side1 ?side2 A2.out).mono ?_
       (case side1 => exact zC ((Kd.R_reads' HO318.out).2.2))
       (case side2 => exact (Kd.R_reads' HO318.out).2.1)
       rintro e w15 ⟨rfl,hb⟩
       refine ⟨_,rfl,?_⟩
       replace HO318:=zRb HO318 hb
       replace K319:=zB K319 hb
       replace K347:=zB K347 hb
       replace HB:=zS HB hb
       (try clear hb)
       (try clear hb2)
       (try clear hk)
       (try clear hi)
       refine hK.out _ _ ⟨zk K319 0,zk K319 1⟩ (fun hHeld => ?_)
       clear hK K
       refine nz 10 ?_
       refine pz 3 7 #[T,T,T,T,F,F,T,F,F] HT_.1 ?_
       refine pz 4 11 #[T,T,T,T,T,F,T,F,F] HT_.1 ?_
       refine pz 5 12 #[T,T,T,T,T,T,T,F,F] HT_.1 ?_
       exact norm_ (by simp only [putAll,Act.put,xA,xB,xC]) (hCont (G347) _ ⟨hHeld,(zR HO318),(z1 K319.1),(z1 K347.1),GW347.1,GE347.1,NB319_347.1,NB347_319.1,(zH HB)⟩)
     ·skip
      refine zs_ (N:=2) (cs:=#[.int .i64 0,.int .i64 0,.int .i64 0,.int .i64 0,.int .i64 0,.int .i64 0,.int .i64 0,.int .i64 0,.int .u64 0,.int .i64 0,.string (⟨#[]⟩ : ByteArray),.int .i64 0,.int .i64 0,.string (⟨#[]⟩ : ByteArray)]) (t:=50) ?_
      intro G347 hg w13 hbox hb
      replace HO318:=zRb HO318 hb
      have K347:=Aside0.mk (hbox)
      have GW347:=zN HB hg
      have GE347:=zN HB hg
      replace HB:=zS HB hb
      have NB319_347:=zL K319 hg
      have NB347_319:=zG K319 hg
      replace K319:=zB K319 hb
      clear hb hbox hg
      refine hK.out _ _ ⟨zk K319 0,zk K319 1⟩ (fun hHeld => ?_)
      clear hK K
      refine nz 2 ?_
      refine one_ (i:=1) (N:=some 9) #[T,T,F,F,F,F,T,F,F] rfl rfl (one_of HT_.out (by kernel_rfl)) (by decide) (fun K hK => ?_)
      refine zo_ Try.func41 #[.int .i64 5,.int .i64 9,.int .i64 1,.int .i64 4] ?_
      with_reducible refine (beaconlaw19_data.calls 5 9 1 4 t320 t321 t322 t323 t324 t325 t326 t327 t328 t329 t330 t331 _ A1.out).mono ?_
      rintro e w14 ⟨rfl,hb⟩
      refine ⟨_,rfl,?_⟩
      replace HO318:=zRb HO318 hb
      replace K319:=zB K319 hb
      replace K347:=zB K347 hb
      replace HB:=zS HB hb
      (try clear hb)
      (try clear hb2)
      (try clear hk)
      (try clear hi)
      refine hK.out _ _ ⟨zk K319 0,zk K319 1⟩ (fun hHeld => ?_)
      clear hK K
      refine nz 9 ?_
      refine one_ (i:=2) (N:=some 10) #[T,T,T,F,F,F,T,F,F] rfl rfl (one_of HT_.out (by kernel_rfl)) (by decide) (fun K hK => ?_)
      refine zo_ Try.func28 #[.int .i64 5,.agg #[.slice Ao8 y316.length co8,.bool false],.agg #[.int .i64 t320,.int .i64 t321,.int .i64 t322,.int .i64 t323,.int .i64 t324,.int .i64 t325,.int .u64 t326,.int .i64 t327,.string t328,.int .i64 t329,.int .i64 t330,.string t331]] ?_
      with_reducible refine (forward_Decide.calls k 5 _ _ y316 false t320 t321 t322 t323 t324 t325 t326 t327 t328 t329 t330 t331 t332 t333 t334 t335 t336 t337 t338 t339 t340 t341 t342 t343 t344 t345 t346 _ ?side1 ?side2 A2.out).mono ?_
      (case side1 => exact zC ((Kd.R_reads' HO318.out).2.2))
      (case side2 => exact (Kd.R_reads' HO318.out).2.1)
      rintro e w15 ⟨rfl,hb⟩
      refine ⟨_,rfl,?_⟩
      replace HO318:=zRb HO318 hb
      replace K319:=zB K319 hb
      replace K347:=zB K347 hb
      replace HB:=zS HB hb
      (try clear hb)
      (try clear hb2)
      (try clear hk)
      (try clear hi)
      refine hK.out _ _ ⟨zk K319 0,zk K319 1⟩ (fun hHeld => ?_)
      clear hK K
      refine nz 10 ?_
      refine pz 3 7 #[T,T,T,T,F,F,T,F,F] HT_.1 ?_
      refine pz 4 11 #[T,T,T,T,T,F,T,F,F] HT_.1 ?_
      refine pz 5 12 #[T,T,T,T,T,T,T,F,F] HT_.1 ?_
      exact norm_ (by simp only [putAll,Act.put,xA,xB,xC]) (hCont (G347) _ ⟨hHeld,(zR HO318),(z1 K319.1),(z1 K347.1),GW347.1,GE347.1,NB319_347.1,NB347_319.1,(zH HB)⟩)
    rintro G347 w16 ⟨hS_,h0_,h1_,h2_,h3_,h4_,h5_,h6_,h7_⟩
    replace HO318 : Aside0 (Kd.R k39 39 w16 w.heap.size (fun _ => True) (.slice Ao8 y316.length co8) y316):=⟨h0_⟩
    replace K319 : Aside0 (w16.heap[G319]? = some (.cells #[.slice Ao8 y316.length co8,.bool false] 24 (0,0))):=⟨h1_⟩
    have K347 : Aside0 (w16.heap[G347]? = some (.cells #[.int .i64 0,.int .i64 0,.int .i64 0,.int .i64 0,.int .i64 0,.int .i64 0,.int .i64 0,.int .i64 0,.int .u64 0,.int .i64 0,.string (⟨#[]⟩ : ByteArray),.int .i64 0,.int .i64 0,.string (⟨#[]⟩ : ByteArray)] 50 (0,0))):=⟨h2_⟩
    have GW347 : Aside0 (w.heap.size ≤ G347):=⟨h3_⟩
    have GE347 : Aside0 (w.heap.size ≤ G347):=⟨h4_⟩
    have NB319_347 : Aside0 (G319 ≠ G347):=⟨h5_⟩
    have NB347_319 : Aside0 (G347 ≠ G319):=⟨h6_⟩
    replace HB : Aside0 (Below w.heap.size w w16):=⟨h7_⟩
    clear h0_ h1_ h2_ h3_ h4_ h5_ h6_ h7_
    have hHeld : w16.cell? ⟨G319,0,none⟩ = some (.slice Ao8 y316.length co8) ∧ w16.cell? ⟨G319,1,none⟩ = some (.bool false):=hS_
    refine norm_ (a':=?_) ?_ ?_
    rotate_left
    ·simp only [putAll,Act.put,xA,xB,xC]
     rfl
    refine one_ (i:=7) (N:=none) #[T,T,T,T,T,T,T,T,F] rfl rfl (one_of HT_.out (by kernel_rfl)) (by decide) (fun K hK => ?_)
    have hs17 : w16.cell? ⟨G347,0,none⟩ = some (.int .i64 0):=zk K347 0
    have hfs17:=bF K347.1 0
    have:=NB319_347.1
    have:=NB347_319.1
    have hs18 : w16.cell? ⟨G347,1,none⟩ = some (.int .i64 0):=zk K347 1
    have hfs18:=bF K347.1 1
    have:=NB319_347.1
    have:=NB347_319.1
    have hs19 : w16.cell? ⟨G347,2,none⟩ = some (.int .i64 0):=zk K347 2
    have hfs19:=bF K347.1 2
    have:=NB319_347.1
    have:=NB347_319.1
    have hs20 : w16.cell? ⟨G347,3,none⟩ = some (.int .i64 0):=zk K347 3
    have hfs20:=bF K347.1 3
    have:=NB319_347.1
    have:=NB347_319.1
    have hs21 : w16.cell? ⟨G347,4,none⟩ = some (.int .i64 0):=zk K347 4
    have hfs21:=bF K347.1 4
    have:=NB319_347.1
    have:=NB347_319.1
    have hs22 : w16.cell? ⟨G347,5,none⟩ = some (.int .i64 0):=zk K347 5
    have hfs22:=bF K347.1 5
    have:=NB319_347.1
    have:=NB347_319.1
    have hs23 : w16.cell? ⟨G347,6,none⟩ = some (.int .i64 0):=zk K347 6
    have hfs23:=bF K347.1 6
    have:=NB319_347.1
    have:=NB347_319.1
    have hs24 : w16.cell? ⟨G347,7,none⟩ = some (.int .i64 0):=zk K347 7
    have hfs24:=bF K347.1 7
    have:=NB319_347.1
    have:=NB347_319.1
    have hs25 : w16.cell? ⟨G347,8,none⟩ = some (.int .u64 0):=zk K347 8
    have hfs25:=bF K347.1 8
    have:=NB319_347.1
    have:=NB347_319.1
    have hs26 : w16.cell? ⟨G347,9,none⟩ = some (.int .i64 0):=zk K347 9
    have hfs26:=bF K347.1 9
    have:=NB319_347.1
    have:=NB347_319.1
    have hs27 : w16.cell? ⟨G347,10,none⟩ = some (.string (⟨#[]⟩ : ByteArray)):=zk K347 10
    have hfs27:=bF K347.1 10
    have:=NB319_347.1
    have:=NB347_319.1
    have hs28 : w16.cell? ⟨G347,11,none⟩ = some (.int .i64 0):=zk K347 11
    have hfs28:=bF K347.1 11
    have:=NB319_347.1
    have:=NB347_319.1
    have hs29 : w16.cell? ⟨G347,12,none⟩ = some (.int .i64 0):=zk K347 12
    have hfs29:=bF K347.1 12
    have:=NB319_347.1
    have:=NB347_319.1
    have hs30 : w16.cell? ⟨G347,13,none⟩ = some (.string (⟨#[]⟩ : ByteArray)):=zk K347 13
    have hfs30:=bF K347.1 13
    have:=NB319_347.1
    have:=NB347_319.1
    refine sz ?_
    refine hK.out _ _ ⟨(zx (hHeld.1) NB319_347.1),(zx (hHeld.2) NB319_347.1)⟩ (fun hHeld => ?_)
    clear hK K
    refine pz 8 3 #[T,T,T,T,T,T,T,T,T] HT_.1 ?_
    refine done_ (done_of HT_.out (by kernel_rfl)) ?_
    have:=NB347_319.1
    have:=NB319_347.1
    obtain ⟨hcz32_0,hcz32_1,hcz32_2,hcz32_3,hcz32_4,hcz32_5,hcz32_6,hcz32_7,hcz32_8,hcz32_9,hcz32_10,hcz32_11,hcz32_12,hcz32_13,hfz32_0,hfz32_1,hfz32_2,hfz32_3,hfz32_4,hfz32_5,hfz32_6,hfz32_7,hfz32_8,hfz32_9,hfz32_10,hfz32_11,hfz32_12,hfz32_13⟩:=zc14 K347
    try go_wp2
    go_ret
    exact ⟨zE,zH HB⟩
   ·rw [if_neg c5] at H
    have c5b0 : (t333 == 2) = false:=beq_eq_false_iff_ne.mpr c5
    have c5b1 : (t333 != 2) = true:=bne_iff_ne.mpr c5
    obtain rfl:=Option.some.inj H
    go_enter Try.func34,Try.ntmps34
    try go_wp2_with (first|((with_reducible refine gate_dst (N:=5) rfl ?_);refine Kd.R_lit k39 _ 39 ?hg (N:=5) ?hd (xs:=([(⟨1,1,4613937818241073152,2,0,0⟩ : S39)] : List (S39))) (inner:=[.int .i64 1,.int .i64 1,.float .f64 4613937818241073152,.int .i64 2,.float .f64 0,.int .i64 0]) (ok:=fun _ => True) (okp:=fun _ => True) ?hr ?hp (fun _ hk => hk) trivial (Below.refl _ _) (Nat.le_refl _) (by simp) ?_;(case hd => rfl);(case hg => rfl);(case hr => first|(go_simp;done)|(go_simp;rfl));(case hp => exact (Reps.c6 (show Kd.M k39 _ _ _ (⟨1,1,4613937818241073152,2,0,0⟩ : S39) [.int .i64 1,.int .i64 1,.float .f64 4613937818241073152,.int .i64 2,.float .f64 0,.int .i64 0] from (k39_mkM _ _ _ (⟨1,1,4613937818241073152,2,0,0⟩ : S39) )) (Reps.none _ _)));intro v317 w33 ho34 hb hg_ hnew_;clear hg_ hnew_;(first|rw [← Ny316.out] at ho34|(simp only [Int.reduceToNat] at ho34;rw [← Ny316.out] at ho34));have HO318:=Aside0.mk (Kd.R_lower ho34 (zW HB));replace HB:=zS HB hb;clear hb ho34;obtain ⟨Ao35,co35,eo35⟩:=Kd.R_slice HO318.out;subst eo35)|((with_reducible refine gate_dst (N:=1) rfl ?_);refine zb (N:=1) (cs:=#[.slice none 0 0,.bool false]) (t:=24) ?_;intro G319 hg w36 hbox hb;replace HO318:=zRb HO318 hb;have K319:=Aside0.mk (hbox);have GW319:=zN HB hg;have GE319:=zN HB hg;replace HB:=zS HB hb;clear hb hbox hg;obtain ⟨hcz37_0,hcz37_1,hfz37_0,hfz37_1⟩:=zc2 K319))
    have n0_ : Aside0 (Kd.R k39 39 ((w36.setCell ⟨G319,0,none⟩ (.slice Ao35 y316.length co35)).setCell ⟨G319,1,none⟩ (.bool false)) w.heap.size (fun _ => True) (.slice Ao35 y316.length co35) y316):=⟨zRf HO318 K319 (fun _ hk => trivial)⟩
    have n1_ : Aside0 (((w36.setCell ⟨G319,0,none⟩ (.slice Ao35 y316.length co35)).setCell ⟨G319,1,none⟩ (.bool false)).heap[G319]? = some (.cells #[.slice Ao35 y316.length co35,.bool false] 24 (0,0))):=⟨zF K319⟩
    have n2_ : Aside0 (Below w.heap.size w ((w36.setCell ⟨G319,0,none⟩ (.slice Ao35 y316.length co35)).setCell ⟨G319,1,none⟩ (.bool false))):=⟨zH HB⟩
    (try clear HO318)
    (try clear K319)
    (try clear HB)
    generalize ((w36.setCell ⟨G319,0,none⟩ (.slice Ao35 y316.length co35)).setCell ⟨G319,1,none⟩ (.bool false)) = w38 at n0_ n1_ n2_ ⊢
    have HO318:=n0_
    have K319:=n1_
    have HB:=n2_
    clear n0_ n1_ n2_
    replace HO318:=Aside0.mk (Kd.R_drew HO318.out)
    replace K319:=Aside0.mk (bD K319.1)
    replace HB:=Aside0.mk (bw1 HB.1)
    refine start_ (n:=9) (S:=fun w' => w'.cell? ⟨G319,0,none⟩ = some (.slice Ao35 y316.length co35) ∧ w'.cell? ⟨G319,1,none⟩ = some (.bool false)) (ds:=[]) #[F,F,F,F,F,F,F,F,F] (by kernel_rfl) rfl rfl ⟨zk K319 0,zk K319 1⟩ (fun hHeld => ?_);refine with_tabW beaconlaw19_awake.tab2 beaconlaw19_awake.bits2 (fun HT_ HW_ => ?_)
    generalize w38.drew = w39 at HO318 K319 HB hHeld ⊢
    refine tz 0 8 #[T,F,F,F,F,F,F,F,F] HT_.1 HW_.1 hHeld ?_
    refine join_ (σ:=Nat) 2 #[T,T,T,T,T,T,T,F,F] (fun s_ => [(9,.agg #[.int .i64 t320,.int .i64 t321,.int .i64 t322,.int .i64 t323,.int .i64 t324,.int .i64 t325,.int .u64 t326,.int .i64 t327,.string t328,.int .i64 t329,.int .i64 t330,.string t331]),(10,.tuple #[.agg #[.int .i64 t332,.int .i64 t333,.int .i64 t334,.int .i64 t335,.int .i64 t336,.int .i64 t337,.int .i64 t338,.int .i64 t339,.int .u64 t340,.int .i64 t341,.string t342,.int .i64 t343,.int .i64 t344,.string t345],.int .i64 t346]),(2,.pointer (some ⟨s_,0,none⟩)),(7,.tuple #[.agg #[.int .i64 t332,.int .i64 t333,.int .i64 t334,.int .i64 t335,.int .i64 t336,.int .i64 t337,.int .i64 t338,.int .i64 t339,.int .u64 t340,.int .i64 t341,.string t342,.int .i64 t343,.int .i64 t344,.string t345],.int .i64 t346]),(11,.agg #[.int .i64 t332,.int .i64 t333,.int .i64 t334,.int .i64 t335,.int .i64 t336,.int .i64 t337,.int .i64 t338,.int .i64 t339,.int .u64 t340,.int .i64 t341,.string t342,.int .i64 t343,.int .i64 t344,.string t345]),(12,.int .i64 t346)]) (fun s_ w' => (w'.cell? ⟨G319,0,none⟩ = some (.slice Ao35 y316.length co35) ∧ w'.cell? ⟨G319,1,none⟩ = some (.bool false)) ∧ (Kd.R k39 39 w' w.heap.size (fun _ => True) (.slice Ao35 y316.length co35) y316) ∧ (w'.heap[G319]? = some (.cells #[.slice Ao35 y316.length co35,.bool false] 24 (0,0))) ∧ (w'.heap[s_]? = some (.cells #[.int .i64 0,.int .i64 0,.int .i64 0,.int .i64 0,.int .i64 0,.int .i64 0,.int .i64 0,.int .i64 0,.int .u64 0,.int .i64 0,.string (⟨#[]⟩ : ByteArray),.int .i64 0,.int .i64 0,.string (⟨#[]⟩ : ByteArray)] 50 (0,0))) ∧ (w.heap.size ≤ s_) ∧ (w.heap.size ≤ s_) ∧ (G319 ≠ s_) ∧ (s_ ≠ G319) ∧ (Below w.heap.size w w')) ?_ ?_
    rotate_left
    ·intro hCont
     refine two_ (i:=1) (j:=6) (Ni:=some 9) (Nj:=some 2) #[T,T,F,F,F,F,F,F,F] #[T,F,F,F,F,F,T,F,F] rfl rfl rfl rfl (two_of HT_.out (by kernel_rfl)) (by decide) (by decide) (fun K hK => ?_) (fun K hK => ?_)
     ·skip
      refine zo_ Try.func41 #[.int .i64 5,.int .i64 9,.int .i64 1,.int .i64 4] ?_
      with_reducible refine (beaconlaw19_data.calls 5 9 1 4 t320 t321 t322 t323 t324 t325 t326 t327 t328 t329 t330 t331 _ A1.out).mono ?_
      rintro e w40 ⟨rfl,hb⟩
      refine ⟨_,rfl,?_⟩
      replace HO318:=zRb HO318 hb
      replace K319:=zB K319 hb
      replace HB:=zS HB hb
      (try clear hb)
      (try clear hb2)
      (try clear hk)
      (try clear hi)
      refine hK.out _ _ ⟨zk K319 0,zk K319 1⟩ (fun hHeld => ?_)
      clear hK K
      refine nz 9 ?_
      refine two_ (i:=2) (j:=6) (Ni:=some 10) (Nj:=some 2) #[T,T,T,F,F,F,F,F,F] #[T,T,F,F,F,F,T,F,F] rfl rfl rfl rfl (two_of HT_.out (by kernel_rfl)) (by decide) (by decide) (fun K hK => ?_) (fun K hK => ?_)
      ·skip
       refine zo_ Try.func28 #[.int .i64 5,.agg #[.slice Ao35 y316.length co35,.bool false],.agg #[.int .i64 t320,.int .i64 t321,.int .i64 t322,.int .i64 t323,.int .i64 t324,.int .i64 t325,.int .u64 t326,.int .i64 t327,.string t328,.int .i64 t329,.int .i64 t330,.string t331]] ?_
       with_reducible refine (forward_Decide.calls k 5 _ _ y316 false t320 t321 t322 t323 t324 t325 t326 t327 t328 t329 t330 t331 t332 t333 t334 t335 t336 t337 t338 t339 t340 t341 t342 t343 t344 t345 t346 _ ?side1 ?side2 A2.out).mono ?_
       (case side1 => exact zC ((Kd.R_reads' HO318.out).2.2))
       (case side2 => exact (Kd.R_reads' HO318.out).2.1)
       rintro e w41 ⟨rfl,hb⟩
       refine ⟨_,rfl,?_⟩
       replace HO318:=zRb HO318 hb
       replace K319:=zB K319 hb
       replace HB:=zS HB hb
       (try clear hb)
       (try clear hb2)
       (try clear hk)
       (try clear hi)
       refine hK.out _ _ ⟨zk K319 0,zk K319 1⟩ (fun hHeld => ?_)
       clear hK K
       refine nz 10 ?_
       refine pz 3 7 #[T,T,T,T,F,F,F,F,F] HT_.1 ?_
       refine pz 4 11 #[T,T,T,T,T,F,F,F,F] HT_.1 ?_
       refine pz 5 12 #[T,T,T,T,T,T,F,F,F] HT_.1 ?_
       refine one_ (i:=6) (N:=some 2) #[T,T,T,T,T,T,T,F,F] rfl rfl (one_of HT_.out (by kernel_rfl)) (by decide) (fun K hK => ?_)
       refine zs_ (N:=2) (cs:=#[.int .i64 0,.int .i64 0,.int .i64 0,.int .i64 0,.int .i64 0,.int .i64 0,.int .i64 0,.int .i64 0,.int .u64 0,.int .i64 0,.string (⟨#[]⟩ : ByteArray),.int .i64 0,.int .i64 0,.string (⟨#[]⟩ : ByteArray)]) (t:=50) ?_
       intro G347 hg w42 hbox hb
       replace HO318:=zRb HO318 hb
       have K347:=Aside0.mk (hbox)
       have GW347:=zN HB hg
       have GE347:=zN HB hg
       replace HB:=zS HB hb
       have NB319_347:=zL K319 hg
       have NB347_319:=zG K319 hg
       replace K319:=zB K319 hb
       clear hb hbox hg
       refine hK.out _ _ ⟨zk K319 0,zk K319 1⟩ (fun hHeld => ?_)
       clear hK K
       refine nz 2 ?_
       exact norm_ (by simp only [putAll,Act.put,xA,xB,xC]) (hCont (G347) _ ⟨hHeld,(zR HO318),(z1 K319.1),(z1 K347.1),GW347.1,GE347.1,NB319_347.1,NB347_319.1,(zH HB)⟩)
      ·skip
       refine zs_ (N:=2) (cs:=#[.int .i64 0,.int .i64 0,.int .i64 0,.int .i64 0,.int .i64 0,.int .i64 0,.int .i64 0,.int .i64 0,.int .u64 0,.int .i64 0,.string (⟨#[]⟩ : ByteArray),.int .i64 0,.int .i64 0,.string (⟨#[]⟩ : ByteArray)]) (t:=50) ?_
       intro G347 hg w41 hbox hb
       replace HO318:=zRb HO318 hb
       have K347:=Aside0.mk (hbox)
       have GW347:=zN HB hg
       have GE347:=zN HB hg
       replace HB:=zS HB hb
       have NB319_347:=zL K319 hg
       have NB347_319:=zG K319 hg
       replace K319:=zB K319 hb
       clear hb hbox hg
       refine hK.out _ _ ⟨zk K319 0,zk K319 1⟩ (fun hHeld => ?_)
       clear hK K
       refine nz 2 ?_
       refine one_ (i:=2) (N:=some 10) #[T,T,T,F,F,F,T,F,F] rfl rfl (one_of HT_.out (by kernel_rfl)) (by decide) (fun K hK => ?_)
       refine zo_ Try.func28 #[.int .i64 5,.agg #[.slice Ao35 y316.length co35,.bool false],.agg #[.int .i64 t320,.int .i64 t321,.int .i64 t322,.int .i64 t323,.int .i64 t324,.int .i64 t325,.int .u64 t326,.int .i64 t327,.string t328,.int .i64 t329,.int .i64 t330,.string t331]] ?_
       with_reducible refine (forward_Decide.calls k 5 _ _ y316 false t320 t321 t322 t323 t324 t325 t326 t327 t328 t329 t330 t331 t332 t333 t334 t335 t336 t337 t338 t339 t340 t341 t342 t343 t344 t345 t346 _ ?side1 ?side2 A2.out).mono ?_
       (case side1 => exact zC ((Kd.R_reads' HO318.out).2.2))
       (case side2 => exact (Kd.R_reads' HO318.out).2.1)
       rintro e w42 ⟨rfl,hb⟩
       refine ⟨_,rfl,?_⟩
       replace HO318:=zRb HO318 hb
       replace K319:=zB K319 hb
       replace K347:=zB K347 hb
       replace HB:=zS HB hb
       (try clear hb)
       (try clear hb2)
       (try clear hk)
       (try clear hi)
       refine hK.out _ _ ⟨zk K319 0,zk K319 1⟩ (fun hHeld => ?_)
       clear hK K
       refine nz 10 ?_
       refine pz 3 7 #[T,T,T,T,F,F,T,F,F] HT_.1 ?_
       refine pz 4 11 #[T,T,T,T,T,F,T,F,F] HT_.1 ?_
       refine pz 5 12 #[T,T,T,T,T,T,T,F,F] HT_.1 ?_
       exact norm_ (by simp only [putAll,Act.put,xA,xB,xC]) (hCont (G347) _ ⟨hHeld,(zR HO318),(z1 K319.1),(z1 K347.1),GW347.1,GE347.1,NB319_347.1,NB347_319.1,(zH HB)⟩)
     ·skip
      refine zs_ (N:=2) (cs:=#[.int .i64 0,.int .i64 0,.int .i64 0,.int .i64 0,.int .i64 0,.int .i64 0,.int .i64 0,.int .i64 0,.int .u64 0,.int .i64 0,.string (⟨#[]⟩ : ByteArray),.int .i64 0,.int .i64 0,.string (⟨#[]⟩ : ByteArray)]) (t:=50) ?_
      intro G347 hg w40 hbox hb
      replace HO318:=zRb HO318 hb
      have K347:=Aside0.mk (hbox)
      have GW347:=zN HB hg
      have GE347:=zN HB hg
      replace HB:=zS HB hb
      have NB319_347:=zL K319 hg
      have NB347_319:=zG K319 hg
      replace K319:=zB K319 hb
      clear hb hbox hg
      refine hK.out _ _ ⟨zk K319 0,zk K319 1⟩ (fun hHeld => ?_)
      clear hK K
      refine nz 2 ?_
      refine one_ (i:=1) (N:=some 9) #[T,T,F,F,F,F,T,F,F] rfl rfl (one_of HT_.out (by kernel_rfl)) (by decide) (fun K hK => ?_)
      refine zo_ Try.func41 #[.int .i64 5,.int .i64 9,.int .i64 1,.int .i64 4] ?_
      with_reducible refine (beaconlaw19_data.calls 5 9 1 4 t320 t321 t322 t323 t324 t325 t326 t327 t328 t329 t330 t331 _ A1.out).mono ?_
      rintro e w41 ⟨rfl,hb⟩
      refine ⟨_,rfl,?_⟩
      replace HO318:=zRb HO318 hb
      replace K319:=zB K319 hb
      replace K347:=zB K347 hb
      replace HB:=zS HB hb
      (try clear hb)
      (try clear hb2)
      (try clear hk)
      (try clear hi)
      refine hK.out _ _ ⟨zk K319 0,zk K319 1⟩ (fun hHeld => ?_)
      clear hK K
      refine nz 9 ?_
      refine one_ (i:=2) (N:=some 10) #[T,T,T,F,F,F,T,F,F] rfl rfl (one_of HT_.out (by kernel_rfl)) (by decide) (fun K hK => ?_)
      refine zo_ Try.func28 #[.int .i64 5,.agg #[.slice Ao35 y316.length co35,.bool false],.agg #[.int .i64 t320,.int .i64 t321,.int .i64 t322,.int .i64 t323,.int .i64 t324,.int .i64 t325,.int .u64 t326,.int .i64 t327,.string t328,.int .i64 t329,.int .i64 t330,.string t331]] ?_
      with_reducible refine (forward_Decide.calls k 5 _ _ y316 false t320 t321 t322 t323 t324 t325 t326 t327 t328 t329 t330 t331 t332 t333 t334 t335 t336 t337 t338 t339 t340 t341 t342 t343 t344 t345 t346 _ ?side1 ?side2 A2.out).mono ?_
      (case side1 => exact zC ((Kd.R_reads' HO318.out).2.2))
      (case side2 => exact (Kd.R_reads' HO318.out).2.1)
      rintro e w42 ⟨rfl,hb⟩
      refine ⟨_,rfl,?_⟩
      replace HO318:=zRb HO318 hb
      replace K319:=zB K319 hb
      replace K347:=zB K347 hb
      replace HB:=zS HB hb
      (try clear hb)
      (try clear hb2)
      (try clear hk)
      (try clear hi)
      refine hK.out _ _ ⟨zk K319 0,zk K319 1⟩ (fun hHeld => ?_)
      clear hK K
      refine nz 10 ?_
      refine pz 3 7 #[T,T,T,T,F,F,T,F,F] HT_.1 ?_
      refine pz 4 11 #[T,T,T,T,T,F,T,F,F] HT_.1 ?_
      refine pz 5 12 #[T,T,T,T,T,T,T,F,F] HT_.1 ?_
      exact norm_ (by simp only [putAll,Act.put,xA,xB,xC]) (hCont (G347) _ ⟨hHeld,(zR HO318),(z1 K319.1),(z1 K347.1),GW347.1,GE347.1,NB319_347.1,NB347_319.1,(zH HB)⟩)
    rintro G347 w43 ⟨hS_,h0_,h1_,h2_,h3_,h4_,h5_,h6_,h7_⟩
    replace HO318 : Aside0 (Kd.R k39 39 w43 w.heap.size (fun _ => True) (.slice Ao35 y316.length co35) y316):=⟨h0_⟩
    replace K319 : Aside0 (w43.heap[G319]? = some (.cells #[.slice Ao35 y316.length co35,.bool false] 24 (0,0))):=⟨h1_⟩
    have K347 : Aside0 (w43.heap[G347]? = some (.cells #[.int .i64 0,.int .i64 0,.int .i64 0,.int .i64 0,.int .i64 0,.int .i64 0,.int .i64 0,.int .i64 0,.int .u64 0,.int .i64 0,.string (⟨#[]⟩ : ByteArray),.int .i64 0,.int .i64 0,.string (⟨#[]⟩ : ByteArray)] 50 (0,0))):=⟨h2_⟩
    have GW347 : Aside0 (w.heap.size ≤ G347):=⟨h3_⟩
    have GE347 : Aside0 (w.heap.size ≤ G347):=⟨h4_⟩
    have NB319_347 : Aside0 (G319 ≠ G347):=⟨h5_⟩
    have NB347_319 : Aside0 (G347 ≠ G319):=⟨h6_⟩
    replace HB : Aside0 (Below w.heap.size w w43):=⟨h7_⟩
    clear h0_ h1_ h2_ h3_ h4_ h5_ h6_ h7_
    have hHeld : w43.cell? ⟨G319,0,none⟩ = some (.slice Ao35 y316.length co35) ∧ w43.cell? ⟨G319,1,none⟩ = some (.bool false):=hS_
    refine norm_ (a':=?_) ?_ ?_
    rotate_left
    ·simp only [putAll,Act.put,xA,xB,xC]
     rfl
    refine one_ (i:=7) (N:=none) #[T,T,T,T,T,T,T,T,F] rfl rfl (one_of HT_.out (by kernel_rfl)) (by decide) (fun K hK => ?_)
    have hs44 : w43.cell? ⟨G347,0,none⟩ = some (.int .i64 0):=zk K347 0
    have hfs44:=bF K347.1 0
    have:=NB319_347.1
    have:=NB347_319.1
    have hs45 : w43.cell? ⟨G347,1,none⟩ = some (.int .i64 0):=zk K347 1
    have hfs45:=bF K347.1 1
    have:=NB319_347.1
    have:=NB347_319.1
    have hs46 : w43.cell? ⟨G347,2,none⟩ = some (.int .i64 0):=zk K347 2
    have hfs46:=bF K347.1 2
    have:=NB319_347.1
    have:=NB347_319.1
    have hs47 : w43.cell? ⟨G347,3,none⟩ = some (.int .i64 0):=zk K347 3
    have hfs47:=bF K347.1 3
    have:=NB319_347.1
    have:=NB347_319.1
    have hs48 : w43.cell? ⟨G347,4,none⟩ = some (.int .i64 0):=zk K347 4
    have hfs48:=bF K347.1 4
    have:=NB319_347.1
    have:=NB347_319.1
    have hs49 : w43.cell? ⟨G347,5,none⟩ = some (.int .i64 0):=zk K347 5
    have hfs49:=bF K347.1 5
    have:=NB319_347.1
    have:=NB347_319.1
    have hs50 : w43.cell? ⟨G347,6,none⟩ = some (.int .i64 0):=zk K347 6
    have hfs50:=bF K347.1 6
    have:=NB319_347.1
    have:=NB347_319.1
    have hs51 : w43.cell? ⟨G347,7,none⟩ = some (.int .i64 0):=zk K347 7
    have hfs51:=bF K347.1 7
    have:=NB319_347.1
    have:=NB347_319.1
    have hs52 : w43.cell? ⟨G347,8,none⟩ = some (.int .u64 0):=zk K347 8
    have hfs52:=bF K347.1 8
    have:=NB319_347.1
    have:=NB347_319.1
    have hs53 : w43.cell? ⟨G347,9,none⟩ = some (.int .i64 0):=zk K347 9
    have hfs53:=bF K347.1 9
    have:=NB319_347.1
    have:=NB347_319.1
    have hs54 : w43.cell? ⟨G347,10,none⟩ = some (.string (⟨#[]⟩ : ByteArray)):=zk K347 10
    have hfs54:=bF K347.1 10
    have:=NB319_347.1
    have:=NB347_319.1
    have hs55 : w43.cell? ⟨G347,11,none⟩ = some (.int .i64 0):=zk K347 11
    have hfs55:=bF K347.1 11
    have:=NB319_347.1
    have:=NB347_319.1
    have hs56 : w43.cell? ⟨G347,12,none⟩ = some (.int .i64 0):=zk K347 12
    have hfs56:=bF K347.1 12
    have:=NB319_347.1
    have:=NB347_319.1
    have hs57 : w43.cell? ⟨G347,13,none⟩ = some (.string (⟨#[]⟩ : ByteArray)):=zk K347 13
    have hfs57:=bF K347.1 13
    have:=NB319_347.1
    have:=NB347_319.1
    refine sz ?_
    refine hK.out _ _ ⟨(zx (hHeld.1) NB319_347.1),(zx (hHeld.2) NB319_347.1)⟩ (fun hHeld => ?_)
    clear hK K
    refine pz 8 3 #[T,T,T,T,T,T,T,T,T] HT_.1 ?_
    refine done_ (done_of HT_.out (by kernel_rfl)) ?_
    have:=NB347_319.1
    have:=NB319_347.1
    obtain ⟨hcz59_0,hcz59_1,hcz59_2,hcz59_3,hcz59_4,hcz59_5,hcz59_6,hcz59_7,hcz59_8,hcz59_9,hcz59_10,hcz59_11,hcz59_12,hcz59_13,hfz59_0,hfz59_1,hfz59_2,hfz59_3,hfz59_4,hfz59_5,hfz59_6,hfz59_7,hfz59_8,hfz59_9,hfz59_10,hfz59_11,hfz59_12,hfz59_13⟩:=zc14 K347
    try go_wp2
    go_ret
    exact ⟨zE,zH HB⟩
  ·rw [if_neg c4] at H
   have c4b0 : (t332 == 2) = false:=beq_eq_false_iff_ne.mpr c4
   have c4b1 : (t332 != 2) = true:=bne_iff_ne.mpr c4
   obtain rfl:=Option.some.inj H
   go_enter Try.func34,Try.ntmps34
   try go_wp2_with (first|((with_reducible refine gate_dst (N:=5) rfl ?_);refine Kd.R_lit k39 _ 39 ?hg (N:=5) ?hd (xs:=([(⟨1,1,4613937818241073152,2,0,0⟩ : S39)] : List (S39))) (inner:=[.int .i64 1,.int .i64 1,.float .f64 4613937818241073152,.int .i64 2,.float .f64 0,.int .i64 0]) (ok:=fun _ => True) (okp:=fun _ => True) ?hr ?hp (fun _ hk => hk) trivial (Below.refl _ _) (Nat.le_refl _) (by simp) ?_;(case hd => rfl);(case hg => rfl);(case hr => first|(go_simp;done)|(go_simp;rfl));(case hp => exact (Reps.c6 (show Kd.M k39 _ _ _ (⟨1,1,4613937818241073152,2,0,0⟩ : S39) [.int .i64 1,.int .i64 1,.float .f64 4613937818241073152,.int .i64 2,.float .f64 0,.int .i64 0] from (k39_mkM _ _ _ (⟨1,1,4613937818241073152,2,0,0⟩ : S39) )) (Reps.none _ _)));intro v317 w60 ho61 hb hg_ hnew_;clear hg_ hnew_;(first|rw [← Ny316.out] at ho61|(simp only [Int.reduceToNat] at ho61;rw [← Ny316.out] at ho61));have HO318:=Aside0.mk (Kd.R_lower ho61 (zW HB));replace HB:=zS HB hb;clear hb ho61;obtain ⟨Ao62,co62,eo62⟩:=Kd.R_slice HO318.out;subst eo62)|((with_reducible refine gate_dst (N:=1) rfl ?_);refine zb (N:=1) (cs:=#[.slice none 0 0,.bool false]) (t:=24) ?_;intro G319 hg w63 hbox hb;replace HO318:=zRb HO318 hb;have K319:=Aside0.mk (hbox);have GW319:=zN HB hg;have GE319:=zN HB hg;replace HB:=zS HB hb;clear hb hbox hg;obtain ⟨hcz64_0,hcz64_1,hfz64_0,hfz64_1⟩:=zc2 K319))
   have n0_ : Aside0 (Kd.R k39 39 ((w63.setCell ⟨G319,0,none⟩ (.slice Ao62 y316.length co62)).setCell ⟨G319,1,none⟩ (.bool false)) w.heap.size (fun _ => True) (.slice Ao62 y316.length co62) y316):=⟨zRf HO318 K319 (fun _ hk => trivial)⟩
   have n1_ : Aside0 (((w63.setCell ⟨G319,0,none⟩ (.slice Ao62 y316.length co62)).setCell ⟨G319,1,none⟩ (.bool false)).heap[G319]? = some (.cells #[.slice Ao62 y316.length co62,.bool false] 24 (0,0))):=⟨zF K319⟩
   have n2_ : Aside0 (Below w.heap.size w ((w63.setCell ⟨G319,0,none⟩ (.slice Ao62 y316.length co62)).setCell ⟨G319,1,none⟩ (.bool false))):=⟨zH HB⟩
   (try clear HO318)
   (try clear K319)
   (try clear HB)
   generalize ((w63.setCell ⟨G319,0,none⟩ (.slice Ao62 y316.length co62)).setCell ⟨G319,1,none⟩ (.bool false)) = w65 at n0_ n1_ n2_ ⊢
   have HO318:=n0_
   have K319:=n1_
   have HB:=n2_
   clear n0_ n1_ n2_
   replace HO318:=Aside0.mk (Kd.R_drew HO318.out)
   replace K319:=Aside0.mk (bD K319.1)
   replace HB:=Aside0.mk (bw1 HB.1)
   refine start_ (n:=9) (S:=fun w' => w'.cell? ⟨G319,0,none⟩ = some (.slice Ao62 y316.length co62) ∧ w'.cell? ⟨G319,1,none⟩ = some (.bool false)) (ds:=[]) #[F,F,F,F,F,F,F,F,F] (by kernel_rfl) rfl rfl ⟨zk K319 0,zk K319 1⟩ (fun hHeld => ?_);refine with_tabW beaconlaw19_awake.tab2 beaconlaw19_awake.bits2 (fun HT_ HW_ => ?_)
   generalize w65.drew = w66 at HO318 K319 HB hHeld ⊢
   refine tz 0 8 #[T,F,F,F,F,F,F,F,F] HT_.1 HW_.1 hHeld ?_
   refine join_ (σ:=Nat) 2 #[T,T,T,T,T,T,T,F,F] (fun s_ => [(9,.agg #[.int .i64 t320,.int .i64 t321,.int .i64 t322,.int .i64 t323,.int .i64 t324,.int .i64 t325,.int .u64 t326,.int .i64 t327,.string t328,.int .i64 t329,.int .i64 t330,.string t331]),(10,.tuple #[.agg #[.int .i64 t332,.int .i64 t333,.int .i64 t334,.int .i64 t335,.int .i64 t336,.int .i64 t337,.int .i64 t338,.int .i64 t339,.int .u64 t340,.int .i64 t341,.string t342,.int .i64 t343,.int .i64 t344,.string t345],.int .i64 t346]),(2,.pointer (some ⟨s_,0,none⟩)),(7,.tuple #[.agg #[.int .i64 t332,.int .i64 t333,.int .i64 t334,.int .i64 t335,.int .i64 t336,.int .i64 t337,.int .i64 t338,.int .i64 t339,.int .u64 t340,.int .i64 t341,.string t342,.int .i64 t343,.int .i64 t344,.string t345],.int .i64 t346]),(11,.agg #[.int .i64 t332,.int .i64 t333,.int .i64 t334,.int .i64 t335,.int .i64 t336,.int .i64 t337,.int .i64 t338,.int .i64 t339,.int .u64 t340,.int .i64 t341,.string t342,.int .i64 t343,.int .i64 t344,.string t345]),(12,.int .i64 t346)]) (fun s_ w' => (w'.cell? ⟨G319,0,none⟩ = some (.slice Ao62 y316.length co62) ∧ w'.cell? ⟨G319,1,none⟩ = some (.bool false)) ∧ (Kd.R k39 39 w' w.heap.size (fun _ => True) (.slice Ao62 y316.length co62) y316) ∧ (w'.heap[G319]? = some (.cells #[.slice Ao62 y316.length co62,.bool false] 24 (0,0))) ∧ (w'.heap[s_]? = some (.cells #[.int .i64 0,.int .i64 0,.int .i64 0,.int .i64 0,.int .i64 0,.int .i64 0,.int .i64 0,.int .i64 0,.int .u64 0,.int .i64 0,.string (⟨#[]⟩ : ByteArray),.int .i64 0,.int .i64 0,.string (⟨#[]⟩ : ByteArray)] 50 (0,0))) ∧ (w.heap.size ≤ s_) ∧ (w.heap.size ≤ s_) ∧ (G319 ≠ s_) ∧ (s_ ≠ G319) ∧ (Below w.heap.size w w')) ?_ ?_
   rotate_left
   ·intro hCont
    refine two_ (i:=1) (j:=6) (Ni:=some 9) (Nj:=some 2) #[T,T,F,F,F,F,F,F,F] #[T,F,F,F,F,F,T,F,F] rfl rfl rfl rfl (two_of HT_.out (by kernel_rfl)) (by decide) (by decide) (fun K hK => ?_) (fun K hK => ?_)
    ·skip
     refine zo_ Try.func41 #[.int .i64 5,.int .i64 9,.int .i64 1,.int .i64 4] ?_
     with_reducible refine (beaconlaw19_data.calls 5 9 1 4 t320 t321 t322 t323 t324 t325 t326 t327 t328 t329 t330 t331 _ A1.out).mono ?_
     rintro e w67 ⟨rfl,hb⟩
     refine ⟨_,rfl,?_⟩
     replace HO318:=zRb HO318 hb
     replace K319:=zB K319 hb
     replace HB:=zS HB hb
     (try clear hb)
     (try clear hb2)
     (try clear hk)
     (try clear hi)
     refine hK.out _ _ ⟨zk K319 0,zk K319 1⟩ (fun hHeld => ?_)
     clear hK K
     refine nz 9 ?_
     refine two_ (i:=2) (j:=6) (Ni:=some 10) (Nj:=some 2) #[T,T,T,F,F,F,F,F,F] #[T,T,F,F,F,F,T,F,F] rfl rfl rfl rfl (two_of HT_.out (by kernel_rfl)) (by decide) (by decide) (fun K hK => ?_) (fun K hK => ?_)
     ·skip
      refine zo_ Try.func28 #[.int .i64 5,.agg #[.slice Ao62 y316.length co62,.bool false],.agg #[.int .i64 t320,.int .i64 t321,.int .i64 t322,.int .i64 t323,.int .i64 t324,.int .i64 t325,.int .u64 t326,.int .i64 t327,.string t328,.int .i64 t329,.int .i64 t330,.string t331]] ?_
      with_reducible refine (forward_Decide.calls k 5 _ _ y316 false t320 t321 t322 t323 t324 t325 t326 t327 t328 t329 t330 t331 t332 t333 t334 t335 t336 t337 t338 t339 t340 t341 t342 t343 t344 t345 t346 _ ?side1 ?side2 A2.out).mono ?_
      (case side1 => exact zC ((Kd.R_reads' HO318.out).2.2))
      (case side2 => exact (Kd.R_reads' HO318.out).2.1)
      rintro e w68 ⟨rfl,hb⟩
      refine ⟨_,rfl,?_⟩
      replace HO318:=zRb HO318 hb
      replace K319:=zB K319 hb
      replace HB:=zS HB hb
      (try clear hb)
      (try clear hb2)
      (try clear hk)
      (try clear hi)
      refine hK.out _ _ ⟨zk K319 0,zk K319 1⟩ (fun hHeld => ?_)
      clear hK K
      refine nz 10 ?_
      refine pz 3 7 #[T,T,T,T,F,F,F,F,F] HT_.1 ?_
      refine pz 4 11 #[T,T,T,T,T,F,F,F,F] HT_.1 ?_
      refine pz 5 12 #[T,T,T,T,T,T,F,F,F] HT_.1 ?_
      refine one_ (i:=6) (N:=some 2) #[T,T,T,T,T,T,T,F,F] rfl rfl (one_of HT_.out (by kernel_rfl)) (by decide) (fun K hK => ?_)
      refine zs_ (N:=2) (cs:=#[.int .i64 0,.int .i64 0,.int .i64 0,.int .i64 0,.int .i64 0,.int .i64 0,.int .i64 0,.int .i64 0,.int .u64 0,.int .i64 0,.string (⟨#[]⟩ : ByteArray),.int .i64 0,.int .i64 0,.string (⟨#[]⟩ : ByteArray)]) (t:=50) ?_
      intro G347 hg w69 hbox hb
      replace HO318:=zRb HO318 hb
      have K347:=Aside0.mk (hbox)
      have GW347:=zN HB hg
      have GE347:=zN HB hg
      replace HB:=zS HB hb
      have NB319_347:=zL K319 hg
      have NB347_319:=zG K319 hg
      replace K319:=zB K319 hb
      clear hb hbox hg
      refine hK.out _ _ ⟨zk K319 0,zk K319 1⟩ (fun hHeld => ?_)
      clear hK K
      refine nz 2 ?_
      exact norm_ (by simp only [putAll,Act.put,xA,xB,xC]) (hCont (G347) _ ⟨hHeld,(zR HO318),(z1 K319.1),(z1 K347.1),GW347.1,GE347.1,NB319_347.1,NB347_319.1,(zH HB)⟩)
     ·skip
      refine zs_ (N:=2) (cs:=#[.int .i64 0,.int .i64 0,.int .i64 0,.int .i64 0,.int .i64 0,.int .i64 0,.int .i64 0,.int .i64 0,.int .u64 0,.int .i64 0,.string (⟨#[]⟩ : ByteArray),.int .i64 0,.int .i64 0,.string (⟨#[]⟩ : ByteArray)]) (t:=50) ?_
      intro G347 hg w68 hbox hb
      replace HO318:=zRb HO318 hb
      have K347:=Aside0.mk (hbox)
      have GW347:=zN HB hg
      have GE347:=zN HB hg
      replace HB:=zS HB hb
      have NB319_347:=zL K319 hg
      have NB347_319:=zG K319 hg
      replace K319:=zB K319 hb
      clear hb hbox hg
      refine hK.out _ _ ⟨zk K319 0,zk K319 1⟩ (fun hHeld => ?_)
      clear hK K
      refine nz 2 ?_
      refine one_ (i:=2) (N:=some 10) #[T,T,T,F,F,F,T,F,F] rfl rfl (one_of HT_.out (by kernel_rfl)) (by decide) (fun K hK => ?_)
      refine zo_ Try.func28 #[.int .i64 5,.agg #[.slice Ao62 y316.length co62,.bool false],.agg #[.int .i64 t320,.int .i64 t321,.int .i64 t322,.int .i64 t323,.int .i64 t324,.int .i64 t325,.int .u64 t326,.int .i64 t327,.string t328,.int .i64 t329,.int .i64 t330,.string t331]] ?_
      with_reducible refine (forward_Decide.calls k 5 _ _ y316 false t320 t321 t322 t323 t324 t325 t326 t327 t328 t329 t330 t331 t332 t333 t334 t335 t336 t337 t338 t339 t340 t341 t342 t343 t344 t345 t346 _ ?side1 ?side2 A2.out).mono ?_
      (case side1 => exact zC ((Kd.R_reads' HO318.out).2.2))
      (case side2 => exact (Kd.R_reads' HO318.out).2.1)
      rintro e w69 ⟨rfl,hb⟩
      refine ⟨_,rfl,?_⟩
      replace HO318:=zRb HO318 hb
      replace K319:=zB K319 hb
      replace K347:=zB K347 hb
      replace HB:=zS HB hb
      (try clear hb)
      (try clear hb2)
      (try clear hk)
      (try clear hi)
      refine hK.out _ _ ⟨zk K319 0,zk K319 1⟩ (fun hHeld => ?_)
      clear hK K
      refine nz 10 ?_
      refine pz 3 7 #[T,T,T,T,F,F,T,F,F] HT_.1 ?_
      refine pz 4 11 #[T,T,T,T,T,F,T,F,F] HT_.1 ?_
      refine pz 5 12 #[T,T,T,T,T,T,T,F,F] HT_.1 ?_
      exact norm_ (by simp only [putAll,Act.put,xA,xB,xC]) (hCont (G347) _ ⟨hHeld,(zR HO318),(z1 K319.1),(z1 K347.1),GW347.1,GE347.1,NB319_347.1,NB347_319.1,(zH HB)⟩)
    ·skip
     refine zs_ (N:=2) (cs:=#[.int .i64 0,.int .i64 0,.int .i64 0,.int .i64 0,.int .i64 0,.int .i64 0,.int .i64 0,.int .i64 0,.int .u64 0,.int .i64 0,.string (⟨#[]⟩ : ByteArray),.int .i64 0,.int .i64 0,.string (⟨#[]⟩ : ByteArray)]) (t:=50) ?_
     intro G347 hg w67 hbox hb
     replace HO318:=zRb HO318 hb
     have K347:=Aside0.mk (hbox)
     have GW347:=zN HB hg
     have GE347:=zN HB hg
     replace HB:=zS HB hb
     have NB319_347:=zL K319 hg
     have NB347_319:=zG K319 hg
     replace K319:=zB K319 hb
     clear hb hbox hg
     refine hK.out _ _ ⟨zk K319 0,zk K319 1⟩ (fun hHeld => ?_)
     clear hK K
     refine nz 2 ?_
     refine one_ (i:=1) (N:=some 9) #[T,T,F,F,F,F,T,F,F] rfl rfl (one_of HT_.out (by kernel_rfl)) (by decide) (fun K hK => ?_)
     refine zo_ Try.func41 #[.int .i64 5,.int .i64 9,.int .i64 1,.int .i64 4] ?_
     with_reducible refine (beaconlaw19_data.calls 5 9 1 4 t320 t321 t322 t323 t324 t325 t326 t327 t328 t329 t330 t331 _ A1.out).mono ?_
     rintro e w68 ⟨rfl,hb⟩
     refine ⟨_,rfl,?_⟩
     replace HO318:=zRb HO318 hb
     replace K319:=zB K319 hb
     replace K347:=zB K347 hb
     replace HB:=zS HB hb
     (try clear hb)
     (try clear hb2)
     (try clear hk)
     (try clear hi)
     refine hK.out _ _ ⟨zk K319 0,zk K319 1⟩ (fun hHeld => ?_)
     clear hK K
     refine nz 9 ?_
     refine one_ (i:=2) (N:=some 10) #[T,T,T,F,F,F,T,F,F] rfl rfl (one_of HT_.out (by kernel_rfl)) (by decide) (fun K hK => ?_)
     refine zo_ Try.func28 #[.int .i64 5,.agg #[.slice Ao62 y316.length co62,.bool false],.agg #[.int .i64 t320,.int .i64 t321,.int .i64 t322,.int .i64 t323,.int .i64 t324,.int .i64 t325,.int .u64 t326,.int .i64 t327,.string t328,.int .i64 t329,.int .i64 t330,.string t331]] ?_
     with_reducible refine (forward_Decide.calls k 5 _ _ y316 false t320 t321 t322 t323 t324 t325 t326 t327 t328 t329 t330 t331 t332 t333 t334 t335 t336 t337 t338 t339 t340 t341 t342 t343 t344 t345 t346 _ ?side1 ?side2 A2.out).mono ?_
     (case side1 => exact zC ((Kd.R_reads' HO318.out).2.2))
     (case side2 => exact (Kd.R_reads' HO318.out).2.1)
     rintro e w69 ⟨rfl,hb⟩
     refine ⟨_,rfl,?_⟩
     replace HO318:=zRb HO318 hb
     replace K319:=zB K319 hb
     replace K347:=zB K347 hb
     replace HB:=zS HB hb
     (try clear hb)
     (try clear hb2)
     (try clear hk)
     (try clear hi)
     refine hK.out _ _ ⟨zk K319 0,zk K319 1⟩ (fun hHeld => ?_)
     clear hK K
     refine nz 10 ?_
     refine pz 3 7 #[T,T,T,T,F,F,T,F,F] HT_.1 ?_
     refine pz 4 11 #[T,T,T,T,T,F,T,F,F] HT_.1 ?_
     refine pz 5 12 #[T,T,T,T,T,T,T,F,F] HT_.1 ?_
     exact norm_ (by simp only [putAll,Act.put,xA,xB,xC]) (hCont (G347) _ ⟨hHeld,(zR HO318),(z1 K319.1),(z1 K347.1),GW347.1,GE347.1,NB319_347.1,NB347_319.1,(zH HB)⟩)
   rintro G347 w70 ⟨hS_,h0_,h1_,h2_,h3_,h4_,h5_,h6_,h7_⟩
   replace HO318 : Aside0 (Kd.R k39 39 w70 w.heap.size (fun _ => True) (.slice Ao62 y316.length co62) y316):=⟨h0_⟩
   replace K319 : Aside0 (w70.heap[G319]? = some (.cells #[.slice Ao62 y316.length co62,.bool false] 24 (0,0))):=⟨h1_⟩
   have K347 : Aside0 (w70.heap[G347]? = some (.cells #[.int .i64 0,.int .i64 0,.int .i64 0,.int .i64 0,.int .i64 0,.int .i64 0,.int .i64 0,.int .i64 0,.int .u64 0,.int .i64 0,.string (⟨#[]⟩ : ByteArray),.int .i64 0,.int .i64 0,.string (⟨#[]⟩ : ByteArray)] 50 (0,0))):=⟨h2_⟩
   have GW347 : Aside0 (w.heap.size ≤ G347):=⟨h3_⟩
   have GE347 : Aside0 (w.heap.size ≤ G347):=⟨h4_⟩
   have NB319_347 : Aside0 (G319 ≠ G347):=⟨h5_⟩
   have NB347_319 : Aside0 (G347 ≠ G319):=⟨h6_⟩
   replace HB : Aside0 (Below w.heap.size w w70):=⟨h7_⟩
   clear h0_ h1_ h2_ h3_ h4_ h5_ h6_ h7_
   have hHeld : w70.cell? ⟨G319,0,none⟩ = some (.slice Ao62 y316.length co62) ∧ w70.cell? ⟨G319,1,none⟩ = some (.bool false):=hS_
   refine norm_ (a':=?_) ?_ ?_
   rotate_left
   ·simp only [putAll,Act.put,xA,xB,xC]
    rfl
   refine one_ (i:=7) (N:=none) #[T,T,T,T,T,T,T,T,F] rfl rfl (one_of HT_.out (by kernel_rfl)) (by decide) (fun K hK => ?_)
   have hs71 : w70.cell? ⟨G347,0,none⟩ = some (.int .i64 0):=zk K347 0
   have hfs71:=bF K347.1 0
   have:=NB319_347.1
   have:=NB347_319.1
   have hs72 : w70.cell? ⟨G347,1,none⟩ = some (.int .i64 0):=zk K347 1
   have hfs72:=bF K347.1 1
   have:=NB319_347.1
   have:=NB347_319.1
   have hs73 : w70.cell? ⟨G347,2,none⟩ = some (.int .i64 0):=zk K347 2
   have hfs73:=bF K347.1 2
   have:=NB319_347.1
   have:=NB347_319.1
   have hs74 : w70.cell? ⟨G347,3,none⟩ = some (.int .i64 0):=zk K347 3
   have hfs74:=bF K347.1 3
   have:=NB319_347.1
   have:=NB347_319.1
   have hs75 : w70.cell? ⟨G347,4,none⟩ = some (.int .i64 0):=zk K347 4
   have hfs75:=bF K347.1 4
   have:=NB319_347.1
   have:=NB347_319.1
   have hs76 : w70.cell? ⟨G347,5,none⟩ = some (.int .i64 0):=zk K347 5
   have hfs76:=bF K347.1 5
   have:=NB319_347.1
   have:=NB347_319.1
   have hs77 : w70.cell? ⟨G347,6,none⟩ = some (.int .i64 0):=zk K347 6
   have hfs77:=bF K347.1 6
   have:=NB319_347.1
   have:=NB347_319.1
   have hs78 : w70.cell? ⟨G347,7,none⟩ = some (.int .i64 0):=zk K347 7
   have hfs78:=bF K347.1 7
   have:=NB319_347.1
   have:=NB347_319.1
   have hs79 : w70.cell? ⟨G347,8,none⟩ = some (.int .u64 0):=zk K347 8
   have hfs79:=bF K347.1 8
   have:=NB319_347.1
   have:=NB347_319.1
   have hs80 : w70.cell? ⟨G347,9,none⟩ = some (.int .i64 0):=zk K347 9
   have hfs80:=bF K347.1 9
   have:=NB319_347.1
   have:=NB347_319.1
   have hs81 : w70.cell? ⟨G347,10,none⟩ = some (.string (⟨#[]⟩ : ByteArray)):=zk K347 10
   have hfs81:=bF K347.1 10
   have:=NB319_347.1
   have:=NB347_319.1
   have hs82 : w70.cell? ⟨G347,11,none⟩ = some (.int .i64 0):=zk K347 11
   have hfs82:=bF K347.1 11
   have:=NB319_347.1
   have:=NB347_319.1
   have hs83 : w70.cell? ⟨G347,12,none⟩ = some (.int .i64 0):=zk K347 12
   have hfs83:=bF K347.1 12
   have:=NB319_347.1
   have:=NB347_319.1
   have hs84 : w70.cell? ⟨G347,13,none⟩ = some (.string (⟨#[]⟩ : ByteArray)):=zk K347 13
   have hfs84:=bF K347.1 13
   have:=NB319_347.1
   have:=NB347_319.1
   refine sz ?_
   refine hK.out _ _ ⟨(zx (hHeld.1) NB319_347.1),(zx (hHeld.2) NB319_347.1)⟩ (fun hHeld => ?_)
   clear hK K
   refine pz 8 3 #[T,T,T,T,T,T,T,T,T] HT_.1 ?_
   refine done_ (done_of HT_.out (by kernel_rfl)) ?_
   have:=NB347_319.1
   have:=NB319_347.1
   obtain ⟨hcz86_0,hcz86_1,hcz86_2,hcz86_3,hcz86_4,hcz86_5,hcz86_6,hcz86_7,hcz86_8,hcz86_9,hcz86_10,hcz86_11,hcz86_12,hcz86_13,hfz86_0,hfz86_1,hfz86_2,hfz86_3,hfz86_4,hfz86_5,hfz86_6,hfz86_7,hfz86_8,hfz86_9,hfz86_10,hfz86_11,hfz86_12,hfz86_13⟩:=zc14 K347
   try go_wp2
   go_ret
   exact ⟨zE,zH HB⟩
 ·rw [if_neg c3] at H
  have c3b0 : (t346 == 0) = false:=beq_eq_false_iff_ne.mpr c3
  have c3b1 : (t346 != 0) = true:=bne_iff_ne.mpr c3
  obtain rfl:=Option.some.inj H
  go_enter Try.func34,Try.ntmps34
  try go_wp2_with (first|((with_reducible refine gate_dst (N:=5) rfl ?_);refine Kd.R_lit k39 _ 39 ?hg (N:=5) ?hd (xs:=([(⟨1,1,4613937818241073152,2,0,0⟩ : S39)] : List (S39))) (inner:=[.int .i64 1,.int .i64 1,.float .f64 4613937818241073152,.int .i64 2,.float .f64 0,.int .i64 0]) (ok:=fun _ => True) (okp:=fun _ => True) ?hr ?hp (fun _ hk => hk) trivial (Below.refl _ _) (Nat.le_refl _) (by simp) ?_;(case hd => rfl);(case hg => rfl);(case hr => first|(go_simp;done)|(go_simp;rfl));(case hp => exact (Reps.c6 (show Kd.M k39 _ _ _ (⟨1,1,4613937818241073152,2,0,0⟩ : S39) [.int .i64 1,.int .i64 1,.float .f64 4613937818241073152,.int .i64 2,.float .f64 0,.int .i64 0] from (k39_mkM _ _ _ (⟨1,1,4613937818241073152,2,0,0⟩ : S39) )) (Reps.none _ _)));intro v317 w87 ho88 hb hg_ hnew_;clear hg_ hnew_;(first|rw [← Ny316.out] at ho88|(simp only [Int.reduceToNat] at ho88;rw [← Ny316.out] at ho88));have HO318:=Aside0.mk (Kd.R_lower ho88 (zW HB));replace HB:=zS HB hb;clear hb ho88;obtain ⟨Ao89,co89,eo89⟩:=Kd.R_slice HO318.out;subst eo89)|((with_reducible refine gate_dst (N:=1) rfl ?_);refine zb (N:=1) (cs:=#[.slice none 0 0,.bool false]) (t:=24) ?_;intro G319 hg w90 hbox hb;replace HO318:=zRb HO318 hb;have K319:=Aside0.mk (hbox);have GW319:=zN HB hg;have GE319:=zN HB hg;replace HB:=zS HB hb;clear hb hbox hg;obtain ⟨hcz91_0,hcz91_1,hfz91_0,hfz91_1⟩:=zc2 K319))
  have n0_ : Aside0 (Kd.R k39 39 ((w90.setCell ⟨G319,0,none⟩ (.slice Ao89 y316.length co89)).setCell ⟨G319,1,none⟩ (.bool false)) w.heap.size (fun _ => True) (.slice Ao89 y316.length co89) y316):=⟨zRf HO318 K319 (fun _ hk => trivial)⟩
  have n1_ : Aside0 (((w90.setCell ⟨G319,0,none⟩ (.slice Ao89 y316.length co89)).setCell ⟨G319,1,none⟩ (.bool false)).heap[G319]? = some (.cells #[.slice Ao89 y316.length co89,.bool false] 24 (0,0))):=⟨zF K319⟩
  have n2_ : Aside0 (Below w.heap.size w ((w90.setCell ⟨G319,0,none⟩ (.slice Ao89 y316.length co89)).setCell ⟨G319,1,none⟩ (.bool false))):=⟨zH HB⟩
  (try clear HO318)
  (try clear K319)
  (try clear HB)
  generalize ((w90.setCell ⟨G319,0,none⟩ (.slice Ao89 y316.length co89)).setCell ⟨G319,1,none⟩ (.bool false)) = w92 at n0_ n1_ n2_ ⊢
  have HO318:=n0_
  have K319:=n1_
  have HB:=n2_
  clear n0_ n1_ n2_
  replace HO318:=Aside0.mk (Kd.R_drew HO318.out)
  replace K319:=Aside0.mk (bD K319.1)
  replace HB:=Aside0.mk (bw1 HB.1)
  refine start_ (n:=9) (S:=fun w' => w'.cell? ⟨G319,0,none⟩ = some (.slice Ao89 y316.length co89) ∧ w'.cell? ⟨G319,1,none⟩ = some (.bool false)) (ds:=[]) #[F,F,F,F,F,F,F,F,F] (by kernel_rfl) rfl rfl ⟨zk K319 0,zk K319 1⟩ (fun hHeld => ?_);refine with_tabW beaconlaw19_awake.tab2 beaconlaw19_awake.bits2 (fun HT_ HW_ => ?_)
  generalize w92.drew = w93 at HO318 K319 HB hHeld ⊢
  refine tz 0 8 #[T,F,F,F,F,F,F,F,F] HT_.1 HW_.1 hHeld ?_
  refine join_ (σ:=Nat) 2 #[T,T,T,T,T,T,T,F,F] (fun s_ => [(9,.agg #[.int .i64 t320,.int .i64 t321,.int .i64 t322,.int .i64 t323,.int .i64 t324,.int .i64 t325,.int .u64 t326,.int .i64 t327,.string t328,.int .i64 t329,.int .i64 t330,.string t331]),(10,.tuple #[.agg #[.int .i64 t332,.int .i64 t333,.int .i64 t334,.int .i64 t335,.int .i64 t336,.int .i64 t337,.int .i64 t338,.int .i64 t339,.int .u64 t340,.int .i64 t341,.string t342,.int .i64 t343,.int .i64 t344,.string t345],.int .i64 t346]),(2,.pointer (some ⟨s_,0,none⟩)),(7,.tuple #[.agg #[.int .i64 t332,.int .i64 t333,.int .i64 t334,.int .i64 t335,.int .i64 t336,.int .i64 t337,.int .i64 t338,.int .i64 t339,.int .u64 t340,.int .i64 t341,.string t342,.int .i64 t343,.int .i64 t344,.string t345],.int .i64 t346]),(11,.agg #[.int .i64 t332,.int .i64 t333,.int .i64 t334,.int .i64 t335,.int .i64 t336,.int .i64 t337,.int .i64 t338,.int .i64 t339,.int .u64 t340,.int .i64 t341,.string t342,.int .i64 t343,.int .i64 t344,.string t345]),(12,.int .i64 t346)]) (fun s_ w' => (w'.cell? ⟨G319,0,none⟩ = some (.slice Ao89 y316.length co89) ∧ w'.cell? ⟨G319,1,none⟩ = some (.bool false)) ∧ (Kd.R k39 39 w' w.heap.size (fun _ => True) (.slice Ao89 y316.length co89) y316) ∧ (w'.heap[G319]? = some (.cells #[.slice Ao89 y316.length co89,.bool false] 24 (0,0))) ∧ (w'.heap[s_]? = some (.cells #[.int .i64 0,.int .i64 0,.int .i64 0,.int .i64 0,.int .i64 0,.int .i64 0,.int .i64 0,.int .i64 0,.int .u64 0,.int .i64 0,.string (⟨#[]⟩ : ByteArray),.int .i64 0,.int .i64 0,.string (⟨#[]⟩ : ByteArray)] 50 (0,0))) ∧ (w.heap.size ≤ s_) ∧ (w.heap.size ≤ s_) ∧ (G319 ≠ s_) ∧ (s_ ≠ G319) ∧ (Below w.heap.size w w')) ?_ ?_
  rotate_left
  ·intro hCont
   refine two_ (i:=1) (j:=6) (Ni:=some 9) (Nj:=some 2) #[T,T,F,F,F,F,F,F,F] #[T,F,F,F,F,F,T,F,F] rfl rfl rfl rfl (two_of HT_.out (by kernel_rfl)) (by decide) (by decide) (fun K hK => ?_) (fun K hK => ?_)
   ·skip
    refine zo_ Try.func41 #[.int .i64 5,.int .i64 9,.int .i64 1,.int .i64 4] ?_
    with_reducible refine (beaconlaw19_data.calls 5 9 1 4 t320 t321 t322 t323 t324 t325 t326 t327 t328 t329 t330 t331 _ A1.out).mono ?_
    rintro e w94 ⟨rfl,hb⟩
    refine ⟨_,rfl,?_⟩
    replace HO318:=zRb HO318 hb
    replace K319:=zB K319 hb
    replace HB:=zS HB hb
    (try clear hb)
    (try clear hb2)
    (try clear hk)
    (try clear hi)
    refine hK.out _ _ ⟨zk K319 0,zk K319 1⟩ (fun hHeld => ?_)
    clear hK K
    refine nz 9 ?_
    refine two_ (i:=2) (j:=6) (Ni:=some 10) (Nj:=some 2) #[T,T,T,F,F,F,F,F,F] #[T,T,F,F,F,F,T,F,F] rfl rfl rfl rfl (two_of HT_.out (by kernel_rfl)) (by decide) (by decide) (fun K hK => ?_) (fun K hK => ?_)
    ·skip
     refine zo_ Try.func28 #[.int .i64 5,.agg #[.slice Ao89 y316.length co89,.bool false],.agg #[.int .i64 t320,.int .i64 t321,.int .i64 t322,.int .i64 t323,.int .i64 t324,.int .i64 t325,.int .u64 t326,.int .i64 t327,.string t328,.int .i64 t329,.int .i64 t330,.string t331]] ?_
     with_reducible refine (forward_Decide.calls k 5 _ _ y316 false t320 t321 t322 t323 t324 t325 t326 t327 t328 t329 t330 t331 t332 t333 t334 t335 t336 t337 t338 t339 t340 t341 t342 t343 t344 t345 t346 _ ?side1 ?side2 A2.out).mono ?_
     (case side1 => exact zC ((Kd.R_reads' HO318.out).2.2))
     (case side2 => exact (Kd.R_reads' HO318.out).2.1)
     rintro e w95 ⟨rfl,hb⟩
     refine ⟨_,rfl,?_⟩
     replace HO318:=zRb HO318 hb
     replace K319:=zB K319 hb
     replace HB:=zS HB hb
     (try clear hb)
     (try clear hb2)
     (try clear hk)
     (try clear hi)
     refine hK.out _ _ ⟨zk K319 0,zk K319 1⟩ (fun hHeld => ?_)
     clear hK K
     refine nz 10 ?_
     refine pz 3 7 #[T,T,T,T,F,F,F,F,F] HT_.1 ?_
     refine pz 4 11 #[T,T,T,T,T,F,F,F,F] HT_.1 ?_
     refine pz 5 12 #[T,T,T,T,T,T,F,F,F] HT_.1 ?_
     refine one_ (i:=6) (N:=some 2) #[T,T,T,T,T,T,T,F,F] rfl rfl (one_of HT_.out (by kernel_rfl)) (by decide) (fun K hK => ?_)
     refine zs_ (N:=2) (cs:=#[.int .i64 0,.int .i64 0,.int .i64 0,.int .i64 0,.int .i64 0,.int .i64 0,.int .i64 0,.int .i64 0,.int .u64 0,.int .i64 0,.string (⟨#[]⟩ : ByteArray),.int .i64 0,.int .i64 0,.string (⟨#[]⟩ : ByteArray)]) (t:=50) ?_
     intro G347 hg w96 hbox hb
     replace HO318:=zRb HO318 hb
     have K347:=Aside0.mk (hbox)
     have GW347:=zN HB hg
     have GE347:=zN HB hg
     replace HB:=zS HB hb
     have NB319_347:=zL K319 hg
     have NB347_319:=zG K319 hg
     replace K319:=zB K319 hb
     clear hb hbox hg
     refine hK.out _ _ ⟨zk K319 0,zk K319 1⟩ (fun hHeld => ?_)
     clear hK K
     refine nz 2 ?_
     exact norm_ (by simp only [putAll,Act.put,xA,xB,xC]) (hCont (G347) _ ⟨hHeld,(zR HO318),(z1 K319.1),(z1 K347.1),GW347.1,GE347.1,NB319_347.1,NB347_319.1,(zH HB)⟩)
    ·skip
     refine zs_ (N:=2) (cs:=#[.int .i64 0,.int .i64 0,.int .i64 0,.int .i64 0,.int .i64 0,.int .i64 0,.int .i64 0,.int .i64 0,.int .u64 0,.int .i64 0,.string (⟨#[]⟩ : ByteArray),.int .i64 0,.int .i64 0,.string (⟨#[]⟩ : ByteArray)]) (t:=50) ?_
     intro G347 hg w95 hbox hb
     replace HO318:=zRb HO318 hb
     have K347:=Aside0.mk (hbox)
     have GW347:=zN HB hg
     have GE347:=zN HB hg
     replace HB:=zS HB hb
     have NB319_347:=zL K319 hg
     have NB347_319:=zG K319 hg
     replace K319:=zB K319 hb
     clear hb hbox hg
     refine hK.out _ _ ⟨zk K319 0,zk K319 1⟩ (fun hHeld => ?_)
     clear hK K
     refine nz 2 ?_
     refine one_ (i:=2) (N:=some 10) #[T,T,T,F,F,F,T,F,F] rfl rfl (one_of HT_.out (by kernel_rfl)) (by decide) (fun K hK => ?_)
     refine zo_ Try.func28 #[.int .i64 5,.agg #[.slice Ao89 y316.length co89,.bool false],.agg #[.int .i64 t320,.int .i64 t321,.int .i64 t322,.int .i64 t323,.int .i64 t324,.int .i64 t325,.int .u64 t326,.int .i64 t327,.string t328,.int .i64 t329,.int .i64 t330,.string t331]] ?_
     with_reducible refine (forward_Decide.calls k 5 _ _ y316 false t320 t321 t322 t323 t324 t325 t326 t327 t328 t329 t330 t331 t332 t333 t334 t335 t336 t337 t338 t339 t340 t341 t342 t343 t344 t345 t346 _ ?side1 ?side2 A2.out).mono ?_
     (case side1 => exact zC ((Kd.R_reads' HO318.out).2.2))
     (case side2 => exact (Kd.R_reads' HO318.out).2.1)
     rintro e w96 ⟨rfl,hb⟩
     refine ⟨_,rfl,?_⟩
     replace HO318:=zRb HO318 hb
     replace K319:=zB K319 hb
     replace K347:=zB K347 hb
     replace HB:=zS HB hb
     (try clear hb)
     (try clear hb2)
     (try clear hk)
     (try clear hi)
     refine hK.out _ _ ⟨zk K319 0,zk K319 1⟩ (fun hHeld => ?_)
     clear hK K
     refine nz 10 ?_
     refine pz 3 7 #[T,T,T,T,F,F,T,F,F] HT_.1 ?_
     refine pz 4 11 #[T,T,T,T,T,F,T,F,F] HT_.1 ?_
     refine pz 5 12 #[T,T,T,T,T,T,T,F,F] HT_.1 ?_
     exact norm_ (by simp only [putAll,Act.put,xA,xB,xC]) (hCont (G347) _ ⟨hHeld,(zR HO318),(z1 K319.1),(z1 K347.1),GW347.1,GE347.1,NB319_347.1,NB347_319.1,(zH HB)⟩)
   ·skip
    refine zs_ (N:=2) (cs:=#[.int .i64 0,.int .i64 0,.int .i64 0,.int .i64 0,.int .i64 0,.int .i64 0,.int .i64 0,.int .i64 0,.int .u64 0,.int .i64 0,.string (⟨#[]⟩ : ByteArray),.int .i64 0,.int .i64 0,.string (⟨#[]⟩ : ByteArray)]) (t:=50) ?_
    intro G347 hg w94 hbox hb
    replace HO318:=zRb HO318 hb
    have K347:=Aside0.mk (hbox)
    have GW347:=zN HB hg
    have GE347:=zN HB hg
    replace HB:=zS HB hb
    have NB319_347:=zL K319 hg
    have NB347_319:=zG K319 hg
    replace K319:=zB K319 hb
    clear hb hbox hg
    refine hK.out _ _ ⟨zk K319 0,zk K319 1⟩ (fun hHeld => ?_)
    clear hK K
    refine nz 2 ?_
    refine one_ (i:=1) (N:=some 9) #[T,T,F,F,F,F,T,F,F] rfl rfl (one_of HT_.out (by kernel_rfl)) (by decide) (fun K hK => ?_)
    refine zo_ Try.func41 #[.int .i64 5,.int .i64 9,.int .i64 1,.int .i64 4] ?_
    with_reducible refine (beaconlaw19_data.calls 5 9 1 4 t320 t321 t322 t323 t324 t325 t326 t327 t328 t329 t330 t331 _ A1.out).mono ?_
    rintro e w95 ⟨rfl,hb⟩
    refine ⟨_,rfl,?_⟩
    replace HO318:=zRb HO318 hb
    replace K319:=zB K319 hb
    replace K347:=zB K347 hb
    replace HB:=zS HB hb
    (try clear hb)
    (try clear hb2)
    (try clear hk)
    (try clear hi)
    refine hK.out _ _ ⟨zk K319 0,zk K319 1⟩ (fun hHeld => ?_)
    clear hK K
    refine nz 9 ?_
    refine one_ (i:=2) (N:=some 10) #[T,T,T,F,F,F,T,F,F] rfl rfl (one_of HT_.out (by kernel_rfl)) (by decide) (fun K hK => ?_)
    refine zo_ Try.func28 #[.int .i64 5,.agg #[.slice Ao89 y316.length co89,.bool false],.agg #[.int .i64 t320,.int .i64 t321,.int .i64 t322,.int .i64 t323,.int .i64 t324,.int .i64 t325,.int .u64 t326,.int .i64 t327,.string t328,.int .i64 t329,.int .i64 t330,.string t331]] ?_
    with_reducible refine (forward_Decide.calls k 5 _ _ y316 false t320 t321 t322 t323 t324 t325 t326 t327 t328 t329 t330 t331 t332 t333 t334 t335 t336 t337 t338 t339 t340 t341 t342 t343 t344 t345 t346 _ ?side1 ?side2 A2.out).mono ?_
    (case side1 => exact zC ((Kd.R_reads' HO318.out).2.2))
    (case side2 => exact (Kd.R_reads' HO318.out).2.1)
    rintro e w96 ⟨rfl,hb⟩
    refine ⟨_,rfl,?_⟩
    replace HO318:=zRb HO318 hb
    replace K319:=zB K319 hb
    replace K347:=zB K347 hb
    replace HB:=zS HB hb
    (try clear hb)
    (try clear hb2)
    (try clear hk)
    (try clear hi)
    refine hK.out _ _ ⟨zk K319 0,zk K319 1⟩ (fun hHeld => ?_)
    clear hK K
    refine nz 10 ?_
    refine pz 3 7 #[T,T,T,T,F,F,T,F,F] HT_.1 ?_
    refine pz 4 11 #[T,T,T,T,T,F,T,F,F] HT_.1 ?_
    refine pz 5 12 #[T,T,T,T,T,T,T,F,F] HT_.1 ?_
    exact norm_ (by simp only [putAll,Act.put,xA,xB,xC]) (hCont (G347) _ ⟨hHeld,(zR HO318),(z1 K319.1),(z1 K347.1),GW347.1,GE347.1,NB319_347.1,NB347_319.1,(zH HB)⟩)
  rintro G347 w97 ⟨hS_,h0_,h1_,h2_,h3_,h4_,h5_,h6_,h7_⟩
  replace HO318 : Aside0 (Kd.R k39 39 w97 w.heap.size (fun _ => True) (.slice Ao89 y316.length co89) y316):=⟨h0_⟩
  replace K319 : Aside0 (w97.heap[G319]? = some (.cells #[.slice Ao89 y316.length co89,.bool false] 24 (0,0))):=⟨h1_⟩
  have K347 : Aside0 (w97.heap[G347]? = some (.cells #[.int .i64 0,.int .i64 0,.int .i64 0,.int .i64 0,.int .i64 0,.int .i64 0,.int .i64 0,.int .i64 0,.int .u64 0,.int .i64 0,.string (⟨#[]⟩ : ByteArray),.int .i64 0,.int .i64 0,.string (⟨#[]⟩ : ByteArray)] 50 (0,0))):=⟨h2_⟩
  have GW347 : Aside0 (w.heap.size ≤ G347):=⟨h3_⟩
  have GE347 : Aside0 (w.heap.size ≤ G347):=⟨h4_⟩
  have NB319_347 : Aside0 (G319 ≠ G347):=⟨h5_⟩
  have NB347_319 : Aside0 (G347 ≠ G319):=⟨h6_⟩
  replace HB : Aside0 (Below w.heap.size w w97):=⟨h7_⟩
  clear h0_ h1_ h2_ h3_ h4_ h5_ h6_ h7_
  have hHeld : w97.cell? ⟨G319,0,none⟩ = some (.slice Ao89 y316.length co89) ∧ w97.cell? ⟨G319,1,none⟩ = some (.bool false):=hS_
  refine norm_ (a':=?_) ?_ ?_
  rotate_left
  ·simp only [putAll,Act.put,xA,xB,xC]
   rfl
  refine one_ (i:=7) (N:=none) #[T,T,T,T,T,T,T,T,F] rfl rfl (one_of HT_.out (by kernel_rfl)) (by decide) (fun K hK => ?_)
  have hs98 : w97.cell? ⟨G347,0,none⟩ = some (.int .i64 0):=zk K347 0
  have hfs98:=bF K347.1 0
  have:=NB319_347.1
  have:=NB347_319.1
  have hs99 : w97.cell? ⟨G347,1,none⟩ = some (.int .i64 0):=zk K347 1
  have hfs99:=bF K347.1 1
  have:=NB319_347.1
  have:=NB347_319.1
  have hs100 : w97.cell? ⟨G347,2,none⟩ = some (.int .i64 0):=zk K347 2
  have hfs100:=bF K347.1 2
  have:=NB319_347.1
  have:=NB347_319.1
  have hs101 : w97.cell? ⟨G347,3,none⟩ = some (.int .i64 0):=zk K347 3
  have hfs101:=bF K347.1 3
  have:=NB319_347.1
  have:=NB347_319.1
  have hs102 : w97.cell? ⟨G347,4,none⟩ = some (.int .i64 0):=zk K347 4
  have hfs102:=bF K347.1 4
  have:=NB319_347.1
  have:=NB347_319.1
  have hs103 : w97.cell? ⟨G347,5,none⟩ = some (.int .i64 0):=zk K347 5
  have hfs103:=bF K347.1 5
  have:=NB319_347.1
  have:=NB347_319.1
  have hs104 : w97.cell? ⟨G347,6,none⟩ = some (.int .i64 0):=zk K347 6
  have hfs104:=bF K347.1 6
  have:=NB319_347.1
  have:=NB347_319.1
  have hs105 : w97.cell? ⟨G347,7,none⟩ = some (.int .i64 0):=zk K347 7
  have hfs105:=bF K347.1 7
  have:=NB319_347.1
  have:=NB347_319.1
  have hs106 : w97.cell? ⟨G347,8,none⟩ = some (.int .u64 0):=zk K347 8
  have hfs106:=bF K347.1 8
  have:=NB319_347.1
  have:=NB347_319.1
  have hs107 : w97.cell? ⟨G347,9,none⟩ = some (.int .i64 0):=zk K347 9
  have hfs107:=bF K347.1 9
  have:=NB319_347.1
  have:=NB347_319.1
  have hs108 : w97.cell? ⟨G347,10,none⟩ = some (.string (⟨#[]⟩ : ByteArray)):=zk K347 10
  have hfs108:=bF K347.1 10
  have:=NB319_347.1
  have:=NB347_319.1
  have hs109 : w97.cell? ⟨G347,11,none⟩ = some (.int .i64 0):=zk K347 11
  have hfs109:=bF K347.1 11
  have:=NB319_347.1
  have:=NB347_319.1
  have hs110 : w97.cell? ⟨G347,12,none⟩ = some (.int .i64 0):=zk K347 12
  have hfs110:=bF K347.1 12
  have:=NB319_347.1
  have:=NB347_319.1
  have hs111 : w97.cell? ⟨G347,13,none⟩ = some (.string (⟨#[]⟩ : ByteArray)):=zk K347 13
  have hfs111:=bF K347.1 13
  have:=NB319_347.1
  have:=NB347_319.1
  refine sz ?_
  refine hK.out _ _ ⟨(zx (hHeld.1) NB319_347.1),(zx (hHeld.2) NB319_347.1)⟩ (fun hHeld => ?_)
  clear hK K
  refine pz 8 3 #[T,T,T,T,T,T,T,T,T] HT_.1 ?_
  refine done_ (done_of HT_.out (by kernel_rfl)) ?_
  try go_wp2
  go_ret
  exact ⟨zE,zH HB⟩

end Go.Proofs.Ytgmjlhpigfaicaa.XF
