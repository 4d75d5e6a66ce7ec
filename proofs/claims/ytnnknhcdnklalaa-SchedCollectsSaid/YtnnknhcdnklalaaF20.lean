/- alive: the law's examples hold. No condition. -/
import Derived.Test.YtnnknhcdnklalaaF19
namespace Go.Proofs.Ytnnknhcdnklalaa.A
open Go Go.RowKit
set_option linter.unusedSimpArgs false
set_option linter.unusedVariables false
set_option maxHeartbeats 8000000 in
set_option maxRecDepth 100000 in
theorem alive_v (w : World) : Calls Try.prog 13 #[] w fun e w' => e = .returned (.bool true) ∧ Below w.heap.size w w' := by
  have HB0 := hidI (Below.refl w.heap.size w)
  have E1 := eq_l2
  have tok1 : True := trivial
  go_enter Try.func13, Try.ntmps13
  go_wp2_with (first
    | (have _t := tok1; go_at_call 30; refine (table_v _).mono ?_; rintro e w1 ⟨rfl, hb⟩; have HB1 := hidI (HB0.out.trans (hb.mono HB0.out.size)); clear HB0 hb tok1)
    | (go_at_call 14; refine (exit1_v _).mono ?_; rintro e w2 ⟨rfl, hb⟩; have HB2 := hidI (HB1.out.trans (hb.mono HB1.out.size)); clear HB1 hb)
    | ((with_reducible refine g_alloc 29 ?_ rfl); have _t := HB2; refine st_alloc29 (by rfl) rfl ?_; have hk := Blk.new w2 tz; have HB3 := hidI (HB2.out.alloc HB2.out.size (.cells (tcs tz) 29)); have hs2 := HB2.out.size; clear HB2)
    | ((with_reducible refine g_store 29 ?_ rfl); have _t := HB3; refine st_store29 (x := .tmp 1) (by rfl) rfl rfl rfl hk ?_; intro w3 hl3 hu; have HB4 := hidI (HB3.out.trans (hu.below hs2)); clear HB3 hu hk)
    | ((with_reducible refine g_load 29 ?_ rfl); have _t := HB4; refine st_load29 (by rfl) rfl rfl hl3 ?_)
    | (go_at_call 16; have _t := HB4; refine (reap1_v _).mono ?_; rintro e w4 ⟨rfl, hb⟩; have HB5 := hidI (HB4.out.trans (hb.mono HB4.out.size)); have hl4 := hl3.below hb hl3.lt; clear HB4 hb hl3)
    | ((with_reducible refine g_alloc 29 ?_ rfl); have _t := HB5; refine st_alloc29 (by rfl) rfl ?_; have hk := Blk.new w4 tz; have hl5 := hl4.alloc (.cells (tcs tz) 29); have hlt4 := hl4.lt; have HB6 := hidI (HB5.out.alloc HB5.out.size (.cells (tcs tz) 29)); have hs4 := HB5.out.size; clear HB5 hl4)
    | ((with_reducible refine g_store 29 ?_ rfl); have _t := HB6; refine st_store29 (x := .tmp 2) (by rfl) rfl rfl rfl hk ?_; intro w5 hm5 hu; have hl6 := hu.blk hl5 (by omega); have HB7 := hidI (HB6.out.trans (hu.below hs4)); clear HB6 hu hk hl5)
    | ((with_reducible refine g_load 29 ?_ rfl); have _t := HB7; refine st_load29 (by rfl) rfl rfl hm5 ?_)
    | (go_at_call 16; have _t := HB7; refine (reap2_v _).mono ?_; rintro e w6 ⟨rfl, hb⟩; have HB8 := hidI (HB7.out.trans (hb.mono HB7.out.size)); have hl7 := hl6.below hb hl6.lt; clear HB7 hb hl6 hm5)
    | ((with_reducible refine g_alloc 29 ?_ rfl); have _t := HB8; refine st_alloc29 (by rfl) rfl ?_; have hk := Blk.new w6 tz; have hl8 := hl7.alloc (.cells (tcs tz) 29); have hlt6 := hl7.lt; have HB9 := hidI (HB8.out.alloc HB8.out.size (.cells (tcs tz) 29)); have hs6 := HB8.out.size; clear HB8 hl7)
    | ((with_reducible refine g_store 29 ?_ rfl); have _t := HB9; refine st_store29 (x := .tmp 6) (by rfl) rfl rfl rfl hk ?_; intro w7 hm7 hu; have hl9 := hu.blk hl8 (by omega); have HB10 := hidI (HB9.out.trans (hu.below hs6)); clear HB9 hu hk hl8 hm7)
    | ((with_reducible refine g_alloc 29 ?_ rfl); have _t := HB10; refine st_alloc29 (by rfl) rfl ?_; have hk := Blk.new w7 tz; have hl10 := hl9.alloc (.cells (tcs tz) 29); have hlt7 := hl9.lt; have HB11 := hidI (HB10.out.alloc HB10.out.size (.cells (tcs tz) 29)); have hs7 := HB10.out.size; clear HB10 hl9)
    | ((with_reducible refine g_store 3 ?_ rfl); have _t := HB11; refine st_field (n := 1) (j := 2) (k := 1) (by rfl) rfl rfl rfl rfl hk (by decide) (by decide) (by decide) ?_; intro w8 hx8 hu; have hl11 := hu.blk hl10 (by omega); have HB12 := hidI (HB11.out.trans (hu.below hs7)); clear HB11 hu hk hl10)
    | ((with_reducible refine g_store 3 ?_ rfl); have _t := HB12; refine st_field (n := 1) (j := 2) (k := 4) (by rfl) rfl rfl rfl rfl hx8 (by decide) (by decide) (by decide) ?_; intro w9 hx9 hu; have hl12 := hu.blk hl11 (by omega); have HB13 := hidI (HB12.out.trans (hu.below hs7)); clear HB12 hu hx8 hl11)
    | ((with_reducible refine g_store 3 ?_ rfl); have _t := HB13; refine st_field (n := 2) (j := 2) (k := 6) (by rfl) rfl rfl rfl rfl hx9 (by decide) (by decide) (by decide) ?_; intro w10 hx10 hu; rw [xT_upd] at hx10; have hl13 := hu.blk hl12 (by omega); have HB14 := hidI (HB13.out.trans (hu.below hs7)); clear HB13 hu hx9 hl12)
    | (go_at_call 30; have _t := HB14; refine (table_v _).mono ?_; rintro e w11 ⟨rfl, hb⟩; have hl14 := hl13.below hb hl13.lt; have hx11 := hx10.below hb hx10.lt; have HB15 := hidI (HB14.out.trans (hb.mono HB14.out.size)); clear HB14 hb hl13 hx10)
    | (go_at_call 11; refine (rtab_v _).mono ?_; rintro e w12 ⟨rfl, hb⟩; have hl15 := hl14.below hb hl14.lt; have hx12 := hx11.below hb hx11.lt; have HB16 := hidI (HB15.out.trans (hb.mono HB15.out.size)); have d0 := hl15.int 0 2 (by decide) (by decide) (by decide); rw [lT0] at d0; clear HB15 hb hl14 hx11)
    | ((with_reducible refine g_load 28 ?_ rfl); refine st_load28 (k := 2) (by rfl) rfl rfl hl15 (by decide) ?_)
    | ((with_reducible refine g_build 28 ?_ rfl); refine st_buildZ (by rfl) rfl rfl rfl rfl rfl ?_)
    | ((with_reducible refine g_bin 28 ?_ rfl); refine st_eql28 (by rfl) rfl rfl rfl ?_; rw [E1])
    | ((with_reducible refine g_load 29 ?_ rfl); have _t := HB16; refine st_load29 (by rfl) rfl rfl hx12 ?_)
    | (go_at_call 18; have _t := HB16; refine (nx1_v _).mono ?_; rintro e w13 ⟨rfl, hb⟩; have hx13 := hx12.below hb hx12.lt; have HB17 := hidI (HB16.out.trans (hb.mono HB16.out.size)); clear HB16 hb hx12 hl15 d0)
    | ((with_reducible refine g_load 29 ?_ rfl); have _t := HB17; refine st_load29 (by rfl) rfl rfl hx13 ?_)
    | (go_at_call 18; have _t := HB17; refine (nx4_v _).mono ?_; rintro e w14 ⟨rfl, hb⟩; have hx14 := hx13.below hb hx13.lt; have HB18 := hidI (HB17.out.trans (hb.mono HB17.out.size)); clear HB17 hb hx13)
    | ((with_reducible refine g_load 29 ?_ rfl); have _t := HB18; refine st_load29 (by rfl) rfl rfl hx14 ?_)
    | (go_at_call 18; have _t := HB18; refine (nxm_v _).mono ?_; rintro e w15 ⟨rfl, hb⟩; have hx15 := hx14.below hb hx14.lt; have HB19 := hidI (HB18.out.trans (hb.mono HB18.out.size)); clear HB18 hb hx14)
    | ((with_reducible refine g_load 29 ?_ rfl); have _t := HB19; refine st_load29 (by rfl) rfl rfl hx15 ?_)
    | (go_at_call 24; refine (vx4_v _).mono ?_; rintro e w16 ⟨rfl, hb⟩; have HB20 := hidI (HB19.out.trans (hb.mono HB19.out.size)); clear HB19 hb hx15))
  go_ret
  exact ⟨rfl, HB20.out⟩
end Go.Proofs.Ytnnknhcdnklalaa.A
