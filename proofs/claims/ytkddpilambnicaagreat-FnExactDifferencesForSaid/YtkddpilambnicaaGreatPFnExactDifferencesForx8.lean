/- Walks of Go functions that the law FnExactDifferencesFor uses: written by this session's program out of the kit's printer; each shows that a call comes to the answers of the Lean function beside it. Conditions: each contract's own. -/
import Derived.Test.YtkddpilambnicaaGreatPFnExactDifferencesForx0
import Derived.Test.YtkddpilambnicaaGreatPFnExactDifferencesForx2
import Derived.Test.YtkddpilambnicaaGreatPFnExactDifferencesForx3
import Derived.Test.YtkddpilambnicaaGreatPFnExactDifferencesForx4
import Derived.Test.YtkddpilambnicaaGreatPFnExactDifferencesForx5
import Derived.Test.YtkddpilambnicaaGreatPFnExactDifferencesForx6
import Derived.Test.YtkddpilambnicaaGreatPFnExactDifferencesForx7
namespace Go.Proofs.YtkddpilambnicaaGreat.PFnExactDifferencesFor
open Go.RowKit Go.Proofs.YtkddpilambnicaaGreatW.PrintWords Go.Proofs.YtkddpilambnicaaGreatW.PrintLast Go.Proofs.YtkddpilambnicaaGreatW.PrintMore Go.Proofs.YtkddpilambnicaaGreat.Mac Go.Proofs.YtkddpilambnicaaGreat.Law
attribute [local go_sem] max2_int min2_int max_two min_two max_three min_three max_four min_four   -- for this text's walks alone
set_option linter.unusedVariables false
set_option linter.unusedSimpArgs false

/-! ### spec_ViolationsOf: function 77 -/
def spec_ViolationsOf.f (k : Nat) (a0 : ByteArray) (l1_0 : List (S70)) : Option (Int) := (spec_IsCandidate.f k l1_0).bind fun t198 => (if t198 = true then ((spec_OutputOf.f k l1_0).bind fun t199 => (if a0.toList = ([111, 110, 115, 101, 116] : List UInt8) then ((spec_CountOnsetless.f k t199).bind fun t200 => (some t200)) else (if a0.toList = ([110, 111, 99, 111, 100, 97] : List UInt8) then ((spec_CountCodas.f k t199).bind fun t201 => (some t201)) else (if a0.toList = ([99, 108, 117, 115, 116, 101, 114] : List UInt8) then ((spec_CountClusters.f k t199).bind fun t202 => (some t202)) else (if a0.toList = ([118, 111, 105, 99, 101] : List UInt8) then ((spec_CountVoiced.f k t199).bind fun t203 => (some t203)) else (if a0.toList = ([102, 105, 110, 97, 108] : List UInt8) then ((spec_CountFinalVoiced.f k t199).bind fun t204 => (some t204)) else (if a0.toList = ([110, 97, 115, 97, 108] : List UInt8) then ((spec_CountNasalVoiceless.f k t199).bind fun t205 => (some t205)) else (if a0.toList = ([109, 97, 120] : List UInt8) then ((spec_CountDeleted.f k l1_0).bind fun t206 => (some t206)) else (if a0.toList = ([100, 101, 112] : List UInt8) then ((spec_CountInserted.f k l1_0).bind fun t207 => (some t207)) else (if a0.toList = ([105, 100, 101, 110, 116] : List UInt8) then ((spec_CountVoiceChanged.f k l1_0).bind fun t208 => (some t208)) else (if a0.toList = ([99, 111, 110, 116, 105, 103] : List UInt8) then ((spec_CountBreaks.f k l1_0).bind fun t209 => (some t209)) else (some (-1))))))))))))) else (some (-1)))
set_option maxHeartbeats 8000000 in
set_option maxRecDepth 100000 in
theorem spec_ViolationsOf.calls (k : Nat) (a0 : ByteArray) (A1_0 : Option Addr) (c1_0 : Nat) (l1_0 : List (S70)) (r : Int) (w : World) (hr1_0 : Kd.C k70 w A1_0 l1_0.length l1_0) (hc1_0 : l1_0.length ≤ c1_0) (h : spec_ViolationsOf.f k a0 l1_0 = some r) :
  Calls Tryz.prog 77 #[.string a0, .agg #[.slice A1_0 l1_0.length c1_0]] w fun e w' => e = .returned (.int .i64 r) ∧ Below w.heap.size w w' := by
 have hu50 := Tryz.underlying50
 have HR1_0 := Aside0.mk hr1_0
 have HC1_0 := Aside0.mk hc1_0
 clear hr1_0 hc1_0
 have HB := Aside0.mk (Below.refl w.heap.size w)
 have H : ((spec_IsCandidate.f k l1_0).bind fun t198 => (if t198 = true then ((spec_OutputOf.f k l1_0).bind fun t199 => (if a0.toList = ([111, 110, 115, 101, 116] : List UInt8) then ((spec_CountOnsetless.f k t199).bind fun t200 => (some t200)) else (if a0.toList = ([110, 111, 99, 111, 100, 97] : List UInt8) then ((spec_CountCodas.f k t199).bind fun t201 => (some t201)) else (if a0.toList = ([99, 108, 117, 115, 116, 101, 114] : List UInt8) then ((spec_CountClusters.f k t199).bind fun t202 => (some t202)) else (if a0.toList = ([118, 111, 105, 99, 101] : List UInt8) then ((spec_CountVoiced.f k t199).bind fun t203 => (some t203)) else (if a0.toList = ([102, 105, 110, 97, 108] : List UInt8) then ((spec_CountFinalVoiced.f k t199).bind fun t204 => (some t204)) else (if a0.toList = ([110, 97, 115, 97, 108] : List UInt8) then ((spec_CountNasalVoiceless.f k t199).bind fun t205 => (some t205)) else (if a0.toList = ([109, 97, 120] : List UInt8) then ((spec_CountDeleted.f k l1_0).bind fun t206 => (some t206)) else (if a0.toList = ([100, 101, 112] : List UInt8) then ((spec_CountInserted.f k l1_0).bind fun t207 => (some t207)) else (if a0.toList = ([105, 100, 101, 110, 116] : List UInt8) then ((spec_CountVoiceChanged.f k l1_0).bind fun t208 => (some t208)) else (if a0.toList = ([99, 111, 110, 116, 105, 103] : List UInt8) then ((spec_CountBreaks.f k l1_0).bind fun t209 => (some t209)) else (some (-1))))))))))))) else (some (-1)))) = some r := h
 clear h
 replace H := bnd_ H; obtain ⟨t198, A3, H⟩ := H
 replace H := itb_ H; rcases H with ⟨rfl, H⟩ | ⟨rfl, H⟩
 ·replace H := bnd_ H; obtain ⟨t199, A5, H⟩ := H
  replace H := ieq_ H; rcases H with ⟨-, c6b0, c6b1, H⟩ | ⟨c6, c6b0, c6b1, H⟩
  ·replace H := bnd_ H; obtain ⟨t200, A7, H⟩ := H
   obtain rfl := Option.some.inj H
   go_enter Tryz.func77, Tryz.ntmps77
   go_wp2_with (first | ((refine gd_ 3 ?_); refine bx_ 3 #[.slice A1_0 l1_0.length c1_0] 50 ?_; intro gb197 hg w8 hbox hb; have BK197 := Aside0.mk (hbox); have GW197 := gw_ HB hg; have GE197 := gw_ HB hg; replace HB := bs_ HB hb; clear hb hbox hg; have hcz9_0 := c1_ BK197; have hfz9_0 := blk_frozen BK197.out 0) | ((refine gc_ 60 ?_); refine gl_ (some 7) Tryz.func60 (spec_IsCandidate.calls k _ _ l1_0 true _ (Kd.C_below HR1_0.out (up_ HB.out)) HC1_0.out A3.out) ?_; rintro e w10 ⟨rfl, hb⟩; refine ⟨_, rfl, ?_⟩; replace BK197 := bb_ BK197 hb; replace HB := bs_ HB hb; (try clear hb); (try clear hb2); (try clear hk); (try clear hi); have hcz11_0 := c1_ BK197; have hfz11_0 := blk_frozen BK197.out 0) | ((refine gc_ 97 ?_); refine gl_ (some 10) Tryz.func97 (spec_OutputOf.calls k _ _ l1_0 t199 _ (Kd.C_below HR1_0.out (up_ HB.out)) HC1_0.out A5.out) ?_; rintro e w12 ⟨rfl, hb⟩; refine ⟨_, rfl, ?_⟩; replace BK197 := bb_ BK197 hb; replace HB := bs_ HB hb; (try clear hb); (try clear hb2); (try clear hk); (try clear hi)) | ((refine gc_ 98 ?_); refine gq_ (some 15) Tryz.func98 (spec_CountOnsetless.calls k t199 t200 _ A7.out) (fun nd => ?_)))
   go_ret
   exact ⟨re_, up_ HB.out⟩
  ·replace H := ieq_ H; rcases H with ⟨-, c13b0, c13b1, H⟩ | ⟨c13, c13b0, c13b1, H⟩
   ·replace H := bnd_ H; obtain ⟨t201, A14, H⟩ := H
    obtain rfl := Option.some.inj H
    go_enter Tryz.func77, Tryz.ntmps77
    go_wp2_with (first | ((refine gd_ 3 ?_); refine bx_ 3 #[.slice A1_0 l1_0.length c1_0] 50 ?_; intro gb197 hg w15 hbox hb; have BK197 := Aside0.mk (hbox); have GW197 := gw_ HB hg; have GE197 := gw_ HB hg; replace HB := bs_ HB hb; clear hb hbox hg; have hcz16_0 := c1_ BK197; have hfz16_0 := blk_frozen BK197.out 0) | ((refine gc_ 60 ?_); refine gl_ (some 7) Tryz.func60 (spec_IsCandidate.calls k _ _ l1_0 true _ (Kd.C_below HR1_0.out (up_ HB.out)) HC1_0.out A3.out) ?_; rintro e w17 ⟨rfl, hb⟩; refine ⟨_, rfl, ?_⟩; replace BK197 := bb_ BK197 hb; replace HB := bs_ HB hb; (try clear hb); (try clear hb2); (try clear hk); (try clear hi); have hcz18_0 := c1_ BK197; have hfz18_0 := blk_frozen BK197.out 0) | ((refine gc_ 97 ?_); refine gl_ (some 10) Tryz.func97 (spec_OutputOf.calls k _ _ l1_0 t199 _ (Kd.C_below HR1_0.out (up_ HB.out)) HC1_0.out A5.out) ?_; rintro e w19 ⟨rfl, hb⟩; refine ⟨_, rfl, ?_⟩; replace BK197 := bb_ BK197 hb; replace HB := bs_ HB hb; (try clear hb); (try clear hb2); (try clear hk); (try clear hi)) | ((refine gc_ 99 ?_); refine gq_ (some 19) Tryz.func99 (spec_CountCodas.calls k t199 t201 _ A14.out) (fun nd => ?_)))
    go_ret
    exact ⟨re_, up_ HB.out⟩
   ·replace H := ieq_ H; rcases H with ⟨-, c20b0, c20b1, H⟩ | ⟨c20, c20b0, c20b1, H⟩
    ·replace H := bnd_ H; obtain ⟨t202, A21, H⟩ := H
     obtain rfl := Option.some.inj H
     go_enter Tryz.func77, Tryz.ntmps77
     go_wp2_with (first | ((refine gd_ 3 ?_); refine bx_ 3 #[.slice A1_0 l1_0.length c1_0] 50 ?_; intro gb197 hg w22 hbox hb; have BK197 := Aside0.mk (hbox); have GW197 := gw_ HB hg; have GE197 := gw_ HB hg; replace HB := bs_ HB hb; clear hb hbox hg; have hcz23_0 := c1_ BK197; have hfz23_0 := blk_frozen BK197.out 0) | ((refine gc_ 60 ?_); refine gl_ (some 7) Tryz.func60 (spec_IsCandidate.calls k _ _ l1_0 true _ (Kd.C_below HR1_0.out (up_ HB.out)) HC1_0.out A3.out) ?_; rintro e w24 ⟨rfl, hb⟩; refine ⟨_, rfl, ?_⟩; replace BK197 := bb_ BK197 hb; replace HB := bs_ HB hb; (try clear hb); (try clear hb2); (try clear hk); (try clear hi); have hcz25_0 := c1_ BK197; have hfz25_0 := blk_frozen BK197.out 0) | ((refine gc_ 97 ?_); refine gl_ (some 10) Tryz.func97 (spec_OutputOf.calls k _ _ l1_0 t199 _ (Kd.C_below HR1_0.out (up_ HB.out)) HC1_0.out A5.out) ?_; rintro e w26 ⟨rfl, hb⟩; refine ⟨_, rfl, ?_⟩; replace BK197 := bb_ BK197 hb; replace HB := bs_ HB hb; (try clear hb); (try clear hb2); (try clear hk); (try clear hi)) | ((refine gc_ 100 ?_); refine gq_ (some 23) Tryz.func100 (spec_CountClusters.calls k t199 t202 _ A21.out) (fun nd => ?_)))
     go_ret
     exact ⟨re_, up_ HB.out⟩
    ·replace H := ieq_ H; rcases H with ⟨-, c27b0, c27b1, H⟩ | ⟨c27, c27b0, c27b1, H⟩
     ·replace H := bnd_ H; obtain ⟨t203, A28, H⟩ := H
      obtain rfl := Option.some.inj H
      go_enter Tryz.func77, Tryz.ntmps77
      go_wp2_with (first | ((refine gd_ 3 ?_); refine bx_ 3 #[.slice A1_0 l1_0.length c1_0] 50 ?_; intro gb197 hg w29 hbox hb; have BK197 := Aside0.mk (hbox); have GW197 := gw_ HB hg; have GE197 := gw_ HB hg; replace HB := bs_ HB hb; clear hb hbox hg; have hcz30_0 := c1_ BK197; have hfz30_0 := blk_frozen BK197.out 0) | ((refine gc_ 60 ?_); refine gl_ (some 7) Tryz.func60 (spec_IsCandidate.calls k _ _ l1_0 true _ (Kd.C_below HR1_0.out (up_ HB.out)) HC1_0.out A3.out) ?_; rintro e w31 ⟨rfl, hb⟩; refine ⟨_, rfl, ?_⟩; replace BK197 := bb_ BK197 hb; replace HB := bs_ HB hb; (try clear hb); (try clear hb2); (try clear hk); (try clear hi); have hcz32_0 := c1_ BK197; have hfz32_0 := blk_frozen BK197.out 0) | ((refine gc_ 97 ?_); refine gl_ (some 10) Tryz.func97 (spec_OutputOf.calls k _ _ l1_0 t199 _ (Kd.C_below HR1_0.out (up_ HB.out)) HC1_0.out A5.out) ?_; rintro e w33 ⟨rfl, hb⟩; refine ⟨_, rfl, ?_⟩; replace BK197 := bb_ BK197 hb; replace HB := bs_ HB hb; (try clear hb); (try clear hb2); (try clear hk); (try clear hi)) | ((refine gc_ 101 ?_); refine gq_ (some 27) Tryz.func101 (spec_CountVoiced.calls k t199 t203 _ A28.out) (fun nd => ?_)))
      go_ret
      exact ⟨re_, up_ HB.out⟩
     ·replace H := ieq_ H; rcases H with ⟨-, c34b0, c34b1, H⟩ | ⟨c34, c34b0, c34b1, H⟩
      ·replace H := bnd_ H; obtain ⟨t204, A35, H⟩ := H
       obtain rfl := Option.some.inj H
       go_enter Tryz.func77, Tryz.ntmps77
       go_wp2_with (first | ((refine gd_ 3 ?_); refine bx_ 3 #[.slice A1_0 l1_0.length c1_0] 50 ?_; intro gb197 hg w36 hbox hb; have BK197 := Aside0.mk (hbox); have GW197 := gw_ HB hg; have GE197 := gw_ HB hg; replace HB := bs_ HB hb; clear hb hbox hg; have hcz37_0 := c1_ BK197; have hfz37_0 := blk_frozen BK197.out 0) | ((refine gc_ 60 ?_); refine gl_ (some 7) Tryz.func60 (spec_IsCandidate.calls k _ _ l1_0 true _ (Kd.C_below HR1_0.out (up_ HB.out)) HC1_0.out A3.out) ?_; rintro e w38 ⟨rfl, hb⟩; refine ⟨_, rfl, ?_⟩; replace BK197 := bb_ BK197 hb; replace HB := bs_ HB hb; (try clear hb); (try clear hb2); (try clear hk); (try clear hi); have hcz39_0 := c1_ BK197; have hfz39_0 := blk_frozen BK197.out 0) | ((refine gc_ 97 ?_); refine gl_ (some 10) Tryz.func97 (spec_OutputOf.calls k _ _ l1_0 t199 _ (Kd.C_below HR1_0.out (up_ HB.out)) HC1_0.out A5.out) ?_; rintro e w40 ⟨rfl, hb⟩; refine ⟨_, rfl, ?_⟩; replace BK197 := bb_ BK197 hb; replace HB := bs_ HB hb; (try clear hb); (try clear hb2); (try clear hk); (try clear hi)) | ((refine gc_ 102 ?_); refine gq_ (some 31) Tryz.func102 (spec_CountFinalVoiced.calls k t199 t204 _ A35.out) (fun nd => ?_)))
       go_ret
       exact ⟨re_, up_ HB.out⟩
      ·replace H := ieq_ H; rcases H with ⟨-, c41b0, c41b1, H⟩ | ⟨c41, c41b0, c41b1, H⟩
       ·replace H := bnd_ H; obtain ⟨t205, A42, H⟩ := H
        obtain rfl := Option.some.inj H
        go_enter Tryz.func77, Tryz.ntmps77
        go_wp2_with (first | ((refine gd_ 3 ?_); refine bx_ 3 #[.slice A1_0 l1_0.length c1_0] 50 ?_; intro gb197 hg w43 hbox hb; have BK197 := Aside0.mk (hbox); have GW197 := gw_ HB hg; have GE197 := gw_ HB hg; replace HB := bs_ HB hb; clear hb hbox hg; have hcz44_0 := c1_ BK197; have hfz44_0 := blk_frozen BK197.out 0) | ((refine gc_ 60 ?_); refine gl_ (some 7) Tryz.func60 (spec_IsCandidate.calls k _ _ l1_0 true _ (Kd.C_below HR1_0.out (up_ HB.out)) HC1_0.out A3.out) ?_; rintro e w45 ⟨rfl, hb⟩; refine ⟨_, rfl, ?_⟩; replace BK197 := bb_ BK197 hb; replace HB := bs_ HB hb; (try clear hb); (try clear hb2); (try clear hk); (try clear hi); have hcz46_0 := c1_ BK197; have hfz46_0 := blk_frozen BK197.out 0) | ((refine gc_ 97 ?_); refine gl_ (some 10) Tryz.func97 (spec_OutputOf.calls k _ _ l1_0 t199 _ (Kd.C_below HR1_0.out (up_ HB.out)) HC1_0.out A5.out) ?_; rintro e w47 ⟨rfl, hb⟩; refine ⟨_, rfl, ?_⟩; replace BK197 := bb_ BK197 hb; replace HB := bs_ HB hb; (try clear hb); (try clear hb2); (try clear hk); (try clear hi)) | ((refine gc_ 103 ?_); refine gq_ (some 35) Tryz.func103 (spec_CountNasalVoiceless.calls k t199 t205 _ A42.out) (fun nd => ?_)))
        go_ret
        exact ⟨re_, up_ HB.out⟩
       ·replace H := ieq_ H; rcases H with ⟨-, c48b0, c48b1, H⟩ | ⟨c48, c48b0, c48b1, H⟩
        ·replace H := bnd_ H; obtain ⟨t206, A49, H⟩ := H
         obtain rfl := Option.some.inj H
         go_enter Tryz.func77, Tryz.ntmps77
         go_wp2_with (first | ((refine gd_ 3 ?_); refine bx_ 3 #[.slice A1_0 l1_0.length c1_0] 50 ?_; intro gb197 hg w50 hbox hb; have BK197 := Aside0.mk (hbox); have GW197 := gw_ HB hg; have GE197 := gw_ HB hg; replace HB := bs_ HB hb; clear hb hbox hg; have hcz51_0 := c1_ BK197; have hfz51_0 := blk_frozen BK197.out 0) | ((refine gc_ 60 ?_); refine gl_ (some 7) Tryz.func60 (spec_IsCandidate.calls k _ _ l1_0 true _ (Kd.C_below HR1_0.out (up_ HB.out)) HC1_0.out A3.out) ?_; rintro e w52 ⟨rfl, hb⟩; refine ⟨_, rfl, ?_⟩; replace BK197 := bb_ BK197 hb; replace HB := bs_ HB hb; (try clear hb); (try clear hb2); (try clear hk); (try clear hi); have hcz53_0 := c1_ BK197; have hfz53_0 := blk_frozen BK197.out 0) | ((refine gc_ 97 ?_); refine gl_ (some 10) Tryz.func97 (spec_OutputOf.calls k _ _ l1_0 t199 _ (Kd.C_below HR1_0.out (up_ HB.out)) HC1_0.out A5.out) ?_; rintro e w54 ⟨rfl, hb⟩; refine ⟨_, rfl, ?_⟩; replace BK197 := bb_ BK197 hb; replace HB := bs_ HB hb; (try clear hb); (try clear hb2); (try clear hk); (try clear hi); have hcz55_0 := c1_ BK197; have hfz55_0 := blk_frozen BK197.out 0) | ((refine gc_ 104 ?_); refine gl_ (some 39) Tryz.func104 (spec_CountDeleted.calls k _ _ l1_0 t206 _ (Kd.C_below HR1_0.out (up_ HB.out)) HC1_0.out A49.out) ?_; rintro e w56 ⟨rfl, hb⟩; refine ⟨_, rfl, ?_⟩; replace BK197 := bb_ BK197 hb; replace HB := bs_ HB hb; (try clear hb); (try clear hb2); (try clear hk); (try clear hi)))
         go_ret
         exact ⟨re_, up_ HB.out⟩
        ·replace H := ieq_ H; rcases H with ⟨-, c57b0, c57b1, H⟩ | ⟨c57, c57b0, c57b1, H⟩
         ·replace H := bnd_ H; obtain ⟨t207, A58, H⟩ := H
          obtain rfl := Option.some.inj H
          go_enter Tryz.func77, Tryz.ntmps77
          go_wp2_with (first | ((refine gd_ 3 ?_); refine bx_ 3 #[.slice A1_0 l1_0.length c1_0] 50 ?_; intro gb197 hg w59 hbox hb; have BK197 := Aside0.mk (hbox); have GW197 := gw_ HB hg; have GE197 := gw_ HB hg; replace HB := bs_ HB hb; clear hb hbox hg; have hcz60_0 := c1_ BK197; have hfz60_0 := blk_frozen BK197.out 0) | ((refine gc_ 60 ?_); refine gl_ (some 7) Tryz.func60 (spec_IsCandidate.calls k _ _ l1_0 true _ (Kd.C_below HR1_0.out (up_ HB.out)) HC1_0.out A3.out) ?_; rintro e w61 ⟨rfl, hb⟩; refine ⟨_, rfl, ?_⟩; replace BK197 := bb_ BK197 hb; replace HB := bs_ HB hb; (try clear hb); (try clear hb2); (try clear hk); (try clear hi); have hcz62_0 := c1_ BK197; have hfz62_0 := blk_frozen BK197.out 0) | ((refine gc_ 97 ?_); refine gl_ (some 10) Tryz.func97 (spec_OutputOf.calls k _ _ l1_0 t199 _ (Kd.C_below HR1_0.out (up_ HB.out)) HC1_0.out A5.out) ?_; rintro e w63 ⟨rfl, hb⟩; refine ⟨_, rfl, ?_⟩; replace BK197 := bb_ BK197 hb; replace HB := bs_ HB hb; (try clear hb); (try clear hb2); (try clear hk); (try clear hi); have hcz64_0 := c1_ BK197; have hfz64_0 := blk_frozen BK197.out 0) | ((refine gc_ 105 ?_); refine gl_ (some 43) Tryz.func105 (spec_CountInserted.calls k _ _ l1_0 t207 _ (Kd.C_below HR1_0.out (up_ HB.out)) HC1_0.out A58.out) ?_; rintro e w65 ⟨rfl, hb⟩; refine ⟨_, rfl, ?_⟩; replace BK197 := bb_ BK197 hb; replace HB := bs_ HB hb; (try clear hb); (try clear hb2); (try clear hk); (try clear hi)))
          go_ret
          exact ⟨re_, up_ HB.out⟩
         ·replace H := ieq_ H; rcases H with ⟨-, c66b0, c66b1, H⟩ | ⟨c66, c66b0, c66b1, H⟩
          ·replace H := bnd_ H; obtain ⟨t208, A67, H⟩ := H
           obtain rfl := Option.some.inj H
           go_enter Tryz.func77, Tryz.ntmps77
           go_wp2_with (first | ((refine gd_ 3 ?_); refine bx_ 3 #[.slice A1_0 l1_0.length c1_0] 50 ?_; intro gb197 hg w68 hbox hb; have BK197 := Aside0.mk (hbox); have GW197 := gw_ HB hg; have GE197 := gw_ HB hg; replace HB := bs_ HB hb; clear hb hbox hg; have hcz69_0 := c1_ BK197; have hfz69_0 := blk_frozen BK197.out 0) | ((refine gc_ 60 ?_); refine gl_ (some 7) Tryz.func60 (spec_IsCandidate.calls k _ _ l1_0 true _ (Kd.C_below HR1_0.out (up_ HB.out)) HC1_0.out A3.out) ?_; rintro e w70 ⟨rfl, hb⟩; refine ⟨_, rfl, ?_⟩; replace BK197 := bb_ BK197 hb; replace HB := bs_ HB hb; (try clear hb); (try clear hb2); (try clear hk); (try clear hi); have hcz71_0 := c1_ BK197; have hfz71_0 := blk_frozen BK197.out 0) | ((refine gc_ 97 ?_); refine gl_ (some 10) Tryz.func97 (spec_OutputOf.calls k _ _ l1_0 t199 _ (Kd.C_below HR1_0.out (up_ HB.out)) HC1_0.out A5.out) ?_; rintro e w72 ⟨rfl, hb⟩; refine ⟨_, rfl, ?_⟩; replace BK197 := bb_ BK197 hb; replace HB := bs_ HB hb; (try clear hb); (try clear hb2); (try clear hk); (try clear hi); have hcz73_0 := c1_ BK197; have hfz73_0 := blk_frozen BK197.out 0) | ((refine gc_ 106 ?_); refine gl_ (some 47) Tryz.func106 (spec_CountVoiceChanged.calls k _ _ l1_0 t208 _ (Kd.C_below HR1_0.out (up_ HB.out)) HC1_0.out A67.out) ?_; rintro e w74 ⟨rfl, hb⟩; refine ⟨_, rfl, ?_⟩; replace BK197 := bb_ BK197 hb; replace HB := bs_ HB hb; (try clear hb); (try clear hb2); (try clear hk); (try clear hi)))
           go_ret
           exact ⟨re_, up_ HB.out⟩
          ·replace H := ieq_ H; rcases H with ⟨-, c75b0, c75b1, H⟩ | ⟨c75, c75b0, c75b1, H⟩
           ·replace H := bnd_ H; obtain ⟨t209, A76, H⟩ := H
            obtain rfl := Option.some.inj H
            go_enter Tryz.func77, Tryz.ntmps77
            go_wp2_with (first | ((refine gd_ 3 ?_); refine bx_ 3 #[.slice A1_0 l1_0.length c1_0] 50 ?_; intro gb197 hg w77 hbox hb; have BK197 := Aside0.mk (hbox); have GW197 := gw_ HB hg; have GE197 := gw_ HB hg; replace HB := bs_ HB hb; clear hb hbox hg; have hcz78_0 := c1_ BK197; have hfz78_0 := blk_frozen BK197.out 0) | ((refine gc_ 60 ?_); refine gl_ (some 7) Tryz.func60 (spec_IsCandidate.calls k _ _ l1_0 true _ (Kd.C_below HR1_0.out (up_ HB.out)) HC1_0.out A3.out) ?_; rintro e w79 ⟨rfl, hb⟩; refine ⟨_, rfl, ?_⟩; replace BK197 := bb_ BK197 hb; replace HB := bs_ HB hb; (try clear hb); (try clear hb2); (try clear hk); (try clear hi); have hcz80_0 := c1_ BK197; have hfz80_0 := blk_frozen BK197.out 0) | ((refine gc_ 97 ?_); refine gl_ (some 10) Tryz.func97 (spec_OutputOf.calls k _ _ l1_0 t199 _ (Kd.C_below HR1_0.out (up_ HB.out)) HC1_0.out A5.out) ?_; rintro e w81 ⟨rfl, hb⟩; refine ⟨_, rfl, ?_⟩; replace BK197 := bb_ BK197 hb; replace HB := bs_ HB hb; (try clear hb); (try clear hb2); (try clear hk); (try clear hi); have hcz82_0 := c1_ BK197; have hfz82_0 := blk_frozen BK197.out 0) | ((refine gc_ 107 ?_); refine gl_ (some 51) Tryz.func107 (spec_CountBreaks.calls k _ _ l1_0 t209 _ (Kd.C_below HR1_0.out (up_ HB.out)) HC1_0.out A76.out) ?_; rintro e w83 ⟨rfl, hb⟩; refine ⟨_, rfl, ?_⟩; replace BK197 := bb_ BK197 hb; replace HB := bs_ HB hb; (try clear hb); (try clear hb2); (try clear hk); (try clear hi)))
            go_ret
            exact ⟨re_, up_ HB.out⟩
           ·obtain rfl := Option.some.inj H
            go_enter Tryz.func77, Tryz.ntmps77
            go_wp2_with (first | ((refine gd_ 3 ?_); refine bx_ 3 #[.slice A1_0 l1_0.length c1_0] 50 ?_; intro gb197 hg w84 hbox hb; have BK197 := Aside0.mk (hbox); have GW197 := gw_ HB hg; have GE197 := gw_ HB hg; replace HB := bs_ HB hb; clear hb hbox hg; have hcz85_0 := c1_ BK197; have hfz85_0 := blk_frozen BK197.out 0) | ((refine gc_ 60 ?_); refine gl_ (some 7) Tryz.func60 (spec_IsCandidate.calls k _ _ l1_0 true _ (Kd.C_below HR1_0.out (up_ HB.out)) HC1_0.out A3.out) ?_; rintro e w86 ⟨rfl, hb⟩; refine ⟨_, rfl, ?_⟩; replace BK197 := bb_ BK197 hb; replace HB := bs_ HB hb; (try clear hb); (try clear hb2); (try clear hk); (try clear hi); have hcz87_0 := c1_ BK197; have hfz87_0 := blk_frozen BK197.out 0) | ((refine gc_ 97 ?_); refine gl_ (some 10) Tryz.func97 (spec_OutputOf.calls k _ _ l1_0 t199 _ (Kd.C_below HR1_0.out (up_ HB.out)) HC1_0.out A5.out) ?_; rintro e w88 ⟨rfl, hb⟩; refine ⟨_, rfl, ?_⟩; replace BK197 := bb_ BK197 hb; replace HB := bs_ HB hb; (try clear hb); (try clear hb2); (try clear hk); (try clear hi)))
            go_ret
            exact ⟨re_, up_ HB.out⟩
 ·obtain rfl := Option.some.inj H
  go_enter Tryz.func77, Tryz.ntmps77
  go_wp2_with (first | ((refine gd_ 3 ?_); refine bx_ 3 #[.slice A1_0 l1_0.length c1_0] 50 ?_; intro gb197 hg w89 hbox hb; have BK197 := Aside0.mk (hbox); have GW197 := gw_ HB hg; have GE197 := gw_ HB hg; replace HB := bs_ HB hb; clear hb hbox hg; have hcz90_0 := c1_ BK197; have hfz90_0 := blk_frozen BK197.out 0) | ((refine gc_ 60 ?_); refine gl_ (some 7) Tryz.func60 (spec_IsCandidate.calls k _ _ l1_0 false _ (Kd.C_below HR1_0.out (up_ HB.out)) HC1_0.out A3.out) ?_; rintro e w91 ⟨rfl, hb⟩; refine ⟨_, rfl, ?_⟩; replace BK197 := bb_ BK197 hb; replace HB := bs_ HB hb; (try clear hb); (try clear hb2); (try clear hk); (try clear hi)))
  go_ret
  exact ⟨re_, up_ HB.out⟩

/-! ### spec_ProfileOf: function 52 -/
def spec_ProfileOf.l0 : Nat → List ByteArray → List Int → Int → List (S70) → Option (List Int)
 | 0, _, _, _, _ => none
 | k + 1, x0, x5, x6, x211000 => if x6 < (x0.length : Int) then ((spec_AreConstraints.f k x0).bind fun t214 => (if t214 = true then ((spec_IsCandidate.f k x211000).bind fun t215 => (if t215 = true then (if 0 ≤ x6 then ((spec_ViolationsOf.f k (rdOf ByteArray.empty x0 x6) x211000).bind fun t217 => (if x5.length < 17592186044416 then (spec_ProfileOf.l0 k x0 (x5 ++ [t217]) (wrap64 (x6 + 1)) x211000) else (none))) else (none)) else (some x5))) else (some x5))) else (some x5)
def spec_ProfileOf.f (k : Nat) (l0 : List ByteArray) (l1_0 : List (S70)) : Option (List Int) := spec_ProfileOf.l0 k l0 (([] : List Int)) 0 l1_0
def spec_ProfileOf.T5 : Bool × List (List Nat × List Nat) := (true, [([], []), ([], []), ([], []), ([1, 2], [1, 2]), ([3], [3]), ([], []), ([4, 5], [4, 5]), ([6], [6]), ([0, 7, 6], [0, 7]), ([8, 8, 0, 1, 2, 3, 4, 5, 6, 7, 8], [0, 8])])
def spec_ProfileOf.B5 : List Nat := [0, 0, 0, 6, 14, 0, 62, 126, 255, 511]
theorem spec_ProfileOf.tab5 : rtab .any (opsOf Tryz.f52 5) = spec_ProfileOf.T5 := by kernel_rfl
theorem spec_ProfileOf.bits5 : waitsOk spec_ProfileOf.T5.2 spec_ProfileOf.B5 = true := by kernel_rfl
set_option maxHeartbeats 8000000 in
set_option maxRecDepth 100000 in
theorem spec_ProfileOf.calls (k : Nat) (A0 : Option Addr) (c0 : Nat) (l0 : List ByteArray) (A1_0 : Option Addr) (c1_0 : Nat) (l1_0 : List (S70)) (r : List Int) (w : World) (hr0 : Kd.C Kd.string w A0 l0.length l0) (hc0 : l0.length ≤ c0) (hr1_0 : Kd.C k70 w A1_0 l1_0.length l1_0) (hc1_0 : l1_0.length ≤ c1_0) (h : spec_ProfileOf.f k l0 l1_0 = some r) :
  Calls Tryz.prog 52 #[.slice A0 l0.length c0, .agg #[.slice A1_0 l1_0.length c1_0]] w fun e w' => ∃ v0_ : Value, e = .returned (v0_) ∧ Kd.R (Kd.int .i64) 3 w' w.heap.size (fun _ => True) v0_ r ∧ Below w.heap.size w w' := by
 have hu50 := Tryz.underlying50
 have HR0 := Aside0.mk hr0
 have HC0 := Aside0.mk hc0
 clear hr0 hc0
 have HR1_0 := Aside0.mk hr1_0
 have HC1_0 := Aside0.mk hc1_0
 clear hr1_0 hc1_0
 have HB := Aside0.mk (Below.refl w.heap.size w)
 have H : (spec_ProfileOf.l0 k l0 (([] : List Int)) 0 l1_0) = some r := h
 clear h
 obtain ⟨y211, hy211⟩ : ∃ y_ : List Int, y_ = (([] : List Int)) := ⟨_, rfl⟩
 replace H : (spec_ProfileOf.l0 k l0 y211 0 l1_0) = some r := rh_ hy211 H
 have Ny211 := Aside0.mk hy211
 clear hy211
 have H' := Aside0.mk H
 clear H
 go_enter Tryz.func52, Tryz.ntmps52
 go_wp2_with (first | ((refine gd_ 3 ?_); refine bx_ 3 #[.slice A1_0 l1_0.length c1_0] 50 ?_; intro gb210 hg w3 hbox hb; have BK210 := Aside0.mk (hbox); have GW210 := gw_ HB hg; have GE210 := gw_ HB hg; replace HB := bs_ HB hb; clear hb hbox hg) | ((refine gd_ 7 ?_); refine Kd.R_lit (Kd.int .i64) _ 3 ?hg (N := 7) ?hd (xs := ([] : List Int)) (inner := []) (ok := fun _ => True) (okp := fun _ => True) ?hr ?hp (fun _ hk => hk) trivial (Below.refl _ _) (Nat.le_refl _) (by simp) ?_; (case hd => rfl); (case hg => rfl); (case hr => first | (go_simp; done) | (go_simp; rfl)); (case hp => exact (Reps.none _ _)); intro v212 w4 ho5 hb hg_ hnew_; clear hg_ hnew_; (first | rw [← Ny211.out] at ho5 | (simp only [Int.reduceToNat] at ho5; rw [← Ny211.out] at ho5)); have HO213 := Aside0.mk (Kd.R_lower ho5 (below_size (up_ HB.out))); replace BK210 := bb_ BK210 hb; replace HB := bs_ HB hb; clear hb ho5))
 go_loopg [5, 6] k (fun kq v5 v6 w' => ∃ (x5_1 : List Int) (x6_1 : Int), v6 = .int .i64 x6_1 ∧ Aside0 (spec_ProfileOf.l0 kq l0 x5_1 x6_1 l1_0 = some r) ∧ Aside0 (kq ≤ k) ∧ Aside0 (Kd.R (Kd.int .i64) 3 w' w.heap.size (fun _ => True) v5 x5_1) ∧ Aside0 (w'.heap[gb210]? = some (.cells #[(.slice A1_0 l1_0.length c1_0)] 50 (0, 0))) ∧ Aside0 (Below w.heap.size w w'))
 case atStart => exact ⟨(y211), (0), rs_, H', ⟨Nat.le_refl _⟩, ⟨up_ HO213.out⟩, ⟨up_ BK210.out⟩, ⟨up_ HB.out⟩⟩
 case round =>
  clear H'
  try clear c1
  try clear p2
  try clear c5
  obtain ⟨x5_1, x6_1, rfl, HA, HK1, HO_5, BK210, HB⟩ := hrel
  cases gk with
  | zero => exact absurd HA.out (by simp [spec_ProfileOf.l0])
  | succ k1 =>
   have H := HA.out
   clear HA
   simp only [spec_ProfileOf.l0] at H
   replace H := its_ H; rcases H with ⟨c6b0, H⟩ | ⟨c6b0, H⟩
   ·replace H := bnd_ H; obtain ⟨t214, A7, H⟩ := H
    replace H := itb_ H; rcases H with ⟨rfl, H⟩ | ⟨rfl, H⟩
    ·replace H := bnd_ H; obtain ⟨t215, A9, H⟩ := H
     replace H := itb_ H; rcases H with ⟨rfl, H⟩ | ⟨rfl, H⟩
     ·replace H := its_ H; rcases H with ⟨c11b0, H⟩ | ⟨_, ⟨⟩⟩
      replace H := bnd_ H; obtain ⟨t217, A12, H⟩ := H
      by_cases c13 : x5_1.length < 17592186044416
      ·rw [if_pos c13] at H
       have LMc13 := Aside0.mk c13
       clear c13
       obtain ⟨y218, hy218⟩ : ∃ y_ : List Int, y_ = (x5_1 ++ [t217]) := ⟨_, rfl⟩
       replace H : (spec_ProfileOf.l0 k1 l0 y218 (wrap64 (x6_1 + 1)) l1_0) = some r := rh_ hy218 H
       have Ny218 := Aside0.mk hy218
       clear hy218
       have H' := Aside0.mk H
       clear H
       try go_wp2_with (first | (go_at_call 49; (with_reducible refine (spec_AreConstraints.calls k1 _ _ l0 true _ (Kd.C_below HR0.out (up_ HB.out)) HC0.out A7.out).mono ?_); rintro e w14 ⟨rfl, hb⟩; replace HO_5 := Aside0.mk (Kd.R_below (up_ HO_5.out) hb); replace BK210 := bb_ BK210 hb; replace HB := bs_ HB hb; (try clear hb); (try clear hb2); (try clear hk); (try clear hi); have hcz15_0 := c1_ BK210; have hfz15_0 := blk_frozen BK210.out 0) | (go_at_call 60; (with_reducible refine (spec_IsCandidate.calls k1 _ _ l1_0 true _ (Kd.C_below HR1_0.out (up_ HB.out)) HC1_0.out A9.out).mono ?_); rintro e w16 ⟨rfl, hb⟩; replace HO_5 := Aside0.mk (Kd.R_below (up_ HO_5.out) hb); replace BK210 := bb_ BK210 hb; replace HB := bs_ HB hb; (try clear hb); (try clear hb2); (try clear hk); (try clear hi)))
       have n0_ := Aside0.mk (Kd.R_drew HO_5.out)
       have n1_ := Aside0.mk (blk_drew BK210.out)
       have n2_ := Aside0.mk (below_drew1 HB.out)
       clear HO_5
       clear BK210
       clear HB
       have HO_5 := n0_
       have BK210 := n1_
       have HB := n2_
       clear n0_ n1_ n2_
       have p216 : 0 ≤ (x6_1 : Int) := od_
       have q216 : x6_1 < (l0.length : Int) := od_
       obtain ⟨ad216, e216, hx216_0⟩ := Kd.at_string HR0.out x6_1 p216 q216
       have hw216_0 := hx216_0
       cases e216
       replace hx216_0 := bh_ HB hx216_0
       replace p216 := eq_true p216
       replace q216 := eq_true q216
       refine start_ (n := 10) (S := fun w' => w'.cell? ⟨gb210, 0, none⟩ = some (.slice A1_0 l1_0.length c1_0) ∧ w'.cell? (ad216.add (x6_1).toNat) = some (.string (rdOf ByteArray.empty l0 x6_1))) (ds := []) #[false, false, false, false, false, false, false, false, false, false] (by kernel_rfl) rfl rfl ⟨(blk_cell BK210.out 0).trans rfl, (bh_ HB hw216_0 :)⟩ (fun hHeld => ?_); refine with_tabW spec_ProfileOf.tab5 spec_ProfileOf.bits5 (fun HT_ HW_ => ?_)
       generalize w16.drew = w17 at HO_5 BK210 HB hx216_0 hHeld ⊢
       refine pu_ 0 (some 22) ?_
       refine pu_ 1 (some 23) ?_
       refine pu_ 2 (some 24) ?_
       refine pu_ 3 (some 25) ?_
       refine tk_ 4 (some 26) hHeld ?_
       refine tk_ 5 (some 27) hHeld ?_
       refine one_ (i := 6) (N := some 28) #[true, true, true, true, true, true, true, false, false, false] rfl rfl (one_of HT_.out (by kernel_rfl)) (by decide) (fun K hK => ?_)
       refine goes_ Tryz.func77 (by kernel_rfl) rfl #[.string (rdOf ByteArray.empty l0 x6_1), .agg #[.slice A1_0 l1_0.length c1_0]] (by rfl) rfl rfl am_ ?_
       with_reducible refine (spec_ViolationsOf.calls k1 (rdOf ByteArray.empty l0 x6_1) _ _ l1_0 t217 _ ?side1 ?side2 A12.out).mono ?_
       (case side1 => exact Kd.C_below HR1_0.out (up_ HB.out))
       (case side2 => exact HC1_0.out)
       rintro e w18 ⟨rfl, hb⟩
       refine ⟨_, rfl, ?_⟩
       have n0_ := Aside0.mk (Kd.R_below (up_ HO_5.out) hb)
       have n1_ := bb_ BK210 hb
       have n2_ := bs_ HB hb
       clear HO_5
       clear BK210
       clear HB
       have HO_5 := n0_
       have BK210 := n1_
       have HB := n2_
       clear n0_ n1_ n2_
       (try clear hb)
       (try clear hb2)
       (try clear hk)
       (try clear hi)
       refine hK.out _ _ ⟨(blk_cell BK210.out 0).trans rfl, (bh_ HB hw216_0 :)⟩ (fun hHeld => ?_)
       clear hK K
       refine nm_ ?_
       refine one_ (i := 7) (N := some 29) #[true, true, true, true, true, true, true, true, false, false] rfl rfl (one_of HT_.out (by kernel_rfl)) (by decide) (fun K hK => ?_)
       refine value_ (w1 := ?_) (v := ?_) (by rfl) rfl ?_ ?_
       rotate_left 2
       ·go_simp
        constructor
        ·rfl
        ·rfl
       refine hK.out _ _ ⟨(blk_cell (blk_alloc BK210.out _) 0).trans rfl, (World.cell?_alloc_lt _ _ _ (World.block_lt_of_cell? _ _ ((bh_ HB hw216_0 :)))).trans ((bh_ HB hw216_0 :))⟩ (fun hHeld => ?_)
       clear hK K
       refine nm_ ?_
       refine one_ (i := 8) (N := some 30) #[true, true, true, true, true, true, true, true, true, false] rfl rfl (one_of HT_.out (by kernel_rfl)) (by decide) (fun K hK => ?_)
       refine Kd.R_append_step (Kd.int .i64) (w0 := w) w.heap.size (by rfl) (.tmp 22) (.tmp 29) 23 3 (.int .i64 0) 8 rfl Tryz.underlying23 info3 rfl (by decide) (by omega) u5 x5_1 t217 [.int .i64 t217] (fun _ => True) (fun _ => False) rfl rfl ?aP (fun _ hk => hk.elim) ?aF ?aO ?aB ?aS ?aL ?_
       (case aP => exact rfl)
       (case aB => exact (up_ HB.out))
       (case aF => exact (fun _ _ => trivial))
       (case aO => exact (up_ HO_5.out))
       (case aS => exact (below_size (up_ HB.out)))
       (case aL => have := LMc13.out; omega)
       intro v219 w19 ho hb hg hat
       rw [← Ny218.out] at ho
       have n0_ := Aside0.mk (blk_grown (g := gb210) (o := .cells #[.slice A1_0 l1_0.length c1_0] 50 (0, 0)) (up_ BK210.out) hg (Kd.R_ne HO_5.out BK210.out (by decide)))
       have n1_ := Aside0.mk (hb)
       have n2_ := Aside0.mk (ho)
       clear BK210
       clear HB
       clear HO_5
       have BK210 := n0_
       have HB := n1_
       have HO220 := n2_
       clear n0_ n1_ n2_
       clear ho hb hg hat
       refine hK.out _ _ ⟨(blk_cell BK210.out 0).trans rfl, (bh_ HB hw216_0 :)⟩ (fun hHeld => ?_)
       clear hK K
       refine nm_ ?_
       refine pu_ 9 (some 5) ?_
       refine done_ (done_of HT_.out (by kernel_rfl)) ?_
       try go_wp2
       go_roundg k1
       case measure => have := HK1.out; omega
       case rel => exact ⟨(y218), (wrap64 (x6_1 + 1)), rs_, H', ⟨by have := HK1.out; omega⟩, ⟨up_ HO220.out⟩, ⟨up_ BK210.out⟩, ⟨up_ HB.out⟩⟩
      ·rw [if_neg c13] at H
       exact absurd H (by simp)
     ·obtain rfl := Option.some.inj H
      go_wp2_with (first | (go_at_call 49; (with_reducible refine (spec_AreConstraints.calls k1 _ _ l0 true _ (Kd.C_below HR0.out (up_ HB.out)) HC0.out A7.out).mono ?_); rintro e w20 ⟨rfl, hb⟩; replace HO_5 := Aside0.mk (Kd.R_below (up_ HO_5.out) hb); replace BK210 := bb_ BK210 hb; replace HB := bs_ HB hb; (try clear hb); (try clear hb2); (try clear hk); (try clear hi); have hcz21_0 := c1_ BK210; have hfz21_0 := blk_frozen BK210.out 0) | (go_at_call 60; (with_reducible refine (spec_IsCandidate.calls k1 _ _ l1_0 false _ (Kd.C_below HR1_0.out (up_ HB.out)) HC1_0.out A9.out).mono ?_); rintro e w22 ⟨rfl, hb⟩; replace HO_5 := Aside0.mk (Kd.R_below (up_ HO_5.out) hb); replace BK210 := bb_ BK210 hb; replace HB := bs_ HB hb; (try clear hb); (try clear hb2); (try clear hk); (try clear hi)))
      go_ret
      exact ⟨_, re_, by (with_reducible repeat (first | apply Kd.R_alloc | apply Kd.R_drewN | apply Kd.R_drew)); exact HO_5.out, up_ HB.out⟩
    ·obtain rfl := Option.some.inj H
     go_wp2_with (first | (go_at_call 49; (with_reducible refine (spec_AreConstraints.calls k1 _ _ l0 false _ (Kd.C_below HR0.out (up_ HB.out)) HC0.out A7.out).mono ?_); rintro e w23 ⟨rfl, hb⟩; replace HO_5 := Aside0.mk (Kd.R_below (up_ HO_5.out) hb); replace BK210 := bb_ BK210 hb; replace HB := bs_ HB hb; (try clear hb); (try clear hb2); (try clear hk); (try clear hi)))
     go_ret
     exact ⟨_, re_, by (with_reducible repeat (first | apply Kd.R_alloc | apply Kd.R_drewN | apply Kd.R_drew)); exact HO_5.out, up_ HB.out⟩
   ·obtain rfl := Option.some.inj H
    go_wp2
    go_ret
    exact ⟨_, re_, by (with_reducible repeat (first | apply Kd.R_alloc | apply Kd.R_drewN | apply Kd.R_drew)); exact HO_5.out, up_ HB.out⟩

/-! ### spec_InputOf: function 59 -/
def spec_InputOf.f (k : Nat) (l0_0 : List (S70)) : Option (ByteArray) := (spec_IsCandidate.f k l0_0).bind fun t222 => (if t222 = true then ((spec_l6In.f k l0_0).bind fun t223 => (some t223)) else (some (⟨#[]⟩ : ByteArray)))
set_option maxHeartbeats 8000000 in
set_option maxRecDepth 100000 in
theorem spec_InputOf.calls (k : Nat) (A0_0 : Option Addr) (c0_0 : Nat) (l0_0 : List (S70)) (r : ByteArray) (w : World) (hr0_0 : Kd.C k70 w A0_0 l0_0.length l0_0) (hc0_0 : l0_0.length ≤ c0_0) (h : spec_InputOf.f k l0_0 = some r) :
  Calls Tryz.prog 59 #[.agg #[.slice A0_0 l0_0.length c0_0]] w fun e w' => e = .returned (.string r) ∧ Below w.heap.size w w' := by
 have hu50 := Tryz.underlying50
 have HR0_0 := Aside0.mk hr0_0
 have HC0_0 := Aside0.mk hc0_0
 clear hr0_0 hc0_0
 have HB := Aside0.mk (Below.refl w.heap.size w)
 have H : ((spec_IsCandidate.f k l0_0).bind fun t222 => (if t222 = true then ((spec_l6In.f k l0_0).bind fun t223 => (some t223)) else (some (⟨#[]⟩ : ByteArray)))) = some r := h
 clear h
 replace H := bnd_ H; obtain ⟨t222, A2, H⟩ := H
 replace H := itb_ H; rcases H with ⟨rfl, H⟩ | ⟨rfl, H⟩
 ·replace H := bnd_ H; obtain ⟨t223, A4, H⟩ := H
  obtain rfl := Option.some.inj H
  go_enter Tryz.func59, Tryz.ntmps59
  go_wp2_with (first | ((refine gd_ 1 ?_); refine bx_ 1 #[.slice A0_0 l0_0.length c0_0] 50 ?_; intro gb221 hg w5 hbox hb; have BK221 := Aside0.mk (hbox); have GW221 := gw_ HB hg; have GE221 := gw_ HB hg; replace HB := bs_ HB hb; clear hb hbox hg; have hcz6_0 := c1_ BK221; have hfz6_0 := blk_frozen BK221.out 0) | ((refine gc_ 60 ?_); refine gl_ (some 4) Tryz.func60 (spec_IsCandidate.calls k _ _ l0_0 true _ (Kd.C_below HR0_0.out (up_ HB.out)) HC0_0.out A2.out) ?_; rintro e w7 ⟨rfl, hb⟩; refine ⟨_, rfl, ?_⟩; replace BK221 := bb_ BK221 hb; replace HB := bs_ HB hb; (try clear hb); (try clear hb2); (try clear hk); (try clear hi); have hcz8_0 := c1_ BK221; have hfz8_0 := blk_frozen BK221.out 0) | ((refine gc_ 84 ?_); refine gl_ (some 7) Tryz.func84 (spec_l6In.calls k _ _ l0_0 t223 _ (Kd.C_below HR0_0.out (up_ HB.out)) HC0_0.out A4.out) ?_; rintro e w9 ⟨rfl, hb⟩; refine ⟨_, rfl, ?_⟩; replace BK221 := bb_ BK221 hb; replace HB := bs_ HB hb; (try clear hb); (try clear hb2); (try clear hk); (try clear hi)))
  go_ret
  exact ⟨re_, up_ HB.out⟩
 ·obtain rfl := Option.some.inj H
  go_enter Tryz.func59, Tryz.ntmps59
  go_wp2_with (first | ((refine gd_ 1 ?_); refine bx_ 1 #[.slice A0_0 l0_0.length c0_0] 50 ?_; intro gb221 hg w10 hbox hb; have BK221 := Aside0.mk (hbox); have GW221 := gw_ HB hg; have GE221 := gw_ HB hg; replace HB := bs_ HB hb; clear hb hbox hg; have hcz11_0 := c1_ BK221; have hfz11_0 := blk_frozen BK221.out 0) | ((refine gc_ 60 ?_); refine gl_ (some 4) Tryz.func60 (spec_IsCandidate.calls k _ _ l0_0 false _ (Kd.C_below HR0_0.out (up_ HB.out)) HC0_0.out A2.out) ?_; rintro e w12 ⟨rfl, hb⟩; refine ⟨_, rfl, ?_⟩; replace BK221 := bb_ BK221 hb; replace HB := bs_ HB hb; (try clear hb); (try clear hb2); (try clear hk); (try clear hi)))
  go_ret
  exact ⟨re_, up_ HB.out⟩

/-! ### spec_l5Same: function 33 -/
def spec_l5Same.l0 : Nat → List Int → List Int → Int → Option (Bool)
 | 0, _, _, _ => none
 | k + 1, x0, x1, x5 => if x5 < (x0.length : Int) then (if 0 ≤ x5 then (if x5 < (x1.length : Int) then (if (rd x0 x5) = (rd x1 x5) then (spec_l5Same.l0 k x0 x1 (wrap64 (x5 + 1))) else (some false)) else (none)) else (none)) else (some true)
def spec_l5Same.f (k : Nat) (l0 : List Int) (l1 : List Int) : Option (Bool) := if (l0.length : Int) = (l1.length : Int) then (spec_l5Same.l0 k l0 l1 0) else (some false)
set_option maxHeartbeats 8000000 in
set_option maxRecDepth 100000 in
theorem spec_l5Same.calls (k : Nat) (A0 : Option Addr) (c0 : Nat) (l0 : List Int) (A1 : Option Addr) (c1 : Nat) (l1 : List Int) (r : Bool) (w : World) (hr0 : Kd.C (Kd.int .i64) w A0 l0.length l0) (hc0 : l0.length ≤ c0) (hr1 : Kd.C (Kd.int .i64) w A1 l1.length l1) (hc1 : l1.length ≤ c1) (h : spec_l5Same.f k l0 l1 = some r) :
  Calls Tryz.prog 33 #[.slice A0 l0.length c0, .slice A1 l1.length c1] w fun e w' => e = .returned (.bool r) ∧ Drawn0 w w' := by
 have HR0 := Aside0.mk hr0
 have HC0 := Aside0.mk hc0
 clear hr0 hc0
 have HR1 := Aside0.mk hr1
 have HC1 := Aside0.mk hc1
 clear hr1 hc1
 have H : (if (l0.length : Int) = (l1.length : Int) then (spec_l5Same.l0 k l0 l1 0) else (some false)) = some r := h
 clear h
 replace H := ieq_ H; rcases H with ⟨c3, c3b0, c3b1, H⟩ | ⟨c3, c3b0, c3b1, H⟩
 ·have c3b2 : (l0.length == l1.length) = true := by first | simpa using c3 | (simp at c3 ⊢; omega)
  clear c3
  have H' := Aside0.mk H
  clear H
  go_enter Tryz.func33, Tryz.ntmps33
  go_wp2
  repeat (go_quiet (fail); try go_wp2)
  go_loopg [5] k (fun kq v5 w' => ∃ (x5_1 : Int), v5 = .int .i64 x5_1 ∧ Aside0 (spec_l5Same.l0 kq l0 l1 x5_1 = some r) ∧ Aside0 (kq ≤ k) ∧ Drawn0 w w')
  case atStart => exact ⟨(0), rs_, H', ⟨Nat.le_refl _⟩, dn_⟩
  case round =>
   clear H'
   try clear c1
   try clear p2
   try clear c3
   try clear c3b0
   try clear c3b1
   try clear c3b2
   obtain ⟨x5_1, rfl, HA, HK1, ⟨m1, rfl⟩⟩ := hrel
   cases gk with
   | zero => exact absurd HA.out (by simp [spec_l5Same.l0])
   | succ k1 =>
    have H := HA.out
    clear HA
    simp only [spec_l5Same.l0] at H
    replace H := its_ H; rcases H with ⟨c4b0, H⟩ | ⟨c4b0, H⟩
    ·replace H := its_ H; rcases H with ⟨c5b0, H⟩ | ⟨_, ⟨⟩⟩
     replace H := its_ H; rcases H with ⟨c6b0, H⟩ | ⟨_, ⟨⟩⟩
     replace H := ieq_ H; rcases H with ⟨-, c7b0, c7b1, H⟩ | ⟨c7, c7b0, c7b1, H⟩
     ·have H' := Aside0.mk H
      clear H
      have p224 : 0 ≤ (x5_1 : Int) := od_
      have q224 : x5_1 < (l0.length : Int) := od_
      obtain ⟨ad224, e224, hx224_0⟩ := Kd.at_int HR0.out x5_1 p224 q224
      cases e224
      replace p224 := eq_true p224
      replace q224 := eq_true q224
      have p225 : 0 ≤ (x5_1 : Int) := od_
      have q225 : x5_1 < (l1.length : Int) := od_
      obtain ⟨ad225, e225, hx225_0⟩ := Kd.at_int HR1.out x5_1 p225 q225
      cases e225
      replace p225 := eq_true p225
      replace q225 := eq_true q225
      go_wp2
      repeat (go_quiet (fail); try go_wp2)
      go_roundg k1
      case measure => have := HK1.out; omega
      case rel => exact ⟨(wrap64 (x5_1 + 1)), rs_, H', ⟨by have := HK1.out; omega⟩, dn_⟩
     ·obtain rfl := Option.some.inj H
      have p224 : 0 ≤ (x5_1 : Int) := od_
      have q224 : x5_1 < (l0.length : Int) := od_
      obtain ⟨ad224, e224, hx224_0⟩ := Kd.at_int HR0.out x5_1 p224 q224
      cases e224
      replace p224 := eq_true p224
      replace q224 := eq_true q224
      have p225 : 0 ≤ (x5_1 : Int) := od_
      have q225 : x5_1 < (l1.length : Int) := od_
      obtain ⟨ad225, e225, hx225_0⟩ := Kd.at_int HR1.out x5_1 p225 q225
      cases e225
      replace p225 := eq_true p225
      replace q225 := eq_true q225
      go_wp2
      repeat (go_quiet (fail); try go_wp2)
      go_ret
      exact ⟨rs_, dn_⟩
    ·obtain rfl := Option.some.inj H
     go_wp2
     repeat (go_quiet (fail); try go_wp2)
     go_ret
     exact ⟨rs_, dn_⟩
 ·have c3b2 : (l0.length == l1.length) = false := by first | simpa using c3 | (simp at c3 ⊢; omega)
  obtain rfl := Option.some.inj H
  go_enter Tryz.func33, Tryz.ntmps33
  go_wp2
  repeat (go_quiet (fail); try go_wp2)
  go_ret
  exact ⟨rs_, dn_⟩

/-! ### spec_l11Same: function 61 -/
def spec_l11Same.f (k : Nat) (l0 : List Int) (l1 : List Int) : Option (Bool) := (spec_l5Same.f k l0 l1).bind fun t226 => (some t226)
set_option maxHeartbeats 8000000 in
set_option maxRecDepth 100000 in
theorem spec_l11Same.calls (k : Nat) (A0 : Option Addr) (c0 : Nat) (l0 : List Int) (A1 : Option Addr) (c1 : Nat) (l1 : List Int) (r : Bool) (w : World) (hr0 : Kd.C (Kd.int .i64) w A0 l0.length l0) (hc0 : l0.length ≤ c0) (hr1 : Kd.C (Kd.int .i64) w A1 l1.length l1) (hc1 : l1.length ≤ c1) (h : spec_l11Same.f k l0 l1 = some r) :
  Calls Tryz.prog 61 #[.slice A0 l0.length c0, .slice A1 l1.length c1] w fun e w' => e = .returned (.bool r) ∧ Drawn0 w w' := by
 have HR0 := Aside0.mk hr0
 have HC0 := Aside0.mk hc0
 clear hr0 hc0
 have HR1 := Aside0.mk hr1
 have HC1 := Aside0.mk hc1
 clear hr1 hc1
 have H : ((spec_l5Same.f k l0 l1).bind fun t226 => (some t226)) = some r := h
 clear h
 replace H := bnd_ H; obtain ⟨t226, A3, H⟩ := H
 obtain rfl := Option.some.inj H
 go_enter Tryz.func61, Tryz.ntmps61
 go_wp2_with (first | ((refine gc_ 33 ?_); refine goesL_ (some 7) rfl rfl Tryz.func33 (by kernel_rfl) rfl #[.slice A0 l0.length c0, .slice A1 l1.length c1] rfl am_ ?_; (with_reducible refine (spec_l5Same.calls k _ _ l0 _ _ l1 t226 _ ?side1 ?side2 ?side3 ?side4 A3.out).mono ?_); (case side1 => repeat (first | exact HR0.out | (with_reducible refine Kd.C_alloc ?_ _) | (with_reducible refine Kd.C_drewN ?_ _) | (with_reducible refine Kd.C_drew ?_))); (case side2 => exact HC0.out); (case side3 => repeat (first | exact HR1.out | (with_reducible refine Kd.C_alloc ?_ _) | (with_reducible refine Kd.C_drewN ?_ _) | (with_reducible refine Kd.C_drew ?_))); (case side4 => exact HC1.out); rintro e w' ⟨rfl, ⟨nd, rfl⟩⟩; refine ⟨_, rfl, ?_⟩))
 go_ret
 exact ⟨rs_, dn_⟩

end Go.Proofs.YtkddpilambnicaaGreat.PFnExactDifferencesFor
