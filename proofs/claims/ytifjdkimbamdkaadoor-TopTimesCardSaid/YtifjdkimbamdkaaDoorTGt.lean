/- Equations of functions, printed by program. Conditions: none. -/
import Derived.Test.YtifjdkimbamdkaaDoorTEv
namespace Go.Proofs
open Go.Am
set_option maxRecDepth 100000
set_option linter.unusedVariables false
/-! airline/airlinetop.TopTimes -/
noncomputable def top_TopTimes_L1 (lb : Bool) (n : Nat) (k236 : Nat) (aairn1 : Bool) (aair2 : List (List CV)) (adisn3 : Bool) (adis4 : List (List CV)) (bcar5 : List UInt8) (bnum6 : Int) (bperfro7 : Int) (bperto9 : Int) (bperday10 : Int) (blegn11 : Bool) (bleg12 : List (List CV)) (c13 : Int) (x27 : CV) (x29 : CV) (r30 : CV) (r25 : CV) (i110 : Int) : Option CV :=
  hold (loopC (E0 lb n 0 991) 0 (loopTemps (sub (B F_top_TopTimes) [1, 1, 1, 1, 1, 0, 1, 0, 0]) ++ [12, 13, 14]) [11] (sub (B F_top_TopTimes) [1, 1, 1, 1, 1, 0, 1, 0, 0]) (blockK 0 (seqK (E0 lb n 0 994) (sub (B F_top_TopTimes) [1, 1, 1, 1, 1, 0]) (sub (B F_top_TopTimes) [1, 1, 1, 1, 1, 1]) (retK Tryd.prog (R F_top_TopTimes) 0 (outK (tightF Tryd.prog F_top_TopTimes))))) k236 ⟨fr 160 [(0, .val (.agg [.list aairn1 aair2, .list adisn3 adis4])), (1, .val (.agg [.str bcar5, .int .i64 bnum6, .int .i64 bperfro7, .int .i64 bperto9, .int .i64 bperday10, .list blegn11 bleg12])), (2, .val (.int .i64 c13)), (3, .ptr 0 3 0), (4, .ptr 0 4 0), (6, .val (.bool false)), (7, .val x27), (8, .val x29), (9, .val r30), (10, .val (.int .i64 i110)), (39, .val r25), (40, .val (.agg [.list aairn1 aair2, .list adisn3 adis4])), (41, .val (.agg [.str bcar5, .int .i64 bnum6, .int .i64 bperfro7, .int .i64 bperto9, .int .i64 bperday10, .list blegn11 bleg12])), (42, .val (.int .i64 c13)), (43, .val r25), (44, .val x27), (45, .val x29), (46, .val (.agg [.list aairn1 aair2, .list adisn3 adis4])), (47, .val (.agg [.str bcar5, .int .i64 bnum6, .int .i64 bperfro7, .int .i64 bperto9, .int .i64 bperday10, .list blegn11 bleg12])), (48, .lst true false 30 [[CV.str bcar5, CV.int .i64 bnum6, CV.int .i64 bperfro7, CV.int .i64 bperto9, CV.int .i64 bperday10, CV.list blegn11 bleg12]]), (49, .val (.int .i64 c13)), (50, .val r30)], [bx 160 [(3, some [.val (.list aairn1 aair2), .val (.list adisn3 adis4)]), (4, some [.val (.str bcar5), .val (.int .i64 bnum6), .val (.int .i64 bperfro7), .val (.int .i64 bperto9), .val (.int .i64 bperday10), .val (.list blegn11 bleg12)])]], KK⟩)

noncomputable def top_TopTimes_J2 (lb : Bool) (n : Nat) (aairn1 : Bool) (aair2 : List (List CV)) (adisn3 : Bool) (adis4 : List (List CV)) (bcar5 : List UInt8) (bnum6 : Int) (bperfro7 : Int) (bperto9 : Int) (bperday10 : Int) (blegn11 : Bool) (bleg12 : List (List CV)) (c13 : Int) (x27 : CV) (x29 : CV) (r30 : CV) (r25 : CV) (i362 : Int) : Option CV :=
  hold (E0 lb n 0 994 (sub (B F_top_TopTimes) [1, 1, 1, 1, 1, 1]) (retK Tryd.prog (R F_top_TopTimes) 0 (outK (tightF Tryd.prog F_top_TopTimes))) ⟨fr 160 [(0, .val (.agg [.list aairn1 aair2, .list adisn3 adis4])), (1, .val (.agg [.str bcar5, .int .i64 bnum6, .int .i64 bperfro7, .int .i64 bperto9, .int .i64 bperday10, .list blegn11 bleg12])), (2, .val (.int .i64 c13)), (3, .ptr 0 3 0), (4, .ptr 0 4 0), (6, .val (.bool false)), (7, .val x27), (8, .val x29), (9, .val r30), (10, .val (.int .i64 i362)), (39, .val r25), (40, .val (.agg [.list aairn1 aair2, .list adisn3 adis4])), (41, .val (.agg [.str bcar5, .int .i64 bnum6, .int .i64 bperfro7, .int .i64 bperto9, .int .i64 bperday10, .list blegn11 bleg12])), (42, .val (.int .i64 c13)), (43, .val r25), (44, .val x27), (45, .val x29), (46, .val (.agg [.list aairn1 aair2, .list adisn3 adis4])), (47, .val (.agg [.str bcar5, .int .i64 bnum6, .int .i64 bperfro7, .int .i64 bperto9, .int .i64 bperday10, .list blegn11 bleg12])), (48, .lst true false 30 [[CV.str bcar5, CV.int .i64 bnum6, CV.int .i64 bperfro7, CV.int .i64 bperto9, CV.int .i64 bperday10, CV.list blegn11 bleg12]]), (49, .val (.int .i64 c13)), (50, .val r30)], [bx 160 [(3, some [.val (.list aairn1 aair2), .val (.list adisn3 adis4)]), (4, some [.val (.str bcar5), .val (.int .i64 bnum6), .val (.int .i64 bperfro7), .val (.int .i64 bperto9), .val (.int .i64 bperday10), .val (.list blegn11 bleg12)])]], KK⟩)

theorem top_TopTimes_J2_eq (lb : Bool) (n : Nat) (aairn1 : Bool) (aair2 : List (List CV)) (adisn3 : Bool) (adis4 : List (List CV)) (bcar5 : List UInt8) (bnum6 : Int) (bperfro7 : Int) (bperto9 : Int) (bperday10 : Int) (blegn11 : Bool) (bleg12 : List (List CV)) (c13 : Int) (x27 : CV) (x29 : CV) (r30 : CV) (r25 : CV) (i362 : Int) :
  top_TopTimes_J2 lb n aairn1 aair2 adisn3 adis4 bcar5 bnum6 bperfro7 bperto9 bperday10 blegn11 bleg12 c13 x27 x29 r30 r25 i362 =
 optO (C lb n F_top_awake []) fun r363 =>
 some (r363) := (hold_eq _).trans (by kernel_rfl)

theorem top_TopTimes_L1_succ (lb : Bool) (n k236 : Nat) (aairn1 : Bool) (aair2 : List (List CV)) (adisn3 : Bool) (adis4 : List (List CV)) (bcar5 : List UInt8) (bnum6 : Int) (bperfro7 : Int) (bperto9 : Int) (bperday10 : Int) (blegn11 : Bool) (bleg12 : List (List CV)) (c13 : Int) (x27 : CV) (x29 : CV) (r30 : CV) (r25 : CV) (i110 : Int) :
  top_TopTimes_L1 lb n (k236 + 1) aairn1 aair2 adisn3 adis4 bcar5 bnum6 bperfro7 bperto9 bperday10 blegn11 bleg12 c13 x27 x29 r30 r25 i110 =
 optO (CV.asL x27) fun p237 =>
 bif (decide (i110 < (p237.2.length : Int))) then
 (optO (CV.asL x27) fun p238 =>
 optO (atL p238.2 i110) fun c239 =>
 chkO (c239.length == 8) (
 optO (c239[3]?) fun x240 =>
 optO (C lb n F_places_Find [.agg [.list aairn1 aair2, .list adisn3 adis4], x240]) fun r241 =>
 optO (CV.asT r241) fun t242 =>
 optO (t242[0]?) fun x243 =>
 optO (CV.asT r241) fun t244 =>
 optO (t244[1]?) fun x245 =>
 optO (CV.asA x243) fun c246 =>
 chkO (c246.length == 5) (
 optO (c246[0]?) fun x247 =>
 optO (c246[1]?) fun x248 =>
 optO (c246[2]?) fun x249 =>
 optO (c246[3]?) fun x250 =>
 optO (c246[4]?) fun x251 =>
 optO (atL bleg12 i110) fun c252 =>
 chkO (c252.length == 5) (
 optO (c252[2]?) fun x253 =>
 optO (CV.asI .i64 x253) fun i254 =>
 optO (CV.asB x245) fun b255 =>
 bif (!b255) then
 (some (.bool false))
 else
 (optO (CV.asL x27) fun p256 =>
 optO (atL p256.2 i110) fun c257 =>
 chkO (c257.length == 8) (
 optO (c257[5]?) fun x258 =>
 optO (CV.asL x27) fun p259 =>
 optO (atL p259.2 i110) fun c260 =>
 chkO (c260.length == 8) (
 optO (c260[6]?) fun x261 =>
 optO (CV.asI .i64 x258) fun i262 =>
 optO (CV.asI .i64 x261) fun i263 =>
 bif (decide (i262 ≥ i263)) then
 (some (.bool false))
 else
 (bif (decide (i110 > 0)) then
 (optO (CV.asL x27) fun p264 =>
 optO (atL p264.2 i110) fun c265 =>
 chkO (c265.length == 8) (
 optO (c265[5]?) fun x266 =>
 optO (CV.asL x27) fun p267 =>
 optO (atL p267.2 (IntKind.wrap .i64 (i110 - 1))) fun c268 =>
 chkO (c268.length == 8) (
 optO (c268[6]?) fun x269 =>
 optO (CV.asI .i64 x266) fun i270 =>
 optO (CV.asI .i64 x269) fun i271 =>
 bif (decide (i270 < i271)) then
 (some (.bool false))
 else
 (optO (CV.asL r30) fun p272 =>
 optO (atL p272.2 i110) fun c273 =>
 chkO (c273.length == 8) (
 optO (c273[0]?) fun x274 =>
 optO (c273[1]?) fun x275 =>
 optO (c273[2]?) fun x276 =>
 optO (c273[3]?) fun x277 =>
 optO (c273[4]?) fun x278 =>
 optO (c273[5]?) fun x279 =>
 optO (c273[6]?) fun x280 =>
 optO (c273[7]?) fun x281 =>
 optO (CV.asL x27) fun p282 =>
 optO (atL p282.2 i110) fun c283 =>
 chkO (c283.length == 8) (
 optO (c283[0]?) fun x284 =>
 optO (c283[1]?) fun x285 =>
 optO (c283[2]?) fun x286 =>
 optO (c283[3]?) fun x287 =>
 optO (c283[4]?) fun x288 =>
 optO (c283[5]?) fun x289 =>
 optO (c283[6]?) fun x290 =>
 optO (c283[7]?) fun x291 =>
 optO (CV.asS x274) fun s292 =>
 optO (CV.asS x284) fun s293 =>
 optO (CV.asI .i64 x275) fun i294 =>
 optO (CV.asI .i64 x285) fun i295 =>
 optO (CV.asI .i64 x276) fun i296 =>
 optO (CV.asI .i64 x286) fun i297 =>
 optO (CV.asS x277) fun s298 =>
 optO (CV.asS x287) fun s299 =>
 optO (CV.asS x278) fun s300 =>
 optO (CV.asS x288) fun s301 =>
 optO (CV.asI .i64 x279) fun i302 =>
 optO (CV.asI .i64 x289) fun i303 =>
 optO (CV.asI .i64 x280) fun i304 =>
 optO (CV.asI .i64 x290) fun i305 =>
 optO (CV.asS x281) fun s306 =>
 optO (CV.asS x291) fun s307 =>
 bif (!((s292 == s293) && ((i294 == i295) && ((i296 == i297) && ((s298 == s299) && ((s300 == s301) && ((i302 == i303) && ((i304 == i305) && ((s306 == s307) && true))))))))) then
 (some (.bool false))
 else
 (optO (CV.asL x27) fun p308 =>
 optO (atL p308.2 i110) fun c309 =>
 chkO (c309.length == 8) (
 optO (c309[5]?) fun x310 =>
 optO (C lb n F_zone_Local [.agg [x250, x251], x310]) fun r311 =>
 optO (C lb n F_zone_Exists [.agg [x250, x251], .int .i64 (IntKind.wrap .i64 ((IntKind.wrap .i64 (c13 * 1440)) + i254))]) fun r312 =>
 optO (CV.asB r312) fun b313 =>
 bif b313 then
 (optO (CV.asI .i64 r311) fun i314 =>
 bif (i314 != (IntKind.wrap .i64 ((IntKind.wrap .i64 (c13 * 1440)) + i254))) then
 (some (.bool false))
 else
 (optO (CV.asI .i64 r311) fun i315 =>
 bif (decide (i315 < (IntKind.wrap .i64 ((IntKind.wrap .i64 (c13 * 1440)) + i254)))) then
 (some (.bool false))
 else
 (top_TopTimes_L1 lb n k236 aairn1 aair2 adisn3 adis4 bcar5 bnum6 bperfro7 bperto9 bperday10 blegn11 bleg12 c13 x27 x29 r30 r25 (IntKind.wrap .i64 (i110 + 1)))))
 else
 (optO (CV.asI .i64 r311) fun i316 =>
 bif (decide (i316 < (IntKind.wrap .i64 ((IntKind.wrap .i64 (c13 * 1440)) + i254)))) then
 (some (.bool false))
 else
 (top_TopTimes_L1 lb n k236 aairn1 aair2 adisn3 adis4 bcar5 bnum6 bperfro7 bperto9 bperday10 blegn11 bleg12 c13 x27 x29 r30 r25 (IntKind.wrap .i64 (i110 + 1))))))))))))
 else
 (optO (CV.asL r30) fun p317 =>
 optO (atL p317.2 i110) fun c318 =>
 chkO (c318.length == 8) (
 optO (c318[0]?) fun x319 =>
 optO (c318[1]?) fun x320 =>
 optO (c318[2]?) fun x321 =>
 optO (c318[3]?) fun x322 =>
 optO (c318[4]?) fun x323 =>
 optO (c318[5]?) fun x324 =>
 optO (c318[6]?) fun x325 =>
 optO (c318[7]?) fun x326 =>
 optO (CV.asL x27) fun p327 =>
 optO (atL p327.2 i110) fun c328 =>
 chkO (c328.length == 8) (
 optO (c328[0]?) fun x329 =>
 optO (c328[1]?) fun x330 =>
 optO (c328[2]?) fun x331 =>
 optO (c328[3]?) fun x332 =>
 optO (c328[4]?) fun x333 =>
 optO (c328[5]?) fun x334 =>
 optO (c328[6]?) fun x335 =>
 optO (c328[7]?) fun x336 =>
 optO (CV.asS x319) fun s337 =>
 optO (CV.asS x329) fun s338 =>
 optO (CV.asI .i64 x320) fun i339 =>
 optO (CV.asI .i64 x330) fun i340 =>
 optO (CV.asI .i64 x321) fun i341 =>
 optO (CV.asI .i64 x331) fun i342 =>
 optO (CV.asS x322) fun s343 =>
 optO (CV.asS x332) fun s344 =>
 optO (CV.asS x323) fun s345 =>
 optO (CV.asS x333) fun s346 =>
 optO (CV.asI .i64 x324) fun i347 =>
 optO (CV.asI .i64 x334) fun i348 =>
 optO (CV.asI .i64 x325) fun i349 =>
 optO (CV.asI .i64 x335) fun i350 =>
 optO (CV.asS x326) fun s351 =>
 optO (CV.asS x336) fun s352 =>
 bif (!((s337 == s338) && ((i339 == i340) && ((i341 == i342) && ((s343 == s344) && ((s345 == s346) && ((i347 == i348) && ((i349 == i350) && ((s351 == s352) && true))))))))) then
 (some (.bool false))
 else
 (optO (CV.asL x27) fun p353 =>
 optO (atL p353.2 i110) fun c354 =>
 chkO (c354.length == 8) (
 optO (c354[5]?) fun x355 =>
 optO (C lb n F_zone_Local [.agg [x250, x251], x355]) fun r356 =>
 optO (C lb n F_zone_Exists [.agg [x250, x251], .int .i64 (IntKind.wrap .i64 ((IntKind.wrap .i64 (c13 * 1440)) + i254))]) fun r357 =>
 optO (CV.asB r357) fun b358 =>
 bif b358 then
 (optO (CV.asI .i64 r356) fun i359 =>
 bif (i359 != (IntKind.wrap .i64 ((IntKind.wrap .i64 (c13 * 1440)) + i254))) then
 (some (.bool false))
 else
 (optO (CV.asI .i64 r356) fun i360 =>
 bif (decide (i360 < (IntKind.wrap .i64 ((IntKind.wrap .i64 (c13 * 1440)) + i254)))) then
 (some (.bool false))
 else
 (top_TopTimes_L1 lb n k236 aairn1 aair2 adisn3 adis4 bcar5 bnum6 bperfro7 bperto9 bperday10 blegn11 bleg12 c13 x27 x29 r30 r25 (IntKind.wrap .i64 (i110 + 1)))))
 else
 (optO (CV.asI .i64 r356) fun i361 =>
 bif (decide (i361 < (IntKind.wrap .i64 ((IntKind.wrap .i64 (c13 * 1440)) + i254)))) then
 (some (.bool false))
 else
 (top_TopTimes_L1 lb n k236 aairn1 aair2 adisn3 adis4 bcar5 bnum6 bperfro7 bperto9 bperday10 blegn11 bleg12 c13 x27 x29 r30 r25 (IntKind.wrap .i64 (i110 + 1)))))))))))))))))
 else
 (top_TopTimes_J2 lb n aairn1 aair2 adisn3 adis4 bcar5 bnum6 bperfro7 bperto9 bperday10 blegn11 bleg12 c13 x27 x29 r30 r25 i110) := (hold_eq _).trans (by kernel_rfl)

theorem top_TopTimes_L1_zero (lb : Bool) (n : Nat) (aairn1 : Bool) (aair2 : List (List CV)) (adisn3 : Bool) (adis4 : List (List CV)) (bcar5 : List UInt8) (bnum6 : Int) (bperfro7 : Int) (bperto9 : Int) (bperday10 : Int) (blegn11 : Bool) (bleg12 : List (List CV)) (c13 : Int) (x27 : CV) (x29 : CV) (r30 : CV) (r25 : CV) (i110 : Int) :
  top_TopTimes_L1 lb n 0 aairn1 aair2 adisn3 adis4 bcar5 bnum6 bperfro7 bperto9 bperday10 blegn11 bleg12 c13 x27 x29 r30 r25 i110 =
 none := (hold_eq _).trans (by kernel_rfl)

theorem top_TopTimes_eq (lb : Bool) (n : Nat) (aairn1 : Bool) (aair2 : List (List CV)) (adisn3 : Bool) (adis4 : List (List CV)) (bcar5 : List UInt8) (bnum6 : Int) (bperfro7 : Int) (bperto9 : Int) (bperday10 : Int) (blegn11 : Bool) (bleg12 : List (List CV)) (c13 : Int) :
  top lb n F_top_TopTimes [.agg [.list aairn1 aair2, .list adisn3 adis4], .agg [.str bcar5, .int .i64 bnum6, .int .i64 bperfro7, .int .i64 bperto9, .int .i64 bperday10, .list blegn11 bleg12], .int .i64 c13] =
 optO (C lb n F_top_smallPlaces [.agg [.list aairn1 aair2, .list adisn3 adis4]]) fun r14 =>
 optO (CV.asB r14) fun b15 =>
 bif (!b15) then
 (optO (C lb n F_top_awake []) fun r17 =>
 some (r17))
 else
 (bif (decide ((bleg12.length : Int) > 8)) then
 (optO (C lb n F_top_awake []) fun r18 =>
 some (r18))
 else
 (optO (C lb n F_r07_Check [.agg [.list aairn1 aair2, .list adisn3 adis4], .agg [.str bcar5, .int .i64 bnum6, .int .i64 bperfro7, .int .i64 bperto9, .int .i64 bperday10, .list blegn11 bleg12]]) fun r19 =>
 optO (CV.asL r19) fun p20 =>
 bif (decide ((p20.2.length : Int) > 0)) then
 (optO (C lb n F_top_awake []) fun r21 =>
 some (r21))
 else
 (optO (C lb n F_period_Has [.agg [.int .i64 bperfro7, .int .i64 bperto9, .int .i64 bperday10], .int .i64 c13]) fun r22 =>
 optO (CV.asB r22) fun b23 =>
 bif (!b23) then
 (optO (C lb n F_top_awake []) fun r24 =>
 some (r24))
 else
 (optO (C lb n F_flight_Legs [.agg [.list aairn1 aair2, .list adisn3 adis4], .agg [.str bcar5, .int .i64 bnum6, .int .i64 bperfro7, .int .i64 bperto9, .int .i64 bperday10, .list blegn11 bleg12], .int .i64 c13]) fun r25 =>
 optO (CV.asT r25) fun t26 =>
 optO (t26[0]?) fun x27 =>
 optO (CV.asT r25) fun t28 =>
 optO (t28[1]?) fun x29 =>
 optO (C lb n F_schedule_Day [.agg [.list aairn1 aair2, .list adisn3 adis4], .list false [[CV.str bcar5, CV.int .i64 bnum6, CV.int .i64 bperfro7, CV.int .i64 bperto9, CV.int .i64 bperday10, CV.list blegn11 bleg12]], .int .i64 c13]) fun r30 =>
 optO (CV.asI .i64 x29) fun i31 =>
 bif (i31 != 0) then
 (some (.bool false))
 else
 (optO (CV.asL x27) fun p33 =>
 bif ((p33.2.length : Int) != (bleg12.length : Int)) then
 (some (.bool false))
 else
 (optO (CV.asL r30) fun p34 =>
 optO (CV.asL x27) fun p35 =>
 bif ((p34.2.length : Int) != (p35.2.length : Int)) then
 (some (.bool false))
 else
 (top_TopTimes_L1 lb n n aairn1 aair2 adisn3 adis4 bcar5 bnum6 bperfro7 bperto9 bperday10 blegn11 bleg12 c13 x27 x29 r30 r25 0))))))) := by kernel_rfl

/-! airline/airlinetop.smallPlaces -/
theorem top_smallPlaces_eq (lb : Bool) (n : Nat) (aairn1 : Bool) (aair2 : List (List CV)) (adisn3 : Bool) (adis4 : List (List CV)) :
  top lb n F_top_smallPlaces [.agg [.list aairn1 aair2, .list adisn3 adis4]] =
 bif (decide ((aair2.length : Int) ≤ 12)) then
 (bif (decide ((adis4.length : Int) ≤ 20)) then
 (optO (C lb n F_r06_Check [.agg [.list aairn1 aair2, .list adisn3 adis4]]) fun r5 =>
 optO (CV.asL r5) fun p6 =>
 some (.bool ((p6.2.length : Int) == 0)))
 else
 (some (.bool false)))
 else
 (some (.bool false)) := by kernel_rfl

/-! airline/airlinetop.awake -/
theorem top_awake_eq (lb : Bool) (n : Nat)  :
  top lb n F_top_awake [] =
 optO (C lb n F_calendar_Print [.int .i64 9497]) fun r1 =>
 optO (CV.asS r1) fun s2 =>
 bif (s2 == [50, 48, 50, 54, 45, 48, 49, 45, 48, 49]) then
 (optO (C lb n F_period_Count [.agg [.int .i64 9497, .int .i64 9503, .int .i64 96]]) fun r3 =>
 optO (CV.asI .i64 r3) fun i4 =>
 bif (i4 == 2) then
 (optO (C lb n F_zone_Local [.agg [.int .i64 60, .list true []], .int .i64 5]) fun r5 =>
 optO (CV.asI .i64 r5) fun i6 =>
 some (.bool (i6 == 65)))
 else
 (some (.bool false)))
 else
 (some (.bool false)) := by kernel_rfl

/-! airline/zone.Local -/
theorem zone_Local_eq (lb : Bool) (n : Nat) (aoff1 : Int) (ashin2 : Bool) (ashi3 : List (List CV)) (b4 : Int) :
  top lb n F_zone_Local [.agg [.int .i64 aoff1, .list ashin2 ashi3], .int .i64 b4] =
 optO (C lb n F_zone_Offset [.agg [.int .i64 aoff1, .list ashin2 ashi3], .int .i64 b4]) fun r5 =>
 optO (CV.asI .i64 r5) fun i6 =>
 some (.int .i64 (IntKind.wrap .i64 (b4 + i6))) := by kernel_rfl

/-! airline/zone.Offset -/
noncomputable def zone_Offset_L1 (lb : Bool) (n : Nat) (k17 : Nat) (aoff1 : Int) (ashin2 : Bool) (ashi3 : List (List CV)) (b4 : Int) (v10 : CV) (i11 : Int) : Option CV :=
  hold (loopC (E0 lb n 0 994) 0 (loopTemps (sub (B F_zone_Offset) [1, 1, 0, 1, 0, 0]) ++ []) [7] (sub (B F_zone_Offset) [1, 1, 0, 1, 0, 0]) (blockK 0 (seqK (E0 lb n 0 997) (sub (B F_zone_Offset) [1, 1, 0]) (sub (B F_zone_Offset) [1, 1, 1]) (retK Tryd.prog (R F_zone_Offset) 0 (outK (tightF Tryd.prog F_zone_Offset))))) k17 ⟨fr 25 [(0, .val (.agg [.int .i64 aoff1, .list ashin2 ashi3])), (1, .val (.int .i64 b4)), (2, .ptr 0 2 0), (4, .val (.int .i64 0)), (5, .val v10), (8, .ptr 0 2 0), (9, .val (.int .i64 aoff1)), (10, .ptr 0 2 1), (11, .val (.list ashin2 ashi3)), (12, .val (.int .i64 (ashi3.length : Int))), (13, .val (.int .i64 i11))], [bx 25 [(2, some [.val (.int .i64 aoff1), .val (.list ashin2 ashi3)])]], KK⟩)

noncomputable def zone_Offset_J2 (lb : Bool) (n : Nat) (aoff1 : Int) (ashin2 : Bool) (ashi3 : List (List CV)) (b4 : Int) (v22 : CV) (v23 : CV) (v24 : CV) : Option CV :=
  hold (E0 lb n 0 997 (sub (B F_zone_Offset) [1, 1, 1]) (retK Tryd.prog (R F_zone_Offset) 0 (outK (tightF Tryd.prog F_zone_Offset))) ⟨fr 25 [(0, .val (.agg [.int .i64 aoff1, .list ashin2 ashi3])), (1, .val (.int .i64 b4)), (2, .ptr 0 2 0), (4, .val (.int .i64 0)), (5, .val v22), (8, .ptr 0 2 0), (9, .val (.int .i64 aoff1))], [bx 25 [(2, some [.val (.int .i64 aoff1), .val (.list ashin2 ashi3)]), (7, some [.val v23, .val v24])]], KK⟩)

theorem zone_Offset_J2_eq (lb : Bool) (n : Nat) (aoff1 : Int) (ashin2 : Bool) (ashi3 : List (List CV)) (b4 : Int) (v22 : CV) (v23 : CV) (v24 : CV) :
  zone_Offset_J2 lb n aoff1 ashin2 ashi3 b4 v22 v23 v24 =
 some (v22) := (hold_eq _).trans (by kernel_rfl)

noncomputable def zone_Offset_J3 (lb : Bool) (n : Nat) (aoff1 : Int) (ashin2 : Bool) (ashi3 : List (List CV)) (b4 : Int) (v25 : CV) : Option CV :=
  hold (E0 lb n 0 997 (sub (B F_zone_Offset) [1, 1, 1]) (retK Tryd.prog (R F_zone_Offset) 0 (outK (tightF Tryd.prog F_zone_Offset))) ⟨fr 25 [(0, .val (.agg [.int .i64 aoff1, .list ashin2 ashi3])), (1, .val (.int .i64 b4)), (2, .ptr 0 2 0), (4, .val (.int .i64 0)), (5, .val v25), (8, .ptr 0 2 0), (9, .val (.int .i64 aoff1))], [bx 25 [(2, some [.val (.int .i64 aoff1), .val (.list ashin2 ashi3)])]], KK⟩)

theorem zone_Offset_J3_eq (lb : Bool) (n : Nat) (aoff1 : Int) (ashin2 : Bool) (ashi3 : List (List CV)) (b4 : Int) (v25 : CV) :
  zone_Offset_J3 lb n aoff1 ashin2 ashi3 b4 v25 =
 some (v25) := (hold_eq _).trans (by kernel_rfl)

theorem zone_Offset_L1_succ (lb : Bool) (n k17 : Nat) (aoff1 : Int) (ashin2 : Bool) (ashi3 : List (List CV)) (b4 : Int) (v10 : CV) (i11 : Int) :
  zone_Offset_L1 lb n (k17 + 1) aoff1 ashin2 ashi3 b4 v10 i11 =
 bif (decide (i11 < (ashi3.length : Int))) then
 (optO (atL ashi3 i11) fun c18 =>
 chkO (c18.length == 2) (
 optO (c18[0]?) fun x19 =>
 optO (c18[1]?) fun x20 =>
 optO (CV.asI .i64 x19) fun i21 =>
 bif (decide (i21 > b4)) then
 (zone_Offset_J2 lb n aoff1 ashin2 ashi3 b4 v10 x19 x20)
 else
 (zone_Offset_L1 lb n k17 aoff1 ashin2 ashi3 b4 x20 (IntKind.wrap .i64 (i11 + 1)))))
 else
 (zone_Offset_J3 lb n aoff1 ashin2 ashi3 b4 v10) := (hold_eq _).trans (by kernel_rfl)

theorem zone_Offset_L1_zero (lb : Bool) (n : Nat) (aoff1 : Int) (ashin2 : Bool) (ashi3 : List (List CV)) (b4 : Int) (v10 : CV) (i11 : Int) :
  zone_Offset_L1 lb n 0 aoff1 ashin2 ashi3 b4 v10 i11 =
 none := (hold_eq _).trans (by kernel_rfl)

theorem zone_Offset_eq (lb : Bool) (n : Nat) (aoff1 : Int) (ashin2 : Bool) (ashi3 : List (List CV)) (b4 : Int) :
  top lb n F_zone_Offset [.agg [.int .i64 aoff1, .list ashin2 ashi3], .int .i64 b4] =
 zone_Offset_L1 lb n n aoff1 ashin2 ashi3 b4 (.int .i64 aoff1) 0 := by kernel_rfl

/-! airline/zone.Exists -/
theorem zone_Exists_eq (lb : Bool) (n : Nat) (aoff1 : Int) (ashin2 : Bool) (ashi3 : List (List CV)) (b4 : Int) :
  top lb n F_zone_Exists [.agg [.int .i64 aoff1, .list ashin2 ashi3], .int .i64 b4] =
 optO (C lb n F_zone_times [.agg [.int .i64 aoff1, .list ashin2 ashi3], .int .i64 b4]) fun r5 =>
 optO (CV.asI .i64 r5) fun i6 =>
 some (.bool (decide (i6 > 0))) := by kernel_rfl

/-! airline/zone.times -/
noncomputable def zone_times_L1 (lb : Bool) (n : Nat) (k31 : Nat) (aoff1 : Int) (ashin2 : Bool) (ashi3 : List (List CV)) (b4 : Int) (r5 : CV) (p6 : Bool × List (List CV)) (i21 : Int) (i22 : Int) : Option CV :=
  hold (loopC (E0 lb n 0 994) 0 (loopTemps (sub (B F_zone_times) [1, 1, 0, 1, 0, 0]) ++ [8]) [7] (sub (B F_zone_times) [1, 1, 0, 1, 0, 0]) (blockK 0 (seqK (E0 lb n 0 997) (sub (B F_zone_times) [1, 1, 0]) (sub (B F_zone_times) [1, 1, 1]) (retK Tryd.prog (R F_zone_times) 0 (outK (tightF Tryd.prog F_zone_times))))) k31 ⟨fr 34 [(0, .val (.agg [.int .i64 aoff1, .list ashin2 ashi3])), (1, .val (.int .i64 b4)), (2, .ptr 0 2 0), (4, .val (.int .i64 0)), (5, .val (.int .i64 i21)), (9, .val (.agg [.int .i64 aoff1, .list ashin2 ashi3])), (10, .val r5), (11, .val (.int .i64 (p6.2.length : Int))), (12, .val (.int .i64 i22))], [bx 34 [(2, some [.val (.int .i64 aoff1), .val (.list ashin2 ashi3)])]], KK⟩)

noncomputable def zone_times_J2 (lb : Bool) (n : Nat) (aoff1 : Int) (ashin2 : Bool) (ashi3 : List (List CV)) (b4 : Int) (i41 : Int) : Option CV :=
  hold (E0 lb n 0 997 (sub (B F_zone_times) [1, 1, 1]) (retK Tryd.prog (R F_zone_times) 0 (outK (tightF Tryd.prog F_zone_times))) ⟨fr 34 [(0, .val (.agg [.int .i64 aoff1, .list ashin2 ashi3])), (1, .val (.int .i64 b4)), (2, .ptr 0 2 0), (4, .val (.int .i64 0)), (5, .val (.int .i64 i41))], [bx 34 [(2, some [.val (.int .i64 aoff1), .val (.list ashin2 ashi3)])]], KK⟩)

theorem zone_times_J2_eq (lb : Bool) (n : Nat) (aoff1 : Int) (ashin2 : Bool) (ashi3 : List (List CV)) (b4 : Int) (i41 : Int) :
  zone_times_J2 lb n aoff1 ashin2 ashi3 b4 i41 =
 some (.int .i64 i41) := (hold_eq _).trans (by kernel_rfl)

theorem zone_times_L1_succ (lb : Bool) (n k31 : Nat) (aoff1 : Int) (ashin2 : Bool) (ashi3 : List (List CV)) (b4 : Int) (r5 : CV) (p6 : Bool × List (List CV)) (i21 : Int) (i22 : Int) :
  zone_times_L1 lb n (k31 + 1) aoff1 ashin2 ashi3 b4 r5 p6 i21 i22 =
 bif (decide (i22 < (p6.2.length : Int))) then
 (optO (CV.asL r5) fun p33 =>
 optO (atL p33.2 i22) fun c34 =>
 chkO (c34.length == 3) (
 optO (c34[0]?) fun x35 =>
 optO (c34[1]?) fun x36 =>
 optO (c34[2]?) fun x37 =>
 optO (CV.asI .i64 x37) fun i38 =>
 optO (CV.asI .i64 x35) fun i39 =>
 bif (decide ((IntKind.wrap .i64 (b4 - i38)) ≥ i39)) then
 (optO (CV.asI .i64 x36) fun i40 =>
 bif (decide ((IntKind.wrap .i64 (b4 - i38)) < i40)) then
 (zone_times_L1 lb n k31 aoff1 ashin2 ashi3 b4 r5 p6 (IntKind.wrap .i64 (i21 + 1)) (IntKind.wrap .i64 (i22 + 1)))
 else
 (zone_times_L1 lb n k31 aoff1 ashin2 ashi3 b4 r5 p6 i21 (IntKind.wrap .i64 (i22 + 1))))
 else
 (zone_times_L1 lb n k31 aoff1 ashin2 ashi3 b4 r5 p6 i21 (IntKind.wrap .i64 (i22 + 1)))))
 else
 (zone_times_J2 lb n aoff1 ashin2 ashi3 b4 i21) := (hold_eq _).trans (by kernel_rfl)

theorem zone_times_L1_zero (lb : Bool) (n : Nat) (aoff1 : Int) (ashin2 : Bool) (ashi3 : List (List CV)) (b4 : Int) (r5 : CV) (p6 : Bool × List (List CV)) (i21 : Int) (i22 : Int) :
  zone_times_L1 lb n 0 aoff1 ashin2 ashi3 b4 r5 p6 i21 i22 =
 none := (hold_eq _).trans (by kernel_rfl)

theorem zone_times_eq (lb : Bool) (n : Nat) (aoff1 : Int) (ashin2 : Bool) (ashi3 : List (List CV)) (b4 : Int) :
  top lb n F_zone_times [.agg [.int .i64 aoff1, .list ashin2 ashi3], .int .i64 b4] =
 optO (C lb n F_zone_spans [.agg [.int .i64 aoff1, .list ashin2 ashi3]]) fun r5 =>
 optO (CV.asL r5) fun p6 =>
 zone_times_L1 lb n n aoff1 ashin2 ashi3 b4 r5 p6 0 0 := by kernel_rfl

/-! airline/schedule.Day -/
noncomputable def schedule_Day_L1 (lb : Bool) (n : Nat) (k47 : Nat) (aairn1 : Bool) (aair2 : List (List CV)) (adisn3 : Bool) (adis4 : List (List CV)) (bn5 : Bool) (b6 : List (List CV)) (c7 : Int) (b28 : Bool) (l29 : List (List CV)) (i30 : Int) : Option CV :=
  hold (loopC (E0 lb n 0 994) 0 (loopTemps (sub (B F_schedule_Day) [1, 1, 0, 1, 0, 0]) ++ [10, 11]) [9] (sub (B F_schedule_Day) [1, 1, 0, 1, 0, 0]) (blockK 0 (seqK (E0 lb n 0 997) (sub (B F_schedule_Day) [1, 1, 0]) (sub (B F_schedule_Day) [1, 1, 1]) (retK Tryd.prog (R F_schedule_Day) 0 (outK (tightF Tryd.prog F_schedule_Day))))) k47 ⟨fr 36 [(0, .val (.agg [.list aairn1 aair2, .list adisn3 adis4])), (1, .val (.list bn5 b6)), (2, .val (.int .i64 c7)), (3, .ptr 0 3 0), (6, .lst true true 41 []), (7, .lst true b28 41 l29), (12, .val (.list bn5 b6)), (13, .val (.int .i64 (b6.length : Int))), (14, .val (.int .i64 i30))], [bx 36 [(3, some [.val (.list aairn1 aair2), .val (.list adisn3 adis4)])]], KK⟩)

noncomputable def schedule_Day_J2 (lb : Bool) (n : Nat) (aairn1 : Bool) (aair2 : List (List CV)) (adisn3 : Bool) (adis4 : List (List CV)) (bn5 : Bool) (b6 : List (List CV)) (c7 : Int) (b63 : Bool) (l65 : List (List CV)) : Option CV :=
  hold (E0 lb n 0 997 (sub (B F_schedule_Day) [1, 1, 1]) (retK Tryd.prog (R F_schedule_Day) 0 (outK (tightF Tryd.prog F_schedule_Day))) ⟨fr 36 [(0, .val (.agg [.list aairn1 aair2, .list adisn3 adis4])), (1, .val (.list bn5 b6)), (2, .val (.int .i64 c7)), (3, .ptr 0 3 0), (6, .lst true true 41 []), (7, .lst true b63 41 l65)], [bx 36 [(3, some [.val (.list aairn1 aair2), .val (.list adisn3 adis4)])]], KK⟩)

theorem schedule_Day_J2_eq (lb : Bool) (n : Nat) (aairn1 : Bool) (aair2 : List (List CV)) (adisn3 : Bool) (adis4 : List (List CV)) (bn5 : Bool) (b6 : List (List CV)) (c7 : Int) (b63 : Bool) (l65 : List (List CV)) :
  schedule_Day_J2 lb n aairn1 aair2 adisn3 adis4 bn5 b6 c7 b63 l65 =
 optO (C lb n F_slices_SortStableFunc_api_Dated [.list b63 l65, .fn F_schedule_Day_1]) fun r66 =>
 some (.list b63 l65) := (hold_eq _).trans (by kernel_rfl)

theorem schedule_Day_L1_succ (lb : Bool) (n k47 : Nat) (aairn1 : Bool) (aair2 : List (List CV)) (adisn3 : Bool) (adis4 : List (List CV)) (bn5 : Bool) (b6 : List (List CV)) (c7 : Int) (b28 : Bool) (l29 : List (List CV)) (i30 : Int) :
  schedule_Day_L1 lb n (k47 + 1) aairn1 aair2 adisn3 adis4 bn5 b6 c7 b28 l29 i30 =
 bif (decide (i30 < (b6.length : Int))) then
 (optO (atL b6 i30) fun c48 =>
 chkO (c48.length == 6) (
 optO (c48[0]?) fun x49 =>
 optO (c48[1]?) fun x50 =>
 optO (c48[2]?) fun x51 =>
 optO (c48[3]?) fun x52 =>
 optO (c48[4]?) fun x53 =>
 optO (c48[5]?) fun x54 =>
 optO (C lb n F_period_Has [.agg [x51, x52, x53], .int .i64 c7]) fun r55 =>
 optO (CV.asB r55) fun b56 =>
 bif b56 then
 (optO (C lb n F_flight_Legs [.agg [.list aairn1 aair2, .list adisn3 adis4], .agg [x49, x50, x51, x52, x53, x54], .int .i64 c7]) fun r57 =>
 optO (CV.asT r57) fun t58 =>
 optO (t58[0]?) fun x59 =>
 optO (CV.asT r57) fun t60 =>
 optO (t60[1]?) fun x61 =>
 optO (CV.asL x59) fun p62 =>
 chkO (p62.2.all (·.length == 8)) (
 chkO (room (l29.length + p62.2.length) 96) (
 schedule_Day_L1 lb n k47 aairn1 aair2 adisn3 adis4 bn5 b6 c7 (b28 && p62.2.isEmpty) (l29 ++ p62.2) (IntKind.wrap .i64 (i30 + 1)))))
 else
 (schedule_Day_L1 lb n k47 aairn1 aair2 adisn3 adis4 bn5 b6 c7 b28 l29 (IntKind.wrap .i64 (i30 + 1)))))
 else
 (schedule_Day_J2 lb n aairn1 aair2 adisn3 adis4 bn5 b6 c7 b28 l29) := (hold_eq _).trans (by kernel_rfl)

theorem schedule_Day_L1_zero (lb : Bool) (n : Nat) (aairn1 : Bool) (aair2 : List (List CV)) (adisn3 : Bool) (adis4 : List (List CV)) (bn5 : Bool) (b6 : List (List CV)) (c7 : Int) (b28 : Bool) (l29 : List (List CV)) (i30 : Int) :
  schedule_Day_L1 lb n 0 aairn1 aair2 adisn3 adis4 bn5 b6 c7 b28 l29 i30 =
 none := (hold_eq _).trans (by kernel_rfl)

theorem schedule_Day_eq (lb : Bool) (n : Nat) (aairn1 : Bool) (aair2 : List (List CV)) (adisn3 : Bool) (adis4 : List (List CV)) (bn5 : Bool) (b6 : List (List CV)) (c7 : Int) :
  top lb n F_schedule_Day [.agg [.list aairn1 aair2, .list adisn3 adis4], .list bn5 b6, .int .i64 c7] =
 schedule_Day_L1 lb n n aairn1 aair2 adisn3 adis4 bn5 b6 c7 true [] 0 := by kernel_rfl

/-! slices.SortStableFunc[[]airline/api.Dated,airline/api.Dated] -/
theorem slices_SortStableFunc_api_Dated_schedule_Day_1_eq (lb : Bool) (n : Nat) (an1 : Bool) (a2 : List (List CV)) :
  top lb n F_slices_SortStableFunc_api_Dated [.list an1 a2, .fn F_schedule_Day_1] =
 optO (C lb n F_slices_stableCmpFunc_api_Dated [.list an1 a2, .int .i64 (a2.length : Int), .fn F_schedule_Day_1]) fun r3 =>
 some (.tup []) := by kernel_rfl

/-! slices.stableCmpFunc[airline/api.Dated] -/
noncomputable def slices_stableCmpFunc_api_Dated_schedule_Day_1_L1 (lb : Bool) (n : Nat) (k9 : Nat) (an1 : Bool) (a2 : List (List CV)) (b3 : Int) (i5 : Int) (i6 : Int) : Option CV :=
  hold (loopC (E0 lb n 0 995) 0 (loopTemps (sub (B F_slices_stableCmpFunc_api_Dated) [1, 1, 0, 0, 0]) ++ []) [] (sub (B F_slices_stableCmpFunc_api_Dated) [1, 1, 0, 0, 0]) (blockK 0 (seqK (E0 lb n 0 997) (sub (B F_slices_stableCmpFunc_api_Dated) [1, 1, 0]) (sub (B F_slices_stableCmpFunc_api_Dated) [1, 1, 1]) (retK Tryd.prog (R F_slices_stableCmpFunc_api_Dated) 0 (outK (tightF Tryd.prog F_slices_stableCmpFunc_api_Dated))))) k9 ⟨fr 63 [(0, .val (.list an1 a2)), (1, .val (.int .i64 b3)), (2, .val (.fn F_schedule_Day_1)), (6, .val (.int .i64 20)), (7, .val (.int .i64 i5)), (8, .val (.int .i64 i6)), (10, .val (.int .i64 20))], [bx 63 []], KK⟩)

noncomputable def slices_stableCmpFunc_api_Dated_schedule_Day_1_J2 (lb : Bool) (n : Nat) (an1 : Bool) (a2 : List (List CV)) (b3 : Int) (i11 : Int) (i12 : Int) : Option CV :=
  hold (E0 lb n 0 997 (sub (B F_slices_stableCmpFunc_api_Dated) [1, 1, 1]) (retK Tryd.prog (R F_slices_stableCmpFunc_api_Dated) 0 (outK (tightF Tryd.prog F_slices_stableCmpFunc_api_Dated))) ⟨fr 63 [(0, .val (.list an1 a2)), (1, .val (.int .i64 b3)), (2, .val (.fn F_schedule_Day_1)), (6, .val (.int .i64 20)), (7, .val (.int .i64 i11)), (8, .val (.int .i64 i12)), (10, .val (.int .i64 20))], [bx 63 []], KK⟩)

noncomputable def slices_stableCmpFunc_api_Dated_schedule_Day_1_L3 (lb : Bool) (n : Nat) (k34 : Nat) (an1 : Bool) (a2 : List (List CV)) (b3 : Int) (i11 : Int) (r13 : CV) (i24 : Int) (i25 : Int) (i26 : Int) : Option CV :=
  hold (loopC (E0 lb n 0 994) 0 (loopTemps (sub (B F_slices_stableCmpFunc_api_Dated) [1, 1, 1, 1, 0, 0]) ++ [9]) [] (sub (B F_slices_stableCmpFunc_api_Dated) [1, 1, 1, 1, 0, 0]) (blockK 2 (retK Tryd.prog (R F_slices_stableCmpFunc_api_Dated) 0 (outK (tightF Tryd.prog F_slices_stableCmpFunc_api_Dated)))) k34 ⟨fr 63 [(0, .val (.list an1 a2)), (1, .val (.int .i64 b3)), (2, .val (.fn F_schedule_Day_1)), (6, .val (.int .i64 i24)), (7, .val (.int .i64 i25)), (8, .val (.int .i64 i26)), (10, .val (.int .i64 20)), (23, .val (.list an1 a2)), (24, .val (.int .i64 i11)), (25, .val (.int .i64 b3)), (26, .val (.fn F_schedule_Day_1)), (27, .val r13)], [bx 63 []], KK⟩)

noncomputable def slices_stableCmpFunc_api_Dated_schedule_Day_1_L4 (lb : Bool) (n : Nat) (k39 : Nat) (k34 : Nat) (an1 : Bool) (a2 : List (List CV)) (b3 : Int) (i24 : Int) (i11 : Int) (r13 : CV) (i36 : Int) (i37 : Int) : Option CV :=
  hold (loopC (E0 lb n 0 988) 0 (loopTemps (sub (B F_slices_stableCmpFunc_api_Dated) [1, 1, 1, 1, 0, 0, 1, 0, 1, 0, 0, 0]) ++ []) [] (sub (B F_slices_stableCmpFunc_api_Dated) [1, 1, 1, 1, 0, 0, 1, 0, 1, 0, 0, 0]) (blockK 4 (seqK (E0 lb n 0 990) (sub (B F_slices_stableCmpFunc_api_Dated) [1, 1, 1, 1, 0, 0, 1, 0, 1, 0]) (sub (B F_slices_stableCmpFunc_api_Dated) [1, 1, 1, 1, 0, 0, 1, 0, 1, 1]) (blockK 3 (loopK 0 (loopTemps (sub (B F_slices_stableCmpFunc_api_Dated) [1, 1, 1, 1, 0, 0]) ++ [9]) [] (loopC (E0 lb n 0 994) 0 (loopTemps (sub (B F_slices_stableCmpFunc_api_Dated) [1, 1, 1, 1, 0, 0]) ++ [9]) [] (sub (B F_slices_stableCmpFunc_api_Dated) [1, 1, 1, 1, 0, 0]) (blockK 2 (retK Tryd.prog (R F_slices_stableCmpFunc_api_Dated) 0 (outK (tightF Tryd.prog F_slices_stableCmpFunc_api_Dated)))) k34) (blockK 2 (retK Tryd.prog (R F_slices_stableCmpFunc_api_Dated) 0 (outK (tightF Tryd.prog F_slices_stableCmpFunc_api_Dated)))))))) k39 ⟨fr 63 [(0, .val (.list an1 a2)), (1, .val (.int .i64 b3)), (2, .val (.fn F_schedule_Day_1)), (6, .val (.int .i64 i24)), (7, .val (.int .i64 i36)), (8, .val (.int .i64 i37)), (10, .val (.int .i64 20)), (23, .val (.list an1 a2)), (24, .val (.int .i64 i11)), (25, .val (.int .i64 b3)), (26, .val (.fn F_schedule_Day_1)), (27, .val r13), (31, .val (.int .i64 i24)), (32, .val (.int .i64 (IntKind.wrap .i64 (2 * i24))))], [bx 63 []], KK⟩)

noncomputable def slices_stableCmpFunc_api_Dated_schedule_Day_1_J5 (lb : Bool) (n : Nat) (k34 : Nat) (an1 : Bool) (a2 : List (List CV)) (b3 : Int) (i24 : Int) (i11 : Int) (r13 : CV) (i41 : Int) (i42 : Int) : Option CV :=
  hold (E0 lb n 0 990 (sub (B F_slices_stableCmpFunc_api_Dated) [1, 1, 1, 1, 0, 0, 1, 0, 1, 1]) (blockK 3 (loopK 0 (loopTemps (sub (B F_slices_stableCmpFunc_api_Dated) [1, 1, 1, 1, 0, 0]) ++ [9]) [] (loopC (E0 lb n 0 994) 0 (loopTemps (sub (B F_slices_stableCmpFunc_api_Dated) [1, 1, 1, 1, 0, 0]) ++ [9]) [] (sub (B F_slices_stableCmpFunc_api_Dated) [1, 1, 1, 1, 0, 0]) (blockK 2 (retK Tryd.prog (R F_slices_stableCmpFunc_api_Dated) 0 (outK (tightF Tryd.prog F_slices_stableCmpFunc_api_Dated)))) k34) (blockK 2 (retK Tryd.prog (R F_slices_stableCmpFunc_api_Dated) 0 (outK (tightF Tryd.prog F_slices_stableCmpFunc_api_Dated)))))) ⟨fr 63 [(0, .val (.list an1 a2)), (1, .val (.int .i64 b3)), (2, .val (.fn F_schedule_Day_1)), (6, .val (.int .i64 i24)), (7, .val (.int .i64 i41)), (8, .val (.int .i64 i42)), (10, .val (.int .i64 20)), (23, .val (.list an1 a2)), (24, .val (.int .i64 i11)), (25, .val (.int .i64 b3)), (26, .val (.fn F_schedule_Day_1)), (27, .val r13), (31, .val (.int .i64 i24)), (32, .val (.int .i64 (IntKind.wrap .i64 (2 * i24))))], [bx 63 []], KK⟩)

theorem slices_stableCmpFunc_api_Dated_schedule_Day_1_J5_eq (lb : Bool) (n : Nat) (k34 : Nat) (an1 : Bool) (a2 : List (List CV)) (b3 : Int) (i24 : Int) (i11 : Int) (r13 : CV) (i41 : Int) (i42 : Int) :
  slices_stableCmpFunc_api_Dated_schedule_Day_1_J5 lb n k34 an1 a2 b3 i24 i11 r13 i41 i42 =
 bif (decide ((IntKind.wrap .i64 (i41 + i24)) < b3)) then
 (optO (C lb n F_slices_symMergeCmpFunc_api_Dated [.list an1 a2, .int .i64 i41, .int .i64 (IntKind.wrap .i64 (i41 + i24)), .int .i64 b3, .fn F_schedule_Day_1]) fun r43 =>
 slices_stableCmpFunc_api_Dated_schedule_Day_1_L3 lb n k34 an1 a2 b3 i11 r13 (IntKind.wrap .i64 (i24 * 2)) i41 i42)
 else
 (slices_stableCmpFunc_api_Dated_schedule_Day_1_L3 lb n k34 an1 a2 b3 i11 r13 (IntKind.wrap .i64 (i24 * 2)) i41 i42) := (hold_eq _).trans (by kernel_rfl)

theorem slices_stableCmpFunc_api_Dated_schedule_Day_1_L4_succ (lb : Bool) (n k39 : Nat) (k34 : Nat) (an1 : Bool) (a2 : List (List CV)) (b3 : Int) (i24 : Int) (i11 : Int) (r13 : CV) (i36 : Int) (i37 : Int) :
  slices_stableCmpFunc_api_Dated_schedule_Day_1_L4 lb n (k39 + 1) k34 an1 a2 b3 i24 i11 r13 i36 i37 =
 bif (decide (i37 ≤ b3)) then
 (optO (C lb n F_slices_symMergeCmpFunc_api_Dated [.list an1 a2, .int .i64 i36, .int .i64 (IntKind.wrap .i64 (i36 + i24)), .int .i64 i37, .fn F_schedule_Day_1]) fun r40 =>
 slices_stableCmpFunc_api_Dated_schedule_Day_1_L4 lb n k39 k34 an1 a2 b3 i24 i11 r13 i37 (IntKind.wrap .i64 (i37 + (IntKind.wrap .i64 (2 * i24)))))
 else
 (slices_stableCmpFunc_api_Dated_schedule_Day_1_J5 lb n k34 an1 a2 b3 i24 i11 r13 i36 i37) := (hold_eq _).trans (by kernel_rfl)

theorem slices_stableCmpFunc_api_Dated_schedule_Day_1_L4_zero (lb : Bool) (n : Nat) (k34 : Nat) (an1 : Bool) (a2 : List (List CV)) (b3 : Int) (i24 : Int) (i11 : Int) (r13 : CV) (i36 : Int) (i37 : Int) :
  slices_stableCmpFunc_api_Dated_schedule_Day_1_L4 lb n 0 k34 an1 a2 b3 i24 i11 r13 i36 i37 =
 none := (hold_eq _).trans (by kernel_rfl)

theorem slices_stableCmpFunc_api_Dated_schedule_Day_1_L3_succ (lb : Bool) (n k34 : Nat) (an1 : Bool) (a2 : List (List CV)) (b3 : Int) (i11 : Int) (r13 : CV) (i24 : Int) (i25 : Int) (i26 : Int) :
  slices_stableCmpFunc_api_Dated_schedule_Day_1_L3 lb n (k34 + 1) an1 a2 b3 i11 r13 i24 i25 i26 =
 bif (decide (i24 < b3)) then
 (slices_stableCmpFunc_api_Dated_schedule_Day_1_L4 lb n n k34 an1 a2 b3 i24 i11 r13 0 (IntKind.wrap .i64 (2 * i24)))
 else
 (some (.tup [])) := (hold_eq _).trans (by kernel_rfl)

theorem slices_stableCmpFunc_api_Dated_schedule_Day_1_L3_zero (lb : Bool) (n : Nat) (an1 : Bool) (a2 : List (List CV)) (b3 : Int) (i11 : Int) (r13 : CV) (i24 : Int) (i25 : Int) (i26 : Int) :
  slices_stableCmpFunc_api_Dated_schedule_Day_1_L3 lb n 0 an1 a2 b3 i11 r13 i24 i25 i26 =
 none := (hold_eq _).trans (by kernel_rfl)

theorem slices_stableCmpFunc_api_Dated_schedule_Day_1_J2_eq (lb : Bool) (n : Nat) (an1 : Bool) (a2 : List (List CV)) (b3 : Int) (i11 : Int) (i12 : Int) :
  slices_stableCmpFunc_api_Dated_schedule_Day_1_J2 lb n an1 a2 b3 i11 i12 =
 optO (C lb n F_slices_insertionSortCmpFunc_api_Dated [.list an1 a2, .int .i64 i11, .int .i64 b3, .fn F_schedule_Day_1]) fun r13 =>
 slices_stableCmpFunc_api_Dated_schedule_Day_1_L3 lb n n an1 a2 b3 i11 r13 20 i11 i12 := (hold_eq _).trans (by kernel_rfl)

theorem slices_stableCmpFunc_api_Dated_schedule_Day_1_L1_succ (lb : Bool) (n k9 : Nat) (an1 : Bool) (a2 : List (List CV)) (b3 : Int) (i5 : Int) (i6 : Int) :
  slices_stableCmpFunc_api_Dated_schedule_Day_1_L1 lb n (k9 + 1) an1 a2 b3 i5 i6 =
 bif (decide (i6 ≤ b3)) then
 (optO (C lb n F_slices_insertionSortCmpFunc_api_Dated [.list an1 a2, .int .i64 i5, .int .i64 i6, .fn F_schedule_Day_1]) fun r10 =>
 slices_stableCmpFunc_api_Dated_schedule_Day_1_L1 lb n k9 an1 a2 b3 i6 (IntKind.wrap .i64 (i6 + 20)))
 else
 (slices_stableCmpFunc_api_Dated_schedule_Day_1_J2 lb n an1 a2 b3 i5 i6) := (hold_eq _).trans (by kernel_rfl)

theorem slices_stableCmpFunc_api_Dated_schedule_Day_1_L1_zero (lb : Bool) (n : Nat) (an1 : Bool) (a2 : List (List CV)) (b3 : Int) (i5 : Int) (i6 : Int) :
  slices_stableCmpFunc_api_Dated_schedule_Day_1_L1 lb n 0 an1 a2 b3 i5 i6 =
 none := (hold_eq _).trans (by kernel_rfl)

theorem slices_stableCmpFunc_api_Dated_schedule_Day_1_eq (lb : Bool) (n : Nat) (an1 : Bool) (a2 : List (List CV)) (b3 : Int) :
  top lb n F_slices_stableCmpFunc_api_Dated [.list an1 a2, .int .i64 b3, .fn F_schedule_Day_1] =
 slices_stableCmpFunc_api_Dated_schedule_Day_1_L1 lb n n an1 a2 b3 0 20 := by kernel_rfl

/-! slices.insertionSortCmpFunc[airline/api.Dated] -/
noncomputable def slices_insertionSortCmpFunc_api_Dated_schedule_Day_1_L1 (lb : Bool) (n : Nat) (k167 : Nat) (an1 : Bool) (a2 : List (List CV)) (b3 : Int) (c4 : Int) (i88 : Int) : Option CV :=
  hold (loopC (E0 lb n 0 997) 0 (loopTemps (sub (B F_slices_insertionSortCmpFunc_api_Dated) [1, 0, 0]) ++ [9, 9]) [] (sub (B F_slices_insertionSortCmpFunc_api_Dated) [1, 0, 0]) (blockK 0 (retK Tryd.prog (R F_slices_insertionSortCmpFunc_api_Dated) 0 (outK (tightF Tryd.prog F_slices_insertionSortCmpFunc_api_Dated)))) k167 ⟨fr 53 [(0, .val (.list an1 a2)), (1, .val (.int .i64 b3)), (2, .val (.int .i64 c4)), (3, .val (.fn F_schedule_Day_1)), (8, .val (.int .i64 i88)), (10, .val (.int .i64 b3)), (11, .val (.int .i64 (IntKind.wrap .i64 (b3 + 1))))], [bx 53 []], KK⟩)

noncomputable def slices_insertionSortCmpFunc_api_Dated_schedule_Day_1_L2 (lb : Bool) (n : Nat) (k207 : Nat) (k167 : Nat) (an1 : Bool) (a2 : List (List CV)) (b3 : Int) (c4 : Int) (i88 : Int) : Option CV :=
  hold (loopC (E0 lb n 0 991) 0 (loopTemps (sub (B F_slices_insertionSortCmpFunc_api_Dated) [1, 0, 0, 1, 0, 0, 1, 0, 0]) ++ []) [] (sub (B F_slices_insertionSortCmpFunc_api_Dated) [1, 0, 0, 1, 0, 0, 1, 0, 0]) (blockK 2 (blockK 1 (seqK (E0 lb n 0 995) (sub (B F_slices_insertionSortCmpFunc_api_Dated) [1, 0, 0, 1, 0]) (sub (B F_slices_insertionSortCmpFunc_api_Dated) [1, 0, 0, 1, 1]) (loopK 0 (loopTemps (sub (B F_slices_insertionSortCmpFunc_api_Dated) [1, 0, 0]) ++ [9, 9]) [] (loopC (E0 lb n 0 997) 0 (loopTemps (sub (B F_slices_insertionSortCmpFunc_api_Dated) [1, 0, 0]) ++ [9, 9]) [] (sub (B F_slices_insertionSortCmpFunc_api_Dated) [1, 0, 0]) (blockK 0 (retK Tryd.prog (R F_slices_insertionSortCmpFunc_api_Dated) 0 (outK (tightF Tryd.prog F_slices_insertionSortCmpFunc_api_Dated)))) k167) (blockK 0 (retK Tryd.prog (R F_slices_insertionSortCmpFunc_api_Dated) 0 (outK (tightF Tryd.prog F_slices_insertionSortCmpFunc_api_Dated)))))))) k207 ⟨fr 53 [(0, .val (.list an1 a2)), (1, .val (.int .i64 b3)), (2, .val (.int .i64 c4)), (3, .val (.fn F_schedule_Day_1)), (8, .val (.int .i64 i88)), (9, .val (.int .i64 i88)), (10, .val (.int .i64 b3)), (11, .val (.int .i64 (IntKind.wrap .i64 (b3 + 1)))), (17, .val (.int .i64 i88))], [bx 53 []], KK⟩)

noncomputable def slices_insertionSortCmpFunc_api_Dated_schedule_Day_1_J3 (lb : Bool) (n : Nat) (k167 : Nat) (an1 : Bool) (a2 : List (List CV)) (b3 : Int) (c4 : Int) (i88 : Int) (i247 : Int) : Option CV :=
  hold (E0 lb n 0 995 (sub (B F_slices_insertionSortCmpFunc_api_Dated) [1, 0, 0, 1, 1]) (loopK 0 (loopTemps (sub (B F_slices_insertionSortCmpFunc_api_Dated) [1, 0, 0]) ++ [9, 9]) [] (loopC (E0 lb n 0 997) 0 (loopTemps (sub (B F_slices_insertionSortCmpFunc_api_Dated) [1, 0, 0]) ++ [9, 9]) [] (sub (B F_slices_insertionSortCmpFunc_api_Dated) [1, 0, 0]) (blockK 0 (retK Tryd.prog (R F_slices_insertionSortCmpFunc_api_Dated) 0 (outK (tightF Tryd.prog F_slices_insertionSortCmpFunc_api_Dated)))) k167) (blockK 0 (retK Tryd.prog (R F_slices_insertionSortCmpFunc_api_Dated) 0 (outK (tightF Tryd.prog F_slices_insertionSortCmpFunc_api_Dated))))) ⟨fr 53 [(0, .val (.list an1 a2)), (1, .val (.int .i64 b3)), (2, .val (.int .i64 c4)), (3, .val (.fn F_schedule_Day_1)), (8, .val (.int .i64 i88)), (9, .val (.int .i64 i247)), (10, .val (.int .i64 b3)), (11, .val (.int .i64 (IntKind.wrap .i64 (b3 + 1))))], [bx 53 []], KK⟩)

theorem slices_insertionSortCmpFunc_api_Dated_schedule_Day_1_J3_eq (lb : Bool) (n : Nat) (k167 : Nat) (an1 : Bool) (a2 : List (List CV)) (b3 : Int) (c4 : Int) (i88 : Int) (i247 : Int) :
  slices_insertionSortCmpFunc_api_Dated_schedule_Day_1_J3 lb n k167 an1 a2 b3 c4 i88 i247 =
 slices_insertionSortCmpFunc_api_Dated_schedule_Day_1_L1 lb n k167 an1 a2 b3 c4 (IntKind.wrap .i64 (i88 + 1)) := (hold_eq _).trans (by kernel_rfl)

theorem slices_insertionSortCmpFunc_api_Dated_schedule_Day_1_L2_succ (lb : Bool) (n k207 : Nat) (k167 : Nat) (an1 : Bool) (a2 : List (List CV)) (b3 : Int) (c4 : Int) (i88 : Int) :
  slices_insertionSortCmpFunc_api_Dated_schedule_Day_1_L2 lb n (k207 + 1) k167 an1 a2 b3 c4 i88 =
 bif (decide (i88 > b3)) then
 (optO (atL a2 i88) fun c208 =>
 chkO (c208.length == 8) (
 optO (c208[0]?) fun x209 =>
 optO (c208[1]?) fun x210 =>
 optO (c208[2]?) fun x211 =>
 optO (c208[3]?) fun x212 =>
 optO (c208[4]?) fun x213 =>
 optO (c208[5]?) fun x214 =>
 optO (c208[6]?) fun x215 =>
 optO (c208[7]?) fun x216 =>
 optO (atL a2 (IntKind.wrap .i64 (i88 - 1))) fun c217 =>
 chkO (c217.length == 8) (
 optO (c217[0]?) fun x218 =>
 optO (c217[1]?) fun x219 =>
 optO (c217[2]?) fun x220 =>
 optO (c217[3]?) fun x221 =>
 optO (c217[4]?) fun x222 =>
 optO (c217[5]?) fun x223 =>
 optO (c217[6]?) fun x224 =>
 optO (c217[7]?) fun x225 =>
 optO (C lb n F_schedule_Day_1 [.agg [x209, x210, x211, x212, x213, x214, x215, x216], .agg [x218, x219, x220, x221, x222, x223, x224, x225]]) fun r226 =>
 optO (CV.asI .i64 r226) fun i227 =>
 bif (decide (i227 < 0)) then
 (optO (atL a2 (IntKind.wrap .i64 (i88 - 1))) fun c228 =>
 chkO (c228.length == 8) (
 optO (c228[0]?) fun x229 =>
 optO (c228[1]?) fun x230 =>
 optO (c228[2]?) fun x231 =>
 optO (c228[3]?) fun x232 =>
 optO (c228[4]?) fun x233 =>
 optO (c228[5]?) fun x234 =>
 optO (c228[6]?) fun x235 =>
 optO (c228[7]?) fun x236 =>
 optO (atL a2 i88) fun c237 =>
 chkO (c237.length == 8) (
 optO (c237[0]?) fun x238 =>
 optO (c237[1]?) fun x239 =>
 optO (c237[2]?) fun x240 =>
 optO (c237[3]?) fun x241 =>
 optO (c237[4]?) fun x242 =>
 optO (c237[5]?) fun x243 =>
 optO (c237[6]?) fun x244 =>
 optO (c237[7]?) fun x245 =>
 optO (atL a2 i88) fun c246 =>
 chkO (c246.length == 8) (
 none))))
 else
 (slices_insertionSortCmpFunc_api_Dated_schedule_Day_1_J3 lb n k167 an1 a2 b3 c4 i88 i88))))
 else
 (slices_insertionSortCmpFunc_api_Dated_schedule_Day_1_J3 lb n k167 an1 a2 b3 c4 i88 i88) := (hold_eq _).trans (by kernel_rfl)

theorem slices_insertionSortCmpFunc_api_Dated_schedule_Day_1_L2_zero (lb : Bool) (n : Nat) (k167 : Nat) (an1 : Bool) (a2 : List (List CV)) (b3 : Int) (c4 : Int) (i88 : Int) :
  slices_insertionSortCmpFunc_api_Dated_schedule_Day_1_L2 lb n 0 k167 an1 a2 b3 c4 i88 =
 none := (hold_eq _).trans (by kernel_rfl)

theorem slices_insertionSortCmpFunc_api_Dated_schedule_Day_1_L1_succ (lb : Bool) (n k167 : Nat) (an1 : Bool) (a2 : List (List CV)) (b3 : Int) (c4 : Int) (i88 : Int) :
  slices_insertionSortCmpFunc_api_Dated_schedule_Day_1_L1 lb n (k167 + 1) an1 a2 b3 c4 i88 =
 bif (decide (i88 < c4)) then
 (slices_insertionSortCmpFunc_api_Dated_schedule_Day_1_L2 lb n n k167 an1 a2 b3 c4 i88 )
 else
 (some (.tup [])) := (hold_eq _).trans (by kernel_rfl)

theorem slices_insertionSortCmpFunc_api_Dated_schedule_Day_1_L1_zero (lb : Bool) (n : Nat) (an1 : Bool) (a2 : List (List CV)) (b3 : Int) (c4 : Int) (i88 : Int) :
  slices_insertionSortCmpFunc_api_Dated_schedule_Day_1_L1 lb n 0 an1 a2 b3 c4 i88 =
 none := (hold_eq _).trans (by kernel_rfl)

theorem slices_insertionSortCmpFunc_api_Dated_schedule_Day_1_eq (lb : Bool) (n : Nat) (an1 : Bool) (a2 : List (List CV)) (b3 : Int) (c4 : Int) :
  top lb n F_slices_insertionSortCmpFunc_api_Dated [.list an1 a2, .int .i64 b3, .int .i64 c4, .fn F_schedule_Day_1] =
 slices_insertionSortCmpFunc_api_Dated_schedule_Day_1_L1 lb n n an1 a2 b3 c4 (IntKind.wrap .i64 (b3 + 1)) := by kernel_rfl

/-! airline/schedule.Day$1 -/
theorem schedule_Day_1_eq (lb : Bool) (n : Nat) (acar1 : List UInt8) (anum2 : Int) (aday3 : Int) (afro4 : List UInt8) (ato5 : List UInt8) (adep6 : Int) (aarr7 : Int) (aequ9 : List UInt8) (bcar10 : List UInt8) (bnum11 : Int) (bday12 : Int) (bfro13 : List UInt8) (bto14 : List UInt8) (bdep15 : Int) (barr17 : Int) (bequ18 : List UInt8) :
  top lb n F_schedule_Day_1 [.agg [.str acar1, .int .i64 anum2, .int .i64 aday3, .str afro4, .str ato5, .int .i64 adep6, .int .i64 aarr7, .str aequ9], .agg [.str bcar10, .int .i64 bnum11, .int .i64 bday12, .str bfro13, .str bto14, .int .i64 bdep15, .int .i64 barr17, .str bequ18]] =
 optO (C lb n F_cmp_Compare_int [.int .i64 adep6, .int .i64 bdep15]) fun r19 =>
 optO (C lb n F_cmp_Compare_string [.str acar1, .str bcar10]) fun r20 =>
 optO (C lb n F_cmp_Compare_int [.int .i64 anum2, .int .i64 bnum11]) fun r21 =>
 chkO (CV.isCell r19) (
 chkO (CV.isCell r20) (
 chkO (CV.isCell r21) (
 optO (C lb n F_cmp_Or_int [.list false [[r19], [r20], [r21]]]) fun r22 =>
 some (r22)))) := by kernel_rfl

/-! cmp.Compare[int] -/
theorem cmp_Compare_int_eq (lb : Bool) (n : Nat) (a1 : Int) (b2 : Int) :
  top lb n F_cmp_Compare_int [.int .i64 a1, .int .i64 b2] =
 optO (C lb n F_cmp_isNaN_int [.int .i64 a1]) fun r3 =>
 optO (C lb n F_cmp_isNaN_int [.int .i64 b2]) fun r4 =>
 optO (CV.asB r3) fun b5 =>
 bif b5 then
 (optO (CV.asB r4) fun b6 =>
 bif b6 then
 (some (.int .i64 0))
 else
 (some (.int .i64 (-1))))
 else
 (optO (CV.asB r4) fun b7 =>
 bif b7 then
 (some (.int .i64 1))
 else
 (bif (decide (a1 < b2)) then
 (some (.int .i64 (-1)))
 else
 (bif (decide (a1 > b2)) then
 (some (.int .i64 1))
 else
 (some (.int .i64 0))))) := by kernel_rfl

/-! cmp.Or[int] -/
noncomputable def cmp_Or_int_L1 (lb : Bool) (n : Nat) (k11 : Nat) (an1 : Bool) (a2 : List (List CV)) (i6 : Int) : Option CV :=
  hold (loopC (E0 lb n 0 994) 0 (loopTemps (sub (B F_cmp_Or_int) [1, 1, 0, 1, 0, 0]) ++ [5]) [] (sub (B F_cmp_Or_int) [1, 1, 0, 1, 0, 0]) (blockK 0 (seqK (E0 lb n 0 997) (sub (B F_cmp_Or_int) [1, 1, 0]) (sub (B F_cmp_Or_int) [1, 1, 1]) (retK Tryd.prog (R F_cmp_Or_int) 0 (outK (tightF Tryd.prog F_cmp_Or_int))))) k11 ⟨fr 18 [(0, .val (.list an1 a2)), (2, .val (.int .i64 0)), (3, .val (.int .i64 0)), (6, .val (.list an1 a2)), (7, .val (.int .i64 (a2.length : Int))), (8, .val (.int .i64 i6))], [bx 18 []], KK⟩)

noncomputable def cmp_Or_int_J2 (lb : Bool) (n : Nat) (an1 : Bool) (a2 : List (List CV)) : Option CV :=
  hold (E0 lb n 0 997 (sub (B F_cmp_Or_int) [1, 1, 1]) (retK Tryd.prog (R F_cmp_Or_int) 0 (outK (tightF Tryd.prog F_cmp_Or_int))) ⟨fr 18 [(0, .val (.list an1 a2)), (2, .val (.int .i64 0)), (3, .val (.int .i64 0))], [bx 18 []], KK⟩)

theorem cmp_Or_int_J2_eq (lb : Bool) (n : Nat) (an1 : Bool) (a2 : List (List CV)) :
  cmp_Or_int_J2 lb n an1 a2 =
 some (.int .i64 0) := (hold_eq _).trans (by kernel_rfl)

theorem cmp_Or_int_L1_succ (lb : Bool) (n k11 : Nat) (an1 : Bool) (a2 : List (List CV)) (i6 : Int) :
  cmp_Or_int_L1 lb n (k11 + 1) an1 a2 i6 =
 bif (decide (i6 < (a2.length : Int))) then
 (optO (atL a2 i6) fun c12 =>
 chkO (c12.length == 1) (
 optO (c12[0]?) fun x13 =>
 optO (CV.asI .i64 x13) fun i14 =>
 bif (i14 != 0) then
 (some (x13))
 else
 (cmp_Or_int_L1 lb n k11 an1 a2 (IntKind.wrap .i64 (i6 + 1)))))
 else
 (cmp_Or_int_J2 lb n an1 a2 ) := (hold_eq _).trans (by kernel_rfl)

theorem cmp_Or_int_L1_zero (lb : Bool) (n : Nat) (an1 : Bool) (a2 : List (List CV)) (i6 : Int) :
  cmp_Or_int_L1 lb n 0 an1 a2 i6 =
 none := (hold_eq _).trans (by kernel_rfl)

theorem cmp_Or_int_eq (lb : Bool) (n : Nat) (an1 : Bool) (a2 : List (List CV)) :
  top lb n F_cmp_Or_int [.list an1 a2] =
 cmp_Or_int_L1 lb n n an1 a2 0 := by kernel_rfl

/-! cmp.Compare[string] -/
theorem cmp_Compare_string_eq (lb : Bool) (n : Nat) (a1 : List UInt8) (b2 : List UInt8) :
  top lb n F_cmp_Compare_string [.str a1, .str b2] =
 optO (C lb n F_cmp_isNaN_string [.str a1]) fun r3 =>
 optO (C lb n F_cmp_isNaN_string [.str b2]) fun r4 =>
 optO (CV.asB r3) fun b5 =>
 bif b5 then
 (optO (CV.asB r4) fun b6 =>
 bif b6 then
 (some (.int .i64 0))
 else
 (some (.int .i64 (-1))))
 else
 (optO (CV.asB r4) fun b7 =>
 bif b7 then
 (some (.int .i64 1))
 else
 (bif (Op.bytesLess a1 b2) then
 (some (.int .i64 (-1)))
 else
 (bif (!(Op.bytesLess a1 b2 || a1 == b2)) then
 (some (.int .i64 1))
 else
 (some (.int .i64 0))))) := by kernel_rfl

/-! cmp.isNaN[int] -/
theorem cmp_isNaN_int_eq (lb : Bool) (n : Nat) (a1 : Int) :
  top lb n F_cmp_isNaN_int [.int .i64 a1] =
 some (.bool (a1 != a1)) := by kernel_rfl

/-! cmp.isNaN[string] -/
theorem cmp_isNaN_string_eq (lb : Bool) (n : Nat) (a1 : List UInt8) :
  top lb n F_cmp_isNaN_string [.str a1] =
 some (.bool (!(a1 == a1))) := by kernel_rfl

end Go.Proofs
