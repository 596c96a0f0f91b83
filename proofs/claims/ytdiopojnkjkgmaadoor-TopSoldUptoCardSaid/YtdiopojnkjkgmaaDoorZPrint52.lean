-- What the claim uses alone (wip/slim.py). Lean checks it.
import Derived.Test.YtdiopojnkjkgmaaDoorZAb
import Derived.Test.YtdiopojnkjkgmaaDoorZAln
import Derived.Test.YtdiopojnkjkgmaaDoorZAlo
import Derived.Test.YtdiopojnkjkgmaaDoorZAlp
import Derived.Test.YtdiopojnkjkgmaaDoorZAlq
import Derived.Test.YtdiopojnkjkgmaaDoorZAlt
namespace Go.Proofs.YtdiopojnkjkgmaaDoor.Print
open Go.RowKit Go.Proofs.YtdiopojnkjkgmaaDoorW.PrintWords Go.Proofs.YtdiopojnkjkgmaaDoorW.PrintLast Go.Proofs.YtdiopojnkjkgmaaDoorW.PrintMore
attribute [local go_sem] max2_mx min2_mn max_two min_two max_three min_three max_four min_four
set_option linter.unusedVariables false
set_option linter.unusedSimpArgs false
attribute [local go_sem high] eqA43
mutual
def ladingtop_TopSold.j0 : Nat → List (S43) → List (S41) → Int → Int → List (S43) → Bool → Option (Bool)
 | 0, _, _, _, _, _, _ => none
 | k + 1, x0, x1, x2, x7, x9, x57 => if x57 = true then (some true) else ((ledger_Authorise.f ([] : List (S47)) ([] : List (S69)) x2 x7).bind fun bt213 => (if bt213.2.2 = 0 then ((ledger_Capture.f bt213.1 bt213.2.1 x2).bind fun bt221 => ((stock_Lines.f k x9 x1 11).bind fun bt230 => (if bt221.2.2.2 = 0 then (if bt221.2.2.1 = x7 then (ladingtop_TopSold.j1 k x0 x1 x2 x7 bt230.1 (bt230.2 != 0) bt221.1 bt221.2.1) else (none)) else (none)))) else (if x2 < 1 then (some true) else (if x2 > 1024 then (some true) else (if x7 < 1 then (some true) else (some (decide (x7 > 1152921504606846976))))))))
def ladingtop_TopSold.j1 : Nat → List (S43) → List (S41) → Int → Int → List (S43) → Bool → List (S47) → List (S69) → Option (Bool)
 | 0, _, _, _, _, _, _, _, _ => none
 | k + 1, x0, x1, x2, x7, x16, x104, x230000, x230001 => if x104 = true then (none) else (ladingtop_TopSold.l0 k x0 x1 x2 x7 x16 x1 (x1.length : Int) 0 x230000 x230001)
def ladingtop_TopSold.l0 : Nat → List (S43) → List (S41) → Int → Int → List (S43) → List (S41) → Int → Int → List (S47) → List (S69) → Option (Bool)
 | 0, _, _, _, _, _, _, _, _, _, _ => none
 | k + 1, x0, x1, x2, x7, x16, x105, x106, x107, x230000, x230001 => if x107 < x106 then (if 0 ≤ x107 then (if x107 < (x105.length : Int) then ((stock_Cell.f k x0 ((rd_T41 x105 x107).f0) ((rd_T41 x105 x107).f1)).bind fun bt236 => ((stock_Cell.f k x16 ((rd_T41 x105 x107).f0) ((rd_T41 x105 x107).f1)).bind fun bt244 => (ladingtop_TopSold.l1 k x0 x1 x2 x7 x16 0 x105 x106 x107 x1 (x1.length : Int) 0 x230000 x230001 ((rd_T41 x105 x107).f0) ((rd_T41 x105 x107).f1) ((rd_T41 x105 x107).f2) ((rd_T41 x105 x107).f3) bt236.1 bt236.2.1 bt236.2.2.1 bt236.2.2.2.1 bt236.2.2.2.2.1 bt236.2.2.2.2.2.1 bt244.1 bt244.2.1 bt244.2.2.1 bt244.2.2.2.1 bt244.2.2.2.2.1 bt244.2.2.2.2.2.1))) else (none)) else (none)) else ((stock_Lines.f k x16 x1 13).bind fun bt254 => ((ledger_Refund.f x230000 x230001 x2 x7).bind fun bt258 => ((ledger_Pay.f bt258.1 bt258.2.1 x2).bind fun bt266 => ((ledger_Balance.f k bt258.1 bt258.2.1 3).bind fun bt272 => (if bt254.2 = 0 then (if bt258.2.2 = 0 then (if bt266.2.2.2.2 = 0 then (if bt272.2 = 0 then (if bt266.2.2.1 = bt266.2.2.2.1 then (if bt272.1 = 0 then (ladingtop_TopSold.j4 k x0 bt254.1 ((bt254.1.length : Int) != (x0.length : Int))) else (none)) else (none)) else (none)) else (none)) else (none)) else (none))))))
def ladingtop_TopSold.l1 : Nat → List (S43) → List (S41) → Int → Int → List (S43) → Int → List (S41) → Int → Int → List (S41) → Int → Int → List (S47) → List (S69) → Int → Int → Int → Int → Int → Int → Int → Int → Int → Int → Int → Int → Int → Int → Int → Int → Option (Bool)
 | 0, _, _, _, _, _, _, _, _, _, _, _, _, _, _, _, _, _, _, _, _, _, _, _, _, _, _, _, _, _, _ => none
 | k + 1, x0, x1, x2, x7, x16, x24, x105, x106, x107, x129, x130, x131, x230000, x230001, x236000, x236001, x236002, x236003, x244000, x244001, x244002, x244003, x244004, x244005, x252000, x252001, x252002, x252003, x252004, x252005 => if x131 < x130 then (if 0 ≤ x131 then (if x131 < (x129.length : Int) then (if ((rd_T41 x129 x131).f0) = x236000 then (if ((rd_T41 x129 x131).f1) = x236001 then (ladingtop_TopSold.l1 k x0 x1 x2 x7 x16 (wrap64 (x24 + ((rd_T41 x129 x131).f2))) x105 x106 x107 x129 x130 (wrap64 (x131 + 1)) x230000 x230001 x236000 x236001 x236002 x236003 x244000 x244001 x244002 x244003 x244004 x244005 x252000 x252001 x252002 x252003 x252004 x252005) else (ladingtop_TopSold.l1 k x0 x1 x2 x7 x16 x24 x105 x106 x107 x129 x130 (wrap64 (x131 + 1)) x230000 x230001 x236000 x236001 x236002 x236003 x244000 x244001 x244002 x244003 x244004 x244005 x252000 x252001 x252002 x252003 x252004 x252005)) else (ladingtop_TopSold.l1 k x0 x1 x2 x7 x16 x24 x105 x106 x107 x129 x130 (wrap64 (x131 + 1)) x230000 x230001 x236000 x236001 x236002 x236003 x244000 x244001 x244002 x244003 x244004 x244005 x252000 x252001 x252002 x252003 x252004 x252005)) else (none)) else (none)) else (if x252004 = (wrap64 (x244004 + x24)) then (if x252002 = (wrap64 (x244002 - x24)) then (if x252003 = x244003 then (if x252005 = x244005 then (ladingtop_TopSold.l0 k x0 x1 x2 x7 x16 x105 x106 (wrap64 (x107 + 1)) x230000 x230001) else (none)) else (none)) else (none)) else (none))
def ladingtop_TopSold.j4 : Nat → List (S43) → List (S43) → Bool → Option (Bool)
 | 0, _, _, _ => none
 | k + 1, x0, x27, x238 => if x238 = true then (none) else (ladingtop_TopSold.l2 k x0 x27 (x0.length : Int) 0)
def ladingtop_TopSold.l2 : Nat → List (S43) → List (S43) → Int → Int → Option (Bool)
 | 0, _, _, _, _ => none
 | k + 1, x0, x27, x240, x241 => if x241 < x240 then (if 0 ≤ x241 then (if x241 < (x27.length : Int) then (if x241 < (x0.length : Int) then (if (!(((rd_T43 x27 x241).f0) == ((rd_T43 x0 x241).f0)) || (!(((rd_T43 x27 x241).f1) == ((rd_T43 x0 x241).f1)) || (!(((rd_T43 x27 x241).f2) == ((rd_T43 x0 x241).f2)) || (!(((rd_T43 x27 x241).f3) == ((rd_T43 x0 x241).f3)) || (!(((rd_T43 x27 x241).f4) == ((rd_T43 x0 x241).f4)) || (!(((rd_T43 x27 x241).f5) == ((rd_T43 x0 x241).f5)))))))) = true then (none) else (ladingtop_TopSold.l2 k x0 x27 x240 (wrap64 (x241 + 1)))) else (none)) else (none)) else (none)) else (some true)
end
def ladingtop_TopSold.f (k : Nat) (l0 : List (S43)) (l1 : List (S41)) (a2 : Int) : Option (Bool) := (ladingtop_begins.f).bind fun t205 => (if t205 = true then ((stock_Check.f k l0).bind fun t206 => (if t206 = 0 then ((money_Total.f k l1).bind fun bt207 => ((stock_Lines.f k l0 l1 8).bind fun bt209 => (if bt207.2 = 0 then (ladingtop_TopSold.j0 k l0 l1 a2 bt207.1 bt209.1 (bt209.2 != 0)) else (ladingtop_TopSold.j0 k l0 l1 a2 bt207.1 bt209.1 true)))) else (some true))) else (none))
set_option maxHeartbeats 8000000 in
set_option maxRecDepth 100000 in
theorem ladingtop_TopSold.calls (k : Nat) (A0 : Option Addr) (c0 : Nat) (l0 : List (S43)) (A1 : Option Addr) (c1 : Nat) (l1 : List (S41)) (a2 : Int) (r : Bool) (w : World) (hr0 : Kd.C k43 w A0 l0.length l0) (hc0 : l0.length ≤ c0) (hr1 : Kd.C k41 w A1 l1.length l1) (hc1 : l1.length ≤ c1) (hG : GlobOk w) (h : ladingtop_TopSold.f k l0 l1 a2 = some r) :
  Calls Tryd.prog 3 #[.slice A0 l0.length c0, .slice A1 l1.length c1, .int .i64 a2] w fun e w' => e = .returned (.bool r) ∧ Below w.heap.size w w' := by
 have hu35 := Tryd.underlying35
 have hu41 := Tryd.underlying41
 have hu43 := Tryd.underlying43
 have hu47 := Tryd.underlying47
 have HR0 := Aside0.mk hr0
 have HC0 := Aside0.mk hc0
 clear hr0 hc0
 have HR1 := Aside0.mk hr1
 have HC1 := Aside0.mk hc1
 clear hr1 hc1
 have HG := Aside0.mk hG
 clear hG
 have HB := Aside0.mk (Below.refl w.heap.size w)
 have H : ((ladingtop_begins.f).bind fun t205 => (if t205 = true then ((stock_Check.f k l0).bind fun t206 => (if t206 = 0 then ((money_Total.f k l1).bind fun bt207 => ((stock_Lines.f k l0 l1 8).bind fun bt209 => (if bt207.2 = 0 then (ladingtop_TopSold.j0 k l0 l1 a2 bt207.1 bt209.1 (bt209.2 != 0)) else (ladingtop_TopSold.j0 k l0 l1 a2 bt207.1 bt209.1 true)))) else (some true))) else (none))) = some r := h
 clear h
 obtain ⟨t205, A4, H⟩ := zm H
 (try dsimp only at H)
 by_cases c5 : t205 = true
 ·subst c5
  replace H := (if_pos (rfl : true = true)).symm.trans H
  obtain ⟨t206, A6, H⟩ := zm H
  (try dsimp only at H)
  by_cases c7 : t206 = 0
  ·rw [if_pos c7] at H
   obtain ⟨c7b0, c7b1⟩ := zq1 c7
   clear c7
   obtain ⟨⟨t207, t208⟩, A8, H⟩ := zm H
   (try dsimp only at H)
   obtain ⟨⟨t209, t210⟩, A9, H⟩ := zm H
   (try dsimp only at H)
   have HC10 := Aside0.mk H
   clear H
   go_enter Tryd.func3, Tryd.ntmps3
   go_upto_region 7 with (first | (go_at_call 4; (with_reducible refine (ladingtop_begins.calls  true _ ?side1 A4.out).mono ?_); (case side1 => exact GlobOk.below HG.out (zh0_ HB.out)); rintro e w11 ⟨rfl, hb⟩; replace HB := Aside0.mk (below_step (zh0_ HB.out) hb); (try clear hb)) | (go_at_call 5; (with_reducible refine (stock_Check.calls k _ _ l0 t206 _ ?side1 ?side2 A6.out).mono ?_); (case side1 => exact zc_ (Kd.C_below HR0.out HB.out)); (case side2 => exact HC0.out); rintro e w12 ⟨rfl, hb⟩; replace HB := Aside0.mk (below_step (zh0_ HB.out) hb); (try clear hb)) | (go_at_call 6; (with_reducible refine (money_Total.calls k _ _ l1 t207 t208 _ ?side1 ?side2 A8.out).mono ?_); (case side1 => exact zc_ (Kd.C_below HR1.out HB.out)); (case side2 => exact HC1.out); rintro e w13 ⟨rfl, hb⟩; replace HB := Aside0.mk (below_step (zh0_ HB.out) hb); (try clear hb)) | (go_at_call 7; refine calls_of_args (args' := #[.slice A0 l0.length c0, .slice A1 l1.length c1, encFn 8]) (by first | rfl | rfl) ?_; (with_reducible refine (stock_Lines.calls k _ _ l0 _ _ l1 8 t209 t210 _ ?side1 ?side2 ?side3 ?side4 A9.out).mono ?_); (case side1 => exact zc_ (Kd.C_below HR0.out HB.out)); (case side2 => exact HC0.out); (case side3 => exact zc_ (Kd.C_below HR1.out HB.out)); (case side4 => exact HC1.out); rintro e w14 ⟨v211, rfl, ho0, hb⟩; have HO212 := Aside0.mk (Kd.R_lower ho0 (below_size (zh0_ HB.out))); replace HB := Aside0.mk (below_step (zh0_ HB.out) hb); (try clear hb); (try clear ho0)))
   repeat (go_quiet (first | (go_at_call 4; (with_reducible refine (ladingtop_begins.calls  true _ ?side1 A4.out).mono ?_); (case side1 => exact GlobOk.below HG.out (zh0_ HB.out)); rintro e w11 ⟨rfl, hb⟩; replace HB := Aside0.mk (below_step (zh0_ HB.out) hb); (try clear hb)) | (go_at_call 5; (with_reducible refine (stock_Check.calls k _ _ l0 t206 _ ?side1 ?side2 A6.out).mono ?_); (case side1 => exact zc_ (Kd.C_below HR0.out HB.out)); (case side2 => exact HC0.out); rintro e w12 ⟨rfl, hb⟩; replace HB := Aside0.mk (below_step (zh0_ HB.out) hb); (try clear hb)) | (go_at_call 6; (with_reducible refine (money_Total.calls k _ _ l1 t207 t208 _ ?side1 ?side2 A8.out).mono ?_); (case side1 => exact zc_ (Kd.C_below HR1.out HB.out)); (case side2 => exact HC1.out); rintro e w13 ⟨rfl, hb⟩; replace HB := Aside0.mk (below_step (zh0_ HB.out) hb); (try clear hb)) | (go_at_call 7; refine calls_of_args (args' := #[.slice A0 l0.length c0, .slice A1 l1.length c1, encFn 8]) (by first | rfl | rfl) ?_; (with_reducible refine (stock_Lines.calls k _ _ l0 _ _ l1 8 t209 t210 _ ?side1 ?side2 ?side3 ?side4 A9.out).mono ?_); (case side1 => exact zc_ (Kd.C_below HR0.out HB.out)); (case side2 => exact HC0.out); (case side3 => exact zc_ (Kd.C_below HR1.out HB.out)); (case side4 => exact HC1.out); rintro e w14 ⟨v211, rfl, ho0, hb⟩; have HO212 := Aside0.mk (Kd.R_lower ho0 (below_size (zh0_ HB.out))); replace HB := Aside0.mk (below_step (zh0_ HB.out) hb); (try clear hb); (try clear ho0))); go_upto_region 7 with (first | (go_at_call 4; (with_reducible refine (ladingtop_begins.calls  true _ ?side1 A4.out).mono ?_); (case side1 => exact GlobOk.below HG.out (zh0_ HB.out)); rintro e w11 ⟨rfl, hb⟩; replace HB := Aside0.mk (below_step (zh0_ HB.out) hb); (try clear hb)) | (go_at_call 5; (with_reducible refine (stock_Check.calls k _ _ l0 t206 _ ?side1 ?side2 A6.out).mono ?_); (case side1 => exact zc_ (Kd.C_below HR0.out HB.out)); (case side2 => exact HC0.out); rintro e w12 ⟨rfl, hb⟩; replace HB := Aside0.mk (below_step (zh0_ HB.out) hb); (try clear hb)) | (go_at_call 6; (with_reducible refine (money_Total.calls k _ _ l1 t207 t208 _ ?side1 ?side2 A8.out).mono ?_); (case side1 => exact zc_ (Kd.C_below HR1.out HB.out)); (case side2 => exact HC1.out); rintro e w13 ⟨rfl, hb⟩; replace HB := Aside0.mk (below_step (zh0_ HB.out) hb); (try clear hb)) | (go_at_call 7; refine calls_of_args (args' := #[.slice A0 l0.length c0, .slice A1 l1.length c1, encFn 8]) (by first | rfl | rfl) ?_; (with_reducible refine (stock_Lines.calls k _ _ l0 _ _ l1 8 t209 t210 _ ?side1 ?side2 ?side3 ?side4 A9.out).mono ?_); (case side1 => exact zc_ (Kd.C_below HR0.out HB.out)); (case side2 => exact HC0.out); (case side3 => exact zc_ (Kd.C_below HR1.out HB.out)); (case side4 => exact HC1.out); rintro e w14 ⟨v211, rfl, ho0, hb⟩; have HO212 := Aside0.mk (Kd.R_lower ho0 (below_size (zh0_ HB.out))); replace HB := Aside0.mk (below_step (zh0_ HB.out) hb); (try clear hb); (try clear ho0))))
   (try simp only [Act.put, zt0, zt1, zt2])
   go_cut [57] (fun v57 wc => ∃ (kq : Nat) (x57_9 : Bool), v57 = .bool x57_9 ∧ Aside0 (ladingtop_TopSold.j0 kq l0 l1 a2 t207 t209 x57_9 = some r) ∧ Aside0 (kq ≤ k) ∧ Aside0 (Kd.R k43 43 wc w.heap.size (fun _ => True) v211 t209) ∧ Aside0 (Below w.heap.size w wc))
   case first =>
    have H := HC10.out
    clear HC10
    by_cases c15 : t208 = 0
    ·rw [if_pos c15] at H
     obtain ⟨c15b0, c15b1⟩ := zq1 c15
     clear c15
     (first | rw [c15b0] | (simp only [i64_w, i32_w]; rw [c15b0]) | skip)
     have H' := Aside0.mk H
     clear H
     go_wp2
     repeat (go_quiet (fail); try go_wp2)
     go_meet
     case rel => exact ⟨_, ((t210 != 0)), (by first | rfl | (simp; done) | (simp [*]; done) | (simp only [i64_w]; done)), H', ⟨by first | omega | exact Nat.le_refl _⟩, ⟨by (with_reducible repeat (first | apply Kd.R_alloc | apply Kd.R_drewN | apply Kd.R_drew)); exact HO212.out⟩, ⟨by exact zh0_ HB.out⟩⟩
    ·rw [if_neg c15] at H
     obtain ⟨c15b0, c15b1⟩ := zq0 c15
     (first | rw [c15b0] | (simp only [i64_w, i32_w]; rw [c15b0]) | skip)
     have H' := Aside0.mk H
     clear H
     go_wp2
     repeat (go_quiet (fail); try go_wp2)
     go_meet
     case rel => exact ⟨_, (true), (by first | rfl | (simp; done) | (simp [*]; done) | (simp only [i64_w]; done)), H', ⟨by first | omega | exact Nat.le_refl _⟩, ⟨by (with_reducible repeat (first | apply Kd.R_alloc | apply Kd.R_drewN | apply Kd.R_drew)); exact HO212.out⟩, ⟨by exact zh0_ HB.out⟩⟩
   case rest =>
    clear HC10
    try clear c1
    try clear p2
    try clear c3
    try clear c5
    try clear c7
    try clear c7b0
    try clear c7b1
    try clear c15
    try clear c15b0
    try clear c15b1
    obtain ⟨kq, x57_9, rfl, HA, HJ9, HO_9, HB⟩ := hcut
    cases kq with
    | zero => exact absurd HA.out (by simp [ladingtop_TopSold.j0])
    | succ kj9 =>
     have H := HA.out
     clear HA
     simp only [ladingtop_TopSold.j0] at H
     by_cases c16 : x57_9 = true
     ·subst c16
      replace H := (if_pos (rfl : true = true)).symm.trans H
      obtain rfl := Option.some.inj H
      go_wp2
      repeat (go_quiet (fail); try go_wp2)
      go_ret
      exact ⟨by first | rfl | (simp [errW_none, errW_some] <;> rfl) | (simp [*, errW_none, errW_some] <;> rfl), by exact zh0_ HB.out⟩
     ·replace c16 := Bool.eq_false_iff.mpr c16
      subst c16
      replace H := (if_neg (show ¬ (false = true) by decide)).symm.trans H
      obtain ⟨⟨t213, t216, t219⟩, A17, H⟩ := zm H
      (try dsimp only at H)
      by_cases c18 : t219 = 0
      ·rw [if_pos c18] at H
       obtain ⟨c18b0, c18b1⟩ := zq1 c18
       clear c18
       obtain ⟨⟨t221, t224, t227, t228⟩, A19, H⟩ := zm H
       (try dsimp only at H)
       obtain ⟨⟨t230, t231⟩, A20, H⟩ := zm H
       (try dsimp only at H)
       have HC21 := Aside0.mk H
       clear H
       go_upto_region 14 with (first | (go_at_call 9; (refine (ledger_Authorise.calls _ _ ([] : List (S47)) _ _ ([] : List (S69)) a2 t207 t213 t216 t219 _ ?side1 ?side2 ?side3 ?side4 A17.out).mono ?_); (case side1 => exact Kd.C_nil _ _); (case side2 => exact Nat.le_refl _); (case side3 => exact Kd.C_nil _ _); (case side4 => exact Nat.le_refl _); rintro e w22 ⟨v214, v217, rfl, ho0, ho1, hb⟩; replace HO_9 := Aside0.mk (Kd.R_below (zR_ HO_9.out) hb); have HO215 := Aside0.mk (Kd.R_lower ho0 (below_size (zh0_ HB.out))); have HO218 := Aside0.mk (Kd.R_lower ho1 (below_size (zh0_ HB.out))); replace HB := Aside0.mk (below_step (zh0_ HB.out) hb); (try clear hb); (try clear ho0); (try clear ho1)) | ((with_reducible refine gate_dst (N := 11) rfl ?_); (try (refine gate_guard (by rfl) ?_; dsimp only)); refine box_event ?hg (N := 11) ?hd (cs := #[.slice none 0 0, .slice none 0 0]) (t := 35) ?hr ?_; (case hd => rfl); (case hg => rfl); (case hr => first | (go_simp; done) | (go_simp; rfl)); intro gb220 hg w23 hbox hb; replace HO_9 := Aside0.mk (Kd.R_below (zR_ HO_9.out) hb); replace HO215 := Aside0.mk (Kd.R_below (zR_ HO215.out) hb); replace HO218 := Aside0.mk (Kd.R_below (zR_ HO218.out) hb); have BK220 := Aside0.mk (hbox); have GW220 := Aside0.mk ((by rw [hg]; exact (below_size (zh0_ HB.out)) : w.heap.size ≤ gb220)); have GE220 := Aside0.mk ((by rw [hg]; exact (below_size (zh0_ HB.out)) : w.heap.size ≤ gb220)); replace HB := Aside0.mk (below_step (zh0_ HB.out) hb); clear hb hbox hg; obtain ⟨Ao24, co24, eo24⟩ := Kd.R_slice HO215.out; subst eo24; have hcz25_0 : w23.cell? ⟨gb220, 0, none⟩ = some (.slice none 0 0) := (blk_cell BK220.out 0).trans rfl; have hcz25_1 : w23.cell? ⟨gb220, 1, none⟩ = some (.slice none 0 0) := (blk_cell BK220.out 1).trans rfl; have hfz25_0 := blk_frozen BK220.out 0; have hfz25_1 := blk_frozen BK220.out 1; obtain ⟨Ao26, co26, eo26⟩ := Kd.R_slice HO218.out; subst eo26) | (go_at_call 10; (with_reducible refine (ledger_Capture.calls _ _ t213 _ _ t216 a2 t221 t224 t227 t228 _ ?side1 ?side2 ?side3 ?side4 A19.out).mono ?_); (case side1 => refine (Kd.R_reads' (e := 47) (base := w.heap.size) (ok := fun k_ => True) (n := t213.length) (c := co24) ?_).2.2; exact (zr2_ HO215.out BK220.out)); (case side2 => exact (Kd.R_reads' HO215.out).2.1); (case side3 => refine (Kd.R_reads' (e := 69) (base := w.heap.size) (ok := fun k_ => True) (n := t216.length) (c := co26) ?_).2.2; exact (zr2_ HO218.out BK220.out)); (case side4 => exact (Kd.R_reads' HO218.out).2.1); rintro e w27 ⟨v222, v225, rfl, ho0, ho1, hb⟩; replace HO_9 := Aside0.mk (Kd.R_below (zr2_ HO_9.out BK220.out) hb); have HO223 := Aside0.mk (Kd.R_lower (Kd.R_new' ho0 (Kd.R_lt (zr2_ HO215.out BK220.out))) (below_size (zh1_ HB.out GE220.out))); replace HO215 := Aside0.mk (Kd.R_elder' (zr2_ HO215.out BK220.out) (Kd.R_base ho0) hb); have HO226 := Aside0.mk (Kd.R_lower (Kd.R_new' ho1 (Kd.R_lt (zr2_ HO218.out BK220.out))) (below_size (zh1_ HB.out GE220.out))); replace HO218 := Aside0.mk (Kd.R_elder' (zr2_ HO218.out BK220.out) (Kd.R_base ho1) hb); replace BK220 := Aside0.mk (blk_below (g := gb220) (o := .cells #[.slice Ao24 t213.length co24, .slice Ao26 t216.length co26] 35 (0, 0)) (zp2_ BK220.out) hb); replace HB := Aside0.mk (below_step (zh1_ HB.out GE220.out) hb); (try clear hb); (try clear ho0); (try clear ho1)) | ((with_reducible refine gate_dst (N := 13) rfl ?_); (try (refine gate_guard (by rfl) ?_; dsimp only)); refine box_event ?hg (N := 13) ?hd (cs := #[.slice none 0 0, .slice none 0 0]) (t := 35) ?hr ?_; (case hd => rfl); (case hg => rfl); (case hr => first | (go_simp; done) | (go_simp; rfl)); intro gb229 hg w28 hbox hb; replace HO_9 := Aside0.mk (Kd.R_below (zR_ HO_9.out) hb); replace HO215 := Aside0.mk (Kd.R_below (zR_ HO215.out) hb); replace HO218 := Aside0.mk (Kd.R_below (zR_ HO218.out) hb); replace HO223 := Aside0.mk (Kd.R_below (zR_ HO223.out) hb); replace HO226 := Aside0.mk (Kd.R_below (zR_ HO226.out) hb); have BK229 := Aside0.mk (hbox); have GW229 := Aside0.mk ((by rw [hg]; exact (below_size (zh1_ HB.out GE220.out)) : w.heap.size ≤ gb229)); have GE229 := Aside0.mk ((by rw [hg]; exact (below_size (zh1_ HB.out GE220.out)) : w.heap.size ≤ gb229)); replace HB := Aside0.mk (below_step (zh1_ HB.out GE220.out) hb); have NB220_229 := Aside0.mk ((by rw [hg]; exact Nat.ne_of_lt (blk_lt (zb_ BK220.out)) : gb220 ≠ gb229)); have NB229_220 := Aside0.mk ((by rw [hg]; exact Nat.ne_of_gt (blk_lt (zb_ BK220.out)) : gb229 ≠ gb220)); replace BK220 := Aside0.mk (blk_below (zb_ BK220.out) hb); clear hb hbox hg; obtain ⟨Ao29, co29, eo29⟩ := Kd.R_slice HO223.out; subst eo29; have hnb30 := NB229_220.out; have hnc30 := NB220_229.out; have hcz31_0 : w28.cell? ⟨gb229, 0, none⟩ = some (.slice none 0 0) := (blk_cell BK229.out 0).trans rfl; have hcz31_1 : w28.cell? ⟨gb229, 1, none⟩ = some (.slice none 0 0) := (blk_cell BK229.out 1).trans rfl; have hfz31_0 := blk_frozen BK229.out 0; have hfz31_1 := blk_frozen BK229.out 1; obtain ⟨Ao32, co32, eo32⟩ := Kd.R_slice HO226.out; subst eo32; obtain ⟨Ao33, co33, eo33⟩ := Kd.R_slice HO_9.out; subst eo33) | (go_at_call 7; refine calls_of_args (args' := #[.slice Ao33 t209.length co33, .slice A1 l1.length c1, encFn 11]) (by first | rfl | rfl) ?_; (with_reducible refine (stock_Lines.calls kj9 _ _ t209 _ _ l1 11 t230 t231 _ ?side1 ?side2 ?side3 ?side4 A20.out).mono ?_); (case side1 => refine (Kd.R_reads' (e := 43) (base := w.heap.size) (ok := fun k_ => True) (n := t209.length) (c := co33) ?_).2.2; exact (zr2_ HO_9.out BK229.out)); (case side2 => exact (Kd.R_reads' HO_9.out).2.1); (case side3 => exact Kd.C_below HR1.out (zh2_ HB.out GE220.out GE229.out)); (case side4 => exact HC1.out); rintro e w34 ⟨v232, rfl, ho0, hb⟩; replace HO215 := Aside0.mk (Kd.R_below (zr2_ HO215.out BK229.out) hb); replace HO218 := Aside0.mk (Kd.R_below (zr2_ HO218.out BK229.out) hb); replace HO223 := Aside0.mk (Kd.R_below (zr2_ HO223.out BK229.out) hb); replace HO226 := Aside0.mk (Kd.R_below (zr2_ HO226.out BK229.out) hb); have HO233 := Aside0.mk (Kd.R_lower (Kd.R_new' ho0 (Kd.R_lt (zr2_ HO_9.out BK229.out))) (below_size (zh2_ HB.out GE220.out GE229.out))); replace HO_9 := Aside0.mk (Kd.R_elder' (zr2_ HO_9.out BK229.out) (Kd.R_base ho0) hb); replace BK220 := Aside0.mk (blk_below (g := gb220) (o := .cells #[.slice Ao24 t213.length co24, .slice Ao26 t216.length co26] 35 (0, 0)) (zf_ NB220_229.out BK220.out) hb); replace BK229 := Aside0.mk (blk_below (g := gb229) (o := .cells #[.slice Ao29 t221.length co29, .slice Ao32 t224.length co32] 35 (0, 0)) (zp2_ BK229.out) hb); replace HB := Aside0.mk (below_step (zh2_ HB.out GE220.out GE229.out) hb); (try clear hb); (try clear ho0)))
       repeat (go_quiet (first | (go_at_call 9; (refine (ledger_Authorise.calls _ _ ([] : List (S47)) _ _ ([] : List (S69)) a2 t207 t213 t216 t219 _ ?side1 ?side2 ?side3 ?side4 A17.out).mono ?_); (case side1 => exact Kd.C_nil _ _); (case side2 => exact Nat.le_refl _); (case side3 => exact Kd.C_nil _ _); (case side4 => exact Nat.le_refl _); rintro e w22 ⟨v214, v217, rfl, ho0, ho1, hb⟩; replace HO_9 := Aside0.mk (Kd.R_below (zR_ HO_9.out) hb); have HO215 := Aside0.mk (Kd.R_lower ho0 (below_size (zh0_ HB.out))); have HO218 := Aside0.mk (Kd.R_lower ho1 (below_size (zh0_ HB.out))); replace HB := Aside0.mk (below_step (zh0_ HB.out) hb); (try clear hb); (try clear ho0); (try clear ho1)) | ((with_reducible refine gate_dst (N := 11) rfl ?_); (try (refine gate_guard (by rfl) ?_; dsimp only)); refine box_event ?hg (N := 11) ?hd (cs := #[.slice none 0 0, .slice none 0 0]) (t := 35) ?hr ?_; (case hd => rfl); (case hg => rfl); (case hr => first | (go_simp; done) | (go_simp; rfl)); intro gb220 hg w23 hbox hb; replace HO_9 := Aside0.mk (Kd.R_below (zR_ HO_9.out) hb); replace HO215 := Aside0.mk (Kd.R_below (zR_ HO215.out) hb); replace HO218 := Aside0.mk (Kd.R_below (zR_ HO218.out) hb); have BK220 := Aside0.mk (hbox); have GW220 := Aside0.mk ((by rw [hg]; exact (below_size (zh0_ HB.out)) : w.heap.size ≤ gb220)); have GE220 := Aside0.mk ((by rw [hg]; exact (below_size (zh0_ HB.out)) : w.heap.size ≤ gb220)); replace HB := Aside0.mk (below_step (zh0_ HB.out) hb); clear hb hbox hg; obtain ⟨Ao24, co24, eo24⟩ := Kd.R_slice HO215.out; subst eo24; have hcz25_0 : w23.cell? ⟨gb220, 0, none⟩ = some (.slice none 0 0) := (blk_cell BK220.out 0).trans rfl; have hcz25_1 : w23.cell? ⟨gb220, 1, none⟩ = some (.slice none 0 0) := (blk_cell BK220.out 1).trans rfl; have hfz25_0 := blk_frozen BK220.out 0; have hfz25_1 := blk_frozen BK220.out 1; obtain ⟨Ao26, co26, eo26⟩ := Kd.R_slice HO218.out; subst eo26) | (go_at_call 10; (with_reducible refine (ledger_Capture.calls _ _ t213 _ _ t216 a2 t221 t224 t227 t228 _ ?side1 ?side2 ?side3 ?side4 A19.out).mono ?_); (case side1 => refine (Kd.R_reads' (e := 47) (base := w.heap.size) (ok := fun k_ => True) (n := t213.length) (c := co24) ?_).2.2; exact (zr2_ HO215.out BK220.out)); (case side2 => exact (Kd.R_reads' HO215.out).2.1); (case side3 => refine (Kd.R_reads' (e := 69) (base := w.heap.size) (ok := fun k_ => True) (n := t216.length) (c := co26) ?_).2.2; exact (zr2_ HO218.out BK220.out)); (case side4 => exact (Kd.R_reads' HO218.out).2.1); rintro e w27 ⟨v222, v225, rfl, ho0, ho1, hb⟩; replace HO_9 := Aside0.mk (Kd.R_below (zr2_ HO_9.out BK220.out) hb); have HO223 := Aside0.mk (Kd.R_lower (Kd.R_new' ho0 (Kd.R_lt (zr2_ HO215.out BK220.out))) (below_size (zh1_ HB.out GE220.out))); replace HO215 := Aside0.mk (Kd.R_elder' (zr2_ HO215.out BK220.out) (Kd.R_base ho0) hb); have HO226 := Aside0.mk (Kd.R_lower (Kd.R_new' ho1 (Kd.R_lt (zr2_ HO218.out BK220.out))) (below_size (zh1_ HB.out GE220.out))); replace HO218 := Aside0.mk (Kd.R_elder' (zr2_ HO218.out BK220.out) (Kd.R_base ho1) hb); replace BK220 := Aside0.mk (blk_below (g := gb220) (o := .cells #[.slice Ao24 t213.length co24, .slice Ao26 t216.length co26] 35 (0, 0)) (zp2_ BK220.out) hb); replace HB := Aside0.mk (below_step (zh1_ HB.out GE220.out) hb); (try clear hb); (try clear ho0); (try clear ho1)) | ((with_reducible refine gate_dst (N := 13) rfl ?_); (try (refine gate_guard (by rfl) ?_; dsimp only)); refine box_event ?hg (N := 13) ?hd (cs := #[.slice none 0 0, .slice none 0 0]) (t := 35) ?hr ?_; (case hd => rfl); (case hg => rfl); (case hr => first | (go_simp; done) | (go_simp; rfl)); intro gb229 hg w28 hbox hb; replace HO_9 := Aside0.mk (Kd.R_below (zR_ HO_9.out) hb); replace HO215 := Aside0.mk (Kd.R_below (zR_ HO215.out) hb); replace HO218 := Aside0.mk (Kd.R_below (zR_ HO218.out) hb); replace HO223 := Aside0.mk (Kd.R_below (zR_ HO223.out) hb); replace HO226 := Aside0.mk (Kd.R_below (zR_ HO226.out) hb); have BK229 := Aside0.mk (hbox); have GW229 := Aside0.mk ((by rw [hg]; exact (below_size (zh1_ HB.out GE220.out)) : w.heap.size ≤ gb229)); have GE229 := Aside0.mk ((by rw [hg]; exact (below_size (zh1_ HB.out GE220.out)) : w.heap.size ≤ gb229)); replace HB := Aside0.mk (below_step (zh1_ HB.out GE220.out) hb); have NB220_229 := Aside0.mk ((by rw [hg]; exact Nat.ne_of_lt (blk_lt (zb_ BK220.out)) : gb220 ≠ gb229)); have NB229_220 := Aside0.mk ((by rw [hg]; exact Nat.ne_of_gt (blk_lt (zb_ BK220.out)) : gb229 ≠ gb220)); replace BK220 := Aside0.mk (blk_below (zb_ BK220.out) hb); clear hb hbox hg; obtain ⟨Ao29, co29, eo29⟩ := Kd.R_slice HO223.out; subst eo29; have hnb30 := NB229_220.out; have hnc30 := NB220_229.out; have hcz31_0 : w28.cell? ⟨gb229, 0, none⟩ = some (.slice none 0 0) := (blk_cell BK229.out 0).trans rfl; have hcz31_1 : w28.cell? ⟨gb229, 1, none⟩ = some (.slice none 0 0) := (blk_cell BK229.out 1).trans rfl; have hfz31_0 := blk_frozen BK229.out 0; have hfz31_1 := blk_frozen BK229.out 1; obtain ⟨Ao32, co32, eo32⟩ := Kd.R_slice HO226.out; subst eo32; obtain ⟨Ao33, co33, eo33⟩ := Kd.R_slice HO_9.out; subst eo33) | (go_at_call 7; refine calls_of_args (args' := #[.slice Ao33 t209.length co33, .slice A1 l1.length c1, encFn 11]) (by first | rfl | rfl) ?_; (with_reducible refine (stock_Lines.calls kj9 _ _ t209 _ _ l1 11 t230 t231 _ ?side1 ?side2 ?side3 ?side4 A20.out).mono ?_); (case side1 => refine (Kd.R_reads' (e := 43) (base := w.heap.size) (ok := fun k_ => True) (n := t209.length) (c := co33) ?_).2.2; exact (zr2_ HO_9.out BK229.out)); (case side2 => exact (Kd.R_reads' HO_9.out).2.1); (case side3 => exact Kd.C_below HR1.out (zh2_ HB.out GE220.out GE229.out)); (case side4 => exact HC1.out); rintro e w34 ⟨v232, rfl, ho0, hb⟩; replace HO215 := Aside0.mk (Kd.R_below (zr2_ HO215.out BK229.out) hb); replace HO218 := Aside0.mk (Kd.R_below (zr2_ HO218.out BK229.out) hb); replace HO223 := Aside0.mk (Kd.R_below (zr2_ HO223.out BK229.out) hb); replace HO226 := Aside0.mk (Kd.R_below (zr2_ HO226.out BK229.out) hb); have HO233 := Aside0.mk (Kd.R_lower (Kd.R_new' ho0 (Kd.R_lt (zr2_ HO_9.out BK229.out))) (below_size (zh2_ HB.out GE220.out GE229.out))); replace HO_9 := Aside0.mk (Kd.R_elder' (zr2_ HO_9.out BK229.out) (Kd.R_base ho0) hb); replace BK220 := Aside0.mk (blk_below (g := gb220) (o := .cells #[.slice Ao24 t213.length co24, .slice Ao26 t216.length co26] 35 (0, 0)) (zf_ NB220_229.out BK220.out) hb); replace BK229 := Aside0.mk (blk_below (g := gb229) (o := .cells #[.slice Ao29 t221.length co29, .slice Ao32 t224.length co32] 35 (0, 0)) (zp2_ BK229.out) hb); replace HB := Aside0.mk (below_step (zh2_ HB.out GE220.out GE229.out) hb); (try clear hb); (try clear ho0))); go_upto_region 14 with (first | (go_at_call 9; (refine (ledger_Authorise.calls _ _ ([] : List (S47)) _ _ ([] : List (S69)) a2 t207 t213 t216 t219 _ ?side1 ?side2 ?side3 ?side4 A17.out).mono ?_); (case side1 => exact Kd.C_nil _ _); (case side2 => exact Nat.le_refl _); (case side3 => exact Kd.C_nil _ _); (case side4 => exact Nat.le_refl _); rintro e w22 ⟨v214, v217, rfl, ho0, ho1, hb⟩; replace HO_9 := Aside0.mk (Kd.R_below (zR_ HO_9.out) hb); have HO215 := Aside0.mk (Kd.R_lower ho0 (below_size (zh0_ HB.out))); have HO218 := Aside0.mk (Kd.R_lower ho1 (below_size (zh0_ HB.out))); replace HB := Aside0.mk (below_step (zh0_ HB.out) hb); (try clear hb); (try clear ho0); (try clear ho1)) | ((with_reducible refine gate_dst (N := 11) rfl ?_); (try (refine gate_guard (by rfl) ?_; dsimp only)); refine box_event ?hg (N := 11) ?hd (cs := #[.slice none 0 0, .slice none 0 0]) (t := 35) ?hr ?_; (case hd => rfl); (case hg => rfl); (case hr => first | (go_simp; done) | (go_simp; rfl)); intro gb220 hg w23 hbox hb; replace HO_9 := Aside0.mk (Kd.R_below (zR_ HO_9.out) hb); replace HO215 := Aside0.mk (Kd.R_below (zR_ HO215.out) hb); replace HO218 := Aside0.mk (Kd.R_below (zR_ HO218.out) hb); have BK220 := Aside0.mk (hbox); have GW220 := Aside0.mk ((by rw [hg]; exact (below_size (zh0_ HB.out)) : w.heap.size ≤ gb220)); have GE220 := Aside0.mk ((by rw [hg]; exact (below_size (zh0_ HB.out)) : w.heap.size ≤ gb220)); replace HB := Aside0.mk (below_step (zh0_ HB.out) hb); clear hb hbox hg; obtain ⟨Ao24, co24, eo24⟩ := Kd.R_slice HO215.out; subst eo24; have hcz25_0 : w23.cell? ⟨gb220, 0, none⟩ = some (.slice none 0 0) := (blk_cell BK220.out 0).trans rfl; have hcz25_1 : w23.cell? ⟨gb220, 1, none⟩ = some (.slice none 0 0) := (blk_cell BK220.out 1).trans rfl; have hfz25_0 := blk_frozen BK220.out 0; have hfz25_1 := blk_frozen BK220.out 1; obtain ⟨Ao26, co26, eo26⟩ := Kd.R_slice HO218.out; subst eo26) | (go_at_call 10; (with_reducible refine (ledger_Capture.calls _ _ t213 _ _ t216 a2 t221 t224 t227 t228 _ ?side1 ?side2 ?side3 ?side4 A19.out).mono ?_); (case side1 => refine (Kd.R_reads' (e := 47) (base := w.heap.size) (ok := fun k_ => True) (n := t213.length) (c := co24) ?_).2.2; exact (zr2_ HO215.out BK220.out)); (case side2 => exact (Kd.R_reads' HO215.out).2.1); (case side3 => refine (Kd.R_reads' (e := 69) (base := w.heap.size) (ok := fun k_ => True) (n := t216.length) (c := co26) ?_).2.2; exact (zr2_ HO218.out BK220.out)); (case side4 => exact (Kd.R_reads' HO218.out).2.1); rintro e w27 ⟨v222, v225, rfl, ho0, ho1, hb⟩; replace HO_9 := Aside0.mk (Kd.R_below (zr2_ HO_9.out BK220.out) hb); have HO223 := Aside0.mk (Kd.R_lower (Kd.R_new' ho0 (Kd.R_lt (zr2_ HO215.out BK220.out))) (below_size (zh1_ HB.out GE220.out))); replace HO215 := Aside0.mk (Kd.R_elder' (zr2_ HO215.out BK220.out) (Kd.R_base ho0) hb); have HO226 := Aside0.mk (Kd.R_lower (Kd.R_new' ho1 (Kd.R_lt (zr2_ HO218.out BK220.out))) (below_size (zh1_ HB.out GE220.out))); replace HO218 := Aside0.mk (Kd.R_elder' (zr2_ HO218.out BK220.out) (Kd.R_base ho1) hb); replace BK220 := Aside0.mk (blk_below (g := gb220) (o := .cells #[.slice Ao24 t213.length co24, .slice Ao26 t216.length co26] 35 (0, 0)) (zp2_ BK220.out) hb); replace HB := Aside0.mk (below_step (zh1_ HB.out GE220.out) hb); (try clear hb); (try clear ho0); (try clear ho1)) | ((with_reducible refine gate_dst (N := 13) rfl ?_); (try (refine gate_guard (by rfl) ?_; dsimp only)); refine box_event ?hg (N := 13) ?hd (cs := #[.slice none 0 0, .slice none 0 0]) (t := 35) ?hr ?_; (case hd => rfl); (case hg => rfl); (case hr => first | (go_simp; done) | (go_simp; rfl)); intro gb229 hg w28 hbox hb; replace HO_9 := Aside0.mk (Kd.R_below (zR_ HO_9.out) hb); replace HO215 := Aside0.mk (Kd.R_below (zR_ HO215.out) hb); replace HO218 := Aside0.mk (Kd.R_below (zR_ HO218.out) hb); replace HO223 := Aside0.mk (Kd.R_below (zR_ HO223.out) hb); replace HO226 := Aside0.mk (Kd.R_below (zR_ HO226.out) hb); have BK229 := Aside0.mk (hbox); have GW229 := Aside0.mk ((by rw [hg]; exact (below_size (zh1_ HB.out GE220.out)) : w.heap.size ≤ gb229)); have GE229 := Aside0.mk ((by rw [hg]; exact (below_size (zh1_ HB.out GE220.out)) : w.heap.size ≤ gb229)); replace HB := Aside0.mk (below_step (zh1_ HB.out GE220.out) hb); have NB220_229 := Aside0.mk ((by rw [hg]; exact Nat.ne_of_lt (blk_lt (zb_ BK220.out)) : gb220 ≠ gb229)); have NB229_220 := Aside0.mk ((by rw [hg]; exact Nat.ne_of_gt (blk_lt (zb_ BK220.out)) : gb229 ≠ gb220)); replace BK220 := Aside0.mk (blk_below (zb_ BK220.out) hb); clear hb hbox hg; obtain ⟨Ao29, co29, eo29⟩ := Kd.R_slice HO223.out; subst eo29; have hnb30 := NB229_220.out; have hnc30 := NB220_229.out; have hcz31_0 : w28.cell? ⟨gb229, 0, none⟩ = some (.slice none 0 0) := (blk_cell BK229.out 0).trans rfl; have hcz31_1 : w28.cell? ⟨gb229, 1, none⟩ = some (.slice none 0 0) := (blk_cell BK229.out 1).trans rfl; have hfz31_0 := blk_frozen BK229.out 0; have hfz31_1 := blk_frozen BK229.out 1; obtain ⟨Ao32, co32, eo32⟩ := Kd.R_slice HO226.out; subst eo32; obtain ⟨Ao33, co33, eo33⟩ := Kd.R_slice HO_9.out; subst eo33) | (go_at_call 7; refine calls_of_args (args' := #[.slice Ao33 t209.length co33, .slice A1 l1.length c1, encFn 11]) (by first | rfl | rfl) ?_; (with_reducible refine (stock_Lines.calls kj9 _ _ t209 _ _ l1 11 t230 t231 _ ?side1 ?side2 ?side3 ?side4 A20.out).mono ?_); (case side1 => refine (Kd.R_reads' (e := 43) (base := w.heap.size) (ok := fun k_ => True) (n := t209.length) (c := co33) ?_).2.2; exact (zr2_ HO_9.out BK229.out)); (case side2 => exact (Kd.R_reads' HO_9.out).2.1); (case side3 => exact Kd.C_below HR1.out (zh2_ HB.out GE220.out GE229.out)); (case side4 => exact HC1.out); rintro e w34 ⟨v232, rfl, ho0, hb⟩; replace HO215 := Aside0.mk (Kd.R_below (zr2_ HO215.out BK229.out) hb); replace HO218 := Aside0.mk (Kd.R_below (zr2_ HO218.out BK229.out) hb); replace HO223 := Aside0.mk (Kd.R_below (zr2_ HO223.out BK229.out) hb); replace HO226 := Aside0.mk (Kd.R_below (zr2_ HO226.out BK229.out) hb); have HO233 := Aside0.mk (Kd.R_lower (Kd.R_new' ho0 (Kd.R_lt (zr2_ HO_9.out BK229.out))) (below_size (zh2_ HB.out GE220.out GE229.out))); replace HO_9 := Aside0.mk (Kd.R_elder' (zr2_ HO_9.out BK229.out) (Kd.R_base ho0) hb); replace BK220 := Aside0.mk (blk_below (g := gb220) (o := .cells #[.slice Ao24 t213.length co24, .slice Ao26 t216.length co26] 35 (0, 0)) (zf_ NB220_229.out BK220.out) hb); replace BK229 := Aside0.mk (blk_below (g := gb229) (o := .cells #[.slice Ao29 t221.length co29, .slice Ao32 t224.length co32] 35 (0, 0)) (zp2_ BK229.out) hb); replace HB := Aside0.mk (below_step (zh2_ HB.out GE220.out GE229.out) hb); (try clear hb); (try clear ho0))))
       (try simp only [Act.put, zt0, zt1, zt2])
       go_cut [104] (fun v104 wc => ∃ (kq : Nat) (x104_20 : Bool), v104 = .bool x104_20 ∧ Aside0 (ladingtop_TopSold.j1 kq l0 l1 a2 t207 t230 x104_20 t221 t224 = some r) ∧ Aside0 (kq ≤ kj9) ∧ Aside0 (Kd.R k43 43 wc w.heap.size (fun _ => True) v232 t230) ∧ Aside0 (Kd.R k47 47 wc w.heap.size (fun _ => True) (.slice Ao29 t221.length co29) t221) ∧ Aside0 (Kd.R k69 69 wc w.heap.size (fun _ => True) (.slice Ao32 t224.length co32) t224) ∧ Aside0 (wc.heap[gb229]? = some (.cells #[(.slice Ao29 t221.length co29), (.slice Ao32 t224.length co32)] 35 (0, 0))) ∧ Aside0 (Below w.heap.size w wc))
       case first =>
        have H := HC21.out
        clear HC21
        by_cases c35 : t228 = 0
        ·rw [if_pos c35] at H
         obtain ⟨c35b0, c35b1⟩ := zq1 c35
         clear c35
         (first | rw [c35b0] | (simp only [i64_w, i32_w]; rw [c35b0]) | skip)
         by_cases c36 : t227 = t207
         ·rw [if_pos c36] at H
          obtain ⟨c36b0, c36b1⟩ := zq1 c36
          clear c36
          have H' := Aside0.mk H
          clear H
          go_wp2
          repeat (go_quiet (fail); try go_wp2)
          go_meet
          case rel => exact ⟨_, ((t231 != 0)), (by first | rfl | (simp; done) | (simp [*]; done) | (simp only [i64_w]; done)), H', ⟨by have := HJ9.out; first | omega | exact Nat.le_refl _⟩, ⟨by (with_reducible repeat (first | apply Kd.R_alloc | apply Kd.R_drewN | apply Kd.R_drew)); exact Kd.R_mono HO233.out (fun _ hk => trivial)⟩, ⟨by (with_reducible repeat (first | apply Kd.R_alloc | apply Kd.R_drewN | apply Kd.R_drew)); exact Kd.R_mono HO223.out (fun _ hk => trivial)⟩, ⟨by (with_reducible repeat (first | apply Kd.R_alloc | apply Kd.R_drewN | apply Kd.R_drew)); exact Kd.R_mono HO226.out (fun _ hk => trivial)⟩, ⟨by (with_reducible repeat (first | refine blk_drewN ?_ _ | refine blk_drew ?_ | refine blk_alloc ?_ _)); exact BK229.out⟩, ⟨by exact zh2_ HB.out GE220.out GE229.out⟩⟩
         ·rw [if_neg c36] at H
          cases H
        ·rw [if_neg c35] at H
         cases H
       case rest =>
        clear HC21
        try clear c1
        try clear p2
        try clear c3
        try clear c5
        try clear c7
        try clear c7b0
        try clear c7b1
        try clear c15
        try clear c15b0
        try clear c15b1
        try clear c16
        try clear c18
        try clear c18b0
        try clear c18b1
        try clear c30
        try clear c35
        try clear c35b0
        try clear c35b1
        try clear c36
        try clear c36b0
        try clear c36b1
        try clear hcz25_0
        try clear hcz25_1
        try clear hcz31_0
        try clear hcz31_1
        try clear hfz25_0
        try clear hfz25_1
        try clear hfz31_0
        try clear hfz31_1
        try clear p2
        (try clear BK229)
        obtain ⟨kq, x104_20, rfl, HA, HJ20, HO_16, HO_230000, HO_230001, BK229, HB⟩ := hcut
        cases kq with
        | zero => exact absurd HA.out (by simp [ladingtop_TopSold.j1])
        | succ kj20 =>
         have H := HA.out
         clear HA
         simp only [ladingtop_TopSold.j1] at H
         by_cases c37 : x104_20 = true
         ·subst c37
          replace H := (if_pos (rfl : true = true)).symm.trans H
          cases H
         ·replace c37 := Bool.eq_false_iff.mpr c37
          subst c37
          replace H := (if_neg (show ¬ (false = true) by decide)).symm.trans H
          have H' := Aside0.mk H
          clear H
          go_wp2
          repeat (go_quiet (fail); try go_wp2)
          go_loopg [107] kj20 (fun kq v107 w' => ∃ (x107_3 : Int), v107 = .int .i64 x107_3 ∧ Aside0 (ladingtop_TopSold.l0 kq l0 l1 a2 t207 t230 l1 (l1.length : Int) x107_3 t221 t224 = some r) ∧ Aside0 (kq ≤ kj20) ∧ Aside0 (Kd.R k43 43 w' w.heap.size (fun _ => True) v232 t230) ∧ Aside0 (Kd.R k47 47 w' w.heap.size (fun _ => True) (.slice Ao29 t221.length co29) t221) ∧ Aside0 (Kd.R k69 69 w' w.heap.size (fun _ => True) (.slice Ao32 t224.length co32) t224) ∧ Aside0 (w'.heap[gb229]? = some (.cells #[(.slice Ao29 t221.length co29), (.slice Ao32 t224.length co32)] 35 (0, 0))) ∧ Aside0 (Below w.heap.size w w'))
          case atStart => exact ⟨(0), (by first | rfl | (simp; done) | (simp [*]; done) | (simp only [i64_w]; done)), H', ⟨Nat.le_refl _⟩, ⟨by (with_reducible repeat (first | apply Kd.R_alloc | apply Kd.R_drewN | apply Kd.R_drew)); exact HO_16.out⟩, ⟨by (with_reducible repeat (first | apply Kd.R_alloc | apply Kd.R_drewN | apply Kd.R_drew)); exact HO_230000.out⟩, ⟨by (with_reducible repeat (first | apply Kd.R_alloc | apply Kd.R_drewN | apply Kd.R_drew)); exact HO_230001.out⟩, ⟨by (with_reducible repeat (first | refine blk_drewN ?_ _ | refine blk_drew ?_ | refine blk_alloc ?_ _)); exact BK229.out⟩, ⟨by exact zh1_ HB.out GE229.out⟩⟩
          case round =>
           clear H'
           try clear c1
           try clear p2
           try clear c3
           try clear c5
           try clear c7
           try clear c7b0
           try clear c7b1
           try clear c15
           try clear c15b0
           try clear c15b1
           try clear c16
           try clear c18
           try clear c18b0
           try clear c18b1
           try clear c30
           try clear c35
           try clear c35b0
           try clear c35b1
           try clear c36
           try clear c36b0
           try clear c36b1
           try clear c37
           try clear hcz25_0
           try clear hcz25_1
           try clear hcz31_0
           try clear hcz31_1
           try clear hfz25_0
           try clear hfz25_1
           try clear hfz31_0
           try clear hfz31_1
           try clear p2
           (try clear BK229)
           obtain ⟨x107_3, rfl, HA, HK3, HO_16, HO_230000, HO_230001, BK229, HB⟩ := hrel
           cases gk with
           | zero => exact absurd HA.out (by simp [ladingtop_TopSold.l0])
           | succ k3 =>
            have H := HA.out
            clear HA
            simp only [ladingtop_TopSold.l0] at H
            by_cases c38 : x107_3 < (l1.length : Int)
            ·rw [if_pos c38] at H
             have c38b0 : decide (x107_3 < (l1.length : Int)) = true := decide_eq_true c38
             clear c38
             by_cases c39 : 0 ≤ x107_3
             ·rw [if_pos c39] at H
              have c39b0 : decide (0 ≤ x107_3) = true := decide_eq_true c39
              clear c39
              by_cases c40 : x107_3 < (l1.length : Int)
              ·rw [if_pos c40] at H
               have c40b0 : decide (x107_3 < (l1.length : Int)) = true := decide_eq_true c40
               clear c40
               obtain ⟨⟨t236, t237, t238, t239, t240, t241, t242⟩, A41, H⟩ := zm H
               (try dsimp only at H)
               obtain ⟨⟨t244, t245, t246, t247, t248, t249, t250⟩, A42, H⟩ := zm H
               (try dsimp only at H)
               have H' := Aside0.mk H
               clear H
               have p234 : 0 ≤ (x107_3 : Int) := of_decide_eq_true za_
               have q234 : x107_3 < (l1.length : Int) := of_decide_eq_true za_
               obtain ⟨ad234, e234, hx234_0, hx234_1, hx234_2, hx234_3⟩ := at_T41 HR1.out x107_3 p234 q234
               cases e234
               replace hx234_0 := zx_ HB.out hx234_0
               replace hx234_1 := zx_ HB.out hx234_1
               replace hx234_2 := zx_ HB.out hx234_2
               replace hx234_3 := zx_ HB.out hx234_3
               replace p234 := eq_true p234
               replace q234 := eq_true q234
               go_wp2_with (first | ((with_reducible refine gate_dst (N := 19) rfl ?_); (try (refine gate_guard (by rfl) ?_; dsimp only)); refine box_event ?hg (N := 19) ?hd (cs := #[.int .i64 0, .int .i64 0, .int .i64 0, .int .i64 0]) (t := 41) ?hr ?_; (case hd => rfl); (case hg => rfl); (case hr => first | (go_simp; done) | (go_simp; rfl)); intro gb235 hg w43 hbox hb; replace HO_16 := Aside0.mk (Kd.R_below (zR_ HO_16.out) hb); replace HO_230000 := Aside0.mk (Kd.R_below (zR_ HO_230000.out) hb); replace HO_230001 := Aside0.mk (Kd.R_below (zR_ HO_230001.out) hb); have BK235 := Aside0.mk (hbox); have GW235 := Aside0.mk ((by rw [hg]; exact (below_size (zh1_ HB.out GE229.out)) : w.heap.size ≤ gb235)); have GE235 := Aside0.mk ((by rw [hg]; exact (below_size (zh1_ HB.out GE229.out)) : w.heap.size ≤ gb235)); replace HB := Aside0.mk (below_step (zh1_ HB.out GE229.out) hb); have NB229_235 := Aside0.mk ((by rw [hg]; exact Nat.ne_of_lt (blk_lt (zb_ BK229.out)) : gb229 ≠ gb235)); have NB235_229 := Aside0.mk ((by rw [hg]; exact Nat.ne_of_gt (blk_lt (zb_ BK229.out)) : gb235 ≠ gb229)); replace BK229 := Aside0.mk (blk_below (zb_ BK229.out) hb); clear hb hbox hg; have hnb44 := NB235_229.out; have hnc44 := NB229_235.out; obtain ⟨hcz45_0, hcz45_1, hcz45_2, hcz45_3⟩ := zc4 BK235.out; obtain ⟨hfz45_0, hfz45_1, hfz45_2, hfz45_3⟩ := zz4 BK235.out) | (go_at_call 12; (with_reducible refine (stock_Cell.calls k3 _ _ l0 ((rd_T41 l1 x107_3).f0) ((rd_T41 l1 x107_3).f1) t236 t237 t238 t239 t240 t241 t242 _ ?side1 ?side2 A41.out).mono ?_); (case side1 => exact Kd.C_below HR0.out (zh2_ HB.out GE229.out GE235.out)); (case side2 => exact HC0.out); rintro e w46 ⟨rfl, hb⟩; replace HO_16 := Aside0.mk (Kd.R_below (by (with_reducible repeat (first | apply Kd.R_alloc | apply Kd.R_drewN | apply Kd.R_drew)); exact (Kd.R_mono (Kd.R_far (p := ⟨gb235, 3, none⟩) (Kd.R_far (p := ⟨gb235, 2, none⟩) (Kd.R_far (p := ⟨gb235, 1, none⟩) (Kd.R_far (p := ⟨gb235, 0, none⟩) (Kd.R_types HO_16.out BK235.out (by decide)) (fun _ hk => hk.2) (.int .i64 ((rd_T41 l1 x107_3).f0))) (fun _ hk => hk.2) (.int .i64 ((rd_T41 l1 x107_3).f1))) (fun _ hk => hk.2) (.int .i64 ((rd_T41 l1 x107_3).f2))) (fun _ hk => hk.2) (.int .i64 ((rd_T41 l1 x107_3).f3))) (fun _ h_ => h_.1))) hb); replace HO_230000 := Aside0.mk (Kd.R_below (by (with_reducible repeat (first | apply Kd.R_alloc | apply Kd.R_drewN | apply Kd.R_drew)); exact (Kd.R_mono (Kd.R_far (p := ⟨gb235, 3, none⟩) (Kd.R_far (p := ⟨gb235, 2, none⟩) (Kd.R_far (p := ⟨gb235, 1, none⟩) (Kd.R_far (p := ⟨gb235, 0, none⟩) (Kd.R_types HO_230000.out BK235.out (by decide)) (fun _ hk => hk.2) (.int .i64 ((rd_T41 l1 x107_3).f0))) (fun _ hk => hk.2) (.int .i64 ((rd_T41 l1 x107_3).f1))) (fun _ hk => hk.2) (.int .i64 ((rd_T41 l1 x107_3).f2))) (fun _ hk => hk.2) (.int .i64 ((rd_T41 l1 x107_3).f3))) (fun _ h_ => h_.1))) hb); replace HO_230001 := Aside0.mk (Kd.R_below (by (with_reducible repeat (first | apply Kd.R_alloc | apply Kd.R_drewN | apply Kd.R_drew)); exact (Kd.R_mono (Kd.R_far (p := ⟨gb235, 3, none⟩) (Kd.R_far (p := ⟨gb235, 2, none⟩) (Kd.R_far (p := ⟨gb235, 1, none⟩) (Kd.R_far (p := ⟨gb235, 0, none⟩) (Kd.R_types HO_230001.out BK235.out (by decide)) (fun _ hk => hk.2) (.int .i64 ((rd_T41 l1 x107_3).f0))) (fun _ hk => hk.2) (.int .i64 ((rd_T41 l1 x107_3).f1))) (fun _ hk => hk.2) (.int .i64 ((rd_T41 l1 x107_3).f2))) (fun _ hk => hk.2) (.int .i64 ((rd_T41 l1 x107_3).f3))) (fun _ h_ => h_.1))) hb); replace BK229 := Aside0.mk (blk_below (g := gb229) (o := .cells #[.slice Ao29 t221.length co29, .slice Ao32 t224.length co32] 35 (0, 0)) (zf_ NB229_235.out BK229.out) hb); replace BK235 := Aside0.mk (blk_below (g := gb235) (o := .cells #[.int .i64 ((rd_T41 l1 x107_3).f0), .int .i64 ((rd_T41 l1 x107_3).f1), .int .i64 ((rd_T41 l1 x107_3).f2), .int .i64 ((rd_T41 l1 x107_3).f3)] 41 (0, 0)) (zp_ BK235.out) hb); replace HB := Aside0.mk (below_step (zh2_ HB.out GE229.out GE235.out) hb); (try clear hb); (try clear hk)) | ((with_reducible refine gate_dst (N := 20) rfl ?_); (try (refine gate_guard (by rfl) ?_; dsimp only)); refine box_event ?hg (N := 20) ?hd (cs := #[.int .i64 0, .int .i64 0, .int .i64 0, .int .i64 0, .int .i64 0, .int .i64 0]) (t := 43) ?hr ?_; (case hd => rfl); (case hg => rfl); (case hr => first | (go_simp; done) | (go_simp; rfl)); intro gb243 hg w47 hbox hb; replace HO_16 := Aside0.mk (Kd.R_below (Kd.R_elderB (zR_ HO_16.out) gb243 (Nat.le_of_eq hg.symm)) hb); replace HO_230000 := Aside0.mk (Kd.R_below (zR_ HO_230000.out) hb); replace HO_230001 := Aside0.mk (Kd.R_below (zR_ HO_230001.out) hb); have BK243 := Aside0.mk (hbox); have GW243 := Aside0.mk ((by rw [hg]; exact (below_size (zh2_ HB.out GE229.out GE235.out)) : w.heap.size ≤ gb243)); have GE243 := Aside0.mk ((by rw [hg]; exact (below_size (zh2_ HB.out GE229.out GE235.out)) : w.heap.size ≤ gb243)); replace HB := Aside0.mk (below_step (zh2_ HB.out GE229.out GE235.out) hb); have NB229_243 := Aside0.mk ((by rw [hg]; exact Nat.ne_of_lt (blk_lt (zb_ BK229.out)) : gb229 ≠ gb243)); have NB243_229 := Aside0.mk ((by rw [hg]; exact Nat.ne_of_gt (blk_lt (zb_ BK229.out)) : gb243 ≠ gb229)); replace BK229 := Aside0.mk (blk_below (zb_ BK229.out) hb); have NB235_243 := Aside0.mk ((by rw [hg]; exact Nat.ne_of_lt (blk_lt (zb_ BK235.out)) : gb235 ≠ gb243)); have NB243_235 := Aside0.mk ((by rw [hg]; exact Nat.ne_of_gt (blk_lt (zb_ BK235.out)) : gb243 ≠ gb235)); replace BK235 := Aside0.mk (blk_below (zb_ BK235.out) hb); clear hb hbox hg; have hnb48 := NB243_229.out; have hnc48 := NB229_243.out; have hnb49 := NB243_235.out; have hnc49 := NB235_243.out; have hcz50_0 : w47.cell? ⟨gb243, 0, none⟩ = some (.int .i64 0) := (blk_cell BK243.out 0).trans rfl; have hcz50_1 : w47.cell? ⟨gb243, 1, none⟩ = some (.int .i64 0) := (blk_cell BK243.out 1).trans rfl; have hcz50_2 : w47.cell? ⟨gb243, 2, none⟩ = some (.int .i64 0) := (blk_cell BK243.out 2).trans rfl; have hcz50_3 : w47.cell? ⟨gb243, 3, none⟩ = some (.int .i64 0) := (blk_cell BK243.out 3).trans rfl; have hcz50_4 : w47.cell? ⟨gb243, 4, none⟩ = some (.int .i64 0) := (blk_cell BK243.out 4).trans rfl; have hcz50_5 : w47.cell? ⟨gb243, 5, none⟩ = some (.int .i64 0) := (blk_cell BK243.out 5).trans rfl; have hfz50_0 := blk_frozen BK243.out 0; have hfz50_1 := blk_frozen BK243.out 1; have hfz50_2 := blk_frozen BK243.out 2; have hfz50_3 := blk_frozen BK243.out 3; have hfz50_4 := blk_frozen BK243.out 4; have hfz50_5 := blk_frozen BK243.out 5; obtain ⟨hcz51_0, hcz51_1, hcz51_2, hcz51_3⟩ := zc4 BK235.out; obtain ⟨hfz51_0, hfz51_1, hfz51_2, hfz51_3⟩ := zz4 BK235.out; obtain ⟨Ao52, co52, eo52⟩ := Kd.R_slice HO_16.out; subst eo52) | (go_at_call 12; (with_reducible refine (stock_Cell.calls k3 _ _ t230 ((rd_T41 l1 x107_3).f0) ((rd_T41 l1 x107_3).f1) t244 t245 t246 t247 t248 t249 t250 _ ?side1 ?side2 A42.out).mono ?_); (case side1 => refine (Kd.R_reads' (e := 43) (base := w.heap.size) (ok := fun k_ => (True ∧ k_ ≠ gb243)) (n := t230.length) (c := co52) ?_).2.2; exact (by (with_reducible repeat (first | apply Kd.R_alloc | apply Kd.R_drewN | apply Kd.R_drew)); exact (Kd.R_mono (Kd.R_far (p := ⟨gb243, 5, none⟩) (Kd.R_far (p := ⟨gb243, 4, none⟩) (Kd.R_far (p := ⟨gb243, 3, none⟩) (Kd.R_far (p := ⟨gb243, 2, none⟩) (Kd.R_far (p := ⟨gb243, 1, none⟩) (Kd.R_far (p := ⟨gb243, 0, none⟩) (Kd.R_mono HO_16.out (fun k_ hk => (⟨hk, hk.2⟩ : _ ∧ k_ ≠ gb243))) (fun _ hk => hk.2) (.int .i64 t236)) (fun _ hk => hk.2) (.int .i64 t237)) (fun _ hk => hk.2) (.int .i64 t238)) (fun _ hk => hk.2) (.int .i64 t239)) (fun _ hk => hk.2) (.int .i64 t240)) (fun _ hk => hk.2) (.int .i64 t241)) (fun _ h_ => h_.1)))); (case side2 => exact (Kd.R_reads' HO_16.out).2.1); rintro e w53 ⟨rfl, hb⟩; replace HO_16 := Aside0.mk (Kd.R_below (by (with_reducible repeat (first | apply Kd.R_alloc | apply Kd.R_drewN | apply Kd.R_drew)); exact (Kd.R_mono (Kd.R_far (p := ⟨gb243, 5, none⟩) (Kd.R_far (p := ⟨gb243, 4, none⟩) (Kd.R_far (p := ⟨gb243, 3, none⟩) (Kd.R_far (p := ⟨gb243, 2, none⟩) (Kd.R_far (p := ⟨gb243, 1, none⟩) (Kd.R_far (p := ⟨gb243, 0, none⟩) (Kd.R_mono HO_16.out (fun k_ hk => (⟨hk, hk.2⟩ : _ ∧ k_ ≠ gb243))) (fun _ hk => hk.2) (.int .i64 t236)) (fun _ hk => hk.2) (.int .i64 t237)) (fun _ hk => hk.2) (.int .i64 t238)) (fun _ hk => hk.2) (.int .i64 t239)) (fun _ hk => hk.2) (.int .i64 t240)) (fun _ hk => hk.2) (.int .i64 t241)) (fun _ h_ => h_.1))) hb); replace HO_230000 := Aside0.mk (Kd.R_below (by (with_reducible repeat (first | apply Kd.R_alloc | apply Kd.R_drewN | apply Kd.R_drew)); exact (Kd.R_mono (Kd.R_far (p := ⟨gb243, 5, none⟩) (Kd.R_far (p := ⟨gb243, 4, none⟩) (Kd.R_far (p := ⟨gb243, 3, none⟩) (Kd.R_far (p := ⟨gb243, 2, none⟩) (Kd.R_far (p := ⟨gb243, 1, none⟩) (Kd.R_far (p := ⟨gb243, 0, none⟩) (Kd.R_types HO_230000.out BK243.out (by decide)) (fun _ hk => hk.2) (.int .i64 t236)) (fun _ hk => hk.2) (.int .i64 t237)) (fun _ hk => hk.2) (.int .i64 t238)) (fun _ hk => hk.2) (.int .i64 t239)) (fun _ hk => hk.2) (.int .i64 t240)) (fun _ hk => hk.2) (.int .i64 t241)) (fun _ h_ => h_.1))) hb); replace HO_230001 := Aside0.mk (Kd.R_below (by (with_reducible repeat (first | apply Kd.R_alloc | apply Kd.R_drewN | apply Kd.R_drew)); exact (Kd.R_mono (Kd.R_far (p := ⟨gb243, 5, none⟩) (Kd.R_far (p := ⟨gb243, 4, none⟩) (Kd.R_far (p := ⟨gb243, 3, none⟩) (Kd.R_far (p := ⟨gb243, 2, none⟩) (Kd.R_far (p := ⟨gb243, 1, none⟩) (Kd.R_far (p := ⟨gb243, 0, none⟩) (Kd.R_types HO_230001.out BK243.out (by decide)) (fun _ hk => hk.2) (.int .i64 t236)) (fun _ hk => hk.2) (.int .i64 t237)) (fun _ hk => hk.2) (.int .i64 t238)) (fun _ hk => hk.2) (.int .i64 t239)) (fun _ hk => hk.2) (.int .i64 t240)) (fun _ hk => hk.2) (.int .i64 t241)) (fun _ h_ => h_.1))) hb); replace BK229 := Aside0.mk (blk_below (g := gb229) (o := .cells #[.slice Ao29 t221.length co29, .slice Ao32 t224.length co32] 35 (0, 0)) (zf_ NB229_243.out BK229.out) hb); replace BK235 := Aside0.mk (blk_below (g := gb235) (o := .cells #[.int .i64 ((rd_T41 l1 x107_3).f0), .int .i64 ((rd_T41 l1 x107_3).f1), .int .i64 ((rd_T41 l1 x107_3).f2), .int .i64 ((rd_T41 l1 x107_3).f3)] 41 (0, 0)) (zf_ NB235_243.out BK235.out) hb); replace BK243 := Aside0.mk (blk_below (g := gb243) (o := .cells #[.int .i64 t236, .int .i64 t237, .int .i64 t238, .int .i64 t239, .int .i64 t240, .int .i64 t241] 43 (0, 0)) (by (with_reducible repeat (first | refine blk_drewN ?_ _ | refine blk_drew ?_ | refine blk_alloc ?_ _)); refine blk_put (cs := #[.int .i64 t236, .int .i64 t237, .int .i64 t238, .int .i64 t239, .int .i64 t240, .int .i64 0]) ?_ 5 _ (by first | rfl | (simp only [List.length_drop, List.length_take]; rfl)); (with_reducible repeat (first | refine blk_drewN ?_ _ | refine blk_drew ?_ | refine blk_alloc ?_ _)); refine blk_put (cs := #[.int .i64 t236, .int .i64 t237, .int .i64 t238, .int .i64 t239, .int .i64 0, .int .i64 0]) ?_ 4 _ (by first | rfl | (simp only [List.length_drop, List.length_take]; rfl)); (with_reducible repeat (first | refine blk_drewN ?_ _ | refine blk_drew ?_ | refine blk_alloc ?_ _)); refine blk_put (cs := #[.int .i64 t236, .int .i64 t237, .int .i64 t238, .int .i64 0, .int .i64 0, .int .i64 0]) ?_ 3 _ (by first | rfl | (simp only [List.length_drop, List.length_take]; rfl)); (with_reducible repeat (first | refine blk_drewN ?_ _ | refine blk_drew ?_ | refine blk_alloc ?_ _)); refine blk_put (cs := #[.int .i64 t236, .int .i64 t237, .int .i64 0, .int .i64 0, .int .i64 0, .int .i64 0]) ?_ 2 _ (by first | rfl | (simp only [List.length_drop, List.length_take]; rfl)); (with_reducible repeat (first | refine blk_drewN ?_ _ | refine blk_drew ?_ | refine blk_alloc ?_ _)); refine blk_put (cs := #[.int .i64 t236, .int .i64 0, .int .i64 0, .int .i64 0, .int .i64 0, .int .i64 0]) ?_ 1 _ (by first | rfl | (simp only [List.length_drop, List.length_take]; rfl)); (with_reducible repeat (first | refine blk_drewN ?_ _ | refine blk_drew ?_ | refine blk_alloc ?_ _)); refine blk_put (cs := #[.int .i64 0, .int .i64 0, .int .i64 0, .int .i64 0, .int .i64 0, .int .i64 0]) ?_ 0 _ (by first | rfl | (simp only [List.length_drop, List.length_take]; rfl)); (with_reducible repeat (first | refine blk_drewN ?_ _ | refine blk_drew ?_ | refine blk_alloc ?_ _)); exact BK243.out) hb); replace HB := Aside0.mk (below_step (zh3_ HB.out GE229.out GE235.out GE243.out) hb); (try clear hb); (try clear hk)) | ((with_reducible refine gate_dst (N := 22) rfl ?_); (try (refine gate_guard (by rfl) ?_; dsimp only)); refine box_event ?hg (N := 22) ?hd (cs := #[.int .i64 0, .int .i64 0, .int .i64 0, .int .i64 0, .int .i64 0, .int .i64 0]) (t := 43) ?hr ?_; (case hd => rfl); (case hg => rfl); (case hr => first | (go_simp; done) | (go_simp; rfl)); intro gb251 hg w54 hbox hb; replace HO_16 := Aside0.mk (Kd.R_below (Kd.R_elderB (zR_ HO_16.out) gb251 (Nat.le_of_eq hg.symm)) hb); replace HO_230000 := Aside0.mk (Kd.R_below (zR_ HO_230000.out) hb); replace HO_230001 := Aside0.mk (Kd.R_below (zR_ HO_230001.out) hb); have BK251 := Aside0.mk (hbox); have GW251 := Aside0.mk ((by rw [hg]; exact (below_size (zh3_ HB.out GE229.out GE235.out GE243.out)) : w.heap.size ≤ gb251)); have GE251 := Aside0.mk ((by rw [hg]; exact (below_size (zh3_ HB.out GE229.out GE235.out GE243.out)) : w.heap.size ≤ gb251)); replace HB := Aside0.mk (below_step (zh3_ HB.out GE229.out GE235.out GE243.out) hb); have NB229_251 := Aside0.mk ((by rw [hg]; exact Nat.ne_of_lt (blk_lt (zb_ BK229.out)) : gb229 ≠ gb251)); have NB251_229 := Aside0.mk ((by rw [hg]; exact Nat.ne_of_gt (blk_lt (zb_ BK229.out)) : gb251 ≠ gb229)); replace BK229 := Aside0.mk (blk_below (zb_ BK229.out) hb); have NB235_251 := Aside0.mk ((by rw [hg]; exact Nat.ne_of_lt (blk_lt (zb_ BK235.out)) : gb235 ≠ gb251)); have NB251_235 := Aside0.mk ((by rw [hg]; exact Nat.ne_of_gt (blk_lt (zb_ BK235.out)) : gb251 ≠ gb235)); replace BK235 := Aside0.mk (blk_below (zb_ BK235.out) hb); have NB243_251 := Aside0.mk ((by rw [hg]; exact Nat.ne_of_lt (blk_lt (zb_ BK243.out)) : gb243 ≠ gb251)); have NB251_243 := Aside0.mk ((by rw [hg]; exact Nat.ne_of_gt (blk_lt (zb_ BK243.out)) : gb251 ≠ gb243)); replace BK243 := Aside0.mk (blk_below (zb_ BK243.out) hb); clear hb hbox hg; have hnb55 := NB251_229.out; have hnc55 := NB229_251.out; have hnb56 := NB251_235.out; have hnc56 := NB235_251.out; have hnb57 := NB251_243.out; have hnc57 := NB243_251.out; have hcz58_0 : w54.cell? ⟨gb251, 0, none⟩ = some (.int .i64 0) := (blk_cell BK251.out 0).trans rfl; have hcz58_1 : w54.cell? ⟨gb251, 1, none⟩ = some (.int .i64 0) := (blk_cell BK251.out 1).trans rfl; have hcz58_2 : w54.cell? ⟨gb251, 2, none⟩ = some (.int .i64 0) := (blk_cell BK251.out 2).trans rfl; have hcz58_3 : w54.cell? ⟨gb251, 3, none⟩ = some (.int .i64 0) := (blk_cell BK251.out 3).trans rfl; have hcz58_4 : w54.cell? ⟨gb251, 4, none⟩ = some (.int .i64 0) := (blk_cell BK251.out 4).trans rfl; have hcz58_5 : w54.cell? ⟨gb251, 5, none⟩ = some (.int .i64 0) := (blk_cell BK251.out 5).trans rfl; have hfz58_0 := blk_frozen BK251.out 0; have hfz58_1 := blk_frozen BK251.out 1; have hfz58_2 := blk_frozen BK251.out 2; have hfz58_3 := blk_frozen BK251.out 3; have hfz58_4 := blk_frozen BK251.out 4; have hfz58_5 := blk_frozen BK251.out 5))
               repeat (go_quiet (first | ((with_reducible refine gate_dst (N := 19) rfl ?_); (try (refine gate_guard (by rfl) ?_; dsimp only)); refine box_event ?hg (N := 19) ?hd (cs := #[.int .i64 0, .int .i64 0, .int .i64 0, .int .i64 0]) (t := 41) ?hr ?_; (case hd => rfl); (case hg => rfl); (case hr => first | (go_simp; done) | (go_simp; rfl)); intro gb235 hg w43 hbox hb; replace HO_16 := Aside0.mk (Kd.R_below (zR_ HO_16.out) hb); replace HO_230000 := Aside0.mk (Kd.R_below (zR_ HO_230000.out) hb); replace HO_230001 := Aside0.mk (Kd.R_below (zR_ HO_230001.out) hb); have BK235 := Aside0.mk (hbox); have GW235 := Aside0.mk ((by rw [hg]; exact (below_size (zh1_ HB.out GE229.out)) : w.heap.size ≤ gb235)); have GE235 := Aside0.mk ((by rw [hg]; exact (below_size (zh1_ HB.out GE229.out)) : w.heap.size ≤ gb235)); replace HB := Aside0.mk (below_step (zh1_ HB.out GE229.out) hb); have NB229_235 := Aside0.mk ((by rw [hg]; exact Nat.ne_of_lt (blk_lt (zb_ BK229.out)) : gb229 ≠ gb235)); have NB235_229 := Aside0.mk ((by rw [hg]; exact Nat.ne_of_gt (blk_lt (zb_ BK229.out)) : gb235 ≠ gb229)); replace BK229 := Aside0.mk (blk_below (zb_ BK229.out) hb); clear hb hbox hg; have hnb44 := NB235_229.out; have hnc44 := NB229_235.out; obtain ⟨hcz45_0, hcz45_1, hcz45_2, hcz45_3⟩ := zc4 BK235.out; obtain ⟨hfz45_0, hfz45_1, hfz45_2, hfz45_3⟩ := zz4 BK235.out) | (go_at_call 12; (with_reducible refine (stock_Cell.calls k3 _ _ l0 ((rd_T41 l1 x107_3).f0) ((rd_T41 l1 x107_3).f1) t236 t237 t238 t239 t240 t241 t242 _ ?side1 ?side2 A41.out).mono ?_); (case side1 => exact Kd.C_below HR0.out (zh2_ HB.out GE229.out GE235.out)); (case side2 => exact HC0.out); rintro e w46 ⟨rfl, hb⟩; replace HO_16 := Aside0.mk (Kd.R_below (by (with_reducible repeat (first | apply Kd.R_alloc | apply Kd.R_drewN | apply Kd.R_drew)); exact (Kd.R_mono (Kd.R_far (p := ⟨gb235, 3, none⟩) (Kd.R_far (p := ⟨gb235, 2, none⟩) (Kd.R_far (p := ⟨gb235, 1, none⟩) (Kd.R_far (p := ⟨gb235, 0, none⟩) (Kd.R_types HO_16.out BK235.out (by decide)) (fun _ hk => hk.2) (.int .i64 ((rd_T41 l1 x107_3).f0))) (fun _ hk => hk.2) (.int .i64 ((rd_T41 l1 x107_3).f1))) (fun _ hk => hk.2) (.int .i64 ((rd_T41 l1 x107_3).f2))) (fun _ hk => hk.2) (.int .i64 ((rd_T41 l1 x107_3).f3))) (fun _ h_ => h_.1))) hb); replace HO_230000 := Aside0.mk (Kd.R_below (by (with_reducible repeat (first | apply Kd.R_alloc | apply Kd.R_drewN | apply Kd.R_drew)); exact (Kd.R_mono (Kd.R_far (p := ⟨gb235, 3, none⟩) (Kd.R_far (p := ⟨gb235, 2, none⟩) (Kd.R_far (p := ⟨gb235, 1, none⟩) (Kd.R_far (p := ⟨gb235, 0, none⟩) (Kd.R_types HO_230000.out BK235.out (by decide)) (fun _ hk => hk.2) (.int .i64 ((rd_T41 l1 x107_3).f0))) (fun _ hk => hk.2) (.int .i64 ((rd_T41 l1 x107_3).f1))) (fun _ hk => hk.2) (.int .i64 ((rd_T41 l1 x107_3).f2))) (fun _ hk => hk.2) (.int .i64 ((rd_T41 l1 x107_3).f3))) (fun _ h_ => h_.1))) hb); replace HO_230001 := Aside0.mk (Kd.R_below (by (with_reducible repeat (first | apply Kd.R_alloc | apply Kd.R_drewN | apply Kd.R_drew)); exact (Kd.R_mono (Kd.R_far (p := ⟨gb235, 3, none⟩) (Kd.R_far (p := ⟨gb235, 2, none⟩) (Kd.R_far (p := ⟨gb235, 1, none⟩) (Kd.R_far (p := ⟨gb235, 0, none⟩) (Kd.R_types HO_230001.out BK235.out (by decide)) (fun _ hk => hk.2) (.int .i64 ((rd_T41 l1 x107_3).f0))) (fun _ hk => hk.2) (.int .i64 ((rd_T41 l1 x107_3).f1))) (fun _ hk => hk.2) (.int .i64 ((rd_T41 l1 x107_3).f2))) (fun _ hk => hk.2) (.int .i64 ((rd_T41 l1 x107_3).f3))) (fun _ h_ => h_.1))) hb); replace BK229 := Aside0.mk (blk_below (g := gb229) (o := .cells #[.slice Ao29 t221.length co29, .slice Ao32 t224.length co32] 35 (0, 0)) (zf_ NB229_235.out BK229.out) hb); replace BK235 := Aside0.mk (blk_below (g := gb235) (o := .cells #[.int .i64 ((rd_T41 l1 x107_3).f0), .int .i64 ((rd_T41 l1 x107_3).f1), .int .i64 ((rd_T41 l1 x107_3).f2), .int .i64 ((rd_T41 l1 x107_3).f3)] 41 (0, 0)) (zp_ BK235.out) hb); replace HB := Aside0.mk (below_step (zh2_ HB.out GE229.out GE235.out) hb); (try clear hb); (try clear hk)) | ((with_reducible refine gate_dst (N := 20) rfl ?_); (try (refine gate_guard (by rfl) ?_; dsimp only)); refine box_event ?hg (N := 20) ?hd (cs := #[.int .i64 0, .int .i64 0, .int .i64 0, .int .i64 0, .int .i64 0, .int .i64 0]) (t := 43) ?hr ?_; (case hd => rfl); (case hg => rfl); (case hr => first | (go_simp; done) | (go_simp; rfl)); intro gb243 hg w47 hbox hb; replace HO_16 := Aside0.mk (Kd.R_below (Kd.R_elderB (zR_ HO_16.out) gb243 (Nat.le_of_eq hg.symm)) hb); replace HO_230000 := Aside0.mk (Kd.R_below (zR_ HO_230000.out) hb); replace HO_230001 := Aside0.mk (Kd.R_below (zR_ HO_230001.out) hb); have BK243 := Aside0.mk (hbox); have GW243 := Aside0.mk ((by rw [hg]; exact (below_size (zh2_ HB.out GE229.out GE235.out)) : w.heap.size ≤ gb243)); have GE243 := Aside0.mk ((by rw [hg]; exact (below_size (zh2_ HB.out GE229.out GE235.out)) : w.heap.size ≤ gb243)); replace HB := Aside0.mk (below_step (zh2_ HB.out GE229.out GE235.out) hb); have NB229_243 := Aside0.mk ((by rw [hg]; exact Nat.ne_of_lt (blk_lt (zb_ BK229.out)) : gb229 ≠ gb243)); have NB243_229 := Aside0.mk ((by rw [hg]; exact Nat.ne_of_gt (blk_lt (zb_ BK229.out)) : gb243 ≠ gb229)); replace BK229 := Aside0.mk (blk_below (zb_ BK229.out) hb); have NB235_243 := Aside0.mk ((by rw [hg]; exact Nat.ne_of_lt (blk_lt (zb_ BK235.out)) : gb235 ≠ gb243)); have NB243_235 := Aside0.mk ((by rw [hg]; exact Nat.ne_of_gt (blk_lt (zb_ BK235.out)) : gb243 ≠ gb235)); replace BK235 := Aside0.mk (blk_below (zb_ BK235.out) hb); clear hb hbox hg; have hnb48 := NB243_229.out; have hnc48 := NB229_243.out; have hnb49 := NB243_235.out; have hnc49 := NB235_243.out; have hcz50_0 : w47.cell? ⟨gb243, 0, none⟩ = some (.int .i64 0) := (blk_cell BK243.out 0).trans rfl; have hcz50_1 : w47.cell? ⟨gb243, 1, none⟩ = some (.int .i64 0) := (blk_cell BK243.out 1).trans rfl; have hcz50_2 : w47.cell? ⟨gb243, 2, none⟩ = some (.int .i64 0) := (blk_cell BK243.out 2).trans rfl; have hcz50_3 : w47.cell? ⟨gb243, 3, none⟩ = some (.int .i64 0) := (blk_cell BK243.out 3).trans rfl; have hcz50_4 : w47.cell? ⟨gb243, 4, none⟩ = some (.int .i64 0) := (blk_cell BK243.out 4).trans rfl; have hcz50_5 : w47.cell? ⟨gb243, 5, none⟩ = some (.int .i64 0) := (blk_cell BK243.out 5).trans rfl; have hfz50_0 := blk_frozen BK243.out 0; have hfz50_1 := blk_frozen BK243.out 1; have hfz50_2 := blk_frozen BK243.out 2; have hfz50_3 := blk_frozen BK243.out 3; have hfz50_4 := blk_frozen BK243.out 4; have hfz50_5 := blk_frozen BK243.out 5; obtain ⟨hcz51_0, hcz51_1, hcz51_2, hcz51_3⟩ := zc4 BK235.out; obtain ⟨hfz51_0, hfz51_1, hfz51_2, hfz51_3⟩ := zz4 BK235.out; obtain ⟨Ao52, co52, eo52⟩ := Kd.R_slice HO_16.out; subst eo52) | (go_at_call 12; (with_reducible refine (stock_Cell.calls k3 _ _ t230 ((rd_T41 l1 x107_3).f0) ((rd_T41 l1 x107_3).f1) t244 t245 t246 t247 t248 t249 t250 _ ?side1 ?side2 A42.out).mono ?_); (case side1 => refine (Kd.R_reads' (e := 43) (base := w.heap.size) (ok := fun k_ => (True ∧ k_ ≠ gb243)) (n := t230.length) (c := co52) ?_).2.2; exact (by (with_reducible repeat (first | apply Kd.R_alloc | apply Kd.R_drewN | apply Kd.R_drew)); exact (Kd.R_mono (Kd.R_far (p := ⟨gb243, 5, none⟩) (Kd.R_far (p := ⟨gb243, 4, none⟩) (Kd.R_far (p := ⟨gb243, 3, none⟩) (Kd.R_far (p := ⟨gb243, 2, none⟩) (Kd.R_far (p := ⟨gb243, 1, none⟩) (Kd.R_far (p := ⟨gb243, 0, none⟩) (Kd.R_mono HO_16.out (fun k_ hk => (⟨hk, hk.2⟩ : _ ∧ k_ ≠ gb243))) (fun _ hk => hk.2) (.int .i64 t236)) (fun _ hk => hk.2) (.int .i64 t237)) (fun _ hk => hk.2) (.int .i64 t238)) (fun _ hk => hk.2) (.int .i64 t239)) (fun _ hk => hk.2) (.int .i64 t240)) (fun _ hk => hk.2) (.int .i64 t241)) (fun _ h_ => h_.1)))); (case side2 => exact (Kd.R_reads' HO_16.out).2.1); rintro e w53 ⟨rfl, hb⟩; replace HO_16 := Aside0.mk (Kd.R_below (by (with_reducible repeat (first | apply Kd.R_alloc | apply Kd.R_drewN | apply Kd.R_drew)); exact (Kd.R_mono (Kd.R_far (p := ⟨gb243, 5, none⟩) (Kd.R_far (p := ⟨gb243, 4, none⟩) (Kd.R_far (p := ⟨gb243, 3, none⟩) (Kd.R_far (p := ⟨gb243, 2, none⟩) (Kd.R_far (p := ⟨gb243, 1, none⟩) (Kd.R_far (p := ⟨gb243, 0, none⟩) (Kd.R_mono HO_16.out (fun k_ hk => (⟨hk, hk.2⟩ : _ ∧ k_ ≠ gb243))) (fun _ hk => hk.2) (.int .i64 t236)) (fun _ hk => hk.2) (.int .i64 t237)) (fun _ hk => hk.2) (.int .i64 t238)) (fun _ hk => hk.2) (.int .i64 t239)) (fun _ hk => hk.2) (.int .i64 t240)) (fun _ hk => hk.2) (.int .i64 t241)) (fun _ h_ => h_.1))) hb); replace HO_230000 := Aside0.mk (Kd.R_below (by (with_reducible repeat (first | apply Kd.R_alloc | apply Kd.R_drewN | apply Kd.R_drew)); exact (Kd.R_mono (Kd.R_far (p := ⟨gb243, 5, none⟩) (Kd.R_far (p := ⟨gb243, 4, none⟩) (Kd.R_far (p := ⟨gb243, 3, none⟩) (Kd.R_far (p := ⟨gb243, 2, none⟩) (Kd.R_far (p := ⟨gb243, 1, none⟩) (Kd.R_far (p := ⟨gb243, 0, none⟩) (Kd.R_types HO_230000.out BK243.out (by decide)) (fun _ hk => hk.2) (.int .i64 t236)) (fun _ hk => hk.2) (.int .i64 t237)) (fun _ hk => hk.2) (.int .i64 t238)) (fun _ hk => hk.2) (.int .i64 t239)) (fun _ hk => hk.2) (.int .i64 t240)) (fun _ hk => hk.2) (.int .i64 t241)) (fun _ h_ => h_.1))) hb); replace HO_230001 := Aside0.mk (Kd.R_below (by (with_reducible repeat (first | apply Kd.R_alloc | apply Kd.R_drewN | apply Kd.R_drew)); exact (Kd.R_mono (Kd.R_far (p := ⟨gb243, 5, none⟩) (Kd.R_far (p := ⟨gb243, 4, none⟩) (Kd.R_far (p := ⟨gb243, 3, none⟩) (Kd.R_far (p := ⟨gb243, 2, none⟩) (Kd.R_far (p := ⟨gb243, 1, none⟩) (Kd.R_far (p := ⟨gb243, 0, none⟩) (Kd.R_types HO_230001.out BK243.out (by decide)) (fun _ hk => hk.2) (.int .i64 t236)) (fun _ hk => hk.2) (.int .i64 t237)) (fun _ hk => hk.2) (.int .i64 t238)) (fun _ hk => hk.2) (.int .i64 t239)) (fun _ hk => hk.2) (.int .i64 t240)) (fun _ hk => hk.2) (.int .i64 t241)) (fun _ h_ => h_.1))) hb); replace BK229 := Aside0.mk (blk_below (g := gb229) (o := .cells #[.slice Ao29 t221.length co29, .slice Ao32 t224.length co32] 35 (0, 0)) (zf_ NB229_243.out BK229.out) hb); replace BK235 := Aside0.mk (blk_below (g := gb235) (o := .cells #[.int .i64 ((rd_T41 l1 x107_3).f0), .int .i64 ((rd_T41 l1 x107_3).f1), .int .i64 ((rd_T41 l1 x107_3).f2), .int .i64 ((rd_T41 l1 x107_3).f3)] 41 (0, 0)) (zf_ NB235_243.out BK235.out) hb); replace BK243 := Aside0.mk (blk_below (g := gb243) (o := .cells #[.int .i64 t236, .int .i64 t237, .int .i64 t238, .int .i64 t239, .int .i64 t240, .int .i64 t241] 43 (0, 0)) (by (with_reducible repeat (first | refine blk_drewN ?_ _ | refine blk_drew ?_ | refine blk_alloc ?_ _)); refine blk_put (cs := #[.int .i64 t236, .int .i64 t237, .int .i64 t238, .int .i64 t239, .int .i64 t240, .int .i64 0]) ?_ 5 _ (by first | rfl | (simp only [List.length_drop, List.length_take]; rfl)); (with_reducible repeat (first | refine blk_drewN ?_ _ | refine blk_drew ?_ | refine blk_alloc ?_ _)); refine blk_put (cs := #[.int .i64 t236, .int .i64 t237, .int .i64 t238, .int .i64 t239, .int .i64 0, .int .i64 0]) ?_ 4 _ (by first | rfl | (simp only [List.length_drop, List.length_take]; rfl)); (with_reducible repeat (first | refine blk_drewN ?_ _ | refine blk_drew ?_ | refine blk_alloc ?_ _)); refine blk_put (cs := #[.int .i64 t236, .int .i64 t237, .int .i64 t238, .int .i64 0, .int .i64 0, .int .i64 0]) ?_ 3 _ (by first | rfl | (simp only [List.length_drop, List.length_take]; rfl)); (with_reducible repeat (first | refine blk_drewN ?_ _ | refine blk_drew ?_ | refine blk_alloc ?_ _)); refine blk_put (cs := #[.int .i64 t236, .int .i64 t237, .int .i64 0, .int .i64 0, .int .i64 0, .int .i64 0]) ?_ 2 _ (by first | rfl | (simp only [List.length_drop, List.length_take]; rfl)); (with_reducible repeat (first | refine blk_drewN ?_ _ | refine blk_drew ?_ | refine blk_alloc ?_ _)); refine blk_put (cs := #[.int .i64 t236, .int .i64 0, .int .i64 0, .int .i64 0, .int .i64 0, .int .i64 0]) ?_ 1 _ (by first | rfl | (simp only [List.length_drop, List.length_take]; rfl)); (with_reducible repeat (first | refine blk_drewN ?_ _ | refine blk_drew ?_ | refine blk_alloc ?_ _)); refine blk_put (cs := #[.int .i64 0, .int .i64 0, .int .i64 0, .int .i64 0, .int .i64 0, .int .i64 0]) ?_ 0 _ (by first | rfl | (simp only [List.length_drop, List.length_take]; rfl)); (with_reducible repeat (first | refine blk_drewN ?_ _ | refine blk_drew ?_ | refine blk_alloc ?_ _)); exact BK243.out) hb); replace HB := Aside0.mk (below_step (zh3_ HB.out GE229.out GE235.out GE243.out) hb); (try clear hb); (try clear hk)) | ((with_reducible refine gate_dst (N := 22) rfl ?_); (try (refine gate_guard (by rfl) ?_; dsimp only)); refine box_event ?hg (N := 22) ?hd (cs := #[.int .i64 0, .int .i64 0, .int .i64 0, .int .i64 0, .int .i64 0, .int .i64 0]) (t := 43) ?hr ?_; (case hd => rfl); (case hg => rfl); (case hr => first | (go_simp; done) | (go_simp; rfl)); intro gb251 hg w54 hbox hb; replace HO_16 := Aside0.mk (Kd.R_below (Kd.R_elderB (zR_ HO_16.out) gb251 (Nat.le_of_eq hg.symm)) hb); replace HO_230000 := Aside0.mk (Kd.R_below (zR_ HO_230000.out) hb); replace HO_230001 := Aside0.mk (Kd.R_below (zR_ HO_230001.out) hb); have BK251 := Aside0.mk (hbox); have GW251 := Aside0.mk ((by rw [hg]; exact (below_size (zh3_ HB.out GE229.out GE235.out GE243.out)) : w.heap.size ≤ gb251)); have GE251 := Aside0.mk ((by rw [hg]; exact (below_size (zh3_ HB.out GE229.out GE235.out GE243.out)) : w.heap.size ≤ gb251)); replace HB := Aside0.mk (below_step (zh3_ HB.out GE229.out GE235.out GE243.out) hb); have NB229_251 := Aside0.mk ((by rw [hg]; exact Nat.ne_of_lt (blk_lt (zb_ BK229.out)) : gb229 ≠ gb251)); have NB251_229 := Aside0.mk ((by rw [hg]; exact Nat.ne_of_gt (blk_lt (zb_ BK229.out)) : gb251 ≠ gb229)); replace BK229 := Aside0.mk (blk_below (zb_ BK229.out) hb); have NB235_251 := Aside0.mk ((by rw [hg]; exact Nat.ne_of_lt (blk_lt (zb_ BK235.out)) : gb235 ≠ gb251)); have NB251_235 := Aside0.mk ((by rw [hg]; exact Nat.ne_of_gt (blk_lt (zb_ BK235.out)) : gb251 ≠ gb235)); replace BK235 := Aside0.mk (blk_below (zb_ BK235.out) hb); have NB243_251 := Aside0.mk ((by rw [hg]; exact Nat.ne_of_lt (blk_lt (zb_ BK243.out)) : gb243 ≠ gb251)); have NB251_243 := Aside0.mk ((by rw [hg]; exact Nat.ne_of_gt (blk_lt (zb_ BK243.out)) : gb251 ≠ gb243)); replace BK243 := Aside0.mk (blk_below (zb_ BK243.out) hb); clear hb hbox hg; have hnb55 := NB251_229.out; have hnc55 := NB229_251.out; have hnb56 := NB251_235.out; have hnc56 := NB235_251.out; have hnb57 := NB251_243.out; have hnc57 := NB243_251.out; have hcz58_0 : w54.cell? ⟨gb251, 0, none⟩ = some (.int .i64 0) := (blk_cell BK251.out 0).trans rfl; have hcz58_1 : w54.cell? ⟨gb251, 1, none⟩ = some (.int .i64 0) := (blk_cell BK251.out 1).trans rfl; have hcz58_2 : w54.cell? ⟨gb251, 2, none⟩ = some (.int .i64 0) := (blk_cell BK251.out 2).trans rfl; have hcz58_3 : w54.cell? ⟨gb251, 3, none⟩ = some (.int .i64 0) := (blk_cell BK251.out 3).trans rfl; have hcz58_4 : w54.cell? ⟨gb251, 4, none⟩ = some (.int .i64 0) := (blk_cell BK251.out 4).trans rfl; have hcz58_5 : w54.cell? ⟨gb251, 5, none⟩ = some (.int .i64 0) := (blk_cell BK251.out 5).trans rfl; have hfz58_0 := blk_frozen BK251.out 0; have hfz58_1 := blk_frozen BK251.out 1; have hfz58_2 := blk_frozen BK251.out 2; have hfz58_3 := blk_frozen BK251.out 3; have hfz58_4 := blk_frozen BK251.out 4; have hfz58_5 := blk_frozen BK251.out 5)); try go_wp2_with (first | ((with_reducible refine gate_dst (N := 19) rfl ?_); (try (refine gate_guard (by rfl) ?_; dsimp only)); refine box_event ?hg (N := 19) ?hd (cs := #[.int .i64 0, .int .i64 0, .int .i64 0, .int .i64 0]) (t := 41) ?hr ?_; (case hd => rfl); (case hg => rfl); (case hr => first | (go_simp; done) | (go_simp; rfl)); intro gb235 hg w43 hbox hb; replace HO_16 := Aside0.mk (Kd.R_below (zR_ HO_16.out) hb); replace HO_230000 := Aside0.mk (Kd.R_below (zR_ HO_230000.out) hb); replace HO_230001 := Aside0.mk (Kd.R_below (zR_ HO_230001.out) hb); have BK235 := Aside0.mk (hbox); have GW235 := Aside0.mk ((by rw [hg]; exact (below_size (zh1_ HB.out GE229.out)) : w.heap.size ≤ gb235)); have GE235 := Aside0.mk ((by rw [hg]; exact (below_size (zh1_ HB.out GE229.out)) : w.heap.size ≤ gb235)); replace HB := Aside0.mk (below_step (zh1_ HB.out GE229.out) hb); have NB229_235 := Aside0.mk ((by rw [hg]; exact Nat.ne_of_lt (blk_lt (zb_ BK229.out)) : gb229 ≠ gb235)); have NB235_229 := Aside0.mk ((by rw [hg]; exact Nat.ne_of_gt (blk_lt (zb_ BK229.out)) : gb235 ≠ gb229)); replace BK229 := Aside0.mk (blk_below (zb_ BK229.out) hb); clear hb hbox hg; have hnb44 := NB235_229.out; have hnc44 := NB229_235.out; obtain ⟨hcz45_0, hcz45_1, hcz45_2, hcz45_3⟩ := zc4 BK235.out; obtain ⟨hfz45_0, hfz45_1, hfz45_2, hfz45_3⟩ := zz4 BK235.out) | (go_at_call 12; (with_reducible refine (stock_Cell.calls k3 _ _ l0 ((rd_T41 l1 x107_3).f0) ((rd_T41 l1 x107_3).f1) t236 t237 t238 t239 t240 t241 t242 _ ?side1 ?side2 A41.out).mono ?_); (case side1 => exact Kd.C_below HR0.out (zh2_ HB.out GE229.out GE235.out)); (case side2 => exact HC0.out); rintro e w46 ⟨rfl, hb⟩; replace HO_16 := Aside0.mk (Kd.R_below (by (with_reducible repeat (first | apply Kd.R_alloc | apply Kd.R_drewN | apply Kd.R_drew)); exact (Kd.R_mono (Kd.R_far (p := ⟨gb235, 3, none⟩) (Kd.R_far (p := ⟨gb235, 2, none⟩) (Kd.R_far (p := ⟨gb235, 1, none⟩) (Kd.R_far (p := ⟨gb235, 0, none⟩) (Kd.R_types HO_16.out BK235.out (by decide)) (fun _ hk => hk.2) (.int .i64 ((rd_T41 l1 x107_3).f0))) (fun _ hk => hk.2) (.int .i64 ((rd_T41 l1 x107_3).f1))) (fun _ hk => hk.2) (.int .i64 ((rd_T41 l1 x107_3).f2))) (fun _ hk => hk.2) (.int .i64 ((rd_T41 l1 x107_3).f3))) (fun _ h_ => h_.1))) hb); replace HO_230000 := Aside0.mk (Kd.R_below (by (with_reducible repeat (first | apply Kd.R_alloc | apply Kd.R_drewN | apply Kd.R_drew)); exact (Kd.R_mono (Kd.R_far (p := ⟨gb235, 3, none⟩) (Kd.R_far (p := ⟨gb235, 2, none⟩) (Kd.R_far (p := ⟨gb235, 1, none⟩) (Kd.R_far (p := ⟨gb235, 0, none⟩) (Kd.R_types HO_230000.out BK235.out (by decide)) (fun _ hk => hk.2) (.int .i64 ((rd_T41 l1 x107_3).f0))) (fun _ hk => hk.2) (.int .i64 ((rd_T41 l1 x107_3).f1))) (fun _ hk => hk.2) (.int .i64 ((rd_T41 l1 x107_3).f2))) (fun _ hk => hk.2) (.int .i64 ((rd_T41 l1 x107_3).f3))) (fun _ h_ => h_.1))) hb); replace HO_230001 := Aside0.mk (Kd.R_below (by (with_reducible repeat (first | apply Kd.R_alloc | apply Kd.R_drewN | apply Kd.R_drew)); exact (Kd.R_mono (Kd.R_far (p := ⟨gb235, 3, none⟩) (Kd.R_far (p := ⟨gb235, 2, none⟩) (Kd.R_far (p := ⟨gb235, 1, none⟩) (Kd.R_far (p := ⟨gb235, 0, none⟩) (Kd.R_types HO_230001.out BK235.out (by decide)) (fun _ hk => hk.2) (.int .i64 ((rd_T41 l1 x107_3).f0))) (fun _ hk => hk.2) (.int .i64 ((rd_T41 l1 x107_3).f1))) (fun _ hk => hk.2) (.int .i64 ((rd_T41 l1 x107_3).f2))) (fun _ hk => hk.2) (.int .i64 ((rd_T41 l1 x107_3).f3))) (fun _ h_ => h_.1))) hb); replace BK229 := Aside0.mk (blk_below (g := gb229) (o := .cells #[.slice Ao29 t221.length co29, .slice Ao32 t224.length co32] 35 (0, 0)) (zf_ NB229_235.out BK229.out) hb); replace BK235 := Aside0.mk (blk_below (g := gb235) (o := .cells #[.int .i64 ((rd_T41 l1 x107_3).f0), .int .i64 ((rd_T41 l1 x107_3).f1), .int .i64 ((rd_T41 l1 x107_3).f2), .int .i64 ((rd_T41 l1 x107_3).f3)] 41 (0, 0)) (zp_ BK235.out) hb); replace HB := Aside0.mk (below_step (zh2_ HB.out GE229.out GE235.out) hb); (try clear hb); (try clear hk)) | ((with_reducible refine gate_dst (N := 20) rfl ?_); (try (refine gate_guard (by rfl) ?_; dsimp only)); refine box_event ?hg (N := 20) ?hd (cs := #[.int .i64 0, .int .i64 0, .int .i64 0, .int .i64 0, .int .i64 0, .int .i64 0]) (t := 43) ?hr ?_; (case hd => rfl); (case hg => rfl); (case hr => first | (go_simp; done) | (go_simp; rfl)); intro gb243 hg w47 hbox hb; replace HO_16 := Aside0.mk (Kd.R_below (Kd.R_elderB (zR_ HO_16.out) gb243 (Nat.le_of_eq hg.symm)) hb); replace HO_230000 := Aside0.mk (Kd.R_below (zR_ HO_230000.out) hb); replace HO_230001 := Aside0.mk (Kd.R_below (zR_ HO_230001.out) hb); have BK243 := Aside0.mk (hbox); have GW243 := Aside0.mk ((by rw [hg]; exact (below_size (zh2_ HB.out GE229.out GE235.out)) : w.heap.size ≤ gb243)); have GE243 := Aside0.mk ((by rw [hg]; exact (below_size (zh2_ HB.out GE229.out GE235.out)) : w.heap.size ≤ gb243)); replace HB := Aside0.mk (below_step (zh2_ HB.out GE229.out GE235.out) hb); have NB229_243 := Aside0.mk ((by rw [hg]; exact Nat.ne_of_lt (blk_lt (zb_ BK229.out)) : gb229 ≠ gb243)); have NB243_229 := Aside0.mk ((by rw [hg]; exact Nat.ne_of_gt (blk_lt (zb_ BK229.out)) : gb243 ≠ gb229)); replace BK229 := Aside0.mk (blk_below (zb_ BK229.out) hb); have NB235_243 := Aside0.mk ((by rw [hg]; exact Nat.ne_of_lt (blk_lt (zb_ BK235.out)) : gb235 ≠ gb243)); have NB243_235 := Aside0.mk ((by rw [hg]; exact Nat.ne_of_gt (blk_lt (zb_ BK235.out)) : gb243 ≠ gb235)); replace BK235 := Aside0.mk (blk_below (zb_ BK235.out) hb); clear hb hbox hg; have hnb48 := NB243_229.out; have hnc48 := NB229_243.out; have hnb49 := NB243_235.out; have hnc49 := NB235_243.out; have hcz50_0 : w47.cell? ⟨gb243, 0, none⟩ = some (.int .i64 0) := (blk_cell BK243.out 0).trans rfl; have hcz50_1 : w47.cell? ⟨gb243, 1, none⟩ = some (.int .i64 0) := (blk_cell BK243.out 1).trans rfl; have hcz50_2 : w47.cell? ⟨gb243, 2, none⟩ = some (.int .i64 0) := (blk_cell BK243.out 2).trans rfl; have hcz50_3 : w47.cell? ⟨gb243, 3, none⟩ = some (.int .i64 0) := (blk_cell BK243.out 3).trans rfl; have hcz50_4 : w47.cell? ⟨gb243, 4, none⟩ = some (.int .i64 0) := (blk_cell BK243.out 4).trans rfl; have hcz50_5 : w47.cell? ⟨gb243, 5, none⟩ = some (.int .i64 0) := (blk_cell BK243.out 5).trans rfl; have hfz50_0 := blk_frozen BK243.out 0; have hfz50_1 := blk_frozen BK243.out 1; have hfz50_2 := blk_frozen BK243.out 2; have hfz50_3 := blk_frozen BK243.out 3; have hfz50_4 := blk_frozen BK243.out 4; have hfz50_5 := blk_frozen BK243.out 5; obtain ⟨hcz51_0, hcz51_1, hcz51_2, hcz51_3⟩ := zc4 BK235.out; obtain ⟨hfz51_0, hfz51_1, hfz51_2, hfz51_3⟩ := zz4 BK235.out; obtain ⟨Ao52, co52, eo52⟩ := Kd.R_slice HO_16.out; subst eo52) | (go_at_call 12; (with_reducible refine (stock_Cell.calls k3 _ _ t230 ((rd_T41 l1 x107_3).f0) ((rd_T41 l1 x107_3).f1) t244 t245 t246 t247 t248 t249 t250 _ ?side1 ?side2 A42.out).mono ?_); (case side1 => refine (Kd.R_reads' (e := 43) (base := w.heap.size) (ok := fun k_ => (True ∧ k_ ≠ gb243)) (n := t230.length) (c := co52) ?_).2.2; exact (by (with_reducible repeat (first | apply Kd.R_alloc | apply Kd.R_drewN | apply Kd.R_drew)); exact (Kd.R_mono (Kd.R_far (p := ⟨gb243, 5, none⟩) (Kd.R_far (p := ⟨gb243, 4, none⟩) (Kd.R_far (p := ⟨gb243, 3, none⟩) (Kd.R_far (p := ⟨gb243, 2, none⟩) (Kd.R_far (p := ⟨gb243, 1, none⟩) (Kd.R_far (p := ⟨gb243, 0, none⟩) (Kd.R_mono HO_16.out (fun k_ hk => (⟨hk, hk.2⟩ : _ ∧ k_ ≠ gb243))) (fun _ hk => hk.2) (.int .i64 t236)) (fun _ hk => hk.2) (.int .i64 t237)) (fun _ hk => hk.2) (.int .i64 t238)) (fun _ hk => hk.2) (.int .i64 t239)) (fun _ hk => hk.2) (.int .i64 t240)) (fun _ hk => hk.2) (.int .i64 t241)) (fun _ h_ => h_.1)))); (case side2 => exact (Kd.R_reads' HO_16.out).2.1); rintro e w53 ⟨rfl, hb⟩; replace HO_16 := Aside0.mk (Kd.R_below (by (with_reducible repeat (first | apply Kd.R_alloc | apply Kd.R_drewN | apply Kd.R_drew)); exact (Kd.R_mono (Kd.R_far (p := ⟨gb243, 5, none⟩) (Kd.R_far (p := ⟨gb243, 4, none⟩) (Kd.R_far (p := ⟨gb243, 3, none⟩) (Kd.R_far (p := ⟨gb243, 2, none⟩) (Kd.R_far (p := ⟨gb243, 1, none⟩) (Kd.R_far (p := ⟨gb243, 0, none⟩) (Kd.R_mono HO_16.out (fun k_ hk => (⟨hk, hk.2⟩ : _ ∧ k_ ≠ gb243))) (fun _ hk => hk.2) (.int .i64 t236)) (fun _ hk => hk.2) (.int .i64 t237)) (fun _ hk => hk.2) (.int .i64 t238)) (fun _ hk => hk.2) (.int .i64 t239)) (fun _ hk => hk.2) (.int .i64 t240)) (fun _ hk => hk.2) (.int .i64 t241)) (fun _ h_ => h_.1))) hb); replace HO_230000 := Aside0.mk (Kd.R_below (by (with_reducible repeat (first | apply Kd.R_alloc | apply Kd.R_drewN | apply Kd.R_drew)); exact (Kd.R_mono (Kd.R_far (p := ⟨gb243, 5, none⟩) (Kd.R_far (p := ⟨gb243, 4, none⟩) (Kd.R_far (p := ⟨gb243, 3, none⟩) (Kd.R_far (p := ⟨gb243, 2, none⟩) (Kd.R_far (p := ⟨gb243, 1, none⟩) (Kd.R_far (p := ⟨gb243, 0, none⟩) (Kd.R_types HO_230000.out BK243.out (by decide)) (fun _ hk => hk.2) (.int .i64 t236)) (fun _ hk => hk.2) (.int .i64 t237)) (fun _ hk => hk.2) (.int .i64 t238)) (fun _ hk => hk.2) (.int .i64 t239)) (fun _ hk => hk.2) (.int .i64 t240)) (fun _ hk => hk.2) (.int .i64 t241)) (fun _ h_ => h_.1))) hb); replace HO_230001 := Aside0.mk (Kd.R_below (by (with_reducible repeat (first | apply Kd.R_alloc | apply Kd.R_drewN | apply Kd.R_drew)); exact (Kd.R_mono (Kd.R_far (p := ⟨gb243, 5, none⟩) (Kd.R_far (p := ⟨gb243, 4, none⟩) (Kd.R_far (p := ⟨gb243, 3, none⟩) (Kd.R_far (p := ⟨gb243, 2, none⟩) (Kd.R_far (p := ⟨gb243, 1, none⟩) (Kd.R_far (p := ⟨gb243, 0, none⟩) (Kd.R_types HO_230001.out BK243.out (by decide)) (fun _ hk => hk.2) (.int .i64 t236)) (fun _ hk => hk.2) (.int .i64 t237)) (fun _ hk => hk.2) (.int .i64 t238)) (fun _ hk => hk.2) (.int .i64 t239)) (fun _ hk => hk.2) (.int .i64 t240)) (fun _ hk => hk.2) (.int .i64 t241)) (fun _ h_ => h_.1))) hb); replace BK229 := Aside0.mk (blk_below (g := gb229) (o := .cells #[.slice Ao29 t221.length co29, .slice Ao32 t224.length co32] 35 (0, 0)) (zf_ NB229_243.out BK229.out) hb); replace BK235 := Aside0.mk (blk_below (g := gb235) (o := .cells #[.int .i64 ((rd_T41 l1 x107_3).f0), .int .i64 ((rd_T41 l1 x107_3).f1), .int .i64 ((rd_T41 l1 x107_3).f2), .int .i64 ((rd_T41 l1 x107_3).f3)] 41 (0, 0)) (zf_ NB235_243.out BK235.out) hb); replace BK243 := Aside0.mk (blk_below (g := gb243) (o := .cells #[.int .i64 t236, .int .i64 t237, .int .i64 t238, .int .i64 t239, .int .i64 t240, .int .i64 t241] 43 (0, 0)) (by (with_reducible repeat (first | refine blk_drewN ?_ _ | refine blk_drew ?_ | refine blk_alloc ?_ _)); refine blk_put (cs := #[.int .i64 t236, .int .i64 t237, .int .i64 t238, .int .i64 t239, .int .i64 t240, .int .i64 0]) ?_ 5 _ (by first | rfl | (simp only [List.length_drop, List.length_take]; rfl)); (with_reducible repeat (first | refine blk_drewN ?_ _ | refine blk_drew ?_ | refine blk_alloc ?_ _)); refine blk_put (cs := #[.int .i64 t236, .int .i64 t237, .int .i64 t238, .int .i64 t239, .int .i64 0, .int .i64 0]) ?_ 4 _ (by first | rfl | (simp only [List.length_drop, List.length_take]; rfl)); (with_reducible repeat (first | refine blk_drewN ?_ _ | refine blk_drew ?_ | refine blk_alloc ?_ _)); refine blk_put (cs := #[.int .i64 t236, .int .i64 t237, .int .i64 t238, .int .i64 0, .int .i64 0, .int .i64 0]) ?_ 3 _ (by first | rfl | (simp only [List.length_drop, List.length_take]; rfl)); (with_reducible repeat (first | refine blk_drewN ?_ _ | refine blk_drew ?_ | refine blk_alloc ?_ _)); refine blk_put (cs := #[.int .i64 t236, .int .i64 t237, .int .i64 0, .int .i64 0, .int .i64 0, .int .i64 0]) ?_ 2 _ (by first | rfl | (simp only [List.length_drop, List.length_take]; rfl)); (with_reducible repeat (first | refine blk_drewN ?_ _ | refine blk_drew ?_ | refine blk_alloc ?_ _)); refine blk_put (cs := #[.int .i64 t236, .int .i64 0, .int .i64 0, .int .i64 0, .int .i64 0, .int .i64 0]) ?_ 1 _ (by first | rfl | (simp only [List.length_drop, List.length_take]; rfl)); (with_reducible repeat (first | refine blk_drewN ?_ _ | refine blk_drew ?_ | refine blk_alloc ?_ _)); refine blk_put (cs := #[.int .i64 0, .int .i64 0, .int .i64 0, .int .i64 0, .int .i64 0, .int .i64 0]) ?_ 0 _ (by first | rfl | (simp only [List.length_drop, List.length_take]; rfl)); (with_reducible repeat (first | refine blk_drewN ?_ _ | refine blk_drew ?_ | refine blk_alloc ?_ _)); exact BK243.out) hb); replace HB := Aside0.mk (below_step (zh3_ HB.out GE229.out GE235.out GE243.out) hb); (try clear hb); (try clear hk)) | ((with_reducible refine gate_dst (N := 22) rfl ?_); (try (refine gate_guard (by rfl) ?_; dsimp only)); refine box_event ?hg (N := 22) ?hd (cs := #[.int .i64 0, .int .i64 0, .int .i64 0, .int .i64 0, .int .i64 0, .int .i64 0]) (t := 43) ?hr ?_; (case hd => rfl); (case hg => rfl); (case hr => first | (go_simp; done) | (go_simp; rfl)); intro gb251 hg w54 hbox hb; replace HO_16 := Aside0.mk (Kd.R_below (Kd.R_elderB (zR_ HO_16.out) gb251 (Nat.le_of_eq hg.symm)) hb); replace HO_230000 := Aside0.mk (Kd.R_below (zR_ HO_230000.out) hb); replace HO_230001 := Aside0.mk (Kd.R_below (zR_ HO_230001.out) hb); have BK251 := Aside0.mk (hbox); have GW251 := Aside0.mk ((by rw [hg]; exact (below_size (zh3_ HB.out GE229.out GE235.out GE243.out)) : w.heap.size ≤ gb251)); have GE251 := Aside0.mk ((by rw [hg]; exact (below_size (zh3_ HB.out GE229.out GE235.out GE243.out)) : w.heap.size ≤ gb251)); replace HB := Aside0.mk (below_step (zh3_ HB.out GE229.out GE235.out GE243.out) hb); have NB229_251 := Aside0.mk ((by rw [hg]; exact Nat.ne_of_lt (blk_lt (zb_ BK229.out)) : gb229 ≠ gb251)); have NB251_229 := Aside0.mk ((by rw [hg]; exact Nat.ne_of_gt (blk_lt (zb_ BK229.out)) : gb251 ≠ gb229)); replace BK229 := Aside0.mk (blk_below (zb_ BK229.out) hb); have NB235_251 := Aside0.mk ((by rw [hg]; exact Nat.ne_of_lt (blk_lt (zb_ BK235.out)) : gb235 ≠ gb251)); have NB251_235 := Aside0.mk ((by rw [hg]; exact Nat.ne_of_gt (blk_lt (zb_ BK235.out)) : gb251 ≠ gb235)); replace BK235 := Aside0.mk (blk_below (zb_ BK235.out) hb); have NB243_251 := Aside0.mk ((by rw [hg]; exact Nat.ne_of_lt (blk_lt (zb_ BK243.out)) : gb243 ≠ gb251)); have NB251_243 := Aside0.mk ((by rw [hg]; exact Nat.ne_of_gt (blk_lt (zb_ BK243.out)) : gb251 ≠ gb243)); replace BK243 := Aside0.mk (blk_below (zb_ BK243.out) hb); clear hb hbox hg; have hnb55 := NB251_229.out; have hnc55 := NB229_251.out; have hnb56 := NB251_235.out; have hnc56 := NB235_251.out; have hnb57 := NB251_243.out; have hnc57 := NB243_251.out; have hcz58_0 : w54.cell? ⟨gb251, 0, none⟩ = some (.int .i64 0) := (blk_cell BK251.out 0).trans rfl; have hcz58_1 : w54.cell? ⟨gb251, 1, none⟩ = some (.int .i64 0) := (blk_cell BK251.out 1).trans rfl; have hcz58_2 : w54.cell? ⟨gb251, 2, none⟩ = some (.int .i64 0) := (blk_cell BK251.out 2).trans rfl; have hcz58_3 : w54.cell? ⟨gb251, 3, none⟩ = some (.int .i64 0) := (blk_cell BK251.out 3).trans rfl; have hcz58_4 : w54.cell? ⟨gb251, 4, none⟩ = some (.int .i64 0) := (blk_cell BK251.out 4).trans rfl; have hcz58_5 : w54.cell? ⟨gb251, 5, none⟩ = some (.int .i64 0) := (blk_cell BK251.out 5).trans rfl; have hfz58_0 := blk_frozen BK251.out 0; have hfz58_1 := blk_frozen BK251.out 1; have hfz58_2 := blk_frozen BK251.out 2; have hfz58_3 := blk_frozen BK251.out 3; have hfz58_4 := blk_frozen BK251.out 4; have hfz58_5 := blk_frozen BK251.out 5)))
               go_loopg [24, 131] k3 (fun kq v24 v131 w' => ∃ (x24_4 : Int) (x131_4 : Int), v24 = .int .i64 x24_4 ∧ v131 = .int .i64 x131_4 ∧ Aside0 (ladingtop_TopSold.l1 kq l0 l1 a2 t207 t230 x24_4 l1 (l1.length : Int) x107_3 l1 (l1.length : Int) x131_4 t221 t224 ((rd_T41 l1 x107_3).f0) ((rd_T41 l1 x107_3).f1) ((rd_T41 l1 x107_3).f2) ((rd_T41 l1 x107_3).f3) t236 t237 t238 t239 t240 t241 t244 t245 t246 t247 t248 t249 = some r) ∧ Aside0 (kq ≤ k3) ∧ Aside0 (Kd.R k43 43 w' w.heap.size (fun k_ => k_ ≠ gb243 ∧ k_ ≠ gb251) (.slice Ao52 t230.length co52) t230) ∧ Aside0 (Kd.R k47 47 w' w.heap.size (fun _ => True) (.slice Ao29 t221.length co29) t221) ∧ Aside0 (Kd.R k69 69 w' w.heap.size (fun _ => True) (.slice Ao32 t224.length co32) t224) ∧ Aside0 (w'.heap[gb229]? = some (.cells #[(.slice Ao29 t221.length co29), (.slice Ao32 t224.length co32)] 35 (0, 0))) ∧ Aside0 (w'.heap[gb235]? = some (.cells #[.int .i64 ((rd_T41 l1 x107_3).f0), .int .i64 ((rd_T41 l1 x107_3).f1), .int .i64 ((rd_T41 l1 x107_3).f2), .int .i64 ((rd_T41 l1 x107_3).f3)] 41 (0, 0))) ∧ Aside0 (w'.heap[gb243]? = some (.cells #[.int .i64 t236, .int .i64 t237, .int .i64 t238, .int .i64 t239, .int .i64 t240, .int .i64 t241] 43 (0, 0))) ∧ Aside0 (w'.heap[gb251]? = some (.cells #[.int .i64 t244, .int .i64 t245, .int .i64 t246, .int .i64 t247, .int .i64 t248, .int .i64 t249] 43 (0, 0))) ∧ Aside0 (Below w.heap.size w w'))
               case atStart => exact ⟨(0), (0), (by first | rfl | (simp; done) | (simp [*]; done) | (simp only [i64_w]; done)), (by first | rfl | (simp; done) | (simp [*]; done) | (simp only [i64_w]; done)), H', ⟨Nat.le_refl _⟩, ⟨by (with_reducible repeat (first | apply Kd.R_alloc | apply Kd.R_drewN | apply Kd.R_drew)); exact Kd.R_mono (Kd.R_far (p := ⟨gb251, 5, none⟩) (Kd.R_far (p := ⟨gb251, 4, none⟩) (Kd.R_far (p := ⟨gb251, 3, none⟩) (Kd.R_far (p := ⟨gb251, 2, none⟩) (Kd.R_far (p := ⟨gb251, 1, none⟩) (Kd.R_far (p := ⟨gb251, 0, none⟩) (Kd.R_mono HO_16.out (fun k_ hk => (⟨hk, hk.2⟩ : _ ∧ k_ ≠ gb251))) (fun _ hk => hk.2) (.int .i64 t244)) (fun _ hk => hk.2) (.int .i64 t245)) (fun _ hk => hk.2) (.int .i64 t246)) (fun _ hk => hk.2) (.int .i64 t247)) (fun _ hk => hk.2) (.int .i64 t248)) (fun _ hk => hk.2) (.int .i64 t249)) (fun _ hk => ⟨hk.1.1.2, hk.1.2⟩)⟩, ⟨by (with_reducible repeat (first | apply Kd.R_alloc | apply Kd.R_drewN | apply Kd.R_drew)); exact Kd.R_mono (Kd.R_far (p := ⟨gb251, 5, none⟩) (Kd.R_far (p := ⟨gb251, 4, none⟩) (Kd.R_far (p := ⟨gb251, 3, none⟩) (Kd.R_far (p := ⟨gb251, 2, none⟩) (Kd.R_far (p := ⟨gb251, 1, none⟩) (Kd.R_far (p := ⟨gb251, 0, none⟩) (Kd.R_types HO_230000.out BK251.out (by decide)) (fun _ hk => hk.2) (.int .i64 t244)) (fun _ hk => hk.2) (.int .i64 t245)) (fun _ hk => hk.2) (.int .i64 t246)) (fun _ hk => hk.2) (.int .i64 t247)) (fun _ hk => hk.2) (.int .i64 t248)) (fun _ hk => hk.2) (.int .i64 t249)) (fun _ hk => trivial)⟩, ⟨by (with_reducible repeat (first | apply Kd.R_alloc | apply Kd.R_drewN | apply Kd.R_drew)); exact Kd.R_mono (Kd.R_far (p := ⟨gb251, 5, none⟩) (Kd.R_far (p := ⟨gb251, 4, none⟩) (Kd.R_far (p := ⟨gb251, 3, none⟩) (Kd.R_far (p := ⟨gb251, 2, none⟩) (Kd.R_far (p := ⟨gb251, 1, none⟩) (Kd.R_far (p := ⟨gb251, 0, none⟩) (Kd.R_types HO_230001.out BK251.out (by decide)) (fun _ hk => hk.2) (.int .i64 t244)) (fun _ hk => hk.2) (.int .i64 t245)) (fun _ hk => hk.2) (.int .i64 t246)) (fun _ hk => hk.2) (.int .i64 t247)) (fun _ hk => hk.2) (.int .i64 t248)) (fun _ hk => hk.2) (.int .i64 t249)) (fun _ hk => trivial)⟩, ⟨by (with_reducible repeat (first | refine blk_drewN ?_ _ | refine blk_drew ?_ | refine blk_alloc ?_ _)); refine blk_far ?_ NB229_251.out _; (with_reducible repeat (first | refine blk_drewN ?_ _ | refine blk_drew ?_ | refine blk_alloc ?_ _)); refine blk_far ?_ NB229_251.out _; (with_reducible repeat (first | refine blk_drewN ?_ _ | refine blk_drew ?_ | refine blk_alloc ?_ _)); refine blk_far ?_ NB229_251.out _; (with_reducible repeat (first | refine blk_drewN ?_ _ | refine blk_drew ?_ | refine blk_alloc ?_ _)); refine blk_far ?_ NB229_251.out _; (with_reducible repeat (first | refine blk_drewN ?_ _ | refine blk_drew ?_ | refine blk_alloc ?_ _)); refine blk_far ?_ NB229_251.out _; (with_reducible repeat (first | refine blk_drewN ?_ _ | refine blk_drew ?_ | refine blk_alloc ?_ _)); refine blk_far ?_ NB229_251.out _; (with_reducible repeat (first | refine blk_drewN ?_ _ | refine blk_drew ?_ | refine blk_alloc ?_ _)); exact BK229.out⟩, ⟨by (with_reducible repeat (first | refine blk_drewN ?_ _ | refine blk_drew ?_ | refine blk_alloc ?_ _)); refine blk_far ?_ NB235_251.out _; (with_reducible repeat (first | refine blk_drewN ?_ _ | refine blk_drew ?_ | refine blk_alloc ?_ _)); refine blk_far ?_ NB235_251.out _; (with_reducible repeat (first | refine blk_drewN ?_ _ | refine blk_drew ?_ | refine blk_alloc ?_ _)); refine blk_far ?_ NB235_251.out _; (with_reducible repeat (first | refine blk_drewN ?_ _ | refine blk_drew ?_ | refine blk_alloc ?_ _)); refine blk_far ?_ NB235_251.out _; (with_reducible repeat (first | refine blk_drewN ?_ _ | refine blk_drew ?_ | refine blk_alloc ?_ _)); refine blk_far ?_ NB235_251.out _; (with_reducible repeat (first | refine blk_drewN ?_ _ | refine blk_drew ?_ | refine blk_alloc ?_ _)); refine blk_far ?_ NB235_251.out _; (with_reducible repeat (first | refine blk_drewN ?_ _ | refine blk_drew ?_ | refine blk_alloc ?_ _)); exact BK235.out⟩, ⟨by (with_reducible repeat (first | refine blk_drewN ?_ _ | refine blk_drew ?_ | refine blk_alloc ?_ _)); refine blk_far ?_ NB243_251.out _; (with_reducible repeat (first | refine blk_drewN ?_ _ | refine blk_drew ?_ | refine blk_alloc ?_ _)); refine blk_far ?_ NB243_251.out _; (with_reducible repeat (first | refine blk_drewN ?_ _ | refine blk_drew ?_ | refine blk_alloc ?_ _)); refine blk_far ?_ NB243_251.out _; (with_reducible repeat (first | refine blk_drewN ?_ _ | refine blk_drew ?_ | refine blk_alloc ?_ _)); refine blk_far ?_ NB243_251.out _; (with_reducible repeat (first | refine blk_drewN ?_ _ | refine blk_drew ?_ | refine blk_alloc ?_ _)); refine blk_far ?_ NB243_251.out _; (with_reducible repeat (first | refine blk_drewN ?_ _ | refine blk_drew ?_ | refine blk_alloc ?_ _)); refine blk_far ?_ NB243_251.out _; (with_reducible repeat (first | refine blk_drewN ?_ _ | refine blk_drew ?_ | refine blk_alloc ?_ _)); exact BK243.out⟩, ⟨by (with_reducible repeat (first | refine blk_drewN ?_ _ | refine blk_drew ?_ | refine blk_alloc ?_ _)); refine blk_put (cs := #[.int .i64 t244, .int .i64 t245, .int .i64 t246, .int .i64 t247, .int .i64 t248, .int .i64 0]) ?_ 5 _ (by first | rfl | (simp only [List.length_drop, List.length_take]; rfl)); (with_reducible repeat (first | refine blk_drewN ?_ _ | refine blk_drew ?_ | refine blk_alloc ?_ _)); refine blk_put (cs := #[.int .i64 t244, .int .i64 t245, .int .i64 t246, .int .i64 t247, .int .i64 0, .int .i64 0]) ?_ 4 _ (by first | rfl | (simp only [List.length_drop, List.length_take]; rfl)); (with_reducible repeat (first | refine blk_drewN ?_ _ | refine blk_drew ?_ | refine blk_alloc ?_ _)); refine blk_put (cs := #[.int .i64 t244, .int .i64 t245, .int .i64 t246, .int .i64 0, .int .i64 0, .int .i64 0]) ?_ 3 _ (by first | rfl | (simp only [List.length_drop, List.length_take]; rfl)); (with_reducible repeat (first | refine blk_drewN ?_ _ | refine blk_drew ?_ | refine blk_alloc ?_ _)); refine blk_put (cs := #[.int .i64 t244, .int .i64 t245, .int .i64 0, .int .i64 0, .int .i64 0, .int .i64 0]) ?_ 2 _ (by first | rfl | (simp only [List.length_drop, List.length_take]; rfl)); (with_reducible repeat (first | refine blk_drewN ?_ _ | refine blk_drew ?_ | refine blk_alloc ?_ _)); refine blk_put (cs := #[.int .i64 t244, .int .i64 0, .int .i64 0, .int .i64 0, .int .i64 0, .int .i64 0]) ?_ 1 _ (by first | rfl | (simp only [List.length_drop, List.length_take]; rfl)); (with_reducible repeat (first | refine blk_drewN ?_ _ | refine blk_drew ?_ | refine blk_alloc ?_ _)); refine blk_put (cs := #[.int .i64 0, .int .i64 0, .int .i64 0, .int .i64 0, .int .i64 0, .int .i64 0]) ?_ 0 _ (by first | rfl | (simp only [List.length_drop, List.length_take]; rfl)); (with_reducible repeat (first | refine blk_drewN ?_ _ | refine blk_drew ?_ | refine blk_alloc ?_ _)); exact BK251.out⟩, ⟨by exact zh4_ HB.out GE229.out GE235.out GE243.out GE251.out⟩⟩
               case round =>
                clear H'
                try clear c1
                try clear p2
                try clear q2
                try clear hx2
                try clear c3
                try clear c4
                try clear c5
                try clear c7
                try clear c7b0
                try clear c7b1
                try clear c15
                try clear c15b0
                try clear c15b1
                try clear c16
                try clear c18
                try clear c18b0
                try clear c18b1
                try clear p23
                try clear q23
                try clear hx23
                try clear c30
                try clear c35
                try clear c35b0
                try clear c35b1
                try clear c36
                try clear c36b0
                try clear c36b1
                try clear c37
                try clear c38
                try clear c38b0
                try clear c39
                try clear c39b0
                try clear c40
                try clear c40b0
                try clear c44
                try clear c48
                try clear c49
                try clear c55
                try clear c56
                try clear c57
                try clear hcz25_0
                try clear hcz25_1
                try clear hcz31_0
                try clear hcz31_1
                try clear hcz45_0
                try clear hcz45_1
                try clear hcz45_2
                try clear hcz45_3
                try clear hcz50_0
                try clear hcz50_1
                try clear hcz50_2
                try clear hcz50_3
                try clear hcz50_4
                try clear hcz50_5
                try clear hcz51_0
                try clear hcz51_1
                try clear hcz51_2
                try clear hcz51_3
                try clear hcz58_0
                try clear hcz58_1
                try clear hcz58_2
                try clear hcz58_3
                try clear hcz58_4
                try clear hcz58_5
                try clear hfz25_0
                try clear hfz25_1
                try clear hfz31_0
                try clear hfz31_1
                try clear hfz45_0
                try clear hfz45_1
                try clear hfz45_2
                try clear hfz45_3
                try clear hfz50_0
                try clear hfz50_1
                try clear hfz50_2
                try clear hfz50_3
                try clear hfz50_4
                try clear hfz50_5
                try clear hfz51_0
                try clear hfz51_1
                try clear hfz51_2
                try clear hfz51_3
                try clear hfz58_0
                try clear hfz58_1
                try clear hfz58_2
                try clear hfz58_3
                try clear hfz58_4
                try clear hfz58_5
                try clear hx234_0
                try clear hx234_1
                try clear hx234_2
                try clear hx234_3
                try clear p2
                try clear p234
                try clear q234
                (try clear BK229)
                (try clear BK235)
                (try clear BK243)
                (try clear BK251)
                obtain ⟨x24_4, x131_4, rfl, rfl, HA, HK4, HO_16, HO_230000, HO_230001, BK229, BK235, BK243, BK251, HB⟩ := hrel
                cases gk with
                | zero => exact absurd HA.out (by simp [ladingtop_TopSold.l1])
                | succ k4 =>
                 have H := HA.out
                 clear HA
                 simp only [ladingtop_TopSold.l1] at H
                 by_cases c59 : x131_4 < (l1.length : Int)
                 ·rw [if_pos c59] at H
                  have c59b0 : decide (x131_4 < (l1.length : Int)) = true := decide_eq_true c59
                  clear c59
                  by_cases c60 : 0 ≤ x131_4
                  ·rw [if_pos c60] at H
                   have c60b0 : decide (0 ≤ x131_4) = true := decide_eq_true c60
                   clear c60
                   by_cases c61 : x131_4 < (l1.length : Int)
                   ·rw [if_pos c61] at H
                    have c61b0 : decide (x131_4 < (l1.length : Int)) = true := decide_eq_true c61
                    clear c61
                    have H0_ := Aside0.mk H
                    clear H
                    have p252 : 0 ≤ (x131_4 : Int) := of_decide_eq_true za_
                    have q252 : x131_4 < (l1.length : Int) := of_decide_eq_true za_
                    obtain ⟨ad252, e252, hx252_0, hx252_1, hx252_2, hx252_3⟩ := at_T41 HR1.out x131_4 p252 q252
                    obtain rfl : ad234 = ad252 := (by injection e252)
                    replace hx252_0 := zx_ HB.out hx252_0
                    replace hx252_1 := zx_ HB.out hx252_1
                    replace hx252_2 := zx_ HB.out hx252_2
                    replace hx252_3 := zx_ HB.out hx252_3
                    replace p252 := eq_true p252
                    replace q252 := eq_true q252
                    go_wp2_with (first | ((with_reducible refine gate_dst (N := 26) rfl ?_); (try (refine gate_guard (by rfl) ?_; dsimp only)); refine box_event ?hg (N := 26) ?hd (cs := #[.int .i64 0, .int .i64 0, .int .i64 0, .int .i64 0]) (t := 41) ?hr ?_; (case hd => rfl); (case hg => rfl); (case hr => first | (go_simp; done) | (go_simp; rfl)); intro gb253 hg w84 hbox hb; replace HO_16 := Aside0.mk (Kd.R_below (zR_ HO_16.out) hb); replace HO_230000 := Aside0.mk (Kd.R_below (zR_ HO_230000.out) hb); replace HO_230001 := Aside0.mk (Kd.R_below (zR_ HO_230001.out) hb); have BK253 := Aside0.mk (hbox); have GW253 := Aside0.mk ((by rw [hg]; exact (below_size (zh4_ HB.out GE229.out GE235.out GE243.out GE251.out)) : w.heap.size ≤ gb253)); have GE253 := Aside0.mk ((by rw [hg]; exact (below_size (zh4_ HB.out GE229.out GE235.out GE243.out GE251.out)) : w.heap.size ≤ gb253)); replace HB := Aside0.mk (below_step (zh4_ HB.out GE229.out GE235.out GE243.out GE251.out) hb); have NB229_253 := Aside0.mk ((by rw [hg]; exact Nat.ne_of_lt (blk_lt (zb_ BK229.out)) : gb229 ≠ gb253)); have NB253_229 := Aside0.mk ((by rw [hg]; exact Nat.ne_of_gt (blk_lt (zb_ BK229.out)) : gb253 ≠ gb229)); replace BK229 := Aside0.mk (blk_below (zb_ BK229.out) hb); have NB235_253 := Aside0.mk ((by rw [hg]; exact Nat.ne_of_lt (blk_lt (zb_ BK235.out)) : gb235 ≠ gb253)); have NB253_235 := Aside0.mk ((by rw [hg]; exact Nat.ne_of_gt (blk_lt (zb_ BK235.out)) : gb253 ≠ gb235)); replace BK235 := Aside0.mk (blk_below (zb_ BK235.out) hb); have NB243_253 := Aside0.mk ((by rw [hg]; exact Nat.ne_of_lt (blk_lt (zb_ BK243.out)) : gb243 ≠ gb253)); have NB253_243 := Aside0.mk ((by rw [hg]; exact Nat.ne_of_gt (blk_lt (zb_ BK243.out)) : gb253 ≠ gb243)); replace BK243 := Aside0.mk (blk_below (zb_ BK243.out) hb); have NB251_253 := Aside0.mk ((by rw [hg]; exact Nat.ne_of_lt (blk_lt (zb_ BK251.out)) : gb251 ≠ gb253)); have NB253_251 := Aside0.mk ((by rw [hg]; exact Nat.ne_of_gt (blk_lt (zb_ BK251.out)) : gb253 ≠ gb251)); replace BK251 := Aside0.mk (blk_below (zb_ BK251.out) hb); clear hb hbox hg; have hnb85 := NB253_229.out; have hnc85 := NB229_253.out; have hnb86 := NB253_235.out; have hnc86 := NB235_253.out; have hnb87 := NB253_243.out; have hnc87 := NB243_253.out; have hnb88 := NB253_251.out; have hnc88 := NB251_253.out; obtain ⟨hcz89_0, hcz89_1, hcz89_2, hcz89_3⟩ := zc4 BK253.out; obtain ⟨hfz89_0, hfz89_1, hfz89_2, hfz89_3⟩ := zz4 BK253.out; have hnb90 := NB235_229.out; have hnc90 := NB229_235.out; have hnb91 := NB235_243.out; have hnc91 := NB243_235.out; have hnb92 := NB235_251.out; have hnc92 := NB251_235.out; obtain ⟨hcz93_0, hcz93_1, hcz93_2, hcz93_3⟩ := zc4 BK235.out; obtain ⟨hfz93_0, hfz93_1, hfz93_2, hfz93_3⟩ := zz4 BK235.out))
                    ·have H := H0_.out
                     clear H0_
                     have c62 : ((rd_T41 l1 x131_4).f0) = ((rd_T41 l1 x107_3).f0) := by assumption
                     rw [if_pos c62] at H
                     have c63 : ((rd_T41 l1 x131_4).f1) = ((rd_T41 l1 x107_3).f1) := beq_iff_eq.mp (by assumption)
                     rw [if_pos c63] at H
                     have H' := Aside0.mk H
                     clear H
                     go_roundg k4
                     case measure => have := HJ9.out; have := HJ20.out; have := HK3.out; have := HK4.out; omega
                     case rel => exact ⟨(wrap64 (x24_4 + ((rd_T41 l1 x131_4).f2))), (wrap64 (x131_4 + 1)), (by first | rfl | (simp; done) | (simp [*]; done) | (simp only [i64_w]; done)), (by first | rfl | (simp; done) | (simp [*]; done) | (simp only [i64_w]; done)), H', ⟨by have := HJ9.out; have := HJ20.out; have := HK3.out; have := HK4.out; omega⟩, ⟨by (with_reducible repeat (first | apply Kd.R_alloc | apply Kd.R_drewN | apply Kd.R_drew)); exact Kd.R_mono (Kd.R_far (p := ⟨gb253, 3, none⟩) (Kd.R_far (p := ⟨gb253, 2, none⟩) (Kd.R_far (p := ⟨gb253, 1, none⟩) (Kd.R_far (p := ⟨gb253, 0, none⟩) (Kd.R_types HO_16.out BK253.out (by decide)) (fun _ hk => hk.2) _) (fun _ hk => hk.2) _) (fun _ hk => hk.2) _) (fun _ hk => hk.2) _) (fun _ hk => ⟨hk.1.1, hk.1.2⟩)⟩, ⟨by (with_reducible repeat (first | apply Kd.R_alloc | apply Kd.R_drewN | apply Kd.R_drew)); exact Kd.R_mono (Kd.R_far (p := ⟨gb253, 3, none⟩) (Kd.R_far (p := ⟨gb253, 2, none⟩) (Kd.R_far (p := ⟨gb253, 1, none⟩) (Kd.R_far (p := ⟨gb253, 0, none⟩) (Kd.R_types HO_230000.out BK253.out (by decide)) (fun _ hk => hk.2) _) (fun _ hk => hk.2) _) (fun _ hk => hk.2) _) (fun _ hk => hk.2) _) (fun _ hk => trivial)⟩, ⟨by (with_reducible repeat (first | apply Kd.R_alloc | apply Kd.R_drewN | apply Kd.R_drew)); exact Kd.R_mono (Kd.R_far (p := ⟨gb253, 3, none⟩) (Kd.R_far (p := ⟨gb253, 2, none⟩) (Kd.R_far (p := ⟨gb253, 1, none⟩) (Kd.R_far (p := ⟨gb253, 0, none⟩) (Kd.R_types HO_230001.out BK253.out (by decide)) (fun _ hk => hk.2) _) (fun _ hk => hk.2) _) (fun _ hk => hk.2) _) (fun _ hk => hk.2) _) (fun _ hk => trivial)⟩, ⟨by (with_reducible repeat (first | refine blk_drewN ?_ _ | refine blk_drew ?_ | refine blk_alloc ?_ _)); refine blk_far ?_ NB229_253.out _; (with_reducible repeat (first | refine blk_drewN ?_ _ | refine blk_drew ?_ | refine blk_alloc ?_ _)); refine blk_far ?_ NB229_253.out _; (with_reducible repeat (first | refine blk_drewN ?_ _ | refine blk_drew ?_ | refine blk_alloc ?_ _)); refine blk_far ?_ NB229_253.out _; (with_reducible repeat (first | refine blk_drewN ?_ _ | refine blk_drew ?_ | refine blk_alloc ?_ _)); refine blk_far ?_ NB229_253.out _; (with_reducible repeat (first | refine blk_drewN ?_ _ | refine blk_drew ?_ | refine blk_alloc ?_ _)); exact BK229.out⟩, ⟨by (with_reducible repeat (first | refine blk_drewN ?_ _ | refine blk_drew ?_ | refine blk_alloc ?_ _)); refine blk_far ?_ NB235_253.out _; (with_reducible repeat (first | refine blk_drewN ?_ _ | refine blk_drew ?_ | refine blk_alloc ?_ _)); refine blk_far ?_ NB235_253.out _; (with_reducible repeat (first | refine blk_drewN ?_ _ | refine blk_drew ?_ | refine blk_alloc ?_ _)); refine blk_far ?_ NB235_253.out _; (with_reducible repeat (first | refine blk_drewN ?_ _ | refine blk_drew ?_ | refine blk_alloc ?_ _)); refine blk_far ?_ NB235_253.out _; (with_reducible repeat (first | refine blk_drewN ?_ _ | refine blk_drew ?_ | refine blk_alloc ?_ _)); exact BK235.out⟩, ⟨by (with_reducible repeat (first | refine blk_drewN ?_ _ | refine blk_drew ?_ | refine blk_alloc ?_ _)); refine blk_far ?_ NB243_253.out _; (with_reducible repeat (first | refine blk_drewN ?_ _ | refine blk_drew ?_ | refine blk_alloc ?_ _)); refine blk_far ?_ NB243_253.out _; (with_reducible repeat (first | refine blk_drewN ?_ _ | refine blk_drew ?_ | refine blk_alloc ?_ _)); refine blk_far ?_ NB243_253.out _; (with_reducible repeat (first | refine blk_drewN ?_ _ | refine blk_drew ?_ | refine blk_alloc ?_ _)); refine blk_far ?_ NB243_253.out _; (with_reducible repeat (first | refine blk_drewN ?_ _ | refine blk_drew ?_ | refine blk_alloc ?_ _)); exact BK243.out⟩, ⟨by (with_reducible repeat (first | refine blk_drewN ?_ _ | refine blk_drew ?_ | refine blk_alloc ?_ _)); refine blk_far ?_ NB251_253.out _; (with_reducible repeat (first | refine blk_drewN ?_ _ | refine blk_drew ?_ | refine blk_alloc ?_ _)); refine blk_far ?_ NB251_253.out _; (with_reducible repeat (first | refine blk_drewN ?_ _ | refine blk_drew ?_ | refine blk_alloc ?_ _)); refine blk_far ?_ NB251_253.out _; (with_reducible repeat (first | refine blk_drewN ?_ _ | refine blk_drew ?_ | refine blk_alloc ?_ _)); refine blk_far ?_ NB251_253.out _; (with_reducible repeat (first | refine blk_drewN ?_ _ | refine blk_drew ?_ | refine blk_alloc ?_ _)); exact BK251.out⟩, ⟨by exact zh5_ HB.out GE229.out GE235.out GE243.out GE251.out GE253.out⟩⟩
                    ·have H := H0_.out
                     clear H0_
                     have c62 : ((rd_T41 l1 x131_4).f0) = ((rd_T41 l1 x107_3).f0) := by assumption
                     rw [if_pos c62] at H
                     have c63 : ¬ (((rd_T41 l1 x131_4).f1) = ((rd_T41 l1 x107_3).f1)) := beq_eq_false_iff_ne.mp (by assumption)
                     rw [if_neg c63] at H
                     have H' := Aside0.mk H
                     clear H
                     go_roundg k4
                     case measure => have := HJ9.out; have := HJ20.out; have := HK3.out; have := HK4.out; omega
                     case rel => exact ⟨(x24_4), (wrap64 (x131_4 + 1)), (by first | rfl | (simp; done) | (simp [*]; done) | (simp only [i64_w]; done)), (by first | rfl | (simp; done) | (simp [*]; done) | (simp only [i64_w]; done)), H', ⟨by have := HJ9.out; have := HJ20.out; have := HK3.out; have := HK4.out; omega⟩, ⟨by (with_reducible repeat (first | apply Kd.R_alloc | apply Kd.R_drewN | apply Kd.R_drew)); exact Kd.R_mono (Kd.R_far (p := ⟨gb253, 3, none⟩) (Kd.R_far (p := ⟨gb253, 2, none⟩) (Kd.R_far (p := ⟨gb253, 1, none⟩) (Kd.R_far (p := ⟨gb253, 0, none⟩) (Kd.R_types HO_16.out BK253.out (by decide)) (fun _ hk => hk.2) _) (fun _ hk => hk.2) _) (fun _ hk => hk.2) _) (fun _ hk => hk.2) _) (fun _ hk => ⟨hk.1.1, hk.1.2⟩)⟩, ⟨by (with_reducible repeat (first | apply Kd.R_alloc | apply Kd.R_drewN | apply Kd.R_drew)); exact Kd.R_mono (Kd.R_far (p := ⟨gb253, 3, none⟩) (Kd.R_far (p := ⟨gb253, 2, none⟩) (Kd.R_far (p := ⟨gb253, 1, none⟩) (Kd.R_far (p := ⟨gb253, 0, none⟩) (Kd.R_types HO_230000.out BK253.out (by decide)) (fun _ hk => hk.2) _) (fun _ hk => hk.2) _) (fun _ hk => hk.2) _) (fun _ hk => hk.2) _) (fun _ hk => trivial)⟩, ⟨by (with_reducible repeat (first | apply Kd.R_alloc | apply Kd.R_drewN | apply Kd.R_drew)); exact Kd.R_mono (Kd.R_far (p := ⟨gb253, 3, none⟩) (Kd.R_far (p := ⟨gb253, 2, none⟩) (Kd.R_far (p := ⟨gb253, 1, none⟩) (Kd.R_far (p := ⟨gb253, 0, none⟩) (Kd.R_types HO_230001.out BK253.out (by decide)) (fun _ hk => hk.2) _) (fun _ hk => hk.2) _) (fun _ hk => hk.2) _) (fun _ hk => hk.2) _) (fun _ hk => trivial)⟩, ⟨by (with_reducible repeat (first | refine blk_drewN ?_ _ | refine blk_drew ?_ | refine blk_alloc ?_ _)); refine blk_far ?_ NB229_253.out _; (with_reducible repeat (first | refine blk_drewN ?_ _ | refine blk_drew ?_ | refine blk_alloc ?_ _)); refine blk_far ?_ NB229_253.out _; (with_reducible repeat (first | refine blk_drewN ?_ _ | refine blk_drew ?_ | refine blk_alloc ?_ _)); refine blk_far ?_ NB229_253.out _; (with_reducible repeat (first | refine blk_drewN ?_ _ | refine blk_drew ?_ | refine blk_alloc ?_ _)); refine blk_far ?_ NB229_253.out _; (with_reducible repeat (first | refine blk_drewN ?_ _ | refine blk_drew ?_ | refine blk_alloc ?_ _)); exact BK229.out⟩, ⟨by (with_reducible repeat (first | refine blk_drewN ?_ _ | refine blk_drew ?_ | refine blk_alloc ?_ _)); refine blk_far ?_ NB235_253.out _; (with_reducible repeat (first | refine blk_drewN ?_ _ | refine blk_drew ?_ | refine blk_alloc ?_ _)); refine blk_far ?_ NB235_253.out _; (with_reducible repeat (first | refine blk_drewN ?_ _ | refine blk_drew ?_ | refine blk_alloc ?_ _)); refine blk_far ?_ NB235_253.out _; (with_reducible repeat (first | refine blk_drewN ?_ _ | refine blk_drew ?_ | refine blk_alloc ?_ _)); refine blk_far ?_ NB235_253.out _; (with_reducible repeat (first | refine blk_drewN ?_ _ | refine blk_drew ?_ | refine blk_alloc ?_ _)); exact BK235.out⟩, ⟨by (with_reducible repeat (first | refine blk_drewN ?_ _ | refine blk_drew ?_ | refine blk_alloc ?_ _)); refine blk_far ?_ NB243_253.out _; (with_reducible repeat (first | refine blk_drewN ?_ _ | refine blk_drew ?_ | refine blk_alloc ?_ _)); refine blk_far ?_ NB243_253.out _; (with_reducible repeat (first | refine blk_drewN ?_ _ | refine blk_drew ?_ | refine blk_alloc ?_ _)); refine blk_far ?_ NB243_253.out _; (with_reducible repeat (first | refine blk_drewN ?_ _ | refine blk_drew ?_ | refine blk_alloc ?_ _)); refine blk_far ?_ NB243_253.out _; (with_reducible repeat (first | refine blk_drewN ?_ _ | refine blk_drew ?_ | refine blk_alloc ?_ _)); exact BK243.out⟩, ⟨by (with_reducible repeat (first | refine blk_drewN ?_ _ | refine blk_drew ?_ | refine blk_alloc ?_ _)); refine blk_far ?_ NB251_253.out _; (with_reducible repeat (first | refine blk_drewN ?_ _ | refine blk_drew ?_ | refine blk_alloc ?_ _)); refine blk_far ?_ NB251_253.out _; (with_reducible repeat (first | refine blk_drewN ?_ _ | refine blk_drew ?_ | refine blk_alloc ?_ _)); refine blk_far ?_ NB251_253.out _; (with_reducible repeat (first | refine blk_drewN ?_ _ | refine blk_drew ?_ | refine blk_alloc ?_ _)); refine blk_far ?_ NB251_253.out _; (with_reducible repeat (first | refine blk_drewN ?_ _ | refine blk_drew ?_ | refine blk_alloc ?_ _)); exact BK251.out⟩, ⟨by exact zh5_ HB.out GE229.out GE235.out GE243.out GE251.out GE253.out⟩⟩
                    ·have H := H0_.out
                     clear H0_
                     have c62 : ¬ (((rd_T41 l1 x131_4).f0) = ((rd_T41 l1 x107_3).f0)) := by assumption
                     rw [if_neg c62] at H
                     have H' := Aside0.mk H
                     clear H
                     go_roundg k4
                     case measure => have := HJ9.out; have := HJ20.out; have := HK3.out; have := HK4.out; omega
                     case rel => exact ⟨(x24_4), (wrap64 (x131_4 + 1)), (by first | rfl | (simp; done) | (simp [*]; done) | (simp only [i64_w]; done)), (by first | rfl | (simp; done) | (simp [*]; done) | (simp only [i64_w]; done)), H', ⟨by have := HJ9.out; have := HJ20.out; have := HK3.out; have := HK4.out; omega⟩, ⟨by (with_reducible repeat (first | apply Kd.R_alloc | apply Kd.R_drewN | apply Kd.R_drew)); exact Kd.R_mono (Kd.R_far (p := ⟨gb253, 3, none⟩) (Kd.R_far (p := ⟨gb253, 2, none⟩) (Kd.R_far (p := ⟨gb253, 1, none⟩) (Kd.R_far (p := ⟨gb253, 0, none⟩) (Kd.R_types HO_16.out BK253.out (by decide)) (fun _ hk => hk.2) _) (fun _ hk => hk.2) _) (fun _ hk => hk.2) _) (fun _ hk => hk.2) _) (fun _ hk => ⟨hk.1.1, hk.1.2⟩)⟩, ⟨by (with_reducible repeat (first | apply Kd.R_alloc | apply Kd.R_drewN | apply Kd.R_drew)); exact Kd.R_mono (Kd.R_far (p := ⟨gb253, 3, none⟩) (Kd.R_far (p := ⟨gb253, 2, none⟩) (Kd.R_far (p := ⟨gb253, 1, none⟩) (Kd.R_far (p := ⟨gb253, 0, none⟩) (Kd.R_types HO_230000.out BK253.out (by decide)) (fun _ hk => hk.2) _) (fun _ hk => hk.2) _) (fun _ hk => hk.2) _) (fun _ hk => hk.2) _) (fun _ hk => trivial)⟩, ⟨by (with_reducible repeat (first | apply Kd.R_alloc | apply Kd.R_drewN | apply Kd.R_drew)); exact Kd.R_mono (Kd.R_far (p := ⟨gb253, 3, none⟩) (Kd.R_far (p := ⟨gb253, 2, none⟩) (Kd.R_far (p := ⟨gb253, 1, none⟩) (Kd.R_far (p := ⟨gb253, 0, none⟩) (Kd.R_types HO_230001.out BK253.out (by decide)) (fun _ hk => hk.2) _) (fun _ hk => hk.2) _) (fun _ hk => hk.2) _) (fun _ hk => hk.2) _) (fun _ hk => trivial)⟩, ⟨by (with_reducible repeat (first | refine blk_drewN ?_ _ | refine blk_drew ?_ | refine blk_alloc ?_ _)); refine blk_far ?_ NB229_253.out _; (with_reducible repeat (first | refine blk_drewN ?_ _ | refine blk_drew ?_ | refine blk_alloc ?_ _)); refine blk_far ?_ NB229_253.out _; (with_reducible repeat (first | refine blk_drewN ?_ _ | refine blk_drew ?_ | refine blk_alloc ?_ _)); refine blk_far ?_ NB229_253.out _; (with_reducible repeat (first | refine blk_drewN ?_ _ | refine blk_drew ?_ | refine blk_alloc ?_ _)); refine blk_far ?_ NB229_253.out _; (with_reducible repeat (first | refine blk_drewN ?_ _ | refine blk_drew ?_ | refine blk_alloc ?_ _)); exact BK229.out⟩, ⟨by (with_reducible repeat (first | refine blk_drewN ?_ _ | refine blk_drew ?_ | refine blk_alloc ?_ _)); refine blk_far ?_ NB235_253.out _; (with_reducible repeat (first | refine blk_drewN ?_ _ | refine blk_drew ?_ | refine blk_alloc ?_ _)); refine blk_far ?_ NB235_253.out _; (with_reducible repeat (first | refine blk_drewN ?_ _ | refine blk_drew ?_ | refine blk_alloc ?_ _)); refine blk_far ?_ NB235_253.out _; (with_reducible repeat (first | refine blk_drewN ?_ _ | refine blk_drew ?_ | refine blk_alloc ?_ _)); refine blk_far ?_ NB235_253.out _; (with_reducible repeat (first | refine blk_drewN ?_ _ | refine blk_drew ?_ | refine blk_alloc ?_ _)); exact BK235.out⟩, ⟨by (with_reducible repeat (first | refine blk_drewN ?_ _ | refine blk_drew ?_ | refine blk_alloc ?_ _)); refine blk_far ?_ NB243_253.out _; (with_reducible repeat (first | refine blk_drewN ?_ _ | refine blk_drew ?_ | refine blk_alloc ?_ _)); refine blk_far ?_ NB243_253.out _; (with_reducible repeat (first | refine blk_drewN ?_ _ | refine blk_drew ?_ | refine blk_alloc ?_ _)); refine blk_far ?_ NB243_253.out _; (with_reducible repeat (first | refine blk_drewN ?_ _ | refine blk_drew ?_ | refine blk_alloc ?_ _)); refine blk_far ?_ NB243_253.out _; (with_reducible repeat (first | refine blk_drewN ?_ _ | refine blk_drew ?_ | refine blk_alloc ?_ _)); exact BK243.out⟩, ⟨by (with_reducible repeat (first | refine blk_drewN ?_ _ | refine blk_drew ?_ | refine blk_alloc ?_ _)); refine blk_far ?_ NB251_253.out _; (with_reducible repeat (first | refine blk_drewN ?_ _ | refine blk_drew ?_ | refine blk_alloc ?_ _)); refine blk_far ?_ NB251_253.out _; (with_reducible repeat (first | refine blk_drewN ?_ _ | refine blk_drew ?_ | refine blk_alloc ?_ _)); refine blk_far ?_ NB251_253.out _; (with_reducible repeat (first | refine blk_drewN ?_ _ | refine blk_drew ?_ | refine blk_alloc ?_ _)); refine blk_far ?_ NB251_253.out _; (with_reducible repeat (first | refine blk_drewN ?_ _ | refine blk_drew ?_ | refine blk_alloc ?_ _)); exact BK251.out⟩, ⟨by exact zh5_ HB.out GE229.out GE235.out GE243.out GE251.out GE253.out⟩⟩
                   ·rw [if_neg c61] at H
                    cases H
                  ·rw [if_neg c60] at H
                   cases H
                 ·rw [if_neg c59] at H
                  as_aux_lemma =>
                   have c59b0 : decide (x131_4 < (l1.length : Int)) = false := decide_eq_false c59
                   clear c59
                   by_cases c94 : t248 = (wrap64 (t240 + x24_4))
                   ·rw [if_pos c94] at H
                    obtain ⟨c94b0, c94b1⟩ := zq1 c94
                    clear c94
                    by_cases c95 : t246 = (wrap64 (t238 - x24_4))
                    ·rw [if_pos c95] at H
                     obtain ⟨c95b0, c95b1⟩ := zq1 c95
                     clear c95
                     by_cases c96 : t247 = t239
                     ·rw [if_pos c96] at H
                      obtain ⟨c96b0, c96b1⟩ := zq1 c96
                      clear c96
                      by_cases c97 : t249 = t241
                      ·rw [if_pos c97] at H
                       obtain ⟨c97b0, c97b1⟩ := zq1 c97
                       clear c97
                       have H' := Aside0.mk H
                       clear H
                       have hnb98 := NB251_229.out
                       have hnc98 := NB229_251.out
                       have hnb99 := NB251_235.out
                       have hnc99 := NB235_251.out
                       have hnb100 := NB251_243.out
                       have hnc100 := NB243_251.out
                       have hcz101_0 : wr.cell? ⟨gb251, 0, none⟩ = some (.int .i64 t244) := (blk_cell BK251.out 0).trans rfl
                       have hcz101_1 : wr.cell? ⟨gb251, 1, none⟩ = some (.int .i64 t245) := (blk_cell BK251.out 1).trans rfl
                       have hcz101_2 : wr.cell? ⟨gb251, 2, none⟩ = some (.int .i64 t246) := (blk_cell BK251.out 2).trans rfl
                       have hcz101_3 : wr.cell? ⟨gb251, 3, none⟩ = some (.int .i64 t247) := (blk_cell BK251.out 3).trans rfl
                       have hcz101_4 : wr.cell? ⟨gb251, 4, none⟩ = some (.int .i64 t248) := (blk_cell BK251.out 4).trans rfl
                       have hcz101_5 : wr.cell? ⟨gb251, 5, none⟩ = some (.int .i64 t249) := (blk_cell BK251.out 5).trans rfl
                       have hfz101_0 := blk_frozen BK251.out 0
                       have hfz101_1 := blk_frozen BK251.out 1
                       have hfz101_2 := blk_frozen BK251.out 2
                       have hfz101_3 := blk_frozen BK251.out 3
                       have hfz101_4 := blk_frozen BK251.out 4
                       have hfz101_5 := blk_frozen BK251.out 5
                       have hnb102 := NB243_229.out
                       have hnc102 := NB229_243.out
                       have hnb103 := NB243_235.out
                       have hnc103 := NB235_243.out
                       have hcz104_0 : wr.cell? ⟨gb243, 0, none⟩ = some (.int .i64 t236) := (blk_cell BK243.out 0).trans rfl
                       have hcz104_1 : wr.cell? ⟨gb243, 1, none⟩ = some (.int .i64 t237) := (blk_cell BK243.out 1).trans rfl
                       have hcz104_2 : wr.cell? ⟨gb243, 2, none⟩ = some (.int .i64 t238) := (blk_cell BK243.out 2).trans rfl
                       have hcz104_3 : wr.cell? ⟨gb243, 3, none⟩ = some (.int .i64 t239) := (blk_cell BK243.out 3).trans rfl
                       have hcz104_4 : wr.cell? ⟨gb243, 4, none⟩ = some (.int .i64 t240) := (blk_cell BK243.out 4).trans rfl
                       have hcz104_5 : wr.cell? ⟨gb243, 5, none⟩ = some (.int .i64 t241) := (blk_cell BK243.out 5).trans rfl
                       have hfz104_0 := blk_frozen BK243.out 0
                       have hfz104_1 := blk_frozen BK243.out 1
                       have hfz104_2 := blk_frozen BK243.out 2
                       have hfz104_3 := blk_frozen BK243.out 3
                       have hfz104_4 := blk_frozen BK243.out 4
                       have hfz104_5 := blk_frozen BK243.out 5
                       go_wp2
                       repeat (go_quiet (fail); try go_wp2)
                       go_roundg k4
                       case measure => have := HJ9.out; have := HJ20.out; have := HK3.out; have := HK4.out; omega
                       case rel => exact ⟨(wrap64 (x107_3 + 1)), (by first | rfl | (simp; done) | (simp [*]; done) | (simp only [i64_w]; done)), H', ⟨by have := HJ9.out; have := HJ20.out; have := HK3.out; have := HK4.out; omega⟩, ⟨by (with_reducible repeat (first | apply Kd.R_alloc | apply Kd.R_drewN | apply Kd.R_drew)); exact Kd.R_mono HO_16.out (fun _ hk => trivial)⟩, ⟨by (with_reducible repeat (first | apply Kd.R_alloc | apply Kd.R_drewN | apply Kd.R_drew)); exact HO_230000.out⟩, ⟨by (with_reducible repeat (first | apply Kd.R_alloc | apply Kd.R_drewN | apply Kd.R_drew)); exact HO_230001.out⟩, ⟨by (with_reducible repeat (first | refine blk_drewN ?_ _ | refine blk_drew ?_ | refine blk_alloc ?_ _)); exact BK229.out⟩, ⟨by exact zh4_ HB.out GE229.out GE235.out GE243.out GE251.out⟩⟩
                      ·rw [if_neg c97] at H
                       cases H
                     ·rw [if_neg c96] at H
                      cases H
                    ·rw [if_neg c95] at H
                     cases H
                   ·rw [if_neg c94] at H
                    cases H
              ·rw [if_neg c40] at H
               cases H
             ·rw [if_neg c39] at H
              cases H
            ·rw [if_neg c38] at H
             as_aux_lemma =>
              have c38b0 : decide (x107_3 < (l1.length : Int)) = false := decide_eq_false c38
              clear c38
              obtain ⟨⟨t254, t255⟩, A105, H⟩ := zm H
              (try dsimp only at H)
              obtain ⟨⟨t258, t261, t264⟩, A106, H⟩ := zm H
              (try dsimp only at H)
              obtain ⟨⟨t266, t267, t268, t269, t270⟩, A107, H⟩ := zm H
              (try dsimp only at H)
              obtain ⟨⟨t272, t273⟩, A108, H⟩ := zm H
              (try dsimp only at H)
              have HC109 := Aside0.mk H
              clear H
              obtain ⟨Ao110, co110, eo110⟩ := Kd.R_slice HO_16.out
              subst eo110
              go_upto_region 35 with (first | (go_at_call 7; refine calls_of_args (args' := #[.slice Ao110 t230.length co110, .slice A1 l1.length c1, encFn 13]) (by first | rfl | rfl) ?_; (with_reducible refine (stock_Lines.calls k3 _ _ t230 _ _ l1 13 t254 t255 _ ?side1 ?side2 ?side3 ?side4 A105.out).mono ?_); (case side1 => repeat (first | exact (Kd.R_reads' HO_16.out).2.2 | (with_reducible refine Kd.C_alloc ?_ _) | (with_reducible refine Kd.C_drewN ?_ _) | (with_reducible refine Kd.C_drew ?_))); (case side2 => exact (Kd.R_reads' HO_16.out).2.1); (case side3 => exact zc_ (Kd.C_below HR1.out HB.out)); (case side4 => exact HC1.out); rintro e w111 ⟨v256, rfl, ho0, hb⟩; replace HO_230000 := Aside0.mk (Kd.R_below (zR_ HO_230000.out) hb); replace HO_230001 := Aside0.mk (Kd.R_below (zR_ HO_230001.out) hb); have HO257 := Aside0.mk (Kd.R_lower (Kd.R_new' ho0 (Kd.R_lt (zR_ HO_16.out))) (below_size (zh1_ HB.out GE229.out))); replace HO_16 := Aside0.mk (Kd.R_elder' (zR_ HO_16.out) (Kd.R_base ho0) hb); replace BK229 := Aside0.mk (blk_below (zb_ BK229.out) hb); replace HB := Aside0.mk (below_step (zh1_ HB.out GE229.out) hb); (try clear hb); (try clear hk); (try clear ho0); have hcz112_0 : w111.cell? ⟨gb229, 0, none⟩ = some (.slice Ao29 t221.length co29) := (blk_cell BK229.out 0).trans rfl; have hcz112_1 : w111.cell? ⟨gb229, 1, none⟩ = some (.slice Ao32 t224.length co32) := (blk_cell BK229.out 1).trans rfl; have hfz112_0 := blk_frozen BK229.out 0; have hfz112_1 := blk_frozen BK229.out 1) | (go_at_call 14; (with_reducible refine (ledger_Refund.calls _ _ t221 _ _ t224 a2 t207 t258 t261 t264 _ ?side1 ?side2 ?side3 ?side4 A106.out).mono ?_); (case side1 => repeat (first | exact (Kd.R_reads' HO_230000.out).2.2 | (with_reducible refine Kd.C_alloc ?_ _) | (with_reducible refine Kd.C_drewN ?_ _) | (with_reducible refine Kd.C_drew ?_))); (case side2 => exact (Kd.R_reads' HO_230000.out).2.1); (case side3 => repeat (first | exact (Kd.R_reads' HO_230001.out).2.2 | (with_reducible refine Kd.C_alloc ?_ _) | (with_reducible refine Kd.C_drewN ?_ _) | (with_reducible refine Kd.C_drew ?_))); (case side4 => exact (Kd.R_reads' HO_230001.out).2.1); rintro e w113 ⟨v259, v262, rfl, ho0, ho1, hb⟩; replace HO_16 := Aside0.mk (Kd.R_below (zR_ HO_16.out) hb); replace HO257 := Aside0.mk (Kd.R_below (zR_ HO257.out) hb); have HO260 := Aside0.mk (Kd.R_lower (Kd.R_new' ho0 (Kd.R_lt (zR_ HO_230000.out))) (below_size (zh1_ HB.out GE229.out))); replace HO_230000 := Aside0.mk (Kd.R_elder' (zR_ HO_230000.out) (Kd.R_base ho0) hb); have HO263 := Aside0.mk (Kd.R_lower (Kd.R_new' ho1 (Kd.R_lt (zR_ HO_230001.out))) (below_size (zh1_ HB.out GE229.out))); replace HO_230001 := Aside0.mk (Kd.R_elder' (zR_ HO_230001.out) (Kd.R_base ho1) hb); replace BK229 := Aside0.mk (blk_below (zb_ BK229.out) hb); replace HB := Aside0.mk (below_step (zh1_ HB.out GE229.out) hb); (try clear hb); (try clear hk); (try clear ho0); (try clear ho1)) | ((with_reducible refine gate_dst (N := 29) rfl ?_); (try (refine gate_guard (by rfl) ?_; dsimp only)); refine box_event ?hg (N := 29) ?hd (cs := #[.slice none 0 0, .slice none 0 0]) (t := 35) ?hr ?_; (case hd => rfl); (case hg => rfl); (case hr => first | (go_simp; done) | (go_simp; rfl)); intro gb265 hg w114 hbox hb; replace HO_16 := Aside0.mk (Kd.R_below (zR_ HO_16.out) hb); replace HO_230000 := Aside0.mk (Kd.R_below (zR_ HO_230000.out) hb); replace HO_230001 := Aside0.mk (Kd.R_below (zR_ HO_230001.out) hb); replace HO257 := Aside0.mk (Kd.R_below (zR_ HO257.out) hb); replace HO260 := Aside0.mk (Kd.R_below (zR_ HO260.out) hb); replace HO263 := Aside0.mk (Kd.R_below (zR_ HO263.out) hb); have BK265 := Aside0.mk (hbox); have GW265 := Aside0.mk ((by rw [hg]; exact (below_size (zh1_ HB.out GE229.out)) : w.heap.size ≤ gb265)); have GE265 := Aside0.mk ((by rw [hg]; exact (below_size (zh1_ HB.out GE229.out)) : w.heap.size ≤ gb265)); replace HB := Aside0.mk (below_step (zh1_ HB.out GE229.out) hb); have NB229_265 := Aside0.mk ((by rw [hg]; exact Nat.ne_of_lt (blk_lt (zb_ BK229.out)) : gb229 ≠ gb265)); have NB265_229 := Aside0.mk ((by rw [hg]; exact Nat.ne_of_gt (blk_lt (zb_ BK229.out)) : gb265 ≠ gb229)); replace BK229 := Aside0.mk (blk_below (zb_ BK229.out) hb); clear hb hbox hg; obtain ⟨Ao115, co115, eo115⟩ := Kd.R_slice HO260.out; subst eo115; have hnb116 := NB265_229.out; have hnc116 := NB229_265.out; have hcz117_0 : w114.cell? ⟨gb265, 0, none⟩ = some (.slice none 0 0) := (blk_cell BK265.out 0).trans rfl; have hcz117_1 : w114.cell? ⟨gb265, 1, none⟩ = some (.slice none 0 0) := (blk_cell BK265.out 1).trans rfl; have hfz117_0 := blk_frozen BK265.out 0; have hfz117_1 := blk_frozen BK265.out 1; obtain ⟨Ao118, co118, eo118⟩ := Kd.R_slice HO263.out; subst eo118) | (go_at_call 15; (with_reducible refine (ledger_Pay.calls _ _ t258 _ _ t261 a2 t266 t267 t268 t269 t270 _ ?side1 ?side2 ?side3 ?side4 A107.out).mono ?_); (case side1 => exact (Kd.R_reads' (n := t258.length) (c := co115) (zr2_ HO260.out BK265.out)).2.2); (case side2 => exact (Kd.R_reads' HO260.out).2.1); (case side3 => exact (Kd.R_reads' (n := t261.length) (c := co118) (zr2_ HO263.out BK265.out)).2.2); (case side4 => exact (Kd.R_reads' HO263.out).2.1); rintro e w119 ⟨rfl, hb⟩; replace HO_16 := Aside0.mk (Kd.R_below (zr2_ HO_16.out BK265.out) hb); replace HO_230000 := Aside0.mk (Kd.R_below (zr2_ HO_230000.out BK265.out) hb); replace HO_230001 := Aside0.mk (Kd.R_below (zr2_ HO_230001.out BK265.out) hb); replace HO257 := Aside0.mk (Kd.R_below (zr2_ HO257.out BK265.out) hb); replace HO260 := Aside0.mk (Kd.R_below (zr2_ HO260.out BK265.out) hb); replace HO263 := Aside0.mk (Kd.R_below (zr2_ HO263.out BK265.out) hb); replace BK229 := Aside0.mk (blk_below (g := gb229) (o := .cells #[.slice Ao29 t221.length co29, .slice Ao32 t224.length co32] 35 (0, 0)) (zf_ NB229_265.out BK229.out) hb); replace BK265 := Aside0.mk (blk_below (g := gb265) (o := .cells #[.slice Ao115 t258.length co115, .slice Ao118 t261.length co118] 35 (0, 0)) (zp2_ BK265.out) hb); replace HB := Aside0.mk (below_step (zh2_ HB.out GE229.out GE265.out) hb); (try clear hb); (try clear hk)) | ((with_reducible refine gate_dst (N := 31) rfl ?_); (try (refine gate_guard (by rfl) ?_; dsimp only)); refine box_event ?hg (N := 31) ?hd (cs := #[.int .i64 0, .int .i64 0, .int .i64 0, .int .i64 0]) (t := 47) ?hr ?_; (case hd => rfl); (case hg => rfl); (case hr => first | (go_simp; done) | (go_simp; rfl)); intro gb271 hg w120 hbox hb; replace HO_16 := Aside0.mk (Kd.R_below (zR_ HO_16.out) hb); replace HO_230000 := Aside0.mk (Kd.R_below (Kd.R_elderB (zR_ HO_230000.out) gb271 (Nat.le_of_eq hg.symm)) hb); replace HO_230001 := Aside0.mk (Kd.R_below (zR_ HO_230001.out) hb); replace HO257 := Aside0.mk (Kd.R_below (zR_ HO257.out) hb); replace HO260 := Aside0.mk (Kd.R_below (Kd.R_elderB (zR_ HO260.out) gb271 (Nat.le_of_eq hg.symm)) hb); replace HO263 := Aside0.mk (Kd.R_below (zR_ HO263.out) hb); have BK271 := Aside0.mk (hbox); have GW271 := Aside0.mk ((by rw [hg]; exact (below_size (zh2_ HB.out GE229.out GE265.out)) : w.heap.size ≤ gb271)); have GE271 := Aside0.mk ((by rw [hg]; exact (below_size (zh2_ HB.out GE229.out GE265.out)) : w.heap.size ≤ gb271)); replace HB := Aside0.mk (below_step (zh2_ HB.out GE229.out GE265.out) hb); have NB229_271 := Aside0.mk ((by rw [hg]; exact Nat.ne_of_lt (blk_lt (zb_ BK229.out)) : gb229 ≠ gb271)); have NB271_229 := Aside0.mk ((by rw [hg]; exact Nat.ne_of_gt (blk_lt (zb_ BK229.out)) : gb271 ≠ gb229)); replace BK229 := Aside0.mk (blk_below (zb_ BK229.out) hb); have NB265_271 := Aside0.mk ((by rw [hg]; exact Nat.ne_of_lt (blk_lt (zb_ BK265.out)) : gb265 ≠ gb271)); have NB271_265 := Aside0.mk ((by rw [hg]; exact Nat.ne_of_gt (blk_lt (zb_ BK265.out)) : gb271 ≠ gb265)); replace BK265 := Aside0.mk (blk_below (zb_ BK265.out) hb); clear hb hbox hg; have hnb121 := NB271_229.out; have hnc121 := NB229_271.out; have hnb122 := NB271_265.out; have hnc122 := NB265_271.out; obtain ⟨hcz123_0, hcz123_1, hcz123_2, hcz123_3⟩ := zc4 BK271.out; obtain ⟨hfz123_0, hfz123_1, hfz123_2, hfz123_3⟩ := zz4 BK271.out; have hcz124_0 : w120.cell? ⟨gb265, 0, none⟩ = some (.slice Ao115 t258.length co115) := (blk_cell BK265.out 0).trans rfl; have hcz124_1 : w120.cell? ⟨gb265, 1, none⟩ = some (.slice Ao118 t261.length co118) := (blk_cell BK265.out 1).trans rfl; have hfz124_0 := blk_frozen BK265.out 0; have hfz124_1 := blk_frozen BK265.out 1) | (go_at_call 16; (with_reducible refine (ledger_Balance.calls k3 _ _ t258 _ _ t261 3 t272 t273 _ ?side1 ?side2 ?side3 ?side4 A108.out).mono ?_); (case side1 => refine (Kd.R_reads' (e := 47) (base := w.heap.size) (ok := fun k_ => ((True ∧ some k_ ≠ (.slice Ao29 t221.length co29 : Value).ownBlock) ∧ k_ ≠ gb271)) (n := t258.length) (c := co115) ?_).2.2; exact (by (with_reducible repeat (first | apply Kd.R_alloc | apply Kd.R_drewN | apply Kd.R_drew)); exact (Kd.R_mono (Kd.R_far (p := ⟨gb271, 3, none⟩) (Kd.R_far (p := ⟨gb271, 2, none⟩) (Kd.R_far (p := ⟨gb271, 1, none⟩) (Kd.R_far (p := ⟨gb271, 0, none⟩) (Kd.R_mono HO260.out (fun k_ hk => (⟨hk, hk.2⟩ : _ ∧ k_ ≠ gb271))) (fun _ hk => hk.2) (.int .i64 t266)) (fun _ hk => hk.2) (.int .i64 t267)) (fun _ hk => hk.2) (.int .i64 t268)) (fun _ hk => hk.2) (.int .i64 t269)) (fun _ h_ => h_.1)))); (case side2 => exact (Kd.R_reads' HO260.out).2.1); (case side3 => exact (Kd.R_reads' (n := t261.length) (c := co118) (zr4_ HO263.out BK271.out)).2.2); (case side4 => exact (Kd.R_reads' HO263.out).2.1); rintro e w125 ⟨rfl, hb⟩; replace HO_16 := Aside0.mk (Kd.R_below (zr4_ HO_16.out BK271.out) hb); replace HO_230000 := Aside0.mk (Kd.R_below (by (with_reducible repeat (first | apply Kd.R_alloc | apply Kd.R_drewN | apply Kd.R_drew)); exact (Kd.R_mono (Kd.R_far (p := ⟨gb271, 3, none⟩) (Kd.R_far (p := ⟨gb271, 2, none⟩) (Kd.R_far (p := ⟨gb271, 1, none⟩) (Kd.R_far (p := ⟨gb271, 0, none⟩) (Kd.R_mono HO_230000.out (fun k_ hk => (⟨hk, hk.2⟩ : _ ∧ k_ ≠ gb271))) (fun _ hk => hk.2) (.int .i64 t266)) (fun _ hk => hk.2) (.int .i64 t267)) (fun _ hk => hk.2) (.int .i64 t268)) (fun _ hk => hk.2) (.int .i64 t269)) (fun _ h_ => h_.1))) hb); replace HO_230001 := Aside0.mk (Kd.R_below (zr4_ HO_230001.out BK271.out) hb); replace HO257 := Aside0.mk (Kd.R_below (zr4_ HO257.out BK271.out) hb); replace HO260 := Aside0.mk (Kd.R_below (by (with_reducible repeat (first | apply Kd.R_alloc | apply Kd.R_drewN | apply Kd.R_drew)); exact (Kd.R_mono (Kd.R_far (p := ⟨gb271, 3, none⟩) (Kd.R_far (p := ⟨gb271, 2, none⟩) (Kd.R_far (p := ⟨gb271, 1, none⟩) (Kd.R_far (p := ⟨gb271, 0, none⟩) (Kd.R_mono HO260.out (fun k_ hk => (⟨hk, hk.2⟩ : _ ∧ k_ ≠ gb271))) (fun _ hk => hk.2) (.int .i64 t266)) (fun _ hk => hk.2) (.int .i64 t267)) (fun _ hk => hk.2) (.int .i64 t268)) (fun _ hk => hk.2) (.int .i64 t269)) (fun _ h_ => h_.1))) hb); replace HO263 := Aside0.mk (Kd.R_below (zr4_ HO263.out BK271.out) hb); replace BK229 := Aside0.mk (blk_below (g := gb229) (o := .cells #[.slice Ao29 t221.length co29, .slice Ao32 t224.length co32] 35 (0, 0)) (zf_ NB229_271.out BK229.out) hb); replace BK265 := Aside0.mk (blk_below (g := gb265) (o := .cells #[.slice Ao115 t258.length co115, .slice Ao118 t261.length co118] 35 (0, 0)) (zf_ NB265_271.out BK265.out) hb); replace BK271 := Aside0.mk (blk_below (g := gb271) (o := .cells #[.int .i64 t266, .int .i64 t267, .int .i64 t268, .int .i64 t269] 47 (0, 0)) (zp_ BK271.out) hb); replace HB := Aside0.mk (below_step (zh3_ HB.out GE229.out GE265.out GE271.out) hb); (try clear hb); (try clear hk)))
              repeat (go_quiet (first | (go_at_call 7; refine calls_of_args (args' := #[.slice Ao110 t230.length co110, .slice A1 l1.length c1, encFn 13]) (by first | rfl | rfl) ?_; (with_reducible refine (stock_Lines.calls k3 _ _ t230 _ _ l1 13 t254 t255 _ ?side1 ?side2 ?side3 ?side4 A105.out).mono ?_); (case side1 => repeat (first | exact (Kd.R_reads' HO_16.out).2.2 | (with_reducible refine Kd.C_alloc ?_ _) | (with_reducible refine Kd.C_drewN ?_ _) | (with_reducible refine Kd.C_drew ?_))); (case side2 => exact (Kd.R_reads' HO_16.out).2.1); (case side3 => exact zc_ (Kd.C_below HR1.out HB.out)); (case side4 => exact HC1.out); rintro e w111 ⟨v256, rfl, ho0, hb⟩; replace HO_230000 := Aside0.mk (Kd.R_below (zR_ HO_230000.out) hb); replace HO_230001 := Aside0.mk (Kd.R_below (zR_ HO_230001.out) hb); have HO257 := Aside0.mk (Kd.R_lower (Kd.R_new' ho0 (Kd.R_lt (zR_ HO_16.out))) (below_size (zh1_ HB.out GE229.out))); replace HO_16 := Aside0.mk (Kd.R_elder' (zR_ HO_16.out) (Kd.R_base ho0) hb); replace BK229 := Aside0.mk (blk_below (zb_ BK229.out) hb); replace HB := Aside0.mk (below_step (zh1_ HB.out GE229.out) hb); (try clear hb); (try clear hk); (try clear ho0); have hcz112_0 : w111.cell? ⟨gb229, 0, none⟩ = some (.slice Ao29 t221.length co29) := (blk_cell BK229.out 0).trans rfl; have hcz112_1 : w111.cell? ⟨gb229, 1, none⟩ = some (.slice Ao32 t224.length co32) := (blk_cell BK229.out 1).trans rfl; have hfz112_0 := blk_frozen BK229.out 0; have hfz112_1 := blk_frozen BK229.out 1) | (go_at_call 14; (with_reducible refine (ledger_Refund.calls _ _ t221 _ _ t224 a2 t207 t258 t261 t264 _ ?side1 ?side2 ?side3 ?side4 A106.out).mono ?_); (case side1 => repeat (first | exact (Kd.R_reads' HO_230000.out).2.2 | (with_reducible refine Kd.C_alloc ?_ _) | (with_reducible refine Kd.C_drewN ?_ _) | (with_reducible refine Kd.C_drew ?_))); (case side2 => exact (Kd.R_reads' HO_230000.out).2.1); (case side3 => repeat (first | exact (Kd.R_reads' HO_230001.out).2.2 | (with_reducible refine Kd.C_alloc ?_ _) | (with_reducible refine Kd.C_drewN ?_ _) | (with_reducible refine Kd.C_drew ?_))); (case side4 => exact (Kd.R_reads' HO_230001.out).2.1); rintro e w113 ⟨v259, v262, rfl, ho0, ho1, hb⟩; replace HO_16 := Aside0.mk (Kd.R_below (zR_ HO_16.out) hb); replace HO257 := Aside0.mk (Kd.R_below (zR_ HO257.out) hb); have HO260 := Aside0.mk (Kd.R_lower (Kd.R_new' ho0 (Kd.R_lt (zR_ HO_230000.out))) (below_size (zh1_ HB.out GE229.out))); replace HO_230000 := Aside0.mk (Kd.R_elder' (zR_ HO_230000.out) (Kd.R_base ho0) hb); have HO263 := Aside0.mk (Kd.R_lower (Kd.R_new' ho1 (Kd.R_lt (zR_ HO_230001.out))) (below_size (zh1_ HB.out GE229.out))); replace HO_230001 := Aside0.mk (Kd.R_elder' (zR_ HO_230001.out) (Kd.R_base ho1) hb); replace BK229 := Aside0.mk (blk_below (zb_ BK229.out) hb); replace HB := Aside0.mk (below_step (zh1_ HB.out GE229.out) hb); (try clear hb); (try clear hk); (try clear ho0); (try clear ho1)) | ((with_reducible refine gate_dst (N := 29) rfl ?_); (try (refine gate_guard (by rfl) ?_; dsimp only)); refine box_event ?hg (N := 29) ?hd (cs := #[.slice none 0 0, .slice none 0 0]) (t := 35) ?hr ?_; (case hd => rfl); (case hg => rfl); (case hr => first | (go_simp; done) | (go_simp; rfl)); intro gb265 hg w114 hbox hb; replace HO_16 := Aside0.mk (Kd.R_below (zR_ HO_16.out) hb); replace HO_230000 := Aside0.mk (Kd.R_below (zR_ HO_230000.out) hb); replace HO_230001 := Aside0.mk (Kd.R_below (zR_ HO_230001.out) hb); replace HO257 := Aside0.mk (Kd.R_below (zR_ HO257.out) hb); replace HO260 := Aside0.mk (Kd.R_below (zR_ HO260.out) hb); replace HO263 := Aside0.mk (Kd.R_below (zR_ HO263.out) hb); have BK265 := Aside0.mk (hbox); have GW265 := Aside0.mk ((by rw [hg]; exact (below_size (zh1_ HB.out GE229.out)) : w.heap.size ≤ gb265)); have GE265 := Aside0.mk ((by rw [hg]; exact (below_size (zh1_ HB.out GE229.out)) : w.heap.size ≤ gb265)); replace HB := Aside0.mk (below_step (zh1_ HB.out GE229.out) hb); have NB229_265 := Aside0.mk ((by rw [hg]; exact Nat.ne_of_lt (blk_lt (zb_ BK229.out)) : gb229 ≠ gb265)); have NB265_229 := Aside0.mk ((by rw [hg]; exact Nat.ne_of_gt (blk_lt (zb_ BK229.out)) : gb265 ≠ gb229)); replace BK229 := Aside0.mk (blk_below (zb_ BK229.out) hb); clear hb hbox hg; obtain ⟨Ao115, co115, eo115⟩ := Kd.R_slice HO260.out; subst eo115; have hnb116 := NB265_229.out; have hnc116 := NB229_265.out; have hcz117_0 : w114.cell? ⟨gb265, 0, none⟩ = some (.slice none 0 0) := (blk_cell BK265.out 0).trans rfl; have hcz117_1 : w114.cell? ⟨gb265, 1, none⟩ = some (.slice none 0 0) := (blk_cell BK265.out 1).trans rfl; have hfz117_0 := blk_frozen BK265.out 0; have hfz117_1 := blk_frozen BK265.out 1; obtain ⟨Ao118, co118, eo118⟩ := Kd.R_slice HO263.out; subst eo118) | (go_at_call 15; (with_reducible refine (ledger_Pay.calls _ _ t258 _ _ t261 a2 t266 t267 t268 t269 t270 _ ?side1 ?side2 ?side3 ?side4 A107.out).mono ?_); (case side1 => exact (Kd.R_reads' (n := t258.length) (c := co115) (zr2_ HO260.out BK265.out)).2.2); (case side2 => exact (Kd.R_reads' HO260.out).2.1); (case side3 => exact (Kd.R_reads' (n := t261.length) (c := co118) (zr2_ HO263.out BK265.out)).2.2); (case side4 => exact (Kd.R_reads' HO263.out).2.1); rintro e w119 ⟨rfl, hb⟩; replace HO_16 := Aside0.mk (Kd.R_below (zr2_ HO_16.out BK265.out) hb); replace HO_230000 := Aside0.mk (Kd.R_below (zr2_ HO_230000.out BK265.out) hb); replace HO_230001 := Aside0.mk (Kd.R_below (zr2_ HO_230001.out BK265.out) hb); replace HO257 := Aside0.mk (Kd.R_below (zr2_ HO257.out BK265.out) hb); replace HO260 := Aside0.mk (Kd.R_below (zr2_ HO260.out BK265.out) hb); replace HO263 := Aside0.mk (Kd.R_below (zr2_ HO263.out BK265.out) hb); replace BK229 := Aside0.mk (blk_below (g := gb229) (o := .cells #[.slice Ao29 t221.length co29, .slice Ao32 t224.length co32] 35 (0, 0)) (zf_ NB229_265.out BK229.out) hb); replace BK265 := Aside0.mk (blk_below (g := gb265) (o := .cells #[.slice Ao115 t258.length co115, .slice Ao118 t261.length co118] 35 (0, 0)) (zp2_ BK265.out) hb); replace HB := Aside0.mk (below_step (zh2_ HB.out GE229.out GE265.out) hb); (try clear hb); (try clear hk)) | ((with_reducible refine gate_dst (N := 31) rfl ?_); (try (refine gate_guard (by rfl) ?_; dsimp only)); refine box_event ?hg (N := 31) ?hd (cs := #[.int .i64 0, .int .i64 0, .int .i64 0, .int .i64 0]) (t := 47) ?hr ?_; (case hd => rfl); (case hg => rfl); (case hr => first | (go_simp; done) | (go_simp; rfl)); intro gb271 hg w120 hbox hb; replace HO_16 := Aside0.mk (Kd.R_below (zR_ HO_16.out) hb); replace HO_230000 := Aside0.mk (Kd.R_below (Kd.R_elderB (zR_ HO_230000.out) gb271 (Nat.le_of_eq hg.symm)) hb); replace HO_230001 := Aside0.mk (Kd.R_below (zR_ HO_230001.out) hb); replace HO257 := Aside0.mk (Kd.R_below (zR_ HO257.out) hb); replace HO260 := Aside0.mk (Kd.R_below (Kd.R_elderB (zR_ HO260.out) gb271 (Nat.le_of_eq hg.symm)) hb); replace HO263 := Aside0.mk (Kd.R_below (zR_ HO263.out) hb); have BK271 := Aside0.mk (hbox); have GW271 := Aside0.mk ((by rw [hg]; exact (below_size (zh2_ HB.out GE229.out GE265.out)) : w.heap.size ≤ gb271)); have GE271 := Aside0.mk ((by rw [hg]; exact (below_size (zh2_ HB.out GE229.out GE265.out)) : w.heap.size ≤ gb271)); replace HB := Aside0.mk (below_step (zh2_ HB.out GE229.out GE265.out) hb); have NB229_271 := Aside0.mk ((by rw [hg]; exact Nat.ne_of_lt (blk_lt (zb_ BK229.out)) : gb229 ≠ gb271)); have NB271_229 := Aside0.mk ((by rw [hg]; exact Nat.ne_of_gt (blk_lt (zb_ BK229.out)) : gb271 ≠ gb229)); replace BK229 := Aside0.mk (blk_below (zb_ BK229.out) hb); have NB265_271 := Aside0.mk ((by rw [hg]; exact Nat.ne_of_lt (blk_lt (zb_ BK265.out)) : gb265 ≠ gb271)); have NB271_265 := Aside0.mk ((by rw [hg]; exact Nat.ne_of_gt (blk_lt (zb_ BK265.out)) : gb271 ≠ gb265)); replace BK265 := Aside0.mk (blk_below (zb_ BK265.out) hb); clear hb hbox hg; have hnb121 := NB271_229.out; have hnc121 := NB229_271.out; have hnb122 := NB271_265.out; have hnc122 := NB265_271.out; obtain ⟨hcz123_0, hcz123_1, hcz123_2, hcz123_3⟩ := zc4 BK271.out; obtain ⟨hfz123_0, hfz123_1, hfz123_2, hfz123_3⟩ := zz4 BK271.out; have hcz124_0 : w120.cell? ⟨gb265, 0, none⟩ = some (.slice Ao115 t258.length co115) := (blk_cell BK265.out 0).trans rfl; have hcz124_1 : w120.cell? ⟨gb265, 1, none⟩ = some (.slice Ao118 t261.length co118) := (blk_cell BK265.out 1).trans rfl; have hfz124_0 := blk_frozen BK265.out 0; have hfz124_1 := blk_frozen BK265.out 1) | (go_at_call 16; (with_reducible refine (ledger_Balance.calls k3 _ _ t258 _ _ t261 3 t272 t273 _ ?side1 ?side2 ?side3 ?side4 A108.out).mono ?_); (case side1 => refine (Kd.R_reads' (e := 47) (base := w.heap.size) (ok := fun k_ => ((True ∧ some k_ ≠ (.slice Ao29 t221.length co29 : Value).ownBlock) ∧ k_ ≠ gb271)) (n := t258.length) (c := co115) ?_).2.2; exact (by (with_reducible repeat (first | apply Kd.R_alloc | apply Kd.R_drewN | apply Kd.R_drew)); exact (Kd.R_mono (Kd.R_far (p := ⟨gb271, 3, none⟩) (Kd.R_far (p := ⟨gb271, 2, none⟩) (Kd.R_far (p := ⟨gb271, 1, none⟩) (Kd.R_far (p := ⟨gb271, 0, none⟩) (Kd.R_mono HO260.out (fun k_ hk => (⟨hk, hk.2⟩ : _ ∧ k_ ≠ gb271))) (fun _ hk => hk.2) (.int .i64 t266)) (fun _ hk => hk.2) (.int .i64 t267)) (fun _ hk => hk.2) (.int .i64 t268)) (fun _ hk => hk.2) (.int .i64 t269)) (fun _ h_ => h_.1)))); (case side2 => exact (Kd.R_reads' HO260.out).2.1); (case side3 => exact (Kd.R_reads' (n := t261.length) (c := co118) (zr4_ HO263.out BK271.out)).2.2); (case side4 => exact (Kd.R_reads' HO263.out).2.1); rintro e w125 ⟨rfl, hb⟩; replace HO_16 := Aside0.mk (Kd.R_below (zr4_ HO_16.out BK271.out) hb); replace HO_230000 := Aside0.mk (Kd.R_below (by (with_reducible repeat (first | apply Kd.R_alloc | apply Kd.R_drewN | apply Kd.R_drew)); exact (Kd.R_mono (Kd.R_far (p := ⟨gb271, 3, none⟩) (Kd.R_far (p := ⟨gb271, 2, none⟩) (Kd.R_far (p := ⟨gb271, 1, none⟩) (Kd.R_far (p := ⟨gb271, 0, none⟩) (Kd.R_mono HO_230000.out (fun k_ hk => (⟨hk, hk.2⟩ : _ ∧ k_ ≠ gb271))) (fun _ hk => hk.2) (.int .i64 t266)) (fun _ hk => hk.2) (.int .i64 t267)) (fun _ hk => hk.2) (.int .i64 t268)) (fun _ hk => hk.2) (.int .i64 t269)) (fun _ h_ => h_.1))) hb); replace HO_230001 := Aside0.mk (Kd.R_below (zr4_ HO_230001.out BK271.out) hb); replace HO257 := Aside0.mk (Kd.R_below (zr4_ HO257.out BK271.out) hb); replace HO260 := Aside0.mk (Kd.R_below (by (with_reducible repeat (first | apply Kd.R_alloc | apply Kd.R_drewN | apply Kd.R_drew)); exact (Kd.R_mono (Kd.R_far (p := ⟨gb271, 3, none⟩) (Kd.R_far (p := ⟨gb271, 2, none⟩) (Kd.R_far (p := ⟨gb271, 1, none⟩) (Kd.R_far (p := ⟨gb271, 0, none⟩) (Kd.R_mono HO260.out (fun k_ hk => (⟨hk, hk.2⟩ : _ ∧ k_ ≠ gb271))) (fun _ hk => hk.2) (.int .i64 t266)) (fun _ hk => hk.2) (.int .i64 t267)) (fun _ hk => hk.2) (.int .i64 t268)) (fun _ hk => hk.2) (.int .i64 t269)) (fun _ h_ => h_.1))) hb); replace HO263 := Aside0.mk (Kd.R_below (zr4_ HO263.out BK271.out) hb); replace BK229 := Aside0.mk (blk_below (g := gb229) (o := .cells #[.slice Ao29 t221.length co29, .slice Ao32 t224.length co32] 35 (0, 0)) (zf_ NB229_271.out BK229.out) hb); replace BK265 := Aside0.mk (blk_below (g := gb265) (o := .cells #[.slice Ao115 t258.length co115, .slice Ao118 t261.length co118] 35 (0, 0)) (zf_ NB265_271.out BK265.out) hb); replace BK271 := Aside0.mk (blk_below (g := gb271) (o := .cells #[.int .i64 t266, .int .i64 t267, .int .i64 t268, .int .i64 t269] 47 (0, 0)) (zp_ BK271.out) hb); replace HB := Aside0.mk (below_step (zh3_ HB.out GE229.out GE265.out GE271.out) hb); (try clear hb); (try clear hk))); go_upto_region 35 with (first | (go_at_call 7; refine calls_of_args (args' := #[.slice Ao110 t230.length co110, .slice A1 l1.length c1, encFn 13]) (by first | rfl | rfl) ?_; (with_reducible refine (stock_Lines.calls k3 _ _ t230 _ _ l1 13 t254 t255 _ ?side1 ?side2 ?side3 ?side4 A105.out).mono ?_); (case side1 => repeat (first | exact (Kd.R_reads' HO_16.out).2.2 | (with_reducible refine Kd.C_alloc ?_ _) | (with_reducible refine Kd.C_drewN ?_ _) | (with_reducible refine Kd.C_drew ?_))); (case side2 => exact (Kd.R_reads' HO_16.out).2.1); (case side3 => exact zc_ (Kd.C_below HR1.out HB.out)); (case side4 => exact HC1.out); rintro e w111 ⟨v256, rfl, ho0, hb⟩; replace HO_230000 := Aside0.mk (Kd.R_below (zR_ HO_230000.out) hb); replace HO_230001 := Aside0.mk (Kd.R_below (zR_ HO_230001.out) hb); have HO257 := Aside0.mk (Kd.R_lower (Kd.R_new' ho0 (Kd.R_lt (zR_ HO_16.out))) (below_size (zh1_ HB.out GE229.out))); replace HO_16 := Aside0.mk (Kd.R_elder' (zR_ HO_16.out) (Kd.R_base ho0) hb); replace BK229 := Aside0.mk (blk_below (zb_ BK229.out) hb); replace HB := Aside0.mk (below_step (zh1_ HB.out GE229.out) hb); (try clear hb); (try clear hk); (try clear ho0); have hcz112_0 : w111.cell? ⟨gb229, 0, none⟩ = some (.slice Ao29 t221.length co29) := (blk_cell BK229.out 0).trans rfl; have hcz112_1 : w111.cell? ⟨gb229, 1, none⟩ = some (.slice Ao32 t224.length co32) := (blk_cell BK229.out 1).trans rfl; have hfz112_0 := blk_frozen BK229.out 0; have hfz112_1 := blk_frozen BK229.out 1) | (go_at_call 14; (with_reducible refine (ledger_Refund.calls _ _ t221 _ _ t224 a2 t207 t258 t261 t264 _ ?side1 ?side2 ?side3 ?side4 A106.out).mono ?_); (case side1 => repeat (first | exact (Kd.R_reads' HO_230000.out).2.2 | (with_reducible refine Kd.C_alloc ?_ _) | (with_reducible refine Kd.C_drewN ?_ _) | (with_reducible refine Kd.C_drew ?_))); (case side2 => exact (Kd.R_reads' HO_230000.out).2.1); (case side3 => repeat (first | exact (Kd.R_reads' HO_230001.out).2.2 | (with_reducible refine Kd.C_alloc ?_ _) | (with_reducible refine Kd.C_drewN ?_ _) | (with_reducible refine Kd.C_drew ?_))); (case side4 => exact (Kd.R_reads' HO_230001.out).2.1); rintro e w113 ⟨v259, v262, rfl, ho0, ho1, hb⟩; replace HO_16 := Aside0.mk (Kd.R_below (zR_ HO_16.out) hb); replace HO257 := Aside0.mk (Kd.R_below (zR_ HO257.out) hb); have HO260 := Aside0.mk (Kd.R_lower (Kd.R_new' ho0 (Kd.R_lt (zR_ HO_230000.out))) (below_size (zh1_ HB.out GE229.out))); replace HO_230000 := Aside0.mk (Kd.R_elder' (zR_ HO_230000.out) (Kd.R_base ho0) hb); have HO263 := Aside0.mk (Kd.R_lower (Kd.R_new' ho1 (Kd.R_lt (zR_ HO_230001.out))) (below_size (zh1_ HB.out GE229.out))); replace HO_230001 := Aside0.mk (Kd.R_elder' (zR_ HO_230001.out) (Kd.R_base ho1) hb); replace BK229 := Aside0.mk (blk_below (zb_ BK229.out) hb); replace HB := Aside0.mk (below_step (zh1_ HB.out GE229.out) hb); (try clear hb); (try clear hk); (try clear ho0); (try clear ho1)) | ((with_reducible refine gate_dst (N := 29) rfl ?_); (try (refine gate_guard (by rfl) ?_; dsimp only)); refine box_event ?hg (N := 29) ?hd (cs := #[.slice none 0 0, .slice none 0 0]) (t := 35) ?hr ?_; (case hd => rfl); (case hg => rfl); (case hr => first | (go_simp; done) | (go_simp; rfl)); intro gb265 hg w114 hbox hb; replace HO_16 := Aside0.mk (Kd.R_below (zR_ HO_16.out) hb); replace HO_230000 := Aside0.mk (Kd.R_below (zR_ HO_230000.out) hb); replace HO_230001 := Aside0.mk (Kd.R_below (zR_ HO_230001.out) hb); replace HO257 := Aside0.mk (Kd.R_below (zR_ HO257.out) hb); replace HO260 := Aside0.mk (Kd.R_below (zR_ HO260.out) hb); replace HO263 := Aside0.mk (Kd.R_below (zR_ HO263.out) hb); have BK265 := Aside0.mk (hbox); have GW265 := Aside0.mk ((by rw [hg]; exact (below_size (zh1_ HB.out GE229.out)) : w.heap.size ≤ gb265)); have GE265 := Aside0.mk ((by rw [hg]; exact (below_size (zh1_ HB.out GE229.out)) : w.heap.size ≤ gb265)); replace HB := Aside0.mk (below_step (zh1_ HB.out GE229.out) hb); have NB229_265 := Aside0.mk ((by rw [hg]; exact Nat.ne_of_lt (blk_lt (zb_ BK229.out)) : gb229 ≠ gb265)); have NB265_229 := Aside0.mk ((by rw [hg]; exact Nat.ne_of_gt (blk_lt (zb_ BK229.out)) : gb265 ≠ gb229)); replace BK229 := Aside0.mk (blk_below (zb_ BK229.out) hb); clear hb hbox hg; obtain ⟨Ao115, co115, eo115⟩ := Kd.R_slice HO260.out; subst eo115; have hnb116 := NB265_229.out; have hnc116 := NB229_265.out; have hcz117_0 : w114.cell? ⟨gb265, 0, none⟩ = some (.slice none 0 0) := (blk_cell BK265.out 0).trans rfl; have hcz117_1 : w114.cell? ⟨gb265, 1, none⟩ = some (.slice none 0 0) := (blk_cell BK265.out 1).trans rfl; have hfz117_0 := blk_frozen BK265.out 0; have hfz117_1 := blk_frozen BK265.out 1; obtain ⟨Ao118, co118, eo118⟩ := Kd.R_slice HO263.out; subst eo118) | (go_at_call 15; (with_reducible refine (ledger_Pay.calls _ _ t258 _ _ t261 a2 t266 t267 t268 t269 t270 _ ?side1 ?side2 ?side3 ?side4 A107.out).mono ?_); (case side1 => exact (Kd.R_reads' (n := t258.length) (c := co115) (zr2_ HO260.out BK265.out)).2.2); (case side2 => exact (Kd.R_reads' HO260.out).2.1); (case side3 => exact (Kd.R_reads' (n := t261.length) (c := co118) (zr2_ HO263.out BK265.out)).2.2); (case side4 => exact (Kd.R_reads' HO263.out).2.1); rintro e w119 ⟨rfl, hb⟩; replace HO_16 := Aside0.mk (Kd.R_below (zr2_ HO_16.out BK265.out) hb); replace HO_230000 := Aside0.mk (Kd.R_below (zr2_ HO_230000.out BK265.out) hb); replace HO_230001 := Aside0.mk (Kd.R_below (zr2_ HO_230001.out BK265.out) hb); replace HO257 := Aside0.mk (Kd.R_below (zr2_ HO257.out BK265.out) hb); replace HO260 := Aside0.mk (Kd.R_below (zr2_ HO260.out BK265.out) hb); replace HO263 := Aside0.mk (Kd.R_below (zr2_ HO263.out BK265.out) hb); replace BK229 := Aside0.mk (blk_below (g := gb229) (o := .cells #[.slice Ao29 t221.length co29, .slice Ao32 t224.length co32] 35 (0, 0)) (zf_ NB229_265.out BK229.out) hb); replace BK265 := Aside0.mk (blk_below (g := gb265) (o := .cells #[.slice Ao115 t258.length co115, .slice Ao118 t261.length co118] 35 (0, 0)) (zp2_ BK265.out) hb); replace HB := Aside0.mk (below_step (zh2_ HB.out GE229.out GE265.out) hb); (try clear hb); (try clear hk)) | ((with_reducible refine gate_dst (N := 31) rfl ?_); (try (refine gate_guard (by rfl) ?_; dsimp only)); refine box_event ?hg (N := 31) ?hd (cs := #[.int .i64 0, .int .i64 0, .int .i64 0, .int .i64 0]) (t := 47) ?hr ?_; (case hd => rfl); (case hg => rfl); (case hr => first | (go_simp; done) | (go_simp; rfl)); intro gb271 hg w120 hbox hb; replace HO_16 := Aside0.mk (Kd.R_below (zR_ HO_16.out) hb); replace HO_230000 := Aside0.mk (Kd.R_below (Kd.R_elderB (zR_ HO_230000.out) gb271 (Nat.le_of_eq hg.symm)) hb); replace HO_230001 := Aside0.mk (Kd.R_below (zR_ HO_230001.out) hb); replace HO257 := Aside0.mk (Kd.R_below (zR_ HO257.out) hb); replace HO260 := Aside0.mk (Kd.R_below (Kd.R_elderB (zR_ HO260.out) gb271 (Nat.le_of_eq hg.symm)) hb); replace HO263 := Aside0.mk (Kd.R_below (zR_ HO263.out) hb); have BK271 := Aside0.mk (hbox); have GW271 := Aside0.mk ((by rw [hg]; exact (below_size (zh2_ HB.out GE229.out GE265.out)) : w.heap.size ≤ gb271)); have GE271 := Aside0.mk ((by rw [hg]; exact (below_size (zh2_ HB.out GE229.out GE265.out)) : w.heap.size ≤ gb271)); replace HB := Aside0.mk (below_step (zh2_ HB.out GE229.out GE265.out) hb); have NB229_271 := Aside0.mk ((by rw [hg]; exact Nat.ne_of_lt (blk_lt (zb_ BK229.out)) : gb229 ≠ gb271)); have NB271_229 := Aside0.mk ((by rw [hg]; exact Nat.ne_of_gt (blk_lt (zb_ BK229.out)) : gb271 ≠ gb229)); replace BK229 := Aside0.mk (blk_below (zb_ BK229.out) hb); have NB265_271 := Aside0.mk ((by rw [hg]; exact Nat.ne_of_lt (blk_lt (zb_ BK265.out)) : gb265 ≠ gb271)); have NB271_265 := Aside0.mk ((by rw [hg]; exact Nat.ne_of_gt (blk_lt (zb_ BK265.out)) : gb271 ≠ gb265)); replace BK265 := Aside0.mk (blk_below (zb_ BK265.out) hb); clear hb hbox hg; have hnb121 := NB271_229.out; have hnc121 := NB229_271.out; have hnb122 := NB271_265.out; have hnc122 := NB265_271.out; obtain ⟨hcz123_0, hcz123_1, hcz123_2, hcz123_3⟩ := zc4 BK271.out; obtain ⟨hfz123_0, hfz123_1, hfz123_2, hfz123_3⟩ := zz4 BK271.out; have hcz124_0 : w120.cell? ⟨gb265, 0, none⟩ = some (.slice Ao115 t258.length co115) := (blk_cell BK265.out 0).trans rfl; have hcz124_1 : w120.cell? ⟨gb265, 1, none⟩ = some (.slice Ao118 t261.length co118) := (blk_cell BK265.out 1).trans rfl; have hfz124_0 := blk_frozen BK265.out 0; have hfz124_1 := blk_frozen BK265.out 1) | (go_at_call 16; (with_reducible refine (ledger_Balance.calls k3 _ _ t258 _ _ t261 3 t272 t273 _ ?side1 ?side2 ?side3 ?side4 A108.out).mono ?_); (case side1 => refine (Kd.R_reads' (e := 47) (base := w.heap.size) (ok := fun k_ => ((True ∧ some k_ ≠ (.slice Ao29 t221.length co29 : Value).ownBlock) ∧ k_ ≠ gb271)) (n := t258.length) (c := co115) ?_).2.2; exact (by (with_reducible repeat (first | apply Kd.R_alloc | apply Kd.R_drewN | apply Kd.R_drew)); exact (Kd.R_mono (Kd.R_far (p := ⟨gb271, 3, none⟩) (Kd.R_far (p := ⟨gb271, 2, none⟩) (Kd.R_far (p := ⟨gb271, 1, none⟩) (Kd.R_far (p := ⟨gb271, 0, none⟩) (Kd.R_mono HO260.out (fun k_ hk => (⟨hk, hk.2⟩ : _ ∧ k_ ≠ gb271))) (fun _ hk => hk.2) (.int .i64 t266)) (fun _ hk => hk.2) (.int .i64 t267)) (fun _ hk => hk.2) (.int .i64 t268)) (fun _ hk => hk.2) (.int .i64 t269)) (fun _ h_ => h_.1)))); (case side2 => exact (Kd.R_reads' HO260.out).2.1); (case side3 => exact (Kd.R_reads' (n := t261.length) (c := co118) (zr4_ HO263.out BK271.out)).2.2); (case side4 => exact (Kd.R_reads' HO263.out).2.1); rintro e w125 ⟨rfl, hb⟩; replace HO_16 := Aside0.mk (Kd.R_below (zr4_ HO_16.out BK271.out) hb); replace HO_230000 := Aside0.mk (Kd.R_below (by (with_reducible repeat (first | apply Kd.R_alloc | apply Kd.R_drewN | apply Kd.R_drew)); exact (Kd.R_mono (Kd.R_far (p := ⟨gb271, 3, none⟩) (Kd.R_far (p := ⟨gb271, 2, none⟩) (Kd.R_far (p := ⟨gb271, 1, none⟩) (Kd.R_far (p := ⟨gb271, 0, none⟩) (Kd.R_mono HO_230000.out (fun k_ hk => (⟨hk, hk.2⟩ : _ ∧ k_ ≠ gb271))) (fun _ hk => hk.2) (.int .i64 t266)) (fun _ hk => hk.2) (.int .i64 t267)) (fun _ hk => hk.2) (.int .i64 t268)) (fun _ hk => hk.2) (.int .i64 t269)) (fun _ h_ => h_.1))) hb); replace HO_230001 := Aside0.mk (Kd.R_below (zr4_ HO_230001.out BK271.out) hb); replace HO257 := Aside0.mk (Kd.R_below (zr4_ HO257.out BK271.out) hb); replace HO260 := Aside0.mk (Kd.R_below (by (with_reducible repeat (first | apply Kd.R_alloc | apply Kd.R_drewN | apply Kd.R_drew)); exact (Kd.R_mono (Kd.R_far (p := ⟨gb271, 3, none⟩) (Kd.R_far (p := ⟨gb271, 2, none⟩) (Kd.R_far (p := ⟨gb271, 1, none⟩) (Kd.R_far (p := ⟨gb271, 0, none⟩) (Kd.R_mono HO260.out (fun k_ hk => (⟨hk, hk.2⟩ : _ ∧ k_ ≠ gb271))) (fun _ hk => hk.2) (.int .i64 t266)) (fun _ hk => hk.2) (.int .i64 t267)) (fun _ hk => hk.2) (.int .i64 t268)) (fun _ hk => hk.2) (.int .i64 t269)) (fun _ h_ => h_.1))) hb); replace HO263 := Aside0.mk (Kd.R_below (zr4_ HO263.out BK271.out) hb); replace BK229 := Aside0.mk (blk_below (g := gb229) (o := .cells #[.slice Ao29 t221.length co29, .slice Ao32 t224.length co32] 35 (0, 0)) (zf_ NB229_271.out BK229.out) hb); replace BK265 := Aside0.mk (blk_below (g := gb265) (o := .cells #[.slice Ao115 t258.length co115, .slice Ao118 t261.length co118] 35 (0, 0)) (zf_ NB265_271.out BK265.out) hb); replace BK271 := Aside0.mk (blk_below (g := gb271) (o := .cells #[.int .i64 t266, .int .i64 t267, .int .i64 t268, .int .i64 t269] 47 (0, 0)) (zp_ BK271.out) hb); replace HB := Aside0.mk (below_step (zh3_ HB.out GE229.out GE265.out GE271.out) hb); (try clear hb); (try clear hk))))
              (try simp only [Act.put, zt0, zt1, zt2])
              go_cut [238] (fun v238 wc => ∃ (kq : Nat) (x238_108 : Bool), v238 = .bool x238_108 ∧ Aside0 (ladingtop_TopSold.j4 kq l0 t254 x238_108 = some r) ∧ Aside0 (kq ≤ k3) ∧ Aside0 (Kd.R k43 43 wc w.heap.size (fun _ => True) v256 t254) ∧ Aside0 (Kd.R k47 47 wc w.heap.size (fun k_ => some k_ ≠ ((.slice Ao115 t258.length co115) : Value).ownBlock ∧ k_ ≠ gb271) (.slice Ao29 t221.length co29) t221) ∧ Aside0 (Kd.R k69 69 wc w.heap.size (fun k_ => some k_ ≠ ((.slice Ao118 t261.length co118) : Value).ownBlock) (.slice Ao32 t224.length co32) t224) ∧ Aside0 (Kd.R k47 47 wc w.heap.size (fun k_ => some k_ ≠ ((.slice Ao29 t221.length co29) : Value).ownBlock ∧ k_ ≠ gb271) (.slice Ao115 t258.length co115) t258) ∧ Aside0 (Kd.R k69 69 wc w.heap.size (fun k_ => some k_ ≠ ((.slice Ao32 t224.length co32) : Value).ownBlock) (.slice Ao118 t261.length co118) t261) ∧ Aside0 (wc.heap[gb229]? = some (.cells #[(.slice Ao29 t221.length co29), (.slice Ao32 t224.length co32)] 35 (0, 0))) ∧ Aside0 (wc.heap[gb265]? = some (.cells #[(.slice Ao115 t258.length co115), (.slice Ao118 t261.length co118)] 35 (0, 0))) ∧ Aside0 (wc.heap[gb271]? = some (.cells #[.int .i64 t266, .int .i64 t267, .int .i64 t268, .int .i64 t269] 47 (0, 0))) ∧ Aside0 (Below w.heap.size w wc))
              case first =>
               have H := HC109.out
               clear HC109
               by_cases c126 : t255 = 0
               ·rw [if_pos c126] at H
                obtain ⟨c126b0, c126b1⟩ := zq1 c126
                clear c126
                (first | rw [c126b0] | (simp only [i64_w, i32_w]; rw [c126b0]) | skip)
                by_cases c127 : t264 = 0
                ·rw [if_pos c127] at H
                 obtain ⟨c127b0, c127b1⟩ := zq1 c127
                 clear c127
                 by_cases c128 : t270 = 0
                 ·rw [if_pos c128] at H
                  obtain ⟨c128b0, c128b1⟩ := zq1 c128
                  clear c128
                  by_cases c129 : t273 = 0
                  ·rw [if_pos c129] at H
                   obtain ⟨c129b0, c129b1⟩ := zq1 c129
                   clear c129
                   by_cases c130 : t268 = t269
                   ·rw [if_pos c130] at H
                    obtain ⟨c130b0, c130b1⟩ := zq1 c130
                    clear c130
                    by_cases c131 : t272 = 0
                    ·rw [if_pos c131] at H
                     obtain ⟨c131b0, c131b1⟩ := zq1 c131
                     clear c131
                     have H' := Aside0.mk H
                     clear H
                     have hnb132 := NB271_229.out
                     have hnc132 := NB229_271.out
                     have hnb133 := NB271_265.out
                     have hnc133 := NB265_271.out
                     obtain ⟨hcz134_0, hcz134_1, hcz134_2, hcz134_3⟩ := zc4 BK271.out
                     obtain ⟨hfz134_0, hfz134_1, hfz134_2, hfz134_3⟩ := zz4 BK271.out
                     obtain ⟨Ao135, co135, eo135⟩ := Kd.R_slice HO257.out
                     subst eo135
                     go_wp2
                     repeat (go_quiet (fail); try go_wp2)
                     go_meet
                     case rel => exact ⟨_, (((t254.length : Int) != (l0.length : Int))), (by first | rfl | (simp; done) | (simp [*]; done) | (simp only [i64_w]; done)), H', ⟨by have := HJ9.out; have := HJ20.out; have := HK3.out; first | omega | exact Nat.le_refl _⟩, ⟨by (with_reducible repeat (first | apply Kd.R_alloc | apply Kd.R_drewN | apply Kd.R_drew)); exact Kd.R_mono HO257.out (fun _ hk => trivial)⟩, ⟨by (with_reducible repeat (first | apply Kd.R_alloc | apply Kd.R_drewN | apply Kd.R_drew)); exact Kd.R_mono HO_230000.out (fun _ hk => ⟨hk.1.2, hk.2⟩)⟩, ⟨by (with_reducible repeat (first | apply Kd.R_alloc | apply Kd.R_drewN | apply Kd.R_drew)); exact Kd.R_mono HO_230001.out (fun _ hk => hk.2)⟩, ⟨by (with_reducible repeat (first | apply Kd.R_alloc | apply Kd.R_drewN | apply Kd.R_drew)); exact Kd.R_mono HO260.out (fun _ hk => ⟨hk.1.2, hk.2⟩)⟩, ⟨by (with_reducible repeat (first | apply Kd.R_alloc | apply Kd.R_drewN | apply Kd.R_drew)); exact Kd.R_mono HO263.out (fun _ hk => hk.2)⟩, ⟨by (with_reducible repeat (first | refine blk_drewN ?_ _ | refine blk_drew ?_ | refine blk_alloc ?_ _)); exact BK229.out⟩, ⟨by (with_reducible repeat (first | refine blk_drewN ?_ _ | refine blk_drew ?_ | refine blk_alloc ?_ _)); exact BK265.out⟩, ⟨by (with_reducible repeat (first | refine blk_drewN ?_ _ | refine blk_drew ?_ | refine blk_alloc ?_ _)); exact BK271.out⟩, ⟨by exact zh3_ HB.out GE229.out GE265.out GE271.out⟩⟩
                    ·rw [if_neg c131] at H
                     cases H
                   ·rw [if_neg c130] at H
                    cases H
                  ·rw [if_neg c129] at H
                   cases H
                 ·rw [if_neg c128] at H
                  cases H
                ·rw [if_neg c127] at H
                 cases H
               ·rw [if_neg c126] at H
                cases H
              case rest =>
               clear HC109
               try clear c1
               try clear p2
               try clear q2
               try clear hx2
               try clear c3
               try clear c4
               try clear c5
               try clear c6
               try clear p6
               try clear c7
               try clear c7b0
               try clear c7b1
               try clear c8
               try clear c9
               try clear c10
               try clear c11
               try clear c12
               try clear c13
               try clear c15
               try clear c15b0
               try clear c15b1
               try clear c16
               try clear c18
               try clear c18b0
               try clear c18b1
               try clear p23
               try clear q23
               try clear hx23
               try clear p25
               try clear q25
               try clear hx25
               try clear c30
               try clear c35
               try clear c35b0
               try clear c35b1
               try clear c36
               try clear c36b0
               try clear c36b1
               try clear c37
               try clear c38
               try clear c38b0
               try clear c39
               try clear c39b0
               try clear c40
               try clear c40b0
               try clear c44
               try clear c48
               try clear c49
               try clear c55
               try clear c56
               try clear c57
               try clear c59
               try clear c59b0
               try clear c60
               try clear c60b0
               try clear c61
               try clear c61b0
               try clear c62
               try clear c62b0
               try clear c62b1
               try clear c63
               try clear c63b0
               try clear c63b1
               try clear p64
               try clear c65
               try clear c66
               try clear c67
               try clear c68
               try clear c70
               try clear c71
               try clear c72
               try clear c75
               try clear c76
               try clear c77
               try clear c78
               try clear c80
               try clear c81
               try clear c82
               try clear c85
               try clear c86
               try clear c87
               try clear c88
               try clear c90
               try clear c91
               try clear c92
               try clear c94
               try clear c94b0
               try clear c94b1
               try clear c95
               try clear c95b0
               try clear c95b1
               try clear c96
               try clear c96b0
               try clear c96b1
               try clear c97
               try clear c97b0
               try clear c97b1
               try clear c98
               try clear c99
               try clear c100
               try clear c102
               try clear c103
               try clear c116
               try clear c121
               try clear c122
               try clear c126
               try clear c126b0
               try clear c126b1
               try clear c127
               try clear c127b0
               try clear c127b1
               try clear c128
               try clear c128b0
               try clear c128b1
               try clear c129
               try clear c129b0
               try clear c129b1
               try clear c130
               try clear c130b0
               try clear c130b1
               try clear c131
               try clear c131b0
               try clear c131b1
               try clear c132
               try clear c133
               try clear hcz101_0
               try clear hcz101_1
               try clear hcz101_2
               try clear hcz101_3
               try clear hcz101_4
               try clear hcz101_5
               try clear hcz104_0
               try clear hcz104_1
               try clear hcz104_2
               try clear hcz104_3
               try clear hcz104_4
               try clear hcz104_5
               try clear hcz112_0
               try clear hcz112_1
               try clear hcz117_0
               try clear hcz117_1
               try clear hcz123_0
               try clear hcz123_1
               try clear hcz123_2
               try clear hcz123_3
               try clear hcz124_0
               try clear hcz124_1
               try clear hcz134_0
               try clear hcz134_1
               try clear hcz134_2
               try clear hcz134_3
               try clear hcz25_0
               try clear hcz25_1
               try clear hcz31_0
               try clear hcz31_1
               try clear hcz45_0
               try clear hcz45_1
               try clear hcz45_2
               try clear hcz45_3
               try clear hcz50_0
               try clear hcz50_1
               try clear hcz50_2
               try clear hcz50_3
               try clear hcz50_4
               try clear hcz50_5
               try clear hcz51_0
               try clear hcz51_1
               try clear hcz51_2
               try clear hcz51_3
               try clear hcz58_0
               try clear hcz58_1
               try clear hcz58_2
               try clear hcz58_3
               try clear hcz58_4
               try clear hcz58_5
               try clear hcz69_0
               try clear hcz69_1
               try clear hcz69_2
               try clear hcz69_3
               try clear hcz73_0
               try clear hcz73_1
               try clear hcz73_2
               try clear hcz73_3
               try clear hcz79_0
               try clear hcz79_1
               try clear hcz79_2
               try clear hcz79_3
               try clear hcz83_0
               try clear hcz83_1
               try clear hcz83_2
               try clear hcz83_3
               try clear hcz89_0
               try clear hcz89_1
               try clear hcz89_2
               try clear hcz89_3
               try clear hcz93_0
               try clear hcz93_1
               try clear hcz93_2
               try clear hcz93_3
               try clear hfz101_0
               try clear hfz101_1
               try clear hfz101_2
               try clear hfz101_3
               try clear hfz101_4
               try clear hfz101_5
               try clear hfz104_0
               try clear hfz104_1
               try clear hfz104_2
               try clear hfz104_3
               try clear hfz104_4
               try clear hfz104_5
               try clear hfz112_0
               try clear hfz112_1
               try clear hfz117_0
               try clear hfz117_1
               try clear hfz123_0
               try clear hfz123_1
               try clear hfz123_2
               try clear hfz123_3
               try clear hfz124_0
               try clear hfz124_1
               try clear hfz134_0
               try clear hfz134_1
               try clear hfz134_2
               try clear hfz134_3
               try clear hfz25_0
               try clear hfz25_1
               try clear hfz31_0
               try clear hfz31_1
               try clear hfz45_0
               try clear hfz45_1
               try clear hfz45_2
               try clear hfz45_3
               try clear hfz50_0
               try clear hfz50_1
               try clear hfz50_2
               try clear hfz50_3
               try clear hfz50_4
               try clear hfz50_5
               try clear hfz51_0
               try clear hfz51_1
               try clear hfz51_2
               try clear hfz51_3
               try clear hfz58_0
               try clear hfz58_1
               try clear hfz58_2
               try clear hfz58_3
               try clear hfz58_4
               try clear hfz58_5
               try clear hfz69_0
               try clear hfz69_1
               try clear hfz69_2
               try clear hfz69_3
               try clear hfz73_0
               try clear hfz73_1
               try clear hfz73_2
               try clear hfz73_3
               try clear hfz79_0
               try clear hfz79_1
               try clear hfz79_2
               try clear hfz79_3
               try clear hfz83_0
               try clear hfz83_1
               try clear hfz83_2
               try clear hfz83_3
               try clear hfz89_0
               try clear hfz89_1
               try clear hfz89_2
               try clear hfz89_3
               try clear hfz93_0
               try clear hfz93_1
               try clear hfz93_2
               try clear hfz93_3
               try clear hx234_0
               try clear hx234_1
               try clear hx234_2
               try clear hx234_3
               try clear hx252_0
               try clear hx252_1
               try clear hx252_2
               try clear hx252_3
               try clear p2
               try clear p23
               try clear p234
               try clear p252
               try clear q2
               try clear q23
               try clear q234
               try clear q252
               (try clear BK229)
               (try clear BK265)
               (try clear BK271)
               obtain ⟨kq, x238_108, rfl, HA, HJ108, HO_27, HO_230000, HO_230001, HO_266000, HO_266001, BK229, BK265, BK271, HB⟩ := hcut
               cases kq with
               | zero => exact absurd HA.out (by simp [ladingtop_TopSold.j4])
               | succ kj108 =>
                have H := HA.out
                clear HA
                simp only [ladingtop_TopSold.j4] at H
                by_cases c136 : x238_108 = true
                ·subst c136
                 replace H := (if_pos (rfl : true = true)).symm.trans H
                 cases H
                ·replace c136 := Bool.eq_false_iff.mpr c136
                 subst c136
                 replace H := (if_neg (show ¬ (false = true) by decide)).symm.trans H
                 have H' := Aside0.mk H
                 clear H
                 go_wp2
                 repeat (go_quiet (fail); try go_wp2)
                 go_loopg [241] kj108 (fun kq v241 w' => ∃ (x241_5 : Int), v241 = .int .i64 x241_5 ∧ Aside0 (ladingtop_TopSold.l2 kq l0 t254 (l0.length : Int) x241_5 = some r) ∧ Aside0 (kq ≤ kj108) ∧ Aside0 (Kd.R k43 43 w' w.heap.size (fun _ => True) v256 t254) ∧ Aside0 (Kd.R k47 47 w' w.heap.size (fun k_ => some k_ ≠ ((.slice Ao115 t258.length co115) : Value).ownBlock ∧ k_ ≠ gb271) (.slice Ao29 t221.length co29) t221) ∧ Aside0 (Kd.R k69 69 w' w.heap.size (fun k_ => some k_ ≠ ((.slice Ao118 t261.length co118) : Value).ownBlock) (.slice Ao32 t224.length co32) t224) ∧ Aside0 (Kd.R k47 47 w' w.heap.size (fun k_ => some k_ ≠ ((.slice Ao29 t221.length co29) : Value).ownBlock ∧ k_ ≠ gb271) (.slice Ao115 t258.length co115) t258) ∧ Aside0 (Kd.R k69 69 w' w.heap.size (fun k_ => some k_ ≠ ((.slice Ao32 t224.length co32) : Value).ownBlock) (.slice Ao118 t261.length co118) t261) ∧ Aside0 (w'.heap[gb229]? = some (.cells #[(.slice Ao29 t221.length co29), (.slice Ao32 t224.length co32)] 35 (0, 0))) ∧ Aside0 (w'.heap[gb265]? = some (.cells #[(.slice Ao115 t258.length co115), (.slice Ao118 t261.length co118)] 35 (0, 0))) ∧ Aside0 (w'.heap[gb271]? = some (.cells #[.int .i64 t266, .int .i64 t267, .int .i64 t268, .int .i64 t269] 47 (0, 0))) ∧ Aside0 (Below w.heap.size w w'))
                 case atStart => exact ⟨(0), (by first | rfl | (simp; done) | (simp [*]; done) | (simp only [i64_w]; done)), H', ⟨Nat.le_refl _⟩, ⟨by (with_reducible repeat (first | apply Kd.R_alloc | apply Kd.R_drewN | apply Kd.R_drew)); exact HO_27.out⟩, ⟨by (with_reducible repeat (first | apply Kd.R_alloc | apply Kd.R_drewN | apply Kd.R_drew)); exact HO_230000.out⟩, ⟨by (with_reducible repeat (first | apply Kd.R_alloc | apply Kd.R_drewN | apply Kd.R_drew)); exact HO_230001.out⟩, ⟨by (with_reducible repeat (first | apply Kd.R_alloc | apply Kd.R_drewN | apply Kd.R_drew)); exact HO_266000.out⟩, ⟨by (with_reducible repeat (first | apply Kd.R_alloc | apply Kd.R_drewN | apply Kd.R_drew)); exact HO_266001.out⟩, ⟨by (with_reducible repeat (first | refine blk_drewN ?_ _ | refine blk_drew ?_ | refine blk_alloc ?_ _)); exact BK229.out⟩, ⟨by (with_reducible repeat (first | refine blk_drewN ?_ _ | refine blk_drew ?_ | refine blk_alloc ?_ _)); exact BK265.out⟩, ⟨by (with_reducible repeat (first | refine blk_drewN ?_ _ | refine blk_drew ?_ | refine blk_alloc ?_ _)); exact BK271.out⟩, ⟨by exact zh3_ HB.out GE229.out GE265.out GE271.out⟩⟩
                 case round =>
                  clear H'
                  try clear c1
                  try clear p2
                  try clear q2
                  try clear hx2
                  try clear c3
                  try clear c4
                  try clear c5
                  try clear c6
                  try clear p6
                  try clear c7
                  try clear c7b0
                  try clear c7b1
                  try clear c8
                  try clear c9
                  try clear c10
                  try clear c11
                  try clear c12
                  try clear c13
                  try clear c15
                  try clear c15b0
                  try clear c15b1
                  try clear c16
                  try clear c18
                  try clear c18b0
                  try clear c18b1
                  try clear p23
                  try clear q23
                  try clear hx23
                  try clear p25
                  try clear q25
                  try clear hx25
                  try clear c30
                  try clear c35
                  try clear c35b0
                  try clear c35b1
                  try clear c36
                  try clear c36b0
                  try clear c36b1
                  try clear c37
                  try clear c38
                  try clear c38b0
                  try clear c39
                  try clear c39b0
                  try clear c40
                  try clear c40b0
                  try clear c44
                  try clear c48
                  try clear c49
                  try clear c55
                  try clear c56
                  try clear c57
                  try clear c59
                  try clear c59b0
                  try clear c60
                  try clear c60b0
                  try clear c61
                  try clear c61b0
                  try clear c62
                  try clear c62b0
                  try clear c62b1
                  try clear c63
                  try clear c63b0
                  try clear c63b1
                  try clear p64
                  try clear c65
                  try clear c66
                  try clear c67
                  try clear c68
                  try clear c70
                  try clear c71
                  try clear c72
                  try clear c75
                  try clear c76
                  try clear c77
                  try clear c78
                  try clear c80
                  try clear c81
                  try clear c82
                  try clear c85
                  try clear c86
                  try clear c87
                  try clear c88
                  try clear c90
                  try clear c91
                  try clear c92
                  try clear c94
                  try clear c94b0
                  try clear c94b1
                  try clear c95
                  try clear c95b0
                  try clear c95b1
                  try clear c96
                  try clear c96b0
                  try clear c96b1
                  try clear c97
                  try clear c97b0
                  try clear c97b1
                  try clear c98
                  try clear c99
                  try clear c100
                  try clear c102
                  try clear c103
                  try clear c116
                  try clear c121
                  try clear c122
                  try clear c126
                  try clear c126b0
                  try clear c126b1
                  try clear c127
                  try clear c127b0
                  try clear c127b1
                  try clear c128
                  try clear c128b0
                  try clear c128b1
                  try clear c129
                  try clear c129b0
                  try clear c129b1
                  try clear c130
                  try clear c130b0
                  try clear c130b1
                  try clear c131
                  try clear c131b0
                  try clear c131b1
                  try clear c132
                  try clear c133
                  try clear c136
                  try clear hcz101_0
                  try clear hcz101_1
                  try clear hcz101_2
                  try clear hcz101_3
                  try clear hcz101_4
                  try clear hcz101_5
                  try clear hcz104_0
                  try clear hcz104_1
                  try clear hcz104_2
                  try clear hcz104_3
                  try clear hcz104_4
                  try clear hcz104_5
                  try clear hcz112_0
                  try clear hcz112_1
                  try clear hcz117_0
                  try clear hcz117_1
                  try clear hcz123_0
                  try clear hcz123_1
                  try clear hcz123_2
                  try clear hcz123_3
                  try clear hcz124_0
                  try clear hcz124_1
                  try clear hcz134_0
                  try clear hcz134_1
                  try clear hcz134_2
                  try clear hcz134_3
                  try clear hcz25_0
                  try clear hcz25_1
                  try clear hcz31_0
                  try clear hcz31_1
                  try clear hcz45_0
                  try clear hcz45_1
                  try clear hcz45_2
                  try clear hcz45_3
                  try clear hcz50_0
                  try clear hcz50_1
                  try clear hcz50_2
                  try clear hcz50_3
                  try clear hcz50_4
                  try clear hcz50_5
                  try clear hcz51_0
                  try clear hcz51_1
                  try clear hcz51_2
                  try clear hcz51_3
                  try clear hcz58_0
                  try clear hcz58_1
                  try clear hcz58_2
                  try clear hcz58_3
                  try clear hcz58_4
                  try clear hcz58_5
                  try clear hcz69_0
                  try clear hcz69_1
                  try clear hcz69_2
                  try clear hcz69_3
                  try clear hcz73_0
                  try clear hcz73_1
                  try clear hcz73_2
                  try clear hcz73_3
                  try clear hcz79_0
                  try clear hcz79_1
                  try clear hcz79_2
                  try clear hcz79_3
                  try clear hcz83_0
                  try clear hcz83_1
                  try clear hcz83_2
                  try clear hcz83_3
                  try clear hcz89_0
                  try clear hcz89_1
                  try clear hcz89_2
                  try clear hcz89_3
                  try clear hcz93_0
                  try clear hcz93_1
                  try clear hcz93_2
                  try clear hcz93_3
                  try clear hfz101_0
                  try clear hfz101_1
                  try clear hfz101_2
                  try clear hfz101_3
                  try clear hfz101_4
                  try clear hfz101_5
                  try clear hfz104_0
                  try clear hfz104_1
                  try clear hfz104_2
                  try clear hfz104_3
                  try clear hfz104_4
                  try clear hfz104_5
                  try clear hfz112_0
                  try clear hfz112_1
                  try clear hfz117_0
                  try clear hfz117_1
                  try clear hfz123_0
                  try clear hfz123_1
                  try clear hfz123_2
                  try clear hfz123_3
                  try clear hfz124_0
                  try clear hfz124_1
                  try clear hfz134_0
                  try clear hfz134_1
                  try clear hfz134_2
                  try clear hfz134_3
                  try clear hfz25_0
                  try clear hfz25_1
                  try clear hfz31_0
                  try clear hfz31_1
                  try clear hfz45_0
                  try clear hfz45_1
                  try clear hfz45_2
                  try clear hfz45_3
                  try clear hfz50_0
                  try clear hfz50_1
                  try clear hfz50_2
                  try clear hfz50_3
                  try clear hfz50_4
                  try clear hfz50_5
                  try clear hfz51_0
                  try clear hfz51_1
                  try clear hfz51_2
                  try clear hfz51_3
                  try clear hfz58_0
                  try clear hfz58_1
                  try clear hfz58_2
                  try clear hfz58_3
                  try clear hfz58_4
                  try clear hfz58_5
                  try clear hfz69_0
                  try clear hfz69_1
                  try clear hfz69_2
                  try clear hfz69_3
                  try clear hfz73_0
                  try clear hfz73_1
                  try clear hfz73_2
                  try clear hfz73_3
                  try clear hfz79_0
                  try clear hfz79_1
                  try clear hfz79_2
                  try clear hfz79_3
                  try clear hfz83_0
                  try clear hfz83_1
                  try clear hfz83_2
                  try clear hfz83_3
                  try clear hfz89_0
                  try clear hfz89_1
                  try clear hfz89_2
                  try clear hfz89_3
                  try clear hfz93_0
                  try clear hfz93_1
                  try clear hfz93_2
                  try clear hfz93_3
                  try clear hx234_0
                  try clear hx234_1
                  try clear hx234_2
                  try clear hx234_3
                  try clear hx252_0
                  try clear hx252_1
                  try clear hx252_2
                  try clear hx252_3
                  try clear p2
                  try clear p23
                  try clear p234
                  try clear p25
                  try clear p252
                  try clear p6
                  try clear p64
                  try clear q2
                  try clear q23
                  try clear q234
                  try clear q25
                  try clear q252
                  (try clear BK229)
                  (try clear BK265)
                  (try clear BK271)
                  obtain ⟨x241_5, rfl, HA, HK5, HO_27, HO_230000, HO_230001, HO_266000, HO_266001, BK229, BK265, BK271, HB⟩ := hrel
                  cases gk with
                  | zero => exact absurd HA.out (by simp [ladingtop_TopSold.l2])
                  | succ k5 =>
                   have H := HA.out
                   clear HA
                   simp only [ladingtop_TopSold.l2] at H
                   by_cases c137 : x241_5 < (l0.length : Int)
                   ·rw [if_pos c137] at H
                    have c137b0 : decide (x241_5 < (l0.length : Int)) = true := decide_eq_true c137
                    clear c137
                    by_cases c138 : 0 ≤ x241_5
                    ·rw [if_pos c138] at H
                     have c138b0 : decide (0 ≤ x241_5) = true := decide_eq_true c138
                     clear c138
                     by_cases c139 : x241_5 < (t254.length : Int)
                     ·rw [if_pos c139] at H
                      have c139b0 : decide (x241_5 < (t254.length : Int)) = true := decide_eq_true c139
                      clear c139
                      by_cases c140 : x241_5 < (l0.length : Int)
                      ·rw [if_pos c140] at H
                       have c140b0 : decide (x241_5 < (l0.length : Int)) = true := decide_eq_true c140
                       clear c140
                       by_cases c141 : (!(((rd_T43 t254 x241_5).f0) == ((rd_T43 l0 x241_5).f0)) || (!(((rd_T43 t254 x241_5).f1) == ((rd_T43 l0 x241_5).f1)) || (!(((rd_T43 t254 x241_5).f2) == ((rd_T43 l0 x241_5).f2)) || (!(((rd_T43 t254 x241_5).f3) == ((rd_T43 l0 x241_5).f3)) || (!(((rd_T43 t254 x241_5).f4) == ((rd_T43 l0 x241_5).f4)) || (!(((rd_T43 t254 x241_5).f5) == ((rd_T43 l0 x241_5).f5)))))))) = true
                       ·rw [if_pos c141] at H
                        cases H
                       ·rw [if_neg c141] at H
                        have c141b0 : (!(((rd_T43 t254 x241_5).f0) == ((rd_T43 l0 x241_5).f0)) || (!(((rd_T43 t254 x241_5).f1) == ((rd_T43 l0 x241_5).f1)) || (!(((rd_T43 t254 x241_5).f2) == ((rd_T43 l0 x241_5).f2)) || (!(((rd_T43 t254 x241_5).f3) == ((rd_T43 l0 x241_5).f3)) || (!(((rd_T43 t254 x241_5).f4) == ((rd_T43 l0 x241_5).f4)) || (!(((rd_T43 t254 x241_5).f5) == ((rd_T43 l0 x241_5).f5)))))))) = false := by simpa using c141
                        clear c141
                        have H' := Aside0.mk H
                        clear H
                        obtain ⟨Ao142, co142, eo142⟩ := Kd.R_slice HO_27.out
                        subst eo142
                        have p274 : 0 ≤ (x241_5 : Int) := of_decide_eq_true za_
                        have q274 : x241_5 < (t254.length : Int) := of_decide_eq_true za_
                        obtain ⟨ad274, e274, hx274_0, hx274_1, hx274_2, hx274_3, hx274_4, hx274_5⟩ := at_T43 (Kd.R_reads' HO_27.out).2.2 x241_5 p274 q274
                        cases e274
                        replace p274 := eq_true p274
                        replace q274 := eq_true q274
                        have p275 : 0 ≤ (x241_5 : Int) := of_decide_eq_true za_
                        have q275 : x241_5 < (l0.length : Int) := of_decide_eq_true za_
                        obtain ⟨ad275, e275, hx275_0, hx275_1, hx275_2, hx275_3, hx275_4, hx275_5⟩ := at_T43 HR0.out x241_5 p275 q275
                        cases e275
                        replace hx275_0 := zx_ HB.out hx275_0
                        replace hx275_1 := zx_ HB.out hx275_1
                        replace hx275_2 := zx_ HB.out hx275_2
                        replace hx275_3 := zx_ HB.out hx275_3
                        replace hx275_4 := zx_ HB.out hx275_4
                        replace hx275_5 := zx_ HB.out hx275_5
                        replace p275 := eq_true p275
                        replace q275 := eq_true q275
                        go_wp2
                        repeat (go_quiet (fail); try go_wp2)
                        go_roundg k5
                        case measure => have := HJ9.out; have := HJ20.out; have := HK3.out; have := HJ108.out; have := HK5.out; omega
                        case rel => exact ⟨(wrap64 (x241_5 + 1)), (by first | rfl | (simp; done) | (simp [*]; done) | (simp only [i64_w]; done)), H', ⟨by have := HJ9.out; have := HJ20.out; have := HK3.out; have := HJ108.out; have := HK5.out; omega⟩, ⟨by (with_reducible repeat (first | apply Kd.R_alloc | apply Kd.R_drewN | apply Kd.R_drew)); exact HO_27.out⟩, ⟨by (with_reducible repeat (first | apply Kd.R_alloc | apply Kd.R_drewN | apply Kd.R_drew)); exact HO_230000.out⟩, ⟨by (with_reducible repeat (first | apply Kd.R_alloc | apply Kd.R_drewN | apply Kd.R_drew)); exact HO_230001.out⟩, ⟨by (with_reducible repeat (first | apply Kd.R_alloc | apply Kd.R_drewN | apply Kd.R_drew)); exact HO_266000.out⟩, ⟨by (with_reducible repeat (first | apply Kd.R_alloc | apply Kd.R_drewN | apply Kd.R_drew)); exact HO_266001.out⟩, ⟨by (with_reducible repeat (first | refine blk_drewN ?_ _ | refine blk_drew ?_ | refine blk_alloc ?_ _)); exact BK229.out⟩, ⟨by (with_reducible repeat (first | refine blk_drewN ?_ _ | refine blk_drew ?_ | refine blk_alloc ?_ _)); exact BK265.out⟩, ⟨by (with_reducible repeat (first | refine blk_drewN ?_ _ | refine blk_drew ?_ | refine blk_alloc ?_ _)); exact BK271.out⟩, ⟨by exact zh3_ HB.out GE229.out GE265.out GE271.out⟩⟩
                      ·rw [if_neg c140] at H
                       cases H
                     ·rw [if_neg c139] at H
                      cases H
                    ·rw [if_neg c138] at H
                     cases H
                   ·rw [if_neg c137] at H
                    have c137b0 : decide (x241_5 < (l0.length : Int)) = false := decide_eq_false c137
                    clear c137
                    obtain rfl := Option.some.inj H
                    go_wp2
                    repeat (go_quiet (fail); try go_wp2)
                    go_ret
                    exact ⟨by first | rfl | (simp [errW_none, errW_some] <;> rfl) | (simp [*, errW_none, errW_some] <;> rfl), by exact zh3_ HB.out GE229.out GE265.out GE271.out⟩
      ·rw [if_neg c18] at H
       obtain ⟨c18b0, c18b1⟩ := zq0 c18
       by_cases c143 : a2 < 1
       ·rw [if_pos c143] at H
        have c143b0 : decide (a2 < 1) = true := decide_eq_true c143
        clear c143
        obtain rfl := Option.some.inj H
        go_wp2_with (first | (go_at_call 9; (refine (ledger_Authorise.calls _ _ ([] : List (S47)) _ _ ([] : List (S69)) a2 t207 t213 t216 t219 _ ?side1 ?side2 ?side3 ?side4 A17.out).mono ?_); (case side1 => exact Kd.C_nil _ _); (case side2 => exact Nat.le_refl _); (case side3 => exact Kd.C_nil _ _); (case side4 => exact Nat.le_refl _); rintro e w144 ⟨v214, v217, rfl, ho0, ho1, hb⟩; replace HO_9 := Aside0.mk (Kd.R_below (zR_ HO_9.out) hb); have HO215 := Aside0.mk (Kd.R_lower ho0 (below_size (zh0_ HB.out))); have HO218 := Aside0.mk (Kd.R_lower ho1 (below_size (zh0_ HB.out))); replace HB := Aside0.mk (below_step (zh0_ HB.out) hb); (try clear hb); (try clear ho0); (try clear ho1)) | ((with_reducible refine gate_dst (N := 11) rfl ?_); (try (refine gate_guard (by rfl) ?_; dsimp only)); refine box_event ?hg (N := 11) ?hd (cs := #[.slice none 0 0, .slice none 0 0]) (t := 35) ?hr ?_; (case hd => rfl); (case hg => rfl); (case hr => first | (go_simp; done) | (go_simp; rfl)); intro gb220 hg w145 hbox hb; replace HO_9 := Aside0.mk (Kd.R_below (zR_ HO_9.out) hb); replace HO215 := Aside0.mk (Kd.R_below (zR_ HO215.out) hb); replace HO218 := Aside0.mk (Kd.R_below (zR_ HO218.out) hb); have BK220 := Aside0.mk (hbox); have GW220 := Aside0.mk ((by rw [hg]; exact (below_size (zh0_ HB.out)) : w.heap.size ≤ gb220)); have GE220 := Aside0.mk ((by rw [hg]; exact (below_size (zh0_ HB.out)) : w.heap.size ≤ gb220)); replace HB := Aside0.mk (below_step (zh0_ HB.out) hb); clear hb hbox hg; obtain ⟨Ao146, co146, eo146⟩ := Kd.R_slice HO215.out; subst eo146; have hcz147_0 : w145.cell? ⟨gb220, 0, none⟩ = some (.slice none 0 0) := (blk_cell BK220.out 0).trans rfl; have hcz147_1 : w145.cell? ⟨gb220, 1, none⟩ = some (.slice none 0 0) := (blk_cell BK220.out 1).trans rfl; have hfz147_0 := blk_frozen BK220.out 0; have hfz147_1 := blk_frozen BK220.out 1; obtain ⟨Ao148, co148, eo148⟩ := Kd.R_slice HO218.out; subst eo148))
        repeat (go_quiet (first | (go_at_call 9; (refine (ledger_Authorise.calls _ _ ([] : List (S47)) _ _ ([] : List (S69)) a2 t207 t213 t216 t219 _ ?side1 ?side2 ?side3 ?side4 A17.out).mono ?_); (case side1 => exact Kd.C_nil _ _); (case side2 => exact Nat.le_refl _); (case side3 => exact Kd.C_nil _ _); (case side4 => exact Nat.le_refl _); rintro e w144 ⟨v214, v217, rfl, ho0, ho1, hb⟩; replace HO_9 := Aside0.mk (Kd.R_below (zR_ HO_9.out) hb); have HO215 := Aside0.mk (Kd.R_lower ho0 (below_size (zh0_ HB.out))); have HO218 := Aside0.mk (Kd.R_lower ho1 (below_size (zh0_ HB.out))); replace HB := Aside0.mk (below_step (zh0_ HB.out) hb); (try clear hb); (try clear ho0); (try clear ho1)) | ((with_reducible refine gate_dst (N := 11) rfl ?_); (try (refine gate_guard (by rfl) ?_; dsimp only)); refine box_event ?hg (N := 11) ?hd (cs := #[.slice none 0 0, .slice none 0 0]) (t := 35) ?hr ?_; (case hd => rfl); (case hg => rfl); (case hr => first | (go_simp; done) | (go_simp; rfl)); intro gb220 hg w145 hbox hb; replace HO_9 := Aside0.mk (Kd.R_below (zR_ HO_9.out) hb); replace HO215 := Aside0.mk (Kd.R_below (zR_ HO215.out) hb); replace HO218 := Aside0.mk (Kd.R_below (zR_ HO218.out) hb); have BK220 := Aside0.mk (hbox); have GW220 := Aside0.mk ((by rw [hg]; exact (below_size (zh0_ HB.out)) : w.heap.size ≤ gb220)); have GE220 := Aside0.mk ((by rw [hg]; exact (below_size (zh0_ HB.out)) : w.heap.size ≤ gb220)); replace HB := Aside0.mk (below_step (zh0_ HB.out) hb); clear hb hbox hg; obtain ⟨Ao146, co146, eo146⟩ := Kd.R_slice HO215.out; subst eo146; have hcz147_0 : w145.cell? ⟨gb220, 0, none⟩ = some (.slice none 0 0) := (blk_cell BK220.out 0).trans rfl; have hcz147_1 : w145.cell? ⟨gb220, 1, none⟩ = some (.slice none 0 0) := (blk_cell BK220.out 1).trans rfl; have hfz147_0 := blk_frozen BK220.out 0; have hfz147_1 := blk_frozen BK220.out 1; obtain ⟨Ao148, co148, eo148⟩ := Kd.R_slice HO218.out; subst eo148)); try go_wp2_with (first | (go_at_call 9; (refine (ledger_Authorise.calls _ _ ([] : List (S47)) _ _ ([] : List (S69)) a2 t207 t213 t216 t219 _ ?side1 ?side2 ?side3 ?side4 A17.out).mono ?_); (case side1 => exact Kd.C_nil _ _); (case side2 => exact Nat.le_refl _); (case side3 => exact Kd.C_nil _ _); (case side4 => exact Nat.le_refl _); rintro e w144 ⟨v214, v217, rfl, ho0, ho1, hb⟩; replace HO_9 := Aside0.mk (Kd.R_below (zR_ HO_9.out) hb); have HO215 := Aside0.mk (Kd.R_lower ho0 (below_size (zh0_ HB.out))); have HO218 := Aside0.mk (Kd.R_lower ho1 (below_size (zh0_ HB.out))); replace HB := Aside0.mk (below_step (zh0_ HB.out) hb); (try clear hb); (try clear ho0); (try clear ho1)) | ((with_reducible refine gate_dst (N := 11) rfl ?_); (try (refine gate_guard (by rfl) ?_; dsimp only)); refine box_event ?hg (N := 11) ?hd (cs := #[.slice none 0 0, .slice none 0 0]) (t := 35) ?hr ?_; (case hd => rfl); (case hg => rfl); (case hr => first | (go_simp; done) | (go_simp; rfl)); intro gb220 hg w145 hbox hb; replace HO_9 := Aside0.mk (Kd.R_below (zR_ HO_9.out) hb); replace HO215 := Aside0.mk (Kd.R_below (zR_ HO215.out) hb); replace HO218 := Aside0.mk (Kd.R_below (zR_ HO218.out) hb); have BK220 := Aside0.mk (hbox); have GW220 := Aside0.mk ((by rw [hg]; exact (below_size (zh0_ HB.out)) : w.heap.size ≤ gb220)); have GE220 := Aside0.mk ((by rw [hg]; exact (below_size (zh0_ HB.out)) : w.heap.size ≤ gb220)); replace HB := Aside0.mk (below_step (zh0_ HB.out) hb); clear hb hbox hg; obtain ⟨Ao146, co146, eo146⟩ := Kd.R_slice HO215.out; subst eo146; have hcz147_0 : w145.cell? ⟨gb220, 0, none⟩ = some (.slice none 0 0) := (blk_cell BK220.out 0).trans rfl; have hcz147_1 : w145.cell? ⟨gb220, 1, none⟩ = some (.slice none 0 0) := (blk_cell BK220.out 1).trans rfl; have hfz147_0 := blk_frozen BK220.out 0; have hfz147_1 := blk_frozen BK220.out 1; obtain ⟨Ao148, co148, eo148⟩ := Kd.R_slice HO218.out; subst eo148)))
        go_ret
        exact ⟨by first | rfl | (simp [errW_none, errW_some] <;> rfl) | (simp [*, errW_none, errW_some] <;> rfl), by exact zh1_ HB.out GE220.out⟩
       ·rw [if_neg c143] at H
        have c143b0 : decide (a2 < 1) = false := decide_eq_false c143
        clear c143
        by_cases c149 : a2 > 1024
        ·rw [if_pos c149] at H
         have c149b0 : decide (1024 < a2) = true := decide_eq_true c149
         clear c149
         obtain rfl := Option.some.inj H
         go_wp2_with (first | (go_at_call 9; (refine (ledger_Authorise.calls _ _ ([] : List (S47)) _ _ ([] : List (S69)) a2 t207 t213 t216 t219 _ ?side1 ?side2 ?side3 ?side4 A17.out).mono ?_); (case side1 => exact Kd.C_nil _ _); (case side2 => exact Nat.le_refl _); (case side3 => exact Kd.C_nil _ _); (case side4 => exact Nat.le_refl _); rintro e w150 ⟨v214, v217, rfl, ho0, ho1, hb⟩; replace HO_9 := Aside0.mk (Kd.R_below (zR_ HO_9.out) hb); have HO215 := Aside0.mk (Kd.R_lower ho0 (below_size (zh0_ HB.out))); have HO218 := Aside0.mk (Kd.R_lower ho1 (below_size (zh0_ HB.out))); replace HB := Aside0.mk (below_step (zh0_ HB.out) hb); (try clear hb); (try clear ho0); (try clear ho1)) | ((with_reducible refine gate_dst (N := 11) rfl ?_); (try (refine gate_guard (by rfl) ?_; dsimp only)); refine box_event ?hg (N := 11) ?hd (cs := #[.slice none 0 0, .slice none 0 0]) (t := 35) ?hr ?_; (case hd => rfl); (case hg => rfl); (case hr => first | (go_simp; done) | (go_simp; rfl)); intro gb220 hg w151 hbox hb; replace HO_9 := Aside0.mk (Kd.R_below (zR_ HO_9.out) hb); replace HO215 := Aside0.mk (Kd.R_below (zR_ HO215.out) hb); replace HO218 := Aside0.mk (Kd.R_below (zR_ HO218.out) hb); have BK220 := Aside0.mk (hbox); have GW220 := Aside0.mk ((by rw [hg]; exact (below_size (zh0_ HB.out)) : w.heap.size ≤ gb220)); have GE220 := Aside0.mk ((by rw [hg]; exact (below_size (zh0_ HB.out)) : w.heap.size ≤ gb220)); replace HB := Aside0.mk (below_step (zh0_ HB.out) hb); clear hb hbox hg; obtain ⟨Ao152, co152, eo152⟩ := Kd.R_slice HO215.out; subst eo152; have hcz153_0 : w151.cell? ⟨gb220, 0, none⟩ = some (.slice none 0 0) := (blk_cell BK220.out 0).trans rfl; have hcz153_1 : w151.cell? ⟨gb220, 1, none⟩ = some (.slice none 0 0) := (blk_cell BK220.out 1).trans rfl; have hfz153_0 := blk_frozen BK220.out 0; have hfz153_1 := blk_frozen BK220.out 1; obtain ⟨Ao154, co154, eo154⟩ := Kd.R_slice HO218.out; subst eo154))
         repeat (go_quiet (first | (go_at_call 9; (refine (ledger_Authorise.calls _ _ ([] : List (S47)) _ _ ([] : List (S69)) a2 t207 t213 t216 t219 _ ?side1 ?side2 ?side3 ?side4 A17.out).mono ?_); (case side1 => exact Kd.C_nil _ _); (case side2 => exact Nat.le_refl _); (case side3 => exact Kd.C_nil _ _); (case side4 => exact Nat.le_refl _); rintro e w150 ⟨v214, v217, rfl, ho0, ho1, hb⟩; replace HO_9 := Aside0.mk (Kd.R_below (zR_ HO_9.out) hb); have HO215 := Aside0.mk (Kd.R_lower ho0 (below_size (zh0_ HB.out))); have HO218 := Aside0.mk (Kd.R_lower ho1 (below_size (zh0_ HB.out))); replace HB := Aside0.mk (below_step (zh0_ HB.out) hb); (try clear hb); (try clear ho0); (try clear ho1)) | ((with_reducible refine gate_dst (N := 11) rfl ?_); (try (refine gate_guard (by rfl) ?_; dsimp only)); refine box_event ?hg (N := 11) ?hd (cs := #[.slice none 0 0, .slice none 0 0]) (t := 35) ?hr ?_; (case hd => rfl); (case hg => rfl); (case hr => first | (go_simp; done) | (go_simp; rfl)); intro gb220 hg w151 hbox hb; replace HO_9 := Aside0.mk (Kd.R_below (zR_ HO_9.out) hb); replace HO215 := Aside0.mk (Kd.R_below (zR_ HO215.out) hb); replace HO218 := Aside0.mk (Kd.R_below (zR_ HO218.out) hb); have BK220 := Aside0.mk (hbox); have GW220 := Aside0.mk ((by rw [hg]; exact (below_size (zh0_ HB.out)) : w.heap.size ≤ gb220)); have GE220 := Aside0.mk ((by rw [hg]; exact (below_size (zh0_ HB.out)) : w.heap.size ≤ gb220)); replace HB := Aside0.mk (below_step (zh0_ HB.out) hb); clear hb hbox hg; obtain ⟨Ao152, co152, eo152⟩ := Kd.R_slice HO215.out; subst eo152; have hcz153_0 : w151.cell? ⟨gb220, 0, none⟩ = some (.slice none 0 0) := (blk_cell BK220.out 0).trans rfl; have hcz153_1 : w151.cell? ⟨gb220, 1, none⟩ = some (.slice none 0 0) := (blk_cell BK220.out 1).trans rfl; have hfz153_0 := blk_frozen BK220.out 0; have hfz153_1 := blk_frozen BK220.out 1; obtain ⟨Ao154, co154, eo154⟩ := Kd.R_slice HO218.out; subst eo154)); try go_wp2_with (first | (go_at_call 9; (refine (ledger_Authorise.calls _ _ ([] : List (S47)) _ _ ([] : List (S69)) a2 t207 t213 t216 t219 _ ?side1 ?side2 ?side3 ?side4 A17.out).mono ?_); (case side1 => exact Kd.C_nil _ _); (case side2 => exact Nat.le_refl _); (case side3 => exact Kd.C_nil _ _); (case side4 => exact Nat.le_refl _); rintro e w150 ⟨v214, v217, rfl, ho0, ho1, hb⟩; replace HO_9 := Aside0.mk (Kd.R_below (zR_ HO_9.out) hb); have HO215 := Aside0.mk (Kd.R_lower ho0 (below_size (zh0_ HB.out))); have HO218 := Aside0.mk (Kd.R_lower ho1 (below_size (zh0_ HB.out))); replace HB := Aside0.mk (below_step (zh0_ HB.out) hb); (try clear hb); (try clear ho0); (try clear ho1)) | ((with_reducible refine gate_dst (N := 11) rfl ?_); (try (refine gate_guard (by rfl) ?_; dsimp only)); refine box_event ?hg (N := 11) ?hd (cs := #[.slice none 0 0, .slice none 0 0]) (t := 35) ?hr ?_; (case hd => rfl); (case hg => rfl); (case hr => first | (go_simp; done) | (go_simp; rfl)); intro gb220 hg w151 hbox hb; replace HO_9 := Aside0.mk (Kd.R_below (zR_ HO_9.out) hb); replace HO215 := Aside0.mk (Kd.R_below (zR_ HO215.out) hb); replace HO218 := Aside0.mk (Kd.R_below (zR_ HO218.out) hb); have BK220 := Aside0.mk (hbox); have GW220 := Aside0.mk ((by rw [hg]; exact (below_size (zh0_ HB.out)) : w.heap.size ≤ gb220)); have GE220 := Aside0.mk ((by rw [hg]; exact (below_size (zh0_ HB.out)) : w.heap.size ≤ gb220)); replace HB := Aside0.mk (below_step (zh0_ HB.out) hb); clear hb hbox hg; obtain ⟨Ao152, co152, eo152⟩ := Kd.R_slice HO215.out; subst eo152; have hcz153_0 : w151.cell? ⟨gb220, 0, none⟩ = some (.slice none 0 0) := (blk_cell BK220.out 0).trans rfl; have hcz153_1 : w151.cell? ⟨gb220, 1, none⟩ = some (.slice none 0 0) := (blk_cell BK220.out 1).trans rfl; have hfz153_0 := blk_frozen BK220.out 0; have hfz153_1 := blk_frozen BK220.out 1; obtain ⟨Ao154, co154, eo154⟩ := Kd.R_slice HO218.out; subst eo154)))
         go_ret
         exact ⟨by first | rfl | (simp [errW_none, errW_some] <;> rfl) | (simp [*, errW_none, errW_some] <;> rfl), by exact zh1_ HB.out GE220.out⟩
        ·rw [if_neg c149] at H
         have c149b0 : decide (1024 < a2) = false := decide_eq_false c149
         clear c149
         by_cases c155 : t207 < 1
         ·rw [if_pos c155] at H
          have c155b0 : decide (t207 < 1) = true := decide_eq_true c155
          clear c155
          obtain rfl := Option.some.inj H
          go_wp2_with (first | (go_at_call 9; (refine (ledger_Authorise.calls _ _ ([] : List (S47)) _ _ ([] : List (S69)) a2 t207 t213 t216 t219 _ ?side1 ?side2 ?side3 ?side4 A17.out).mono ?_); (case side1 => exact Kd.C_nil _ _); (case side2 => exact Nat.le_refl _); (case side3 => exact Kd.C_nil _ _); (case side4 => exact Nat.le_refl _); rintro e w156 ⟨v214, v217, rfl, ho0, ho1, hb⟩; replace HO_9 := Aside0.mk (Kd.R_below (zR_ HO_9.out) hb); have HO215 := Aside0.mk (Kd.R_lower ho0 (below_size (zh0_ HB.out))); have HO218 := Aside0.mk (Kd.R_lower ho1 (below_size (zh0_ HB.out))); replace HB := Aside0.mk (below_step (zh0_ HB.out) hb); (try clear hb); (try clear ho0); (try clear ho1)) | ((with_reducible refine gate_dst (N := 11) rfl ?_); (try (refine gate_guard (by rfl) ?_; dsimp only)); refine box_event ?hg (N := 11) ?hd (cs := #[.slice none 0 0, .slice none 0 0]) (t := 35) ?hr ?_; (case hd => rfl); (case hg => rfl); (case hr => first | (go_simp; done) | (go_simp; rfl)); intro gb220 hg w157 hbox hb; replace HO_9 := Aside0.mk (Kd.R_below (zR_ HO_9.out) hb); replace HO215 := Aside0.mk (Kd.R_below (zR_ HO215.out) hb); replace HO218 := Aside0.mk (Kd.R_below (zR_ HO218.out) hb); have BK220 := Aside0.mk (hbox); have GW220 := Aside0.mk ((by rw [hg]; exact (below_size (zh0_ HB.out)) : w.heap.size ≤ gb220)); have GE220 := Aside0.mk ((by rw [hg]; exact (below_size (zh0_ HB.out)) : w.heap.size ≤ gb220)); replace HB := Aside0.mk (below_step (zh0_ HB.out) hb); clear hb hbox hg; obtain ⟨Ao158, co158, eo158⟩ := Kd.R_slice HO215.out; subst eo158; have hcz159_0 : w157.cell? ⟨gb220, 0, none⟩ = some (.slice none 0 0) := (blk_cell BK220.out 0).trans rfl; have hcz159_1 : w157.cell? ⟨gb220, 1, none⟩ = some (.slice none 0 0) := (blk_cell BK220.out 1).trans rfl; have hfz159_0 := blk_frozen BK220.out 0; have hfz159_1 := blk_frozen BK220.out 1; obtain ⟨Ao160, co160, eo160⟩ := Kd.R_slice HO218.out; subst eo160))
          repeat (go_quiet (first | (go_at_call 9; (refine (ledger_Authorise.calls _ _ ([] : List (S47)) _ _ ([] : List (S69)) a2 t207 t213 t216 t219 _ ?side1 ?side2 ?side3 ?side4 A17.out).mono ?_); (case side1 => exact Kd.C_nil _ _); (case side2 => exact Nat.le_refl _); (case side3 => exact Kd.C_nil _ _); (case side4 => exact Nat.le_refl _); rintro e w156 ⟨v214, v217, rfl, ho0, ho1, hb⟩; replace HO_9 := Aside0.mk (Kd.R_below (zR_ HO_9.out) hb); have HO215 := Aside0.mk (Kd.R_lower ho0 (below_size (zh0_ HB.out))); have HO218 := Aside0.mk (Kd.R_lower ho1 (below_size (zh0_ HB.out))); replace HB := Aside0.mk (below_step (zh0_ HB.out) hb); (try clear hb); (try clear ho0); (try clear ho1)) | ((with_reducible refine gate_dst (N := 11) rfl ?_); (try (refine gate_guard (by rfl) ?_; dsimp only)); refine box_event ?hg (N := 11) ?hd (cs := #[.slice none 0 0, .slice none 0 0]) (t := 35) ?hr ?_; (case hd => rfl); (case hg => rfl); (case hr => first | (go_simp; done) | (go_simp; rfl)); intro gb220 hg w157 hbox hb; replace HO_9 := Aside0.mk (Kd.R_below (zR_ HO_9.out) hb); replace HO215 := Aside0.mk (Kd.R_below (zR_ HO215.out) hb); replace HO218 := Aside0.mk (Kd.R_below (zR_ HO218.out) hb); have BK220 := Aside0.mk (hbox); have GW220 := Aside0.mk ((by rw [hg]; exact (below_size (zh0_ HB.out)) : w.heap.size ≤ gb220)); have GE220 := Aside0.mk ((by rw [hg]; exact (below_size (zh0_ HB.out)) : w.heap.size ≤ gb220)); replace HB := Aside0.mk (below_step (zh0_ HB.out) hb); clear hb hbox hg; obtain ⟨Ao158, co158, eo158⟩ := Kd.R_slice HO215.out; subst eo158; have hcz159_0 : w157.cell? ⟨gb220, 0, none⟩ = some (.slice none 0 0) := (blk_cell BK220.out 0).trans rfl; have hcz159_1 : w157.cell? ⟨gb220, 1, none⟩ = some (.slice none 0 0) := (blk_cell BK220.out 1).trans rfl; have hfz159_0 := blk_frozen BK220.out 0; have hfz159_1 := blk_frozen BK220.out 1; obtain ⟨Ao160, co160, eo160⟩ := Kd.R_slice HO218.out; subst eo160)); try go_wp2_with (first | (go_at_call 9; (refine (ledger_Authorise.calls _ _ ([] : List (S47)) _ _ ([] : List (S69)) a2 t207 t213 t216 t219 _ ?side1 ?side2 ?side3 ?side4 A17.out).mono ?_); (case side1 => exact Kd.C_nil _ _); (case side2 => exact Nat.le_refl _); (case side3 => exact Kd.C_nil _ _); (case side4 => exact Nat.le_refl _); rintro e w156 ⟨v214, v217, rfl, ho0, ho1, hb⟩; replace HO_9 := Aside0.mk (Kd.R_below (zR_ HO_9.out) hb); have HO215 := Aside0.mk (Kd.R_lower ho0 (below_size (zh0_ HB.out))); have HO218 := Aside0.mk (Kd.R_lower ho1 (below_size (zh0_ HB.out))); replace HB := Aside0.mk (below_step (zh0_ HB.out) hb); (try clear hb); (try clear ho0); (try clear ho1)) | ((with_reducible refine gate_dst (N := 11) rfl ?_); (try (refine gate_guard (by rfl) ?_; dsimp only)); refine box_event ?hg (N := 11) ?hd (cs := #[.slice none 0 0, .slice none 0 0]) (t := 35) ?hr ?_; (case hd => rfl); (case hg => rfl); (case hr => first | (go_simp; done) | (go_simp; rfl)); intro gb220 hg w157 hbox hb; replace HO_9 := Aside0.mk (Kd.R_below (zR_ HO_9.out) hb); replace HO215 := Aside0.mk (Kd.R_below (zR_ HO215.out) hb); replace HO218 := Aside0.mk (Kd.R_below (zR_ HO218.out) hb); have BK220 := Aside0.mk (hbox); have GW220 := Aside0.mk ((by rw [hg]; exact (below_size (zh0_ HB.out)) : w.heap.size ≤ gb220)); have GE220 := Aside0.mk ((by rw [hg]; exact (below_size (zh0_ HB.out)) : w.heap.size ≤ gb220)); replace HB := Aside0.mk (below_step (zh0_ HB.out) hb); clear hb hbox hg; obtain ⟨Ao158, co158, eo158⟩ := Kd.R_slice HO215.out; subst eo158; have hcz159_0 : w157.cell? ⟨gb220, 0, none⟩ = some (.slice none 0 0) := (blk_cell BK220.out 0).trans rfl; have hcz159_1 : w157.cell? ⟨gb220, 1, none⟩ = some (.slice none 0 0) := (blk_cell BK220.out 1).trans rfl; have hfz159_0 := blk_frozen BK220.out 0; have hfz159_1 := blk_frozen BK220.out 1; obtain ⟨Ao160, co160, eo160⟩ := Kd.R_slice HO218.out; subst eo160)))
          go_ret
          exact ⟨by first | rfl | (simp [errW_none, errW_some] <;> rfl) | (simp [*, errW_none, errW_some] <;> rfl), by exact zh1_ HB.out GE220.out⟩
         ·rw [if_neg c155] at H
          have c155b0 : decide (t207 < 1) = false := decide_eq_false c155
          clear c155
          obtain rfl := Option.some.inj H
          go_wp2_with (first | (go_at_call 9; (refine (ledger_Authorise.calls _ _ ([] : List (S47)) _ _ ([] : List (S69)) a2 t207 t213 t216 t219 _ ?side1 ?side2 ?side3 ?side4 A17.out).mono ?_); (case side1 => exact Kd.C_nil _ _); (case side2 => exact Nat.le_refl _); (case side3 => exact Kd.C_nil _ _); (case side4 => exact Nat.le_refl _); rintro e w161 ⟨v214, v217, rfl, ho0, ho1, hb⟩; replace HO_9 := Aside0.mk (Kd.R_below (zR_ HO_9.out) hb); have HO215 := Aside0.mk (Kd.R_lower ho0 (below_size (zh0_ HB.out))); have HO218 := Aside0.mk (Kd.R_lower ho1 (below_size (zh0_ HB.out))); replace HB := Aside0.mk (below_step (zh0_ HB.out) hb); (try clear hb); (try clear ho0); (try clear ho1)) | ((with_reducible refine gate_dst (N := 11) rfl ?_); (try (refine gate_guard (by rfl) ?_; dsimp only)); refine box_event ?hg (N := 11) ?hd (cs := #[.slice none 0 0, .slice none 0 0]) (t := 35) ?hr ?_; (case hd => rfl); (case hg => rfl); (case hr => first | (go_simp; done) | (go_simp; rfl)); intro gb220 hg w162 hbox hb; replace HO_9 := Aside0.mk (Kd.R_below (zR_ HO_9.out) hb); replace HO215 := Aside0.mk (Kd.R_below (zR_ HO215.out) hb); replace HO218 := Aside0.mk (Kd.R_below (zR_ HO218.out) hb); have BK220 := Aside0.mk (hbox); have GW220 := Aside0.mk ((by rw [hg]; exact (below_size (zh0_ HB.out)) : w.heap.size ≤ gb220)); have GE220 := Aside0.mk ((by rw [hg]; exact (below_size (zh0_ HB.out)) : w.heap.size ≤ gb220)); replace HB := Aside0.mk (below_step (zh0_ HB.out) hb); clear hb hbox hg; obtain ⟨Ao163, co163, eo163⟩ := Kd.R_slice HO215.out; subst eo163; have hcz164_0 : w162.cell? ⟨gb220, 0, none⟩ = some (.slice none 0 0) := (blk_cell BK220.out 0).trans rfl; have hcz164_1 : w162.cell? ⟨gb220, 1, none⟩ = some (.slice none 0 0) := (blk_cell BK220.out 1).trans rfl; have hfz164_0 := blk_frozen BK220.out 0; have hfz164_1 := blk_frozen BK220.out 1; obtain ⟨Ao165, co165, eo165⟩ := Kd.R_slice HO218.out; subst eo165))
          repeat (go_quiet (first | (go_at_call 9; (refine (ledger_Authorise.calls _ _ ([] : List (S47)) _ _ ([] : List (S69)) a2 t207 t213 t216 t219 _ ?side1 ?side2 ?side3 ?side4 A17.out).mono ?_); (case side1 => exact Kd.C_nil _ _); (case side2 => exact Nat.le_refl _); (case side3 => exact Kd.C_nil _ _); (case side4 => exact Nat.le_refl _); rintro e w161 ⟨v214, v217, rfl, ho0, ho1, hb⟩; replace HO_9 := Aside0.mk (Kd.R_below (zR_ HO_9.out) hb); have HO215 := Aside0.mk (Kd.R_lower ho0 (below_size (zh0_ HB.out))); have HO218 := Aside0.mk (Kd.R_lower ho1 (below_size (zh0_ HB.out))); replace HB := Aside0.mk (below_step (zh0_ HB.out) hb); (try clear hb); (try clear ho0); (try clear ho1)) | ((with_reducible refine gate_dst (N := 11) rfl ?_); (try (refine gate_guard (by rfl) ?_; dsimp only)); refine box_event ?hg (N := 11) ?hd (cs := #[.slice none 0 0, .slice none 0 0]) (t := 35) ?hr ?_; (case hd => rfl); (case hg => rfl); (case hr => first | (go_simp; done) | (go_simp; rfl)); intro gb220 hg w162 hbox hb; replace HO_9 := Aside0.mk (Kd.R_below (zR_ HO_9.out) hb); replace HO215 := Aside0.mk (Kd.R_below (zR_ HO215.out) hb); replace HO218 := Aside0.mk (Kd.R_below (zR_ HO218.out) hb); have BK220 := Aside0.mk (hbox); have GW220 := Aside0.mk ((by rw [hg]; exact (below_size (zh0_ HB.out)) : w.heap.size ≤ gb220)); have GE220 := Aside0.mk ((by rw [hg]; exact (below_size (zh0_ HB.out)) : w.heap.size ≤ gb220)); replace HB := Aside0.mk (below_step (zh0_ HB.out) hb); clear hb hbox hg; obtain ⟨Ao163, co163, eo163⟩ := Kd.R_slice HO215.out; subst eo163; have hcz164_0 : w162.cell? ⟨gb220, 0, none⟩ = some (.slice none 0 0) := (blk_cell BK220.out 0).trans rfl; have hcz164_1 : w162.cell? ⟨gb220, 1, none⟩ = some (.slice none 0 0) := (blk_cell BK220.out 1).trans rfl; have hfz164_0 := blk_frozen BK220.out 0; have hfz164_1 := blk_frozen BK220.out 1; obtain ⟨Ao165, co165, eo165⟩ := Kd.R_slice HO218.out; subst eo165)); try go_wp2_with (first | (go_at_call 9; (refine (ledger_Authorise.calls _ _ ([] : List (S47)) _ _ ([] : List (S69)) a2 t207 t213 t216 t219 _ ?side1 ?side2 ?side3 ?side4 A17.out).mono ?_); (case side1 => exact Kd.C_nil _ _); (case side2 => exact Nat.le_refl _); (case side3 => exact Kd.C_nil _ _); (case side4 => exact Nat.le_refl _); rintro e w161 ⟨v214, v217, rfl, ho0, ho1, hb⟩; replace HO_9 := Aside0.mk (Kd.R_below (zR_ HO_9.out) hb); have HO215 := Aside0.mk (Kd.R_lower ho0 (below_size (zh0_ HB.out))); have HO218 := Aside0.mk (Kd.R_lower ho1 (below_size (zh0_ HB.out))); replace HB := Aside0.mk (below_step (zh0_ HB.out) hb); (try clear hb); (try clear ho0); (try clear ho1)) | ((with_reducible refine gate_dst (N := 11) rfl ?_); (try (refine gate_guard (by rfl) ?_; dsimp only)); refine box_event ?hg (N := 11) ?hd (cs := #[.slice none 0 0, .slice none 0 0]) (t := 35) ?hr ?_; (case hd => rfl); (case hg => rfl); (case hr => first | (go_simp; done) | (go_simp; rfl)); intro gb220 hg w162 hbox hb; replace HO_9 := Aside0.mk (Kd.R_below (zR_ HO_9.out) hb); replace HO215 := Aside0.mk (Kd.R_below (zR_ HO215.out) hb); replace HO218 := Aside0.mk (Kd.R_below (zR_ HO218.out) hb); have BK220 := Aside0.mk (hbox); have GW220 := Aside0.mk ((by rw [hg]; exact (below_size (zh0_ HB.out)) : w.heap.size ≤ gb220)); have GE220 := Aside0.mk ((by rw [hg]; exact (below_size (zh0_ HB.out)) : w.heap.size ≤ gb220)); replace HB := Aside0.mk (below_step (zh0_ HB.out) hb); clear hb hbox hg; obtain ⟨Ao163, co163, eo163⟩ := Kd.R_slice HO215.out; subst eo163; have hcz164_0 : w162.cell? ⟨gb220, 0, none⟩ = some (.slice none 0 0) := (blk_cell BK220.out 0).trans rfl; have hcz164_1 : w162.cell? ⟨gb220, 1, none⟩ = some (.slice none 0 0) := (blk_cell BK220.out 1).trans rfl; have hfz164_0 := blk_frozen BK220.out 0; have hfz164_1 := blk_frozen BK220.out 1; obtain ⟨Ao165, co165, eo165⟩ := Kd.R_slice HO218.out; subst eo165)))
          go_ret
          exact ⟨by first | rfl | (simp [errW_none, errW_some] <;> rfl) | (simp [*, errW_none, errW_some] <;> rfl), by exact zh1_ HB.out GE220.out⟩
  ·rw [if_neg c7] at H
   obtain ⟨c7b0, c7b1⟩ := zq0 c7
   obtain rfl := Option.some.inj H
   go_enter Tryd.func3, Tryd.ntmps3
   go_wp2_with (first | (go_at_call 4; (with_reducible refine (ladingtop_begins.calls  true _ ?side1 A4.out).mono ?_); (case side1 => exact GlobOk.below HG.out (zh0_ HB.out)); rintro e w166 ⟨rfl, hb⟩; replace HB := Aside0.mk (below_step (zh0_ HB.out) hb); (try clear hb)) | (go_at_call 5; (with_reducible refine (stock_Check.calls k _ _ l0 t206 _ ?side1 ?side2 A6.out).mono ?_); (case side1 => exact zc_ (Kd.C_below HR0.out HB.out)); (case side2 => exact HC0.out); rintro e w167 ⟨rfl, hb⟩; replace HB := Aside0.mk (below_step (zh0_ HB.out) hb); (try clear hb)))
   repeat (go_quiet (first | (go_at_call 4; (with_reducible refine (ladingtop_begins.calls  true _ ?side1 A4.out).mono ?_); (case side1 => exact GlobOk.below HG.out (zh0_ HB.out)); rintro e w166 ⟨rfl, hb⟩; replace HB := Aside0.mk (below_step (zh0_ HB.out) hb); (try clear hb)) | (go_at_call 5; (with_reducible refine (stock_Check.calls k _ _ l0 t206 _ ?side1 ?side2 A6.out).mono ?_); (case side1 => exact zc_ (Kd.C_below HR0.out HB.out)); (case side2 => exact HC0.out); rintro e w167 ⟨rfl, hb⟩; replace HB := Aside0.mk (below_step (zh0_ HB.out) hb); (try clear hb))); try go_wp2_with (first | (go_at_call 4; (with_reducible refine (ladingtop_begins.calls  true _ ?side1 A4.out).mono ?_); (case side1 => exact GlobOk.below HG.out (zh0_ HB.out)); rintro e w166 ⟨rfl, hb⟩; replace HB := Aside0.mk (below_step (zh0_ HB.out) hb); (try clear hb)) | (go_at_call 5; (with_reducible refine (stock_Check.calls k _ _ l0 t206 _ ?side1 ?side2 A6.out).mono ?_); (case side1 => exact zc_ (Kd.C_below HR0.out HB.out)); (case side2 => exact HC0.out); rintro e w167 ⟨rfl, hb⟩; replace HB := Aside0.mk (below_step (zh0_ HB.out) hb); (try clear hb))))
   go_ret
   exact ⟨by first | rfl | (simp [errW_none, errW_some] <;> rfl) | (simp [*, errW_none, errW_some] <;> rfl), by exact zh0_ HB.out⟩
 ·replace c5 := Bool.eq_false_iff.mpr c5
  subst c5
  replace H := (if_neg (show ¬ (false = true) by decide)).symm.trans H
  cases H
end Go.Proofs.YtdiopojnkjkgmaaDoor.Print
