/- Functions of the program, each with its contract, written by a program out of the translation. -/
import Derived.Test.YtjcmcamijaelbaaPDiskx0
import Derived.Test.YtjcmcamijaelbaaZip
namespace Go.Proofs.Ytjcmcamijaelbaa.PDisk
open Go.RowKit Go.Proofs.YtjcmcamijaelbaaW.PrintWords Go.Proofs.YtjcmcamijaelbaaW.PrintLast Go.Proofs.YtjcmcamijaelbaaW.PrintMore Go.Proofs.Ytjcmcamijaelbaa.Zip
attribute [local go_sem] max2_int min2_int max_two min_two max_three min_three max_four min_four   -- for this text's walks alone
set_option linter.unusedVariables false
set_option linter.unusedSimpArgs false
/-! ### laws_toInode: function 129 -/
def laws_toInode.f (a0_0 : Int) (a0_1 : ByteArray) (a0_2 : Int) : Option (Int × ByteArray × Int) := some (a0_0, a0_1, a0_2)
set_option maxHeartbeats 8000000 in
set_option maxRecDepth 100000 in
theorem laws_toInode.calls (a0_0 : Int) (a0_1 : ByteArray) (a0_2 : Int) (r1 : Int) (r2 : ByteArray) (r3 : Int) (w : World) (h : laws_toInode.f a0_0 a0_1 a0_2 = some (r1, r2, r3)) :
 Calls Try.prog 129 #[.agg #[.int .i64 a0_0, .string a0_1, .int .i64 a0_2]] w fun e w' => e = .returned (.agg #[.int .i64 r1, .string r2, .int .i64 r3]) ∧ Below w.heap.size w w' := by
 have hu134 := Try.underlying134
 have hu89 := Try.underlying89
 have HB := Aside0.mk (Below.refl w.heap.size w)
 have H : (some (a0_0, a0_1, a0_2)) = some (r1, r2, r3) := h
 clear h
 simp only [Option.some.injEq, Prod.mk.injEq] at H
 obtain ⟨rfl, rfl, rfl⟩ := H
 go_enter Try.func129, Try.ntmps129
 go_wp2_with (first | ((with_reducible refine gD 1 rfl ?_); refine boxZ 1 #[.int .i64 a0_0, .string a0_1, .int .i64 a0_2] 134 ?_; intro gb242 hg w2 hbox hb; have BK242 := Aside0.mk hbox; have GW242 := gw (w := w) hg; have GE242 := gw (w := w) hg; replace HB := bs (w := w) hb; clear hb hbox hg) | ((with_reducible refine gD 2 rfl ?_); refine boxZ 2 #[.int .i64 0, .string (⟨#[]⟩ : ByteArray), .int .i64 0] 89 ?_; intro gb243 hg w3 hbox hb; have BK243 := Aside0.mk hbox; have GW243 := gw (w := w) hg; have GE243 := gw (w := w) hg; replace HB := bs (w := w) hb; have NB242_243 := nl BK242 hg; have NB243_242 := nr BK242 hg; replace BK242 := bv BK242 hb; clear hb hbox hg) | ((with_reducible refine gD 3 rfl ?_); refine boxZ 3 #[.int .i64 0, .string (⟨#[]⟩ : ByteArray), .int .i64 0] 89 ?_; intro gb244 hg w4 hbox hb; have BK244 := Aside0.mk hbox; have GW244 := gw (w := w) hg; have GE244 := gw (w := w) hg; replace HB := bs (w := w) hb; have NB242_244 := nl BK242 hg; have NB244_242 := nr BK242 hg; replace BK242 := bv BK242 hb; have NB243_244 := nl BK243 hg; have NB244_243 := nr BK243 hg; replace BK243 := bv BK243 hb; clear hb hbox hg; have hnb5 := NB242_243.out; have hnc5 := NB243_242.out; have hnb6 := NB242_244.out; have hnc6 := NB244_242.out; obtain ⟨Z7_0, Z7_1, Z7_2, Y7_0, Y7_1, Y7_2⟩ := cf3 BK242; have hnb8 := NB244_243.out; have hnc8 := NB243_244.out; obtain ⟨Z9_0, Z9_1, Z9_2, Y9_0, Y9_1, Y9_2⟩ := cf3 BK244; obtain ⟨Z10_0, Z10_1, Z10_2, Y10_0, Y10_1, Y10_2⟩ := cf3 BK243))
 refine bodyPost_ret (results_cell_row rfl _ _ gb243 89 #[.int .i64 a0_0, .string a0_1, .int .i64 a0_2] (0, 0) _ rfl bkk Try.underlying89 rfl (by kernel_rfl)) rfl ?_
 exact ⟨fe, bl⟩
/-! ### laws_toInodeS: function 82 -/
def laws_toInodeS.l0 : Nat → List (S134) → List (S89) → Int → Option ((List (S89)))
 | 0, _, _, _ => none
 | k + 1, x0, x3, x4 => if x4 < (x0.length : Int) then (if 0 ≤ x4 then ((laws_toInode.f ((rd_T134 x0 x4).f0) ((rd_T134 x0 x4).f1) ((rd_T134 x0 x4).f2)).bind fun bt249 => (if x4 < (x3.length : Int) then (laws_toInodeS.l0 k x0 (x3.set (x4 : Int).toNat (⟨bt249.1, bt249.2.1, bt249.2.2⟩ : S89)) (wrap64 (x4 + 1))) else (none))) else (none)) else (some x3)
def laws_toInodeS.f (k : Nat) (l0 : List (S134)) : Option ((List (S89))) := if 0 ≤ (l0.length : Int) then (if ((l0.length : Int) : Int).toNat ≤ 8796093022208 then (laws_toInodeS.l0 k l0 (List.replicate ((l0.length : Int) : Int).toNat z89) 0) else (none)) else (none)
theorem laws_toInodeS.mono_l : ∀ k, (∀ y0 y1 y2, LeO (laws_toInodeS.l0 k y0 y1 y2) (laws_toInodeS.l0 (k + 1) y0 y1 y2))
 | 0 => fun _ _ _ r h => by simp [laws_toInodeS.l0] at h
 | k + 1 => by
  have ih0 := laws_toInodeS.mono_l k
  ·intro y0 y1 y2
   unfold laws_toInodeS.l0
   repeat' first
   | (with_reducible exact ih0 _ _ _)
   | (with_reducible exact LeO.refl _)
   | (with_reducible exact LeO.none _)
   | (with_reducible refine LeO.ite ?_ ?_)
   | (with_reducible refine LeO.bind ?_ (fun _ => ?_))
   | exact ih0 _ _ _
   | exact LeO.none _
   | refine LeO.ite ?_ ?_
   | refine LeO.bind ?_ (fun _ => ?_)
theorem laws_toInodeS.mono : ∀ a0 k, LeO (laws_toInodeS.f k a0) (laws_toInodeS.f (k + 1) a0) := by
 intro a0 k
 have ih0 := laws_toInodeS.mono_l k
 unfold laws_toInodeS.f
 repeat' first
  | (with_reducible exact ih0 _ _ _)
  | (with_reducible exact LeO.refl _)
  | (with_reducible exact LeO.none _)
  | (with_reducible refine LeO.ite ?_ ?_)
  | (with_reducible refine LeO.bind ?_ (fun _ => ?_))
  | exact ih0 _ _ _
  | exact LeO.none _
  | refine LeO.ite ?_ ?_
  | refine LeO.bind ?_ (fun _ => ?_)
set_option maxHeartbeats 8000000 in
set_option maxRecDepth 100000 in
theorem laws_toInodeS.calls (k : Nat) (A0 : Option Addr) (c0 : Nat) (l0 : List (S134)) (r : List (S89)) (w : World) (hr0 : Kd.C k134 w A0 l0.length l0) (hc0 : l0.length ≤ c0) (h : laws_toInodeS.f k l0 = some r) :
 Calls Try.prog 82 #[.slice A0 l0.length c0] w fun e w' => ∃ v0_ : Value, e = .returned (v0_) ∧ Kd.R k89 89 w' w.heap.size (fun _ => True) v0_ r ∧ Below w.heap.size w w' := by
 have hu134 := Try.underlying134
 have hu89 := Try.underlying89
 have HR0 := Aside0.mk hr0
 have HC0 := Aside0.mk hc0
 clear hr0 hc0
 have HB := Aside0.mk (Below.refl w.heap.size w)
 have H : (if 0 ≤ (l0.length : Int) then (if ((l0.length : Int) : Int).toNat ≤ 8796093022208 then (laws_toInodeS.l0 k l0 (List.replicate ((l0.length : Int) : Int).toNat z89) 0) else (none)) else (none)) = some r := h
 clear h
 by_cases c2 : 0 ≤ (l0.length : Int)
 ·rw [if_pos c2] at H
  have c2b0 := eq_true c2
  have c2b1 : decide (0 ≤ (l0.length : Int)) = true := decide_eq_true c2
  clear c2
  by_cases c3 : ((l0.length : Int) : Int).toNat ≤ 8796093022208
  ·rw [if_pos c3] at H
   have c3b0 := eq_true c3
   have c3b1 : decide (((l0.length : Int) : Int).toNat ≤ 8796093022208) = true := decide_eq_true c3
   clear c3
   obtain ⟨y245, hy245⟩ : ∃ y_ : List (S89), y_ = (List.replicate ((l0.length : Int) : Int).toNat z89) := ⟨_, rfl⟩
   replace H : (laws_toInodeS.l0 k l0 y245 0) = some r := by first | (rw [hy245]; with_reducible exact H) | (have H2_ := (Option.bind_some _ _).symm.trans H; rw [hy245]; with_reducible exact H2_) | (have H2_ := (Option.bind_some _ _).symm.trans H; with_reducible exact H2_) | with_reducible exact H | (rw [hy245]; exact H) | exact H
   have Ny245 := Aside0.mk hy245
   clear hy245
   have H' := Aside0.mk H
   clear H
   go_enter Try.func82, Try.ntmps82
   go_wp2_with (first | ((with_reducible refine gD 7 rfl ?_); refine Kd.R_make k89 _ 89 rfl (N := 7) rfl 22 _ _ rfl (l0.length : Int) rfl rfl Try.underlying22 (.agg #[(.int .i64 0), (.string ⟨#[]⟩), (.int .i64 0)]) 32 info89 rfl (by decide) (by omega) z89 (ok := fun _ => True) (okp := fun _ => True) (k89_mkM _ _ _ z89 ) (fun _ hk => hk) trivial (of_decide_eq_true am) (Nat.le_trans (Nat.mul_le_mul_right _ (of_decide_eq_true am : (l0.length : Int).toNat ≤ 8796093022208)) (by omega)) (Below.refl _ _) (Nat.le_refl _) ?_; intro v246 w4 ho5 hb hg_ hnew_; clear hg_ hnew_; (first | rw [← Ny245.out] at ho5 | (simp only [Int.reduceToNat] at ho5; rw [← Ny245.out] at ho5)); have HO247 := Aside0.mk (Kd.R_lower ho5 (below_size bl)); replace HB := bs (w := w) hb; clear hb ho5))
   go_loopg [4] k (fun kq v4 w' => ∃ (x3_1 : List (S89)) (x4_1 : Int), v4 = .int .i64 x4_1 ∧ Aside0 (laws_toInodeS.l0 kq l0 x3_1 x4_1 = some r) ∧ Aside0 (kq ≤ k) ∧ Aside0 (Kd.R k89 89 w' w.heap.size (fun _ => True) v246 x3_1) ∧ Aside0 (Below w.heap.size w w'))
   case atStart => exact ⟨(y245), (0), fa, H', ⟨Nat.le_refl _⟩, ⟨rpR HO247.out⟩, ⟨bl⟩⟩
   case round =>
    clear H'
    try clear c2
    try clear c2b0
    try clear c2b1
    try clear p2
    try clear c3
    try clear c3b0
    try clear c3b1
    obtain ⟨x3_1, x4_1, rfl, HA, HK1, HO_3, HB⟩ := hrel
    cases gk with
    | zero => exact absurd HA.out (by simp [laws_toInodeS.l0])
    | succ k1 =>
     have H := HA.out
     clear HA
     simp only [laws_toInodeS.l0] at H
     by_cases c6 : x4_1 < (l0.length : Int)
     ·rw [if_pos c6] at H
      have c6b0 : decide (x4_1 < (l0.length : Int)) = true := decide_eq_true c6
      clear c6
      by_cases c7 : 0 ≤ x4_1
      ·rw [if_pos c7] at H
       have c7b0 : decide (0 ≤ x4_1) = true := decide_eq_true c7
       clear c7
       replace H := Option.bind_eq_some_iff.mp H
       obtain ⟨⟨t249, t250, t251⟩, A80, H⟩ := H
       replace H : (if x4_1 < (x3_1.length : Int) then (laws_toInodeS.l0 k1 l0 (x3_1.set (x4_1 : Int).toNat (⟨t249, t250, t251⟩ : S89)) (wrap64 (x4_1 + 1))) else (none)) = some r := H
       have A8 := Aside0.mk A80
       clear A80
       by_cases c9 : x4_1 < (x3_1.length : Int)
       ·rw [if_pos c9] at H
        have c9b0 : decide (x4_1 < (x3_1.length : Int)) = true := decide_eq_true c9
        clear c9
        obtain ⟨y252, hy252⟩ : ∃ y_ : List (S89), y_ = (x3_1.set (x4_1 : Int).toNat (⟨t249, t250, t251⟩ : S89)) := ⟨_, rfl⟩
        replace H : (laws_toInodeS.l0 k1 l0 y252 (wrap64 (x4_1 + 1))) = some r := by first | (rw [hy252]; with_reducible exact H) | (have H2_ := (Option.bind_some _ _).symm.trans H; rw [hy252]; with_reducible exact H2_) | (have H2_ := (Option.bind_some _ _).symm.trans H; with_reducible exact H2_) | with_reducible exact H | (rw [hy252]; exact H) | exact H
        have Ny252 := Aside0.mk hy252
        clear hy252
        have H' := Aside0.mk H
        clear H
        have p248 : 0 ≤ (x4_1 : Int) := of_decide_eq_true am
        have q248 : x4_1 < (l0.length : Int) := of_decide_eq_true am
        obtain ⟨ad248, e248, hx248_0, hx248_1, hx248_2⟩ := at_T134 HR0.out x4_1 p248 q248
        cases e248
        replace hx248_0 := cz HB hx248_0
        replace hx248_1 := cz HB hx248_1
        replace hx248_2 := cz HB hx248_2
        replace p248 := eq_true p248
        replace q248 := eq_true q248
        go_wp2_with (first | ((with_reducible refine gC 129 rfl ?_); refine goesZ (some 20) rfl Try.func129 #[.agg #[.int .i64 ((rd_T134 l0 x4_1).f0), .string ((rd_T134 l0 x4_1).f1), .int .i64 ((rd_T134 l0 x4_1).f2)]] ?_; (with_reducible refine (laws_toInode.calls ((rd_T134 l0 x4_1).f0) ((rd_T134 l0 x4_1).f1) ((rd_T134 l0 x4_1).f2) t249 t250 t251 _ A8.out).mono ?_); rintro e w11 ⟨rfl, hb⟩; refine ⟨_, rfl, ?_⟩; replace HO_3 := Aside0.mk (Kd.R_below (rpR HO_3.out) hb); replace HB := bs (w := w) hb; (try clear hb); have p10 : 0 ≤ (x4_1 : Int) := of_decide_eq_true am; have q10 : (x4_1 : Int) < ((x3_1.length : Int) : Int) := of_decide_eq_true am; obtain ⟨go10, co10, eo10, gb10, gl10, cl10, HG10⟩ := Kd.R_form HO_3.out (by omega); (first | cases eo10 | (injection eo10 with ea_ en_ ec_; (first | subst ea_ | (injection ea_ with ea_; subst ea_)); subst ec_; clear en_)); have GB10 := Aside0.mk gb10; have GG10 := Aside0.mk HG10; clear gb10 gl10 HG10; obtain ⟨ce10, hcl10, hM10, hcc10, hfr10⟩ := Kd.R_elem HO_3.out z89 (x4_1 : Int) p10 q10; obtain rfl := k89_openM hM10; have hx10_0 : w11.cell? ⟨go10, (x4_1 : Int).toNat * 3, none⟩ = some (.int .i64 ((rd_T89 x3_1 x4_1).f0)) := hcc10 0 _ rfl; have hx10_1 : w11.cell? ⟨go10, (x4_1 : Int).toNat * 3 + 1, none⟩ = some (.string ((rd_T89 x3_1 x4_1).f1)) := hcc10 1 _ rfl; have hx10_2 : w11.cell? ⟨go10, (x4_1 : Int).toNat * 3 + 2, none⟩ = some (.int .i64 ((rd_T89 x3_1 x4_1).f2)) := hcc10 2 _ rfl; have hf10_0 : w11.frozen? ⟨go10, (x4_1 : Int).toNat * 3, none⟩ = false := hfr10 0; have hf10_1 : w11.frozen? ⟨go10, (x4_1 : Int).toNat * 3 + 1, none⟩ = false := hfr10 1; have hf10_2 : w11.frozen? ⟨go10, (x4_1 : Int).toNat * 3 + 2, none⟩ = false := hfr10 2; clear hcl10 hcc10 hfr10 hM10; replace p10 := eq_true p10; replace q10 := eq_true q10; have HX12 := Aside0.mk (show Kd.R k89 89 w11 w.heap.size (fun _ => True) (.slice (some ⟨go10, 0, none⟩) x3_1.length co10) x3_1 from (rpR HO_3.out)); obtain ⟨ce12, hcl12, hM12, hcc12, hfr12⟩ := Kd.R_elem HX12.out z89 (x4_1 : Int) (of_decide_eq_true am) (by have h_ : (x4_1 : Int) < ((x3_1.length : Int) : Int) := of_decide_eq_true am; first | exact h_ | (have e_ := (Kd.R_reads' HO_3.out).1; omega) | simpa using h_); obtain rfl := k89_openM hM12; have HP12 := Kd.R_seg HX12.out (x4_1 : Int) (of_decide_eq_true am) (by have h_ : (x4_1 : Int) < ((x3_1.length : Int) : Int) := of_decide_eq_true am; first | exact h_ | (have e_ := (Kd.R_reads' HO_3.out).1; omega) | simpa using h_) (seg := [.int .i64 t249, .string t250, .int .i64 t251]) (j := 0) hcl12 hcc12 (show 3 ≤ 3 from by decide) (x' := (⟨t249, t250, t251⟩ : S89)) (k89_mkM _ _ _ (⟨t249, t250, t251⟩ : S89) ) (fun _ hk => hk); have hx12_0 := hcc12 0 _ rfl; (try simp only [show (k89).sz = 3 from rfl, Nat.mul_one, Nat.add_zero] at hx12_0); have hf12_0 := hfr12 0; (try simp only [show (k89).sz = 3 from rfl, Nat.mul_one, Nat.add_zero] at hf12_0); have hx12_1 := hcc12 1 _ rfl; (try simp only [show (k89).sz = 3 from rfl, Nat.mul_one, Nat.add_zero] at hx12_1); have hf12_1 := hfr12 1; (try simp only [show (k89).sz = 3 from rfl, Nat.mul_one, Nat.add_zero] at hf12_1); have hx12_2 := hcc12 2 _ rfl; (try simp only [show (k89).sz = 3 from rfl, Nat.mul_one, Nat.add_zero] at hx12_2); have hf12_2 := hfr12 2; (try simp only [show (k89).sz = 3 from rfl, Nat.mul_one, Nat.add_zero] at hf12_2); clear hcl12 hcc12 hfr12 hM12) | ((with_reducible refine gate_store (t := 89) (p := 21) rfl ?_); refine store_event (t := 89) (p := 21) (v := ?vo_w13) (w1 := (((w11.setCell ⟨go10, (x4_1 : Int).toNat * 3, none⟩ (.int .i64 t249)).setCell ⟨go10, (x4_1 : Int).toNat * 3 + 1, none⟩ (.string t250)).setCell ⟨go10, (x4_1 : Int).toNat * 3 + 2, none⟩ (.int .i64 t251))) ?hg ?ho ?hn ?hr ?_; (case ho => rfl); (case hg => rfl); (case hn => rfl); (case hr => first | (go_simp; done) | (go_simp; rfl)); intro w13 hw; have hg : w11.grownBy w13 (some go10) := (by rw [hw]; exact HP12.2); have hp_ : Kd.R k89 89 w13 w.heap.size (fun _ => True) (.slice (some ⟨go10, 0, none⟩) x3_1.length co10) y252 := (by rw [hw, Ny252.out]; exact HP12.1); clear HP12; replace HO_3 := Aside0.mk (hp_); replace HB := Aside0.mk ((by rw [hw]; exact below_set (below_set (below_set (HB.out) GB10.out) GB10.out) GB10.out : Below w.heap.size w w13)); clear hg hw hp_))
        go_roundg k1
        case measure => have := HK1.out; omega
        case rel => exact ⟨(y252), (wrap64 (x4_1 + 1)), fa, H', ⟨by have := HK1.out; omega⟩, ⟨rpR HO_3.out⟩, ⟨bl⟩⟩
       ·rw [if_neg c9] at H
        exact absurd H (by simp)
      ·rw [if_neg c7] at H
       exact absurd H (by simp)
     ·rw [if_neg c6] at H
      have c6b0 : decide (x4_1 < (l0.length : Int)) = false := decide_eq_false c6
      clear c6
      obtain rfl := Option.some.inj H
      go_wp2
      go_ret
      exact ⟨_, fe, rpR HO_3.out, bl⟩
  ·rw [if_neg c3] at H
   exact absurd H (by simp)
 ·rw [if_neg c2] at H
  exact absurd H (by simp)
/-! ### laws_toLink: function 130 -/
def laws_toLink.f (a0_0 : ByteArray) (a0_1 : Int) : Option (ByteArray × Int) := some (a0_0, a0_1)
set_option maxHeartbeats 8000000 in
set_option maxRecDepth 100000 in
theorem laws_toLink.calls (a0_0 : ByteArray) (a0_1 : Int) (r1 : ByteArray) (r2 : Int) (w : World) (h : laws_toLink.f a0_0 a0_1 = some (r1, r2)) :
 Calls Try.prog 130 #[.agg #[.string a0_0, .int .i64 a0_1]] w fun e w' => e = .returned (.agg #[.string r1, .int .i64 r2]) ∧ Below w.heap.size w w' := by
 have hu136 := Try.underlying136
 have hu93 := Try.underlying93
 have HB := Aside0.mk (Below.refl w.heap.size w)
 have H : (some (a0_0, a0_1)) = some (r1, r2) := h
 clear h
 simp only [Option.some.injEq, Prod.mk.injEq] at H
 obtain ⟨rfl, rfl⟩ := H
 go_enter Try.func130, Try.ntmps130
 go_wp2_with (first | ((with_reducible refine gD 1 rfl ?_); refine boxZ 1 #[.string a0_0, .int .i64 a0_1] 136 ?_; intro gb253 hg w2 hbox hb; have BK253 := Aside0.mk hbox; have GW253 := gw (w := w) hg; have GE253 := gw (w := w) hg; replace HB := bs (w := w) hb; clear hb hbox hg) | ((with_reducible refine gD 2 rfl ?_); refine boxZ 2 #[.string (⟨#[]⟩ : ByteArray), .int .i64 0] 93 ?_; intro gb254 hg w3 hbox hb; have BK254 := Aside0.mk hbox; have GW254 := gw (w := w) hg; have GE254 := gw (w := w) hg; replace HB := bs (w := w) hb; have NB253_254 := nl BK253 hg; have NB254_253 := nr BK253 hg; replace BK253 := bv BK253 hb; clear hb hbox hg) | ((with_reducible refine gD 3 rfl ?_); refine boxZ 3 #[.string (⟨#[]⟩ : ByteArray), .int .i64 0] 93 ?_; intro gb255 hg w4 hbox hb; have BK255 := Aside0.mk hbox; have GW255 := gw (w := w) hg; have GE255 := gw (w := w) hg; replace HB := bs (w := w) hb; have NB253_255 := nl BK253 hg; have NB255_253 := nr BK253 hg; replace BK253 := bv BK253 hb; have NB254_255 := nl BK254 hg; have NB255_254 := nr BK254 hg; replace BK254 := bv BK254 hb; clear hb hbox hg; have hnb5 := NB253_254.out; have hnc5 := NB254_253.out; have hnb6 := NB253_255.out; have hnc6 := NB255_253.out; obtain ⟨Z7_0, Z7_1, Y7_0, Y7_1⟩ := cf2 BK253; have hnb8 := NB255_254.out; have hnc8 := NB254_255.out; obtain ⟨Z9_0, Z9_1, Y9_0, Y9_1⟩ := cf2 BK255; obtain ⟨Z10_0, Z10_1, Y10_0, Y10_1⟩ := cf2 BK254))
 refine bodyPost_ret (results_cell_row rfl _ _ gb254 93 #[.string a0_0, .int .i64 a0_1] (0, 0) _ rfl bkk Try.underlying93 rfl (by kernel_rfl)) rfl ?_
 exact ⟨fe, bl⟩
/-! ### laws_toLinkS: function 83 -/
def laws_toLinkS.l0 : Nat → List (S136) → List (S93) → Int → Option ((List (S93)))
 | 0, _, _, _ => none
 | k + 1, x0, x3, x4 => if x4 < (x0.length : Int) then (if 0 ≤ x4 then ((laws_toLink.f ((rd_T136 x0 x4).f0) ((rd_T136 x0 x4).f1)).bind fun bt260 => (if x4 < (x3.length : Int) then (laws_toLinkS.l0 k x0 (x3.set (x4 : Int).toNat (⟨bt260.1, bt260.2⟩ : S93)) (wrap64 (x4 + 1))) else (none))) else (none)) else (some x3)
def laws_toLinkS.f (k : Nat) (l0 : List (S136)) : Option ((List (S93))) := if 0 ≤ (l0.length : Int) then (if ((l0.length : Int) : Int).toNat ≤ 11728124029610 then (laws_toLinkS.l0 k l0 (List.replicate ((l0.length : Int) : Int).toNat z93) 0) else (none)) else (none)
theorem laws_toLinkS.mono_l : ∀ k, (∀ y0 y1 y2, LeO (laws_toLinkS.l0 k y0 y1 y2) (laws_toLinkS.l0 (k + 1) y0 y1 y2))
 | 0 => fun _ _ _ r h => by simp [laws_toLinkS.l0] at h
 | k + 1 => by
  have ih0 := laws_toLinkS.mono_l k
  ·intro y0 y1 y2
   unfold laws_toLinkS.l0
   repeat' first
   | (with_reducible exact ih0 _ _ _)
   | (with_reducible exact LeO.refl _)
   | (with_reducible exact LeO.none _)
   | (with_reducible refine LeO.ite ?_ ?_)
   | (with_reducible refine LeO.bind ?_ (fun _ => ?_))
   | exact ih0 _ _ _
   | exact LeO.none _
   | refine LeO.ite ?_ ?_
   | refine LeO.bind ?_ (fun _ => ?_)
theorem laws_toLinkS.mono : ∀ a0 k, LeO (laws_toLinkS.f k a0) (laws_toLinkS.f (k + 1) a0) := by
 intro a0 k
 have ih0 := laws_toLinkS.mono_l k
 unfold laws_toLinkS.f
 repeat' first
  | (with_reducible exact ih0 _ _ _)
  | (with_reducible exact LeO.refl _)
  | (with_reducible exact LeO.none _)
  | (with_reducible refine LeO.ite ?_ ?_)
  | (with_reducible refine LeO.bind ?_ (fun _ => ?_))
  | exact ih0 _ _ _
  | exact LeO.none _
  | refine LeO.ite ?_ ?_
  | refine LeO.bind ?_ (fun _ => ?_)
set_option maxHeartbeats 8000000 in
set_option maxRecDepth 100000 in
theorem laws_toLinkS.calls (k : Nat) (A0 : Option Addr) (c0 : Nat) (l0 : List (S136)) (r : List (S93)) (w : World) (hr0 : Kd.C k136 w A0 l0.length l0) (hc0 : l0.length ≤ c0) (h : laws_toLinkS.f k l0 = some r) :
 Calls Try.prog 83 #[.slice A0 l0.length c0] w fun e w' => ∃ v0_ : Value, e = .returned (v0_) ∧ Kd.R k93 93 w' w.heap.size (fun _ => True) v0_ r ∧ Below w.heap.size w w' := by
 have hu136 := Try.underlying136
 have hu93 := Try.underlying93
 have HR0 := Aside0.mk hr0
 have HC0 := Aside0.mk hc0
 clear hr0 hc0
 have HB := Aside0.mk (Below.refl w.heap.size w)
 have H : (if 0 ≤ (l0.length : Int) then (if ((l0.length : Int) : Int).toNat ≤ 11728124029610 then (laws_toLinkS.l0 k l0 (List.replicate ((l0.length : Int) : Int).toNat z93) 0) else (none)) else (none)) = some r := h
 clear h
 by_cases c2 : 0 ≤ (l0.length : Int)
 ·rw [if_pos c2] at H
  have c2b0 := eq_true c2
  have c2b1 : decide (0 ≤ (l0.length : Int)) = true := decide_eq_true c2
  clear c2
  by_cases c3 : ((l0.length : Int) : Int).toNat ≤ 11728124029610
  ·rw [if_pos c3] at H
   have c3b0 := eq_true c3
   have c3b1 : decide (((l0.length : Int) : Int).toNat ≤ 11728124029610) = true := decide_eq_true c3
   clear c3
   obtain ⟨y256, hy256⟩ : ∃ y_ : List (S93), y_ = (List.replicate ((l0.length : Int) : Int).toNat z93) := ⟨_, rfl⟩
   replace H : (laws_toLinkS.l0 k l0 y256 0) = some r := by first | (rw [hy256]; with_reducible exact H) | (have H2_ := (Option.bind_some _ _).symm.trans H; rw [hy256]; with_reducible exact H2_) | (have H2_ := (Option.bind_some _ _).symm.trans H; with_reducible exact H2_) | with_reducible exact H | (rw [hy256]; exact H) | exact H
   have Ny256 := Aside0.mk hy256
   clear hy256
   have H' := Aside0.mk H
   clear H
   go_enter Try.func83, Try.ntmps83
   go_wp2_with (first | ((with_reducible refine gD 7 rfl ?_); refine Kd.R_make k93 _ 93 rfl (N := 7) rfl 23 _ _ rfl (l0.length : Int) rfl rfl Try.underlying23 (.agg #[(.string ⟨#[]⟩), (.int .i64 0)]) 24 info93 rfl (by decide) (by omega) z93 (ok := fun _ => True) (okp := fun _ => True) (k93_mkM _ _ _ z93 ) (fun _ hk => hk) trivial (of_decide_eq_true am) (Nat.le_trans (Nat.mul_le_mul_right _ (of_decide_eq_true am : (l0.length : Int).toNat ≤ 11728124029610)) (by omega)) (Below.refl _ _) (Nat.le_refl _) ?_; intro v257 w4 ho5 hb hg_ hnew_; clear hg_ hnew_; (first | rw [← Ny256.out] at ho5 | (simp only [Int.reduceToNat] at ho5; rw [← Ny256.out] at ho5)); have HO258 := Aside0.mk (Kd.R_lower ho5 (below_size bl)); replace HB := bs (w := w) hb; clear hb ho5))
   go_loopg [4] k (fun kq v4 w' => ∃ (x3_1 : List (S93)) (x4_1 : Int), v4 = .int .i64 x4_1 ∧ Aside0 (laws_toLinkS.l0 kq l0 x3_1 x4_1 = some r) ∧ Aside0 (kq ≤ k) ∧ Aside0 (Kd.R k93 93 w' w.heap.size (fun _ => True) v257 x3_1) ∧ Aside0 (Below w.heap.size w w'))
   case atStart => exact ⟨(y256), (0), fa, H', ⟨Nat.le_refl _⟩, ⟨rpR HO258.out⟩, ⟨bl⟩⟩
   case round =>
    clear H'
    try clear c2
    try clear c2b0
    try clear c2b1
    try clear p2
    try clear c3
    try clear c3b0
    try clear c3b1
    obtain ⟨x3_1, x4_1, rfl, HA, HK1, HO_3, HB⟩ := hrel
    cases gk with
    | zero => exact absurd HA.out (by simp [laws_toLinkS.l0])
    | succ k1 =>
     have H := HA.out
     clear HA
     simp only [laws_toLinkS.l0] at H
     by_cases c6 : x4_1 < (l0.length : Int)
     ·rw [if_pos c6] at H
      have c6b0 : decide (x4_1 < (l0.length : Int)) = true := decide_eq_true c6
      clear c6
      by_cases c7 : 0 ≤ x4_1
      ·rw [if_pos c7] at H
       have c7b0 : decide (0 ≤ x4_1) = true := decide_eq_true c7
       clear c7
       replace H := Option.bind_eq_some_iff.mp H
       obtain ⟨⟨t260, t261⟩, A80, H⟩ := H
       replace H : (if x4_1 < (x3_1.length : Int) then (laws_toLinkS.l0 k1 l0 (x3_1.set (x4_1 : Int).toNat (⟨t260, t261⟩ : S93)) (wrap64 (x4_1 + 1))) else (none)) = some r := H
       have A8 := Aside0.mk A80
       clear A80
       by_cases c9 : x4_1 < (x3_1.length : Int)
       ·rw [if_pos c9] at H
        have c9b0 : decide (x4_1 < (x3_1.length : Int)) = true := decide_eq_true c9
        clear c9
        obtain ⟨y262, hy262⟩ : ∃ y_ : List (S93), y_ = (x3_1.set (x4_1 : Int).toNat (⟨t260, t261⟩ : S93)) := ⟨_, rfl⟩
        replace H : (laws_toLinkS.l0 k1 l0 y262 (wrap64 (x4_1 + 1))) = some r := by first | (rw [hy262]; with_reducible exact H) | (have H2_ := (Option.bind_some _ _).symm.trans H; rw [hy262]; with_reducible exact H2_) | (have H2_ := (Option.bind_some _ _).symm.trans H; with_reducible exact H2_) | with_reducible exact H | (rw [hy262]; exact H) | exact H
        have Ny262 := Aside0.mk hy262
        clear hy262
        have H' := Aside0.mk H
        clear H
        have p259 : 0 ≤ (x4_1 : Int) := of_decide_eq_true am
        have q259 : x4_1 < (l0.length : Int) := of_decide_eq_true am
        obtain ⟨ad259, e259, hx259_0, hx259_1⟩ := at_T136 HR0.out x4_1 p259 q259
        cases e259
        replace hx259_0 := cz HB hx259_0
        replace hx259_1 := cz HB hx259_1
        replace p259 := eq_true p259
        replace q259 := eq_true q259
        go_wp2_with (first | ((with_reducible refine gC 130 rfl ?_); refine goesZ (some 20) rfl Try.func130 #[.agg #[.string ((rd_T136 l0 x4_1).f0), .int .i64 ((rd_T136 l0 x4_1).f1)]] ?_; (with_reducible refine (laws_toLink.calls ((rd_T136 l0 x4_1).f0) ((rd_T136 l0 x4_1).f1) t260 t261 _ A8.out).mono ?_); rintro e w11 ⟨rfl, hb⟩; refine ⟨_, rfl, ?_⟩; replace HO_3 := Aside0.mk (Kd.R_below (rpR HO_3.out) hb); replace HB := bs (w := w) hb; (try clear hb); have p10 : 0 ≤ (x4_1 : Int) := of_decide_eq_true am; have q10 : (x4_1 : Int) < ((x3_1.length : Int) : Int) := of_decide_eq_true am; obtain ⟨go10, co10, eo10, gb10, gl10, cl10, HG10⟩ := Kd.R_form HO_3.out (by omega); (first | cases eo10 | (injection eo10 with ea_ en_ ec_; (first | subst ea_ | (injection ea_ with ea_; subst ea_)); subst ec_; clear en_)); have GB10 := Aside0.mk gb10; have GG10 := Aside0.mk HG10; clear gb10 gl10 HG10; obtain ⟨ce10, hcl10, hM10, hcc10, hfr10⟩ := Kd.R_elem HO_3.out z93 (x4_1 : Int) p10 q10; obtain rfl := k93_openM hM10; have hx10_0 : w11.cell? ⟨go10, (x4_1 : Int).toNat * 2, none⟩ = some (.string ((rd_T93 x3_1 x4_1).f0)) := hcc10 0 _ rfl; have hx10_1 : w11.cell? ⟨go10, (x4_1 : Int).toNat * 2 + 1, none⟩ = some (.int .i64 ((rd_T93 x3_1 x4_1).f1)) := hcc10 1 _ rfl; have hf10_0 : w11.frozen? ⟨go10, (x4_1 : Int).toNat * 2, none⟩ = false := hfr10 0; have hf10_1 : w11.frozen? ⟨go10, (x4_1 : Int).toNat * 2 + 1, none⟩ = false := hfr10 1; clear hcl10 hcc10 hfr10 hM10; replace p10 := eq_true p10; replace q10 := eq_true q10; have HX12 := Aside0.mk (show Kd.R k93 93 w11 w.heap.size (fun _ => True) (.slice (some ⟨go10, 0, none⟩) x3_1.length co10) x3_1 from (rpR HO_3.out)); obtain ⟨ce12, hcl12, hM12, hcc12, hfr12⟩ := Kd.R_elem HX12.out z93 (x4_1 : Int) (of_decide_eq_true am) (by have h_ : (x4_1 : Int) < ((x3_1.length : Int) : Int) := of_decide_eq_true am; first | exact h_ | (have e_ := (Kd.R_reads' HO_3.out).1; omega) | simpa using h_); obtain rfl := k93_openM hM12; have HP12 := Kd.R_seg HX12.out (x4_1 : Int) (of_decide_eq_true am) (by have h_ : (x4_1 : Int) < ((x3_1.length : Int) : Int) := of_decide_eq_true am; first | exact h_ | (have e_ := (Kd.R_reads' HO_3.out).1; omega) | simpa using h_) (seg := [.string t260, .int .i64 t261]) (j := 0) hcl12 hcc12 (show 2 ≤ 2 from by decide) (x' := (⟨t260, t261⟩ : S93)) (k93_mkM _ _ _ (⟨t260, t261⟩ : S93) ) (fun _ hk => hk); have hx12_0 := hcc12 0 _ rfl; (try simp only [show (k93).sz = 2 from rfl, Nat.mul_one, Nat.add_zero] at hx12_0); have hf12_0 := hfr12 0; (try simp only [show (k93).sz = 2 from rfl, Nat.mul_one, Nat.add_zero] at hf12_0); have hx12_1 := hcc12 1 _ rfl; (try simp only [show (k93).sz = 2 from rfl, Nat.mul_one, Nat.add_zero] at hx12_1); have hf12_1 := hfr12 1; (try simp only [show (k93).sz = 2 from rfl, Nat.mul_one, Nat.add_zero] at hf12_1); clear hcl12 hcc12 hfr12 hM12) | ((with_reducible refine gate_store (t := 93) (p := 21) rfl ?_); refine store_event (t := 93) (p := 21) (v := ?vo_w13) (w1 := ((w11.setCell ⟨go10, (x4_1 : Int).toNat * 2, none⟩ (.string t260)).setCell ⟨go10, (x4_1 : Int).toNat * 2 + 1, none⟩ (.int .i64 t261))) ?hg ?ho ?hn ?hr ?_; (case ho => rfl); (case hg => rfl); (case hn => rfl); (case hr => first | (go_simp; done) | (go_simp; rfl)); intro w13 hw; have hg : w11.grownBy w13 (some go10) := (by rw [hw]; exact HP12.2); have hp_ : Kd.R k93 93 w13 w.heap.size (fun _ => True) (.slice (some ⟨go10, 0, none⟩) x3_1.length co10) y262 := (by rw [hw, Ny262.out]; exact HP12.1); clear HP12; replace HO_3 := Aside0.mk (hp_); replace HB := Aside0.mk ((by rw [hw]; exact below_set (below_set (HB.out) GB10.out) GB10.out : Below w.heap.size w w13)); clear hg hw hp_))
        go_roundg k1
        case measure => have := HK1.out; omega
        case rel => exact ⟨(y262), (wrap64 (x4_1 + 1)), fa, H', ⟨by have := HK1.out; omega⟩, ⟨rpR HO_3.out⟩, ⟨bl⟩⟩
       ·rw [if_neg c9] at H
        exact absurd H (by simp)
      ·rw [if_neg c7] at H
       exact absurd H (by simp)
     ·rw [if_neg c6] at H
      have c6b0 : decide (x4_1 < (l0.length : Int)) = false := decide_eq_false c6
      clear c6
      obtain rfl := Option.some.inj H
      go_wp2
      go_ret
      exact ⟨_, fe, rpR HO_3.out, bl⟩
  ·rw [if_neg c3] at H
   exact absurd H (by simp)
 ·rw [if_neg c2] at H
  exact absurd H (by simp)
/-! ### laws_toMove: function 131 -/
def laws_toMove.f (a0_0 : Int) (a0_1 : ByteArray) (a0_2 : ByteArray) (a0_3 : Int) : Option (Int × ByteArray × ByteArray × Int) := some (a0_0, a0_1, a0_2, a0_3)
set_option maxHeartbeats 8000000 in
set_option maxRecDepth 100000 in
theorem laws_toMove.calls (a0_0 : Int) (a0_1 : ByteArray) (a0_2 : ByteArray) (a0_3 : Int) (r1 : Int) (r2 : ByteArray) (r3 : ByteArray) (r4 : Int) (w : World) (h : laws_toMove.f a0_0 a0_1 a0_2 a0_3 = some (r1, r2, r3, r4)) :
 Calls Try.prog 131 #[.agg #[.int .i64 a0_0, .string a0_1, .string a0_2, .int .i64 a0_3]] w fun e w' => e = .returned (.agg #[.int .i64 r1, .string r2, .string r3, .int .i64 r4]) ∧ Below w.heap.size w w' := by
 have hu138 := Try.underlying138
 have hu95 := Try.underlying95
 have HB := Aside0.mk (Below.refl w.heap.size w)
 have H : (some (a0_0, a0_1, a0_2, a0_3)) = some (r1, r2, r3, r4) := h
 clear h
 simp only [Option.some.injEq, Prod.mk.injEq] at H
 obtain ⟨rfl, rfl, rfl, rfl⟩ := H
 go_enter Try.func131, Try.ntmps131
 go_wp2_with (first | ((with_reducible refine gD 1 rfl ?_); refine boxZ 1 #[.int .i64 a0_0, .string a0_1, .string a0_2, .int .i64 a0_3] 138 ?_; intro gb263 hg w2 hbox hb; have BK263 := Aside0.mk hbox; have GW263 := gw (w := w) hg; have GE263 := gw (w := w) hg; replace HB := bs (w := w) hb; clear hb hbox hg) | ((with_reducible refine gD 2 rfl ?_); refine boxZ 2 #[.int .i64 0, .string (⟨#[]⟩ : ByteArray), .string (⟨#[]⟩ : ByteArray), .int .i64 0] 95 ?_; intro gb264 hg w3 hbox hb; have BK264 := Aside0.mk hbox; have GW264 := gw (w := w) hg; have GE264 := gw (w := w) hg; replace HB := bs (w := w) hb; have NB263_264 := nl BK263 hg; have NB264_263 := nr BK263 hg; replace BK263 := bv BK263 hb; clear hb hbox hg) | ((with_reducible refine gD 3 rfl ?_); refine boxZ 3 #[.int .i64 0, .string (⟨#[]⟩ : ByteArray), .string (⟨#[]⟩ : ByteArray), .int .i64 0] 95 ?_; intro gb265 hg w4 hbox hb; have BK265 := Aside0.mk hbox; have GW265 := gw (w := w) hg; have GE265 := gw (w := w) hg; replace HB := bs (w := w) hb; have NB263_265 := nl BK263 hg; have NB265_263 := nr BK263 hg; replace BK263 := bv BK263 hb; have NB264_265 := nl BK264 hg; have NB265_264 := nr BK264 hg; replace BK264 := bv BK264 hb; clear hb hbox hg; have hnb5 := NB263_264.out; have hnc5 := NB264_263.out; have hnb6 := NB263_265.out; have hnc6 := NB265_263.out; obtain ⟨Z7_0, Z7_1, Z7_2, Z7_3, Y7_0, Y7_1, Y7_2, Y7_3⟩ := cf4 BK263; have hnb8 := NB265_264.out; have hnc8 := NB264_265.out; obtain ⟨Z9_0, Z9_1, Z9_2, Z9_3, Y9_0, Y9_1, Y9_2, Y9_3⟩ := cf4 BK265; obtain ⟨Z10_0, Z10_1, Z10_2, Z10_3, Y10_0, Y10_1, Y10_2, Y10_3⟩ := cf4 BK264))
 refine bodyPost_ret (results_cell_row rfl _ _ gb264 95 #[.int .i64 a0_0, .string a0_1, .string a0_2, .int .i64 a0_3] (0, 0) _ rfl bkk Try.underlying95 rfl (by kernel_rfl)) rfl ?_
 exact ⟨fe, bl⟩
/-! ### laws_toMoveS: function 84 -/
def laws_toMoveS.l0 : Nat → List (S138) → List (S95) → Int → Option ((List (S95)))
 | 0, _, _, _ => none
 | k + 1, x0, x3, x4 => if x4 < (x0.length : Int) then (if 0 ≤ x4 then ((laws_toMove.f ((rd_T138 x0 x4).f0) ((rd_T138 x0 x4).f1) ((rd_T138 x0 x4).f2) ((rd_T138 x0 x4).f3)).bind fun bt270 => (if x4 < (x3.length : Int) then (laws_toMoveS.l0 k x0 (x3.set (x4 : Int).toNat (⟨bt270.1, bt270.2.1, bt270.2.2.1, bt270.2.2.2⟩ : S95)) (wrap64 (x4 + 1))) else (none))) else (none)) else (some x3)
def laws_toMoveS.f (k : Nat) (l0 : List (S138)) : Option ((List (S95))) := if 0 ≤ (l0.length : Int) then (if ((l0.length : Int) : Int).toNat ≤ 5864062014805 then (laws_toMoveS.l0 k l0 (List.replicate ((l0.length : Int) : Int).toNat z95) 0) else (none)) else (none)
theorem laws_toMoveS.mono_l : ∀ k, (∀ y0 y1 y2, LeO (laws_toMoveS.l0 k y0 y1 y2) (laws_toMoveS.l0 (k + 1) y0 y1 y2))
 | 0 => fun _ _ _ r h => by simp [laws_toMoveS.l0] at h
 | k + 1 => by
  have ih0 := laws_toMoveS.mono_l k
  ·intro y0 y1 y2
   unfold laws_toMoveS.l0
   repeat' first
   | (with_reducible exact ih0 _ _ _)
   | (with_reducible exact LeO.refl _)
   | (with_reducible exact LeO.none _)
   | (with_reducible refine LeO.ite ?_ ?_)
   | (with_reducible refine LeO.bind ?_ (fun _ => ?_))
   | exact ih0 _ _ _
   | exact LeO.none _
   | refine LeO.ite ?_ ?_
   | refine LeO.bind ?_ (fun _ => ?_)
theorem laws_toMoveS.mono : ∀ a0 k, LeO (laws_toMoveS.f k a0) (laws_toMoveS.f (k + 1) a0) := by
 intro a0 k
 have ih0 := laws_toMoveS.mono_l k
 unfold laws_toMoveS.f
 repeat' first
  | (with_reducible exact ih0 _ _ _)
  | (with_reducible exact LeO.refl _)
  | (with_reducible exact LeO.none _)
  | (with_reducible refine LeO.ite ?_ ?_)
  | (with_reducible refine LeO.bind ?_ (fun _ => ?_))
  | exact ih0 _ _ _
  | exact LeO.none _
  | refine LeO.ite ?_ ?_
  | refine LeO.bind ?_ (fun _ => ?_)
set_option maxHeartbeats 8000000 in
set_option maxRecDepth 100000 in
theorem laws_toMoveS.calls (k : Nat) (A0 : Option Addr) (c0 : Nat) (l0 : List (S138)) (r : List (S95)) (w : World) (hr0 : Kd.C k138 w A0 l0.length l0) (hc0 : l0.length ≤ c0) (h : laws_toMoveS.f k l0 = some r) :
 Calls Try.prog 84 #[.slice A0 l0.length c0] w fun e w' => ∃ v0_ : Value, e = .returned (v0_) ∧ Kd.R k95 95 w' w.heap.size (fun _ => True) v0_ r ∧ Below w.heap.size w w' := by
 have hu138 := Try.underlying138
 have hu95 := Try.underlying95
 have HR0 := Aside0.mk hr0
 have HC0 := Aside0.mk hc0
 clear hr0 hc0
 have HB := Aside0.mk (Below.refl w.heap.size w)
 have H : (if 0 ≤ (l0.length : Int) then (if ((l0.length : Int) : Int).toNat ≤ 5864062014805 then (laws_toMoveS.l0 k l0 (List.replicate ((l0.length : Int) : Int).toNat z95) 0) else (none)) else (none)) = some r := h
 clear h
 by_cases c2 : 0 ≤ (l0.length : Int)
 ·rw [if_pos c2] at H
  have c2b0 := eq_true c2
  have c2b1 : decide (0 ≤ (l0.length : Int)) = true := decide_eq_true c2
  clear c2
  by_cases c3 : ((l0.length : Int) : Int).toNat ≤ 5864062014805
  ·rw [if_pos c3] at H
   have c3b0 := eq_true c3
   have c3b1 : decide (((l0.length : Int) : Int).toNat ≤ 5864062014805) = true := decide_eq_true c3
   clear c3
   obtain ⟨y266, hy266⟩ : ∃ y_ : List (S95), y_ = (List.replicate ((l0.length : Int) : Int).toNat z95) := ⟨_, rfl⟩
   replace H : (laws_toMoveS.l0 k l0 y266 0) = some r := by first | (rw [hy266]; with_reducible exact H) | (have H2_ := (Option.bind_some _ _).symm.trans H; rw [hy266]; with_reducible exact H2_) | (have H2_ := (Option.bind_some _ _).symm.trans H; with_reducible exact H2_) | with_reducible exact H | (rw [hy266]; exact H) | exact H
   have Ny266 := Aside0.mk hy266
   clear hy266
   have H' := Aside0.mk H
   clear H
   go_enter Try.func84, Try.ntmps84
   go_wp2_with (first | ((with_reducible refine gD 7 rfl ?_); refine Kd.R_make k95 _ 95 rfl (N := 7) rfl 24 _ _ rfl (l0.length : Int) rfl rfl Try.underlying24 (.agg #[(.int .i64 0), (.string ⟨#[]⟩), (.string ⟨#[]⟩), (.int .i64 0)]) 48 info95 rfl (by decide) (by omega) z95 (ok := fun _ => True) (okp := fun _ => True) (k95_mkM _ _ _ z95 ) (fun _ hk => hk) trivial (of_decide_eq_true am) (Nat.le_trans (Nat.mul_le_mul_right _ (of_decide_eq_true am : (l0.length : Int).toNat ≤ 5864062014805)) (by omega)) (Below.refl _ _) (Nat.le_refl _) ?_; intro v267 w4 ho5 hb hg_ hnew_; clear hg_ hnew_; (first | rw [← Ny266.out] at ho5 | (simp only [Int.reduceToNat] at ho5; rw [← Ny266.out] at ho5)); have HO268 := Aside0.mk (Kd.R_lower ho5 (below_size bl)); replace HB := bs (w := w) hb; clear hb ho5))
   go_loopg [4] k (fun kq v4 w' => ∃ (x3_1 : List (S95)) (x4_1 : Int), v4 = .int .i64 x4_1 ∧ Aside0 (laws_toMoveS.l0 kq l0 x3_1 x4_1 = some r) ∧ Aside0 (kq ≤ k) ∧ Aside0 (Kd.R k95 95 w' w.heap.size (fun _ => True) v267 x3_1) ∧ Aside0 (Below w.heap.size w w'))
   case atStart => exact ⟨(y266), (0), fa, H', ⟨Nat.le_refl _⟩, ⟨rpR HO268.out⟩, ⟨bl⟩⟩
   case round =>
    clear H'
    try clear c2
    try clear c2b0
    try clear c2b1
    try clear p2
    try clear c3
    try clear c3b0
    try clear c3b1
    obtain ⟨x3_1, x4_1, rfl, HA, HK1, HO_3, HB⟩ := hrel
    cases gk with
    | zero => exact absurd HA.out (by simp [laws_toMoveS.l0])
    | succ k1 =>
     have H := HA.out
     clear HA
     simp only [laws_toMoveS.l0] at H
     by_cases c6 : x4_1 < (l0.length : Int)
     ·rw [if_pos c6] at H
      have c6b0 : decide (x4_1 < (l0.length : Int)) = true := decide_eq_true c6
      clear c6
      by_cases c7 : 0 ≤ x4_1
      ·rw [if_pos c7] at H
       have c7b0 : decide (0 ≤ x4_1) = true := decide_eq_true c7
       clear c7
       replace H := Option.bind_eq_some_iff.mp H
       obtain ⟨⟨t270, t271, t272, t273⟩, A80, H⟩ := H
       replace H : (if x4_1 < (x3_1.length : Int) then (laws_toMoveS.l0 k1 l0 (x3_1.set (x4_1 : Int).toNat (⟨t270, t271, t272, t273⟩ : S95)) (wrap64 (x4_1 + 1))) else (none)) = some r := H
       have A8 := Aside0.mk A80
       clear A80
       by_cases c9 : x4_1 < (x3_1.length : Int)
       ·rw [if_pos c9] at H
        have c9b0 : decide (x4_1 < (x3_1.length : Int)) = true := decide_eq_true c9
        clear c9
        obtain ⟨y274, hy274⟩ : ∃ y_ : List (S95), y_ = (x3_1.set (x4_1 : Int).toNat (⟨t270, t271, t272, t273⟩ : S95)) := ⟨_, rfl⟩
        replace H : (laws_toMoveS.l0 k1 l0 y274 (wrap64 (x4_1 + 1))) = some r := by first | (rw [hy274]; with_reducible exact H) | (have H2_ := (Option.bind_some _ _).symm.trans H; rw [hy274]; with_reducible exact H2_) | (have H2_ := (Option.bind_some _ _).symm.trans H; with_reducible exact H2_) | with_reducible exact H | (rw [hy274]; exact H) | exact H
        have Ny274 := Aside0.mk hy274
        clear hy274
        have H' := Aside0.mk H
        clear H
        have p269 : 0 ≤ (x4_1 : Int) := of_decide_eq_true am
        have q269 : x4_1 < (l0.length : Int) := of_decide_eq_true am
        obtain ⟨ad269, e269, hx269_0, hx269_1, hx269_2, hx269_3⟩ := at_T138 HR0.out x4_1 p269 q269
        cases e269
        replace hx269_0 := cz HB hx269_0
        replace hx269_1 := cz HB hx269_1
        replace hx269_2 := cz HB hx269_2
        replace hx269_3 := cz HB hx269_3
        replace p269 := eq_true p269
        replace q269 := eq_true q269
        go_wp2_with (first | ((with_reducible refine gC 131 rfl ?_); refine goesZ (some 20) rfl Try.func131 #[.agg #[.int .i64 ((rd_T138 l0 x4_1).f0), .string ((rd_T138 l0 x4_1).f1), .string ((rd_T138 l0 x4_1).f2), .int .i64 ((rd_T138 l0 x4_1).f3)]] ?_; (with_reducible refine (laws_toMove.calls ((rd_T138 l0 x4_1).f0) ((rd_T138 l0 x4_1).f1) ((rd_T138 l0 x4_1).f2) ((rd_T138 l0 x4_1).f3) t270 t271 t272 t273 _ A8.out).mono ?_); rintro e w11 ⟨rfl, hb⟩; refine ⟨_, rfl, ?_⟩; replace HO_3 := Aside0.mk (Kd.R_below (rpR HO_3.out) hb); replace HB := bs (w := w) hb; (try clear hb); have p10 : 0 ≤ (x4_1 : Int) := of_decide_eq_true am; have q10 : (x4_1 : Int) < ((x3_1.length : Int) : Int) := of_decide_eq_true am; obtain ⟨go10, co10, eo10, gb10, gl10, cl10, HG10⟩ := Kd.R_form HO_3.out (by omega); (first | cases eo10 | (injection eo10 with ea_ en_ ec_; (first | subst ea_ | (injection ea_ with ea_; subst ea_)); subst ec_; clear en_)); have GB10 := Aside0.mk gb10; have GG10 := Aside0.mk HG10; clear gb10 gl10 HG10; obtain ⟨ce10, hcl10, hM10, hcc10, hfr10⟩ := Kd.R_elem HO_3.out z95 (x4_1 : Int) p10 q10; obtain rfl := k95_openM hM10; have hx10_0 : w11.cell? ⟨go10, (x4_1 : Int).toNat * 4, none⟩ = some (.int .i64 ((rd_T95 x3_1 x4_1).f0)) := hcc10 0 _ rfl; have hx10_1 : w11.cell? ⟨go10, (x4_1 : Int).toNat * 4 + 1, none⟩ = some (.string ((rd_T95 x3_1 x4_1).f1)) := hcc10 1 _ rfl; have hx10_2 : w11.cell? ⟨go10, (x4_1 : Int).toNat * 4 + 2, none⟩ = some (.string ((rd_T95 x3_1 x4_1).f2)) := hcc10 2 _ rfl; have hx10_3 : w11.cell? ⟨go10, (x4_1 : Int).toNat * 4 + 3, none⟩ = some (.int .i64 ((rd_T95 x3_1 x4_1).f3)) := hcc10 3 _ rfl; have hf10_0 : w11.frozen? ⟨go10, (x4_1 : Int).toNat * 4, none⟩ = false := hfr10 0; have hf10_1 : w11.frozen? ⟨go10, (x4_1 : Int).toNat * 4 + 1, none⟩ = false := hfr10 1; have hf10_2 : w11.frozen? ⟨go10, (x4_1 : Int).toNat * 4 + 2, none⟩ = false := hfr10 2; have hf10_3 : w11.frozen? ⟨go10, (x4_1 : Int).toNat * 4 + 3, none⟩ = false := hfr10 3; clear hcl10 hcc10 hfr10 hM10; replace p10 := eq_true p10; replace q10 := eq_true q10; have HX12 := Aside0.mk (show Kd.R k95 95 w11 w.heap.size (fun _ => True) (.slice (some ⟨go10, 0, none⟩) x3_1.length co10) x3_1 from (rpR HO_3.out)); obtain ⟨ce12, hcl12, hM12, hcc12, hfr12⟩ := Kd.R_elem HX12.out z95 (x4_1 : Int) (of_decide_eq_true am) (by have h_ : (x4_1 : Int) < ((x3_1.length : Int) : Int) := of_decide_eq_true am; first | exact h_ | (have e_ := (Kd.R_reads' HO_3.out).1; omega) | simpa using h_); obtain rfl := k95_openM hM12; have HP12 := Kd.R_seg HX12.out (x4_1 : Int) (of_decide_eq_true am) (by have h_ : (x4_1 : Int) < ((x3_1.length : Int) : Int) := of_decide_eq_true am; first | exact h_ | (have e_ := (Kd.R_reads' HO_3.out).1; omega) | simpa using h_) (seg := [.int .i64 t270, .string t271, .string t272, .int .i64 t273]) (j := 0) hcl12 hcc12 (show 4 ≤ 4 from by decide) (x' := (⟨t270, t271, t272, t273⟩ : S95)) (k95_mkM _ _ _ (⟨t270, t271, t272, t273⟩ : S95) ) (fun _ hk => hk); have hx12_0 := hcc12 0 _ rfl; (try simp only [show (k95).sz = 4 from rfl, Nat.mul_one, Nat.add_zero] at hx12_0); have hf12_0 := hfr12 0; (try simp only [show (k95).sz = 4 from rfl, Nat.mul_one, Nat.add_zero] at hf12_0); have hx12_1 := hcc12 1 _ rfl; (try simp only [show (k95).sz = 4 from rfl, Nat.mul_one, Nat.add_zero] at hx12_1); have hf12_1 := hfr12 1; (try simp only [show (k95).sz = 4 from rfl, Nat.mul_one, Nat.add_zero] at hf12_1); have hx12_2 := hcc12 2 _ rfl; (try simp only [show (k95).sz = 4 from rfl, Nat.mul_one, Nat.add_zero] at hx12_2); have hf12_2 := hfr12 2; (try simp only [show (k95).sz = 4 from rfl, Nat.mul_one, Nat.add_zero] at hf12_2); have hx12_3 := hcc12 3 _ rfl; (try simp only [show (k95).sz = 4 from rfl, Nat.mul_one, Nat.add_zero] at hx12_3); have hf12_3 := hfr12 3; (try simp only [show (k95).sz = 4 from rfl, Nat.mul_one, Nat.add_zero] at hf12_3); clear hcl12 hcc12 hfr12 hM12) | ((with_reducible refine gate_store (t := 95) (p := 21) rfl ?_); refine store_event (t := 95) (p := 21) (v := ?vo_w13) (w1 := ((((w11.setCell ⟨go10, (x4_1 : Int).toNat * 4, none⟩ (.int .i64 t270)).setCell ⟨go10, (x4_1 : Int).toNat * 4 + 1, none⟩ (.string t271)).setCell ⟨go10, (x4_1 : Int).toNat * 4 + 2, none⟩ (.string t272)).setCell ⟨go10, (x4_1 : Int).toNat * 4 + 3, none⟩ (.int .i64 t273))) ?hg ?ho ?hn ?hr ?_; (case ho => rfl); (case hg => rfl); (case hn => rfl); (case hr => first | (go_simp; done) | (go_simp; rfl)); intro w13 hw; have hg : w11.grownBy w13 (some go10) := (by rw [hw]; exact HP12.2); have hp_ : Kd.R k95 95 w13 w.heap.size (fun _ => True) (.slice (some ⟨go10, 0, none⟩) x3_1.length co10) y274 := (by rw [hw, Ny274.out]; exact HP12.1); clear HP12; replace HO_3 := Aside0.mk (hp_); replace HB := Aside0.mk ((by rw [hw]; exact below_set (below_set (below_set (below_set (HB.out) GB10.out) GB10.out) GB10.out) GB10.out : Below w.heap.size w w13)); clear hg hw hp_))
        go_roundg k1
        case measure => have := HK1.out; omega
        case rel => exact ⟨(y274), (wrap64 (x4_1 + 1)), fa, H', ⟨by have := HK1.out; omega⟩, ⟨rpR HO_3.out⟩, ⟨bl⟩⟩
       ·rw [if_neg c9] at H
        exact absurd H (by simp)
      ·rw [if_neg c7] at H
       exact absurd H (by simp)
     ·rw [if_neg c6] at H
      have c6b0 : decide (x4_1 < (l0.length : Int)) = false := decide_eq_false c6
      clear c6
      obtain rfl := Option.some.inj H
      go_wp2
      go_ret
      exact ⟨_, fe, rpR HO_3.out, bl⟩
  ·rw [if_neg c3] at H
   exact absurd H (by simp)
 ·rw [if_neg c2] at H
  exact absurd H (by simp)
/-! ### laws_toDisk: function 27 -/
def laws_toDisk.f (k : Nat) (a0_0 : Int) (a0_1 : Int) (l0_2 : List (S134)) (l0_3 : List (S136)) (l0_4 : List (S138)) : Option (Int × Int × (List (S89)) × (List (S93)) × (List (S95))) := (laws_toInodeS.f k l0_2).bind fun t278 => ((laws_toLinkS.f k l0_3).bind fun t281 => ((laws_toMoveS.f k l0_4).bind fun t284 => (some (a0_0, a0_1, t278, t281, t284))))
theorem laws_toDisk.mono : ∀ a0 a1 a2 a3 a4 k, LeO (laws_toDisk.f k a0 a1 a2 a3 a4) (laws_toDisk.f (k + 1) a0 a1 a2 a3 a4) := by
 intro a0 a1 a2 a3 a4 k
 unfold laws_toDisk.f
 repeat' first
  | (with_reducible exact laws_toInodeS.mono _ _)
  | (with_reducible exact laws_toLinkS.mono _ _)
  | (with_reducible exact laws_toMoveS.mono _ _)
  | (with_reducible exact LeO.refl _)
  | (with_reducible exact LeO.none _)
  | (with_reducible refine LeO.ite ?_ ?_)
  | (with_reducible refine LeO.bind ?_ (fun _ => ?_))
  | exact laws_toInodeS.mono _ _
  | exact laws_toLinkS.mono _ _
  | exact laws_toMoveS.mono _ _
  | exact LeO.none _
  | refine LeO.ite ?_ ?_
  | refine LeO.bind ?_ (fun _ => ?_)
set_option maxHeartbeats 8000000 in
set_option maxRecDepth 100000 in
theorem laws_toDisk.calls (k : Nat) (a0_0 : Int) (a0_1 : Int) (A0_2 : Option Addr) (c0_2 : Nat) (l0_2 : List (S134)) (A0_3 : Option Addr) (c0_3 : Nat) (l0_3 : List (S136)) (A0_4 : Option Addr) (c0_4 : Nat) (l0_4 : List (S138)) (r1 : Int) (r2 : Int) (r3 : List (S89)) (r4 : List (S93)) (r5 : List (S95)) (w : World) (hr0_2 : Kd.C k134 w A0_2 l0_2.length l0_2) (hc0_2 : l0_2.length ≤ c0_2) (hr0_3 : Kd.C k136 w A0_3 l0_3.length l0_3) (hc0_3 : l0_3.length ≤ c0_3) (hr0_4 : Kd.C k138 w A0_4 l0_4.length l0_4) (hc0_4 : l0_4.length ≤ c0_4) (h : laws_toDisk.f k a0_0 a0_1 l0_2 l0_3 l0_4 = some (r1, r2, r3, r4, r5)) :
 Calls Try.prog 27 #[.agg #[.int .i64 a0_0, .int .i64 a0_1, .slice A0_2 l0_2.length c0_2, .slice A0_3 l0_3.length c0_3, .slice A0_4 l0_4.length c0_4]] w fun e w' => ∃ v2_ v3_ v4_ : Value, e = .returned (.agg #[.int .i64 r1, .int .i64 r2, v2_, v3_, v4_]) ∧ Kd.R k89 89 w' w.heap.size (fun _ => True) v2_ r3 ∧ Kd.R k93 93 w' w.heap.size (fun _ => True) v3_ r4 ∧ Kd.R k95 95 w' w.heap.size (fun _ => True) v4_ r5 ∧ Below w.heap.size w w' := by
 have hu44 := Try.underlying44
 have hu26 := Try.underlying26
 have HR0_2 := Aside0.mk hr0_2
 have HC0_2 := Aside0.mk hc0_2
 clear hr0_2 hc0_2
 have HR0_3 := Aside0.mk hr0_3
 have HC0_3 := Aside0.mk hc0_3
 clear hr0_3 hc0_3
 have HR0_4 := Aside0.mk hr0_4
 have HC0_4 := Aside0.mk hc0_4
 clear hr0_4 hc0_4
 have HB := Aside0.mk (Below.refl w.heap.size w)
 have H : ((laws_toInodeS.f k l0_2).bind fun t278 => ((laws_toLinkS.f k l0_3).bind fun t281 => ((laws_toMoveS.f k l0_4).bind fun t284 => (some (a0_0, a0_1, t278, t281, t284))))) = some (r1, r2, r3, r4, r5) := h
 clear h
 obtain ⟨t278, A2, H⟩ := bd H
 obtain ⟨t281, A3, H⟩ := bd H
 obtain ⟨t284, A4, H⟩ := bd H
 simp only [Option.some.injEq, Prod.mk.injEq] at H
 obtain ⟨rfl, rfl, rfl, rfl, rfl⟩ := H
 go_enter Try.func27, Try.ntmps27
 go_wp2_with (first | ((with_reducible refine gD 1 rfl ?_); refine boxZ 1 #[.int .i64 a0_0, .int .i64 a0_1, .slice A0_2 l0_2.length c0_2, .slice A0_3 l0_3.length c0_3, .slice A0_4 l0_4.length c0_4] 44 ?_; intro gb275 hg w5 hbox hb; have BK275 := Aside0.mk hbox; have GW275 := gw (w := w) hg; have GE275 := gw (w := w) hg; replace HB := bs (w := w) hb; clear hb hbox hg) | ((with_reducible refine gD 2 rfl ?_); refine boxZ 2 #[.int .i64 0, .int .i64 0, .slice none 0 0, .slice none 0 0, .slice none 0 0] 26 ?_; intro gb276 hg w6 hbox hb; have BK276 := Aside0.mk hbox; have GW276 := gw (w := w) hg; have GE276 := gw (w := w) hg; replace HB := bs (w := w) hb; have NB275_276 := nl BK275 hg; have NB276_275 := nr BK275 hg; replace BK275 := bv BK275 hb; clear hb hbox hg) | ((with_reducible refine gD 3 rfl ?_); refine boxZ 3 #[.int .i64 0, .int .i64 0, .slice none 0 0, .slice none 0 0, .slice none 0 0] 26 ?_; intro gb277 hg w7 hbox hb; have BK277 := Aside0.mk hbox; have GW277 := gw (w := w) hg; have GE277 := gw (w := w) hg; replace HB := bs (w := w) hb; have NB275_277 := nl BK275 hg; have NB277_275 := nr BK275 hg; replace BK275 := bv BK275 hb; have NB276_277 := nl BK276 hg; have NB277_276 := nr BK276 hg; replace BK276 := bv BK276 hb; clear hb hbox hg; have hnb8 := NB275_276.out; have hnc8 := NB276_275.out; have hnb9 := NB275_277.out; have hnc9 := NB277_275.out; obtain ⟨Z10_0, Z10_1, Z10_2, Z10_3, Z10_4, Y10_0, Y10_1, Y10_2, Y10_3, Y10_4⟩ := cf5 BK275; have hnb11 := NB277_276.out; have hnc11 := NB276_277.out; obtain ⟨Z12_0, Z12_1, Z12_2, Z12_3, Z12_4, Y12_0, Y12_1, Y12_2, Y12_3, Y12_4⟩ := cf5 BK277) | ((with_reducible refine gC 82 rfl ?_); refine goesZ (some 12) rfl Try.func82 #[.slice A0_2 l0_2.length c0_2] ?_; (with_reducible refine (laws_toInodeS.calls k _ _ l0_2 t278 _ ?side1 ?side2 A2.out).mono ?_); (case side1 => exact Kd.C_below HR0_2.out bl); (case side2 => exact HC0_2.out); rintro e w13 ⟨v279, rfl, ho0, hb⟩; refine ⟨_, rfl, ?_⟩; have HO280 := Aside0.mk (Kd.R_lower ho0 (below_size bl)); replace BK275 := Aside0.mk (blk_below (g := gb275) (o := .cells #[.int .i64 a0_0, .int .i64 a0_1, .slice A0_2 l0_2.length c0_2, .slice A0_3 l0_3.length c0_3, .slice A0_4 l0_4.length c0_4] 44 (0, 0)) bkk hb); replace BK276 := Aside0.mk (blk_below (g := gb276) (o := .cells #[.int .i64 0, .int .i64 0, .slice none 0 0, .slice none 0 0, .slice none 0 0] 26 (0, 0)) bkk hb); replace BK277 := Aside0.mk (blk_below (g := gb277) (o := .cells #[.int .i64 a0_0, .int .i64 a0_1, .slice none 0 0, .slice none 0 0, .slice none 0 0] 26 (0, 0)) bkk hb); replace HB := bs (w := w) hb; (try clear hb ho0); obtain ⟨Ao14, co14, rfl⟩ := Kd.R_slice HO280.out; obtain ⟨Z15_0, Z15_1, Z15_2, Z15_3, Z15_4, Y15_0, Y15_1, Y15_2, Y15_3, Y15_4⟩ := cf5 BK277; obtain ⟨Z16_0, Z16_1, Z16_2, Z16_3, Z16_4, Y16_0, Y16_1, Y16_2, Y16_3, Y16_4⟩ := cf5 BK275) | ((with_reducible refine gC 83 rfl ?_); refine goesZ (some 16) rfl Try.func83 #[.slice A0_3 l0_3.length c0_3] ?_; (with_reducible refine (laws_toLinkS.calls k _ _ l0_3 t281 _ ?side1 ?side2 A3.out).mono ?_); (case side1 => exact Kd.C_below HR0_3.out bl); (case side2 => exact HC0_3.out); rintro e w17 ⟨v282, rfl, ho0, hb⟩; refine ⟨_, rfl, ?_⟩; replace HO280 := Aside0.mk (Kd.R_below (rpR (Kd.R_mono (Kd.R_far (p := ⟨gb277, 2, none⟩) (Kd.R_types HO280.out BK277.out (by decide)) (fun _ hk => hk.2) (.slice Ao14 t278.length co14)) (fun _ h_ => h_.1))) hb); have HO283 := Aside0.mk (Kd.R_lower ho0 (below_size bl)); replace BK275 := Aside0.mk (blk_below (g := gb275) (o := .cells #[.int .i64 a0_0, .int .i64 a0_1, .slice A0_2 l0_2.length c0_2, .slice A0_3 l0_3.length c0_3, .slice A0_4 l0_4.length c0_4] 44 (0, 0)) bkk hb); replace BK276 := Aside0.mk (blk_below (g := gb276) (o := .cells #[.int .i64 0, .int .i64 0, .slice none 0 0, .slice none 0 0, .slice none 0 0] 26 (0, 0)) bkk hb); replace BK277 := Aside0.mk (blk_below (g := gb277) (o := .cells #[.int .i64 a0_0, .int .i64 a0_1, .slice Ao14 t278.length co14, .slice none 0 0, .slice none 0 0] 26 (0, 0)) bkk hb); replace HB := bs (w := w) hb; (try clear hb ho0); obtain ⟨Ao18, co18, rfl⟩ := Kd.R_slice HO283.out; obtain ⟨Z19_0, Z19_1, Z19_2, Z19_3, Z19_4, Y19_0, Y19_1, Y19_2, Y19_3, Y19_4⟩ := cf5 BK277; obtain ⟨Z20_0, Z20_1, Z20_2, Z20_3, Z20_4, Y20_0, Y20_1, Y20_2, Y20_3, Y20_4⟩ := cf5 BK275) | ((with_reducible refine gC 84 rfl ?_); refine goesZ (some 20) rfl Try.func84 #[.slice A0_4 l0_4.length c0_4] ?_; (with_reducible refine (laws_toMoveS.calls k _ _ l0_4 t284 _ ?side1 ?side2 A4.out).mono ?_); (case side1 => exact Kd.C_below HR0_4.out bl); (case side2 => exact HC0_4.out); rintro e w21 ⟨v285, rfl, ho0, hb⟩; refine ⟨_, rfl, ?_⟩; replace HO280 := Aside0.mk (Kd.R_below (rpR (Kd.R_mono (Kd.R_far (p := ⟨gb277, 3, none⟩) (Kd.R_types HO280.out BK277.out (by decide)) (fun _ hk => hk.2) (.slice Ao18 t281.length co18)) (fun _ h_ => h_.1))) hb); replace HO283 := Aside0.mk (Kd.R_below (rpR (Kd.R_mono (Kd.R_far (p := ⟨gb277, 3, none⟩) (Kd.R_types HO283.out BK277.out (by decide)) (fun _ hk => hk.2) (.slice Ao18 t281.length co18)) (fun _ h_ => h_.1))) hb); have HO286 := Aside0.mk (Kd.R_lower ho0 (below_size bl)); replace BK275 := Aside0.mk (blk_below (g := gb275) (o := .cells #[.int .i64 a0_0, .int .i64 a0_1, .slice A0_2 l0_2.length c0_2, .slice A0_3 l0_3.length c0_3, .slice A0_4 l0_4.length c0_4] 44 (0, 0)) bkk hb); replace BK276 := Aside0.mk (blk_below (g := gb276) (o := .cells #[.int .i64 0, .int .i64 0, .slice none 0 0, .slice none 0 0, .slice none 0 0] 26 (0, 0)) bkk hb); replace BK277 := Aside0.mk (blk_below (g := gb277) (o := .cells #[.int .i64 a0_0, .int .i64 a0_1, .slice Ao14 t278.length co14, .slice Ao18 t281.length co18, .slice none 0 0] 26 (0, 0)) bkk hb); replace HB := bs (w := w) hb; (try clear hb ho0); obtain ⟨Ao22, co22, rfl⟩ := Kd.R_slice HO286.out; obtain ⟨Z23_0, Z23_1, Z23_2, Z23_3, Z23_4, Y23_0, Y23_1, Y23_2, Y23_3, Y23_4⟩ := cf5 BK277; obtain ⟨Z24_0, Z24_1, Z24_2, Z24_3, Z24_4, Y24_0, Y24_1, Y24_2, Y24_3, Y24_4⟩ := cf5 BK276))
 refine bodyPost_ret (results_cell_row rfl _ _ gb276 26 #[.int .i64 a0_0, .int .i64 a0_1, .slice Ao14 t278.length co14, .slice Ao18 t281.length co18, .slice Ao22 t284.length co22] (0, 0) _ rfl bkk Try.underlying26 rfl (by kernel_rfl)) rfl ?_
 exact ⟨_, _, _, fe, rpR (Kd.R_mono (Kd.R_far (p := ⟨gb276, 4, none⟩) (Kd.R_far (p := ⟨gb276, 3, none⟩) (Kd.R_far (p := ⟨gb276, 2, none⟩) (Kd.R_far (p := ⟨gb276, 1, none⟩) (Kd.R_far (p := ⟨gb276, 0, none⟩) (Kd.R_far (p := ⟨gb277, 4, none⟩) (Kd.R_types (Kd.R_types HO280.out BK277.out (by decide)) BK276.out (by decide)) (fun _ hk => hk.1.2) (.slice Ao22 t284.length co22)) (fun _ hk => hk.2) (.int .i64 a0_0)) (fun _ hk => hk.2) (.int .i64 a0_1)) (fun _ hk => hk.2) (.slice Ao14 t278.length co14)) (fun _ hk => hk.2) (.slice Ao18 t281.length co18)) (fun _ hk => hk.2) (.slice Ao22 t284.length co22)) (fun _ hk => trivial)), rpR (Kd.R_mono (Kd.R_far (p := ⟨gb276, 4, none⟩) (Kd.R_far (p := ⟨gb276, 3, none⟩) (Kd.R_far (p := ⟨gb276, 2, none⟩) (Kd.R_far (p := ⟨gb276, 1, none⟩) (Kd.R_far (p := ⟨gb276, 0, none⟩) (Kd.R_far (p := ⟨gb277, 4, none⟩) (Kd.R_types (Kd.R_types HO283.out BK277.out (by decide)) BK276.out (by decide)) (fun _ hk => hk.1.2) (.slice Ao22 t284.length co22)) (fun _ hk => hk.2) (.int .i64 a0_0)) (fun _ hk => hk.2) (.int .i64 a0_1)) (fun _ hk => hk.2) (.slice Ao14 t278.length co14)) (fun _ hk => hk.2) (.slice Ao18 t281.length co18)) (fun _ hk => hk.2) (.slice Ao22 t284.length co22)) (fun _ hk => trivial)), rpR (Kd.R_mono (Kd.R_far (p := ⟨gb276, 4, none⟩) (Kd.R_far (p := ⟨gb276, 3, none⟩) (Kd.R_far (p := ⟨gb276, 2, none⟩) (Kd.R_far (p := ⟨gb276, 1, none⟩) (Kd.R_far (p := ⟨gb276, 0, none⟩) (Kd.R_far (p := ⟨gb277, 4, none⟩) (Kd.R_types (Kd.R_types HO286.out BK277.out (by decide)) BK276.out (by decide)) (fun _ hk => hk.1.2) (.slice Ao22 t284.length co22)) (fun _ hk => hk.2) (.int .i64 a0_0)) (fun _ hk => hk.2) (.int .i64 a0_1)) (fun _ hk => hk.2) (.slice Ao14 t278.length co14)) (fun _ hk => hk.2) (.slice Ao18 t281.length co18)) (fun _ hk => hk.2) (.slice Ao22 t284.length co22)) (fun _ hk => trivial)), bl⟩
end Go.Proofs.Ytjcmcamijaelbaa.PDisk
