/- The contract of impl.Crash: made by hand. -/
import Derived.Test.YtjcmcamijaelbaaPDiskxS
import Derived.Test.YtjcmcamijaelbaaPDiskx13
import Derived.Test.YtjcmcamijaelbaaPDiskx15
import Derived.Test.YtjcmcamijaelbaaPDiskx24
import Derived.Test.YtjcmcamijaelbaaZap
namespace Go.Proofs.Ytjcmcamijaelbaa.PDisk
open Go.RowKit Go.Proofs.YtjcmcamijaelbaaW.PrintWords Go.Proofs.YtjcmcamijaelbaaW.PrintLast Go.Proofs.YtjcmcamijaelbaaW.PrintMore Go.Proofs.Ytjcmcamijaelbaa.Zip
attribute [local go_sem] max2_int min2_int max_two min_two max_three min_three max_four min_four   -- for this text's walks alone
set_option linter.unusedVariables false
set_option linter.unusedSimpArgs false
def cutI (cs : List Int) (i : Int) : Int := if i < (cs.length : Int) then (if rd cs i < 0 then 0 else rd cs i) else 0
def crash1 (x : S89) (c : Int) : S89 := ⟨x.f0, x.f1.extract 0 (x.f2 + (if (x.f1.size : Int) - x.f2 < c then (x.f1.size : Int) - x.f2 else c)).toNat, ((x.f1.extract 0 (x.f2 + (if (x.f1.size : Int) - x.f2 < c then (x.f1.size : Int) - x.f2 else c)).toNat).size : Int)⟩
def crashL (cs : List Int) : List S89 → Int → List S89
 | [], _ => []
 | x :: r, i => crash1 x (cutI cs i) :: crashL cs r (i + 1)
def okS (l : List S89) : Bool := l.all (fun x => decide (0 ≤ x.f2) && decide (x.f2 ≤ (x.f1.size : Int)) && decide (x.f1.size ≤ 140737488355328))
def keepM (keep : Int) (n : Int) : Int := if 0 < (if n < keep then n else keep) then (if n < keep then n else keep) else 0
def impl_Crash.f (k : Nat) (a0_0 : Int) (a0_1 : Int) (l0_2 : List (S89)) (l0_3 : List (S93)) (l0_4 : List (S95)) (a1 : Int) (l2 : List Int) : Option (Int × Int × (List (S89)) × (List (S93)) × (List (S95))) := (impl_DiskOk.f k a0_0 a0_1 l0_2 l0_3 l0_4).bind fun t => (if t = true then ((impl_copyDisk.f a0_0 a0_1 l0_2 l0_3 l0_4).bind fun d => (if d.2.2.1.length < 4398046511104 then (if okS d.2.2.1 = true then ((impl_names.f k d.2.2.2.1 (d.2.2.2.2.take (keepM a1 (d.2.2.2.2.length : Int)).toNat)).bind fun n => (some (d.1, d.2.1, delS n (crashL l2 d.2.2.1 0), n, ([] : List (S95))))) else none) else none)) else (some (0, 0, ([] : List (S89)), ([] : List (S93)), ([] : List (S95)))))
theorem impl_Crash.mono : ∀ a0 a1 a2 a3 a4 a5 a6 k, LeO (impl_Crash.f k a0 a1 a2 a3 a4 a5 a6) (impl_Crash.f (k + 1) a0 a1 a2 a3 a4 a5 a6) := by
 intro a0 a1 a2 a3 a4 a5 a6 k; unfold impl_Crash.f
 repeat' first
  | (with_reducible exact impl_DiskOk.mono _ _ _ _ _ _)
  | (with_reducible exact impl_names.mono _ _ _)
  | (with_reducible exact LeO.refl _)
  | (with_reducible exact LeO.none _)
  | (with_reducible refine LeO.ite ?_ ?_)
  | (with_reducible refine LeO.bind ?_ (fun _ => ?_))
theorem crashL_len (cs : List Int) : ∀ (l : List S89) (i : Int), (crashL cs l i).length = l.length
 | [], _ => rfl
 | x :: r, i => by simp [crashL, crashL_len cs r (i + 1)]
theorem crash_step (cs : List Int) (l xs : List S89) (x : Int) (h0 : 0 ≤ x) (h1 : x < (l.length : Int)) (hl : xs.length = l.length) (X Y : S89) (hY : Y = crash1 (rd_T89 l x) (cutI cs x)) (hC : xs.take x.toNat ++ crashL cs (l.drop x.toNat) x = crashL cs l 0) (hD : xs.drop x.toNat = l.drop x.toNat) : (((xs.set x.toNat X).set x.toNat Y).take (x + 1).toNat ++ crashL cs (l.drop (x + 1).toNat) (x + 1) = crashL cs l 0) ∧ ((xs.set x.toNat X).set x.toNat Y).drop (x + 1).toNat = l.drop (x + 1).toNat := by
 have hlt : x.toNat < l.length := by omega
 have e : rd_T89 l x = l[x.toNat] := by unfold rd_T89; rw [List.getD_eq_getElem?_getD, List.getElem?_eq_getElem hlt]; rfl
 rw [List.drop_eq_getElem_cons hlt, crashL, ← e, ← hY] at hC
 rw [List.set_set, show (x + 1).toNat = x.toNat + 1 by omega]
 refine ⟨?_, ?_⟩
 · rw [set_take _ _ _ (by omega), List.append_assoc]; exact hC
 · rw [List.drop_set_of_lt (by omega), ← List.drop_drop, ← List.drop_drop, hD]
theorem k89_mkM1 {w : World} {b : Nat} {ok : Nat → Prop} {y : S89} {f : Int} (h : y.f2 = f) (s : ByteArray) : k89.M w b ok (⟨y.f0, s, f⟩ : S89) ([.int .i64 y.f0] ++ ([.string s] ++ [.int .i64 y.f2])) := by
 subst h; exact k89_mkM _ _ _ _
set_option maxHeartbeats 8000000 in
set_option maxRecDepth 100000 in
theorem impl_Crash.calls (k : Nat) (a0_0 : Int) (a0_1 : Int) (A0_2 : Option Addr) (c0_2 : Nat) (l0_2 : List (S89)) (A0_3 : Option Addr) (c0_3 : Nat) (l0_3 : List (S93)) (A0_4 : Option Addr) (c0_4 : Nat) (l0_4 : List (S95)) (a1 : Int) (A2 : Option Addr) (c2 : Nat) (l2 : List Int) (r1 : Int) (r2 : Int) (r3 : List (S89)) (r4 : List (S93)) (r5 : List (S95)) (w : World) (hr0_2 : Kd.C k89 w A0_2 l0_2.length l0_2) (hc0_2 : l0_2.length ≤ c0_2) (hr0_3 : Kd.C k93 w A0_3 l0_3.length l0_3) (hc0_3 : l0_3.length ≤ c0_3) (hr0_4 : Kd.C k95 w A0_4 l0_4.length l0_4) (hc0_4 : l0_4.length ≤ c0_4) (hr2 : Kd.C (Kd.int .i64) w A2 l2.length l2) (hc2 : l2.length ≤ c2) (h : impl_Crash.f k a0_0 a0_1 l0_2 l0_3 l0_4 a1 l2 = some (r1, r2, r3, r4, r5)) :
 Calls Try.prog 50 #[.agg #[.int .i64 a0_0, .int .i64 a0_1, .slice A0_2 l0_2.length c0_2, .slice A0_3 l0_3.length c0_3, .slice A0_4 l0_4.length c0_4], .int .i64 a1, .slice A2 l2.length c2] w fun e w' => ∃ v2_ v3_ v4_ : Value, e = .returned (.agg #[.int .i64 r1, .int .i64 r2, v2_, v3_, v4_]) ∧ Kd.R k89 89 w' w.heap.size (fun _ => True) v2_ r3 ∧ Kd.R k93 93 w' w.heap.size (fun _ => True) v3_ r4 ∧ Kd.R k95 95 w' w.heap.size (fun _ => True) v4_ r5 ∧ Below w.heap.size w w' := by
 have hu26 := Try.underlying26; have hu89 := Try.underlying89; have hu22 := Try.underlying22; have HR2 := aK hr2; have HC2 := aK hc2; clear hr2 hc2; have HR0_2 := aK hr0_2; have HC0_2 := aK hc0_2; clear hr0_2 hc0_2; have HR0_3 := aK hr0_3; have HC0_3 := aK hc0_3; clear hr0_3 hc0_3; have HR0_4 := aK hr0_4; have HC0_4 := aK hc0_4; clear hr0_4 hc0_4; have HB := aK (Below.refl w.heap.size w); have H := h; unfold impl_Crash.f at H; clear h; obtain ⟨t492, A3, H⟩ := bd H; by_cases c4 : t492 = true
 ·subst c4; replace H := iT H; replace H := oB H; obtain ⟨⟨t493, t494, t495, t498, t501⟩, A50, H⟩ := H; have A5 := aK A50; clear A50; by_cases c5 : t495.length < 4398046511104
  ·rw [if_pos c5] at H; have HL := aK c5; clear c5; by_cases c6 : okS t495 = true
   ·rw [if_pos c6] at H; have HS := aK c6; clear c6; obtain ⟨t504, A6, H⟩ := bd H; simp only [Option.some.injEq, Prod.mk.injEq] at H; obtain ⟨rfl, rfl, rfl, rfl, rfl⟩ := H
    go_enter Try.func50, Try.ntmps50
    go_wp2_with (first | ((with_reducible refine gD 3 rfl ?_); refine boxZ 3 #[.int .i64 a0_0, .int .i64 a0_1, .slice A0_2 l0_2.length c0_2, .slice A0_3 l0_3.length c0_3, .slice A0_4 l0_4.length c0_4] 26 ?_; intro gb490 hg wq1 hbox hb; have BK490 := aK hbox; have GW490 := gW HB hg; replace HB := bS HB hb; clear hb hbox hg) | ((with_reducible refine gD 6 rfl ?_); refine boxZ 6 #[.int .i64 0, .int .i64 0, .slice none 0 0, .slice none 0 0, .slice none 0 0] 26 ?_; intro gb491 hg wq2 hbox hb; have BK491 := aK hbox; have GW491 := gW HB hg; replace HB := bS HB hb; have NB490_491 := nl BK490 hg; have NB491_490 := nr BK490 hg; replace BK490 := bv BK490 hb; clear hb hbox hg; have hnbq1 := NB490_491.o; have hncq1 := NB491_490.o; obtain ⟨_, _, _, _, _, _, _, _, _, _⟩ := cf5 BK490) | ((with_reducible refine gC 28 rfl ?_); refine goesZ (some 11) rfl Try.func28 #[.agg #[.int .i64 a0_0, .int .i64 a0_1, .slice A0_2 l0_2.length c0_2, .slice A0_3 l0_3.length c0_3, .slice A0_4 l0_4.length c0_4]] ?_; (with_reducible refine (impl_DiskOk.calls k a0_0 a0_1 _ _ l0_2 (fun k_ => k_ < w.heap.size) _ _ l0_3 _ _ l0_4 _ _ ?_ ?_ ?_ ?_ ?_ A3.o).mono ?_); exact cB HR0_2 HB; exact HC0_2.o; exact Kd.V_mk HC0_3.o (Kd.F_below (Kd.C_F k93_heap HR0_3.o) bl); exact cB HR0_4 HB; exact HC0_4.o; rintro e wq3 ⟨rfl, hb⟩; refine ⟨_, rfl, ?_⟩; replace BK490 := bv BK490 hb; replace BK491 := bv BK491 hb; replace HB := bS HB hb; (try clear hb); obtain ⟨_, _, _, _, _, _, _, _, _, _⟩ := cf5 BK490) | ((with_reducible refine gC 96 rfl ?_); refine goesZ (some 15) rfl Try.func96 #[.agg #[.int .i64 a0_0, .int .i64 a0_1, .slice A0_2 l0_2.length c0_2, .slice A0_3 l0_3.length c0_3, .slice A0_4 l0_4.length c0_4]] ?_; (with_reducible refine (impl_copyDisk.calls a0_0 a0_1 _ _ l0_2 _ _ l0_3 _ _ l0_4 t493 t494 t495 t498 t501 _ ?_ ?_ ?_ ?_ ?_ ?_ A5.o).mono ?_); exact cB HR0_2 HB; exact HC0_2.o; exact cB HR0_3 HB; exact HC0_3.o; exact cB HR0_4 HB; exact HC0_4.o; rintro e wq4 ⟨v496, v499, v502, rfl, ho0, ho1, ho2, hb⟩; refine ⟨_, rfl, ?_⟩; have HO497 := aK (Kd.R_lower ho0 (show max gb490 gb491 + 1 ≤ _ from by have h1 := blk_lt BK490.o; have h2 := blk_lt BK491.o; omega)); have HO500 := rl HB ho1; have HO503 := rl HB ho2; replace BK490 := bv BK490 hb; replace BK491 := bv BK491 hb; replace HB := bS HB hb; (try clear hb ho0 ho1 ho2); obtain ⟨_, _, _, _, _, _, _, _, _, _⟩ := cf5 BK490; obtain ⟨Aoq1, coq1, rfl⟩ := rs HO497; obtain ⟨Aoq2, coq2, rfl⟩ := rs HO500; obtain ⟨Aoq3, coq3, rfl⟩ := rs HO503))
    have HM := aK (crashL_len l2 t495 0)
    go_loopg [19] t495.length (fun kq v19 w' => ∃ (x : Int) (xs : List (S89)), v19 = .int .i64 x ∧ Aside0 (0 ≤ x ∧ x + kq = t495.length) ∧ Aside0 (xs.length = t495.length) ∧ Aside0 (xs.take x.toNat ++ crashL l2 (t495.drop x.toNat) x = crashL l2 t495 0) ∧ Aside0 (xs.drop x.toNat = t495.drop x.toNat) ∧ Aside0 (Kd.R k89 89 w' (max gb490 gb491 + 1) (fun _ => True) (.slice Aoq1 t495.length coq1) xs) ∧ Aside0 (Kd.R k93 93 w' w.heap.size (fun _ => True) (.slice Aoq2 t498.length coq2) t498) ∧ Aside0 (Kd.R k95 95 w' w.heap.size (fun _ => True) (.slice Aoq3 t501.length coq3) t501) ∧ Aside0 (w'.heap[gb490]? = some (.cells #[.int .i64 t493, .int .i64 t494, .slice Aoq1 t495.length coq1, .slice Aoq2 t498.length coq2, .slice Aoq3 t501.length coq3] 26 (0, 0))) ∧ Aside0 (w'.heap[gb491]? = some (.cells #[.int .i64 0, .int .i64 0, .slice none 0 0, .slice none 0 0, .slice none 0 0] 26 (0, 0))) ∧ Aside0 (Below w.heap.size w w'))
    case atStart => exact ⟨0, t495, fa, ⟨by omega, by omega⟩, ⟨rfl⟩, ⟨rfl⟩, ⟨rfl⟩, ⟨rpR (f5 HO497 BK490)⟩, ⟨rpR (f5 HO500 BK490)⟩, ⟨rpR (f5 HO503 BK490)⟩, ⟨bkk⟩, ⟨bkk⟩, ⟨bl⟩⟩
    case round =>
     clear HO497 HO500 HO503 BK490 BK491 HB
     obtain ⟨x, xs, rfl, HX, HXL, HXC, HXD, HO497, HO500, HO503, BK490, BK491, HB⟩ := hrel
     have hx := HX.out
     obtain ⟨hd0, hd1, hd2, hd3, hd4, he0, he1, he2, he3, he4⟩ := cf5 BK490
     by_cases c : x < (t495.length : Int)
     · have ccb : decide (x < (t495.length : Int)) = true := decide_eq_true c
       have pq2 : 0 ≤ (x : Int) := hx.1
       have qq2 : (x : Int) < (t495.length : Int) := c
       obtain ⟨go, coq4, eo, gbq1, gl26, cl26, HG26⟩ := Kd.R_form HO497.o (by have := HXL.out; omega)
       injection eo with ea_ en_ ec_; subst ea_; subst ec_; clear en_
       have GB26 := aK gbq1; have GG26 := aK HG26; clear gbq1 gl26 HG26
       obtain ⟨ce26, hcl26, hM26, hcc26, hfr26⟩ := Kd.R_elem HO497.o z89 (x : Int) pq2 qq2
       obtain rfl := k89_openM hM26
       have hx0 : World.cell? _ ⟨go, (x : Int).toNat * 3, none⟩ = some (.int .i64 ((rd_T89 xs x).f0)) := hcc26 0 _ rfl
       have hx1 : World.cell? _ ⟨go, (x : Int).toNat * 3 + 1, none⟩ = some (.string ((rd_T89 xs x).f1)) := hcc26 1 _ rfl
       have hx2 : World.cell? _ ⟨go, (x : Int).toNat * 3 + 2, none⟩ = some (.int .i64 ((rd_T89 xs x).f2)) := hcc26 2 _ rfl
       have hf0 : World.frozen? _ ⟨go, (x : Int).toNat * 3, none⟩ = false := hfr26 0; have hf1 : World.frozen? _ ⟨go, (x : Int).toNat * 3 + 1, none⟩ = false := hfr26 1; have hf2 : World.frozen? _ ⟨go, (x : Int).toNat * 3 + 2, none⟩ = false := hfr26 2
       clear hcl26 hcc26 hfr26 hM26
       have p1 : (0 ≤ x) = True := eq_true hx.1
       have p2 : (x < (t495.length : Int)) = True := eq_true c
       have HX2 := aK (And.intro hx.1 c)
       have HW := aK (show wrap64 (x + 1) = x + 1 by have := HL.out; unfold wrap64; omega)
       have hrd : rd_T89 xs x = rd_T89 t495 x := by
        have hlt : x.toNat < xs.length := by have := HXL.out; omega
        have hlt2 : x.toNat < t495.length := by omega
        have h := congrArg List.head? HXD.out
        rw [List.head?_drop, List.head?_drop] at h
        unfold rd_T89; rw [List.getD_eq_getElem?_getD, List.getD_eq_getElem?_getD, h]
       have hok : 0 ≤ (rd_T89 xs x).f2 ∧ (rd_T89 xs x).f2 ≤ ((rd_T89 xs x).f1.size : Int) ∧ (rd_T89 xs x).f1.size ≤ 140737488355328 := by
        have hlt2 : x.toNat < t495.length := by omega
        have hm : rd_T89 t495 x ∈ t495 := by
         have : rd_T89 t495 x = t495[x.toNat] := by unfold rd_T89; rw [List.getD_eq_getElem?_getD, List.getElem?_eq_getElem hlt2]; rfl
         rw [this]; exact List.getElem_mem hlt2
        rw [hrd]
        have h := List.all_eq_true.1 HS.out _ hm
        simpa [and_assoc] using h
       have HRD := aK hrd
       obtain ⟨f, hf⟩ : ∃ f, f = (rd_T89 xs x).f2 := ⟨_, rfl⟩
       obtain ⟨s, hs⟩ : ∃ s, s = (rd_T89 xs x).f1 := ⟨_, rfl⟩
       obtain ⟨d, hd⟩ : ∃ d : Int, d = (s.size : Int) - f := ⟨_, rfl⟩
       rw [← hf, ← hs] at hok
       rw [← hf] at hx2; rw [← hs] at hx1
       have e54 : IntKind.i64.wrap ((s.size : Int) - f) = d := by rw [i64_w, hd]; unfold wrap64; omega
       have HF := aK hf; have HRF := aK hf.symm; have HSZ := aK hs; have HD5 := aK hd; have HOK := aK hok
       clear hf hs hd hok hrd
       by_cases c2 : x < (l2.length : Int)
       · have ccc : decide (x < (l2.length : Int)) = true := decide_eq_true c2
         obtain ⟨ad2, e2, hz0⟩ := Kd.at_int HR2.o x hx.1 c2
         cases e2
         replace hz0 := cz HB hz0
         have p3 : (x < (l2.length : Int)) = True := eq_true c2
         by_cases c3 : rd l2 x < 0
         · have HCV := aK (show cutI l2 x = 0 by unfold cutI; rw [if_pos c2, if_pos c3])
           have p4 : (rd l2 x < 0) = True := eq_true c3
           clear hx c c2 c3 pq2 qq2
           go_wp2
           have p5 : (d < 0) = False := eq_false (by have := HOK.out; have := HD5.out; omega)
           obtain ⟨n, hn⟩ : ∃ n : Int, n = f + 0 := ⟨_, rfl⟩
           have e56 : wrap64 f = n := by rw [hn]; have := HOK.out; have := HD5.out; unfold wrap64; omega
           have p6 : (0 ≤ n) = True := eq_true (by have := HOK.out; have := HD5.out; omega)
           have p7 : (n ≤ (s.size : Int)) = True := eq_true (by have := HOK.out; have := HD5.out; omega)
           have HN6 := aK (show n = f + (if (s.size : Int) - f < 0 then (s.size : Int) - f else 0) by rw [hn]; have := HOK.out; have := HD5.out; split <;> omega); clear hn
           replace HO497 := aK (Kd.R_drew HO497.o); replace HO500 := aK (Kd.R_drew HO500.o); replace HO503 := aK (Kd.R_drew HO503.o); replace BK490 := aK (blk_drew BK490.o); replace BK491 := aK (blk_drew BK491.o); replace HB := aK (below_drew1 HB.o)
           obtain ⟨ce, hcl, hM, hcc, hfr⟩ := Kd.R_elem HO497.o z89 (x : Int) HX2.out.1 HX2.out.2
           obtain rfl := k89_openM hM
           have HP1 := aK ((Kd.R_seg HO497.o (x : Int) HX2.out.1 HX2.out.2 (seg := [.string (s.extract 0 n.toNat)]) (j := 1) hcl hcc (show 2 ≤ 3 from by decide) (x' := (⟨(rd_T89 xs x).f0, s.extract 0 n.toNat, f⟩ : S89)) (k89_mkM1 HRF.out _) (fun _ hk => hk)).1)
           have hg1 : World.frozen? _ ⟨go, (x : Int).toNat * 3 + 1, none⟩ = false := hfr 1
           have hk1 : World.cell? _ ⟨go, (x : Int).toNat * 3 + 1, none⟩ = some (.string s) := (hcc 1 _ rfl).trans (congrArg (fun z => some (Value.string z)) HSZ.out.symm)
           have hk2 : World.cell? _ ⟨go, (x : Int).toNat * 3 + 2, none⟩ = some (.int .i64 f) := (hcc 2 _ rfl).trans (congrArg (fun z => some (Value.int .i64 z)) HRF.out)
           replace GG26 := aK (blk_drew GG26.o)
           clear hcl hcc hfr hM hx0 hx1 hx2 hf0 hf1 hf2
           refine start_ (n := 26) (S := fun w' => w'.cell? ⟨go, (x : Int).toNat * 3 + 1, none⟩ = some (.string s) ∧ w'.cell? ⟨go, (x : Int).toNat * 3 + 2, none⟩ = some (.int .i64 f)) (ds := [25]) (bo 26 0) (by kernel_rfl) rfl rfl ⟨hk1, hk2⟩ (fun hHeld => ?_); generalize wr.drew = wd at HO497 HO500 HO503 BK490 BK491 HB HP1 hg1 hk1 GG26 hHeld ⊢
           refine pV 0 35 (bo 26 1) ?_; refine pV 1 36 (bo 26 3) ?_; refine pV 2 37 (bo 26 7) ?_; refine pV 3 38 (bo 26 15) ?_; refine tV 4 39 (bo 26 31) ?_; refine pV 5 40 (bo 26 63) ?_; refine pV 6 41 (bo 26 127) ?_; refine pV 7 42 (bo 26 255) ?_; refine tV 8 43 (bo 26 511) ?_; refine pV 9 44 (bo 26 1023) ?_; refine pV 10 45 (bo 26 2047) ?_; refine pV 11 46 (bo 26 4095) ?_; refine pV 12 47 (bo 26 8191) ?_; refine tV 13 48 (bo 26 16383) ?_; refine pV 14 49 (bo 26 32767) ?_; refine pV 15 50 (bo 26 65535) ?_; refine pV 16 51 (bo 26 131071) ?_; refine pV 17 52 (bo 26 262143) ?_; refine tV 18 53 (bo 26 524287) ?_; refine pV 19 54 (bo 26 1048575) ?_; refine pV 20 55 (bo 26 2097151) ?_; refine pV 21 56 (bo 26 4194303) ?_; refine pV 22 57 (bo 26 8388607) ?_; refine pV 23 58 (bo 26 16777215) ?_; refine pV 24 59 (bo 26 33554431) ?_
           refine last_ (i := 25) (N := none) (bo 26 67108863) rfl rfl (by kernel_rfl) (by decide) (fun K hK => ?_)
           refine skip_ (w1 := ?_) (by rfl) rfl ?_ ?_
           rotate_left
           ·go_simp; rfl
           refine hK.out _ _ ?_; clear hK K hk1 hg1; refine done_ (by kernel_rfl) ?_
           have hX : (xs.set (x : Int).toNat (⟨(rd_T89 xs x).f0, s.extract 0 n.toNat, f⟩ : S89)).getD (x : Int).toNat z89 = (⟨(rd_T89 xs x).f0, s.extract 0 n.toNat, f⟩ : S89) := by rw [List.getD_eq_getElem?_getD, List.getElem?_set_self (by have h_ := HX2.out; have h2_ := HXL.out; omega)]; rfl
           obtain ⟨ce, hcl, hM, hcc, hfr⟩ := Kd.R_elem HP1.o z89 (x : Int) HX2.out.1 HX2.out.2
           rw [hX] at hM
           obtain rfl := k89_openM hM
           have HP2 := aK ((Kd.R_seg HP1.o (x : Int) HX2.out.1 HX2.out.2 (seg := [.int .i64 (max n 0)]) (j := 2) hcl hcc (show 3 ≤ 3 from by decide) (x' := (⟨(rd_T89 xs x).f0, s.extract 0 n.toNat, max n 0⟩ : S89)) (k89_mkM _ _ _ (⟨(rd_T89 xs x).f0, s.extract 0 n.toNat, max n 0⟩ : S89)) (fun _ hk => hk)).1)
           have hy1 : World.cell? (wd.setCell ⟨go, (x : Int).toNat * 3 + 1, none⟩ (.string (s.extract 0 n.toNat))) ⟨go, (x : Int).toNat * 3 + 1, none⟩ = some (.string (s.extract 0 n.toNat)) := hcc 1 _ rfl
           have hy2 : World.cell? (wd.setCell ⟨go, (x : Int).toNat * 3 + 1, none⟩ (.string (s.extract 0 n.toNat))) ⟨go, (x : Int).toNat * 3 + 2, none⟩ = some (.int .i64 f) := hcc 2 _ rfl
           have hg2 : World.frozen? (wd.setCell ⟨go, (x : Int).toNat * 3 + 1, none⟩ (.string (s.extract 0 n.toNat))) ⟨go, (x : Int).toNat * 3 + 2, none⟩ = false := hfr 2
           clear hcl hcc hfr hM hX
           have HGO := aK (Nat.le_trans (show w.heap.size ≤ max gb490 gb491 + 1 by have h_ := GW490.o; omega) GB26.o)
           have hY : (⟨(rd_T89 xs x).f0, s.extract 0 n.toNat, max n 0⟩ : S89) = crash1 (rd_T89 t495 x) (cutI l2 x) := by have hsz : ((s.extract 0 n.toNat).size : Int) = max n 0 := (by have h1_ := of_eq_true p6; have h2_ := of_eq_true p7; rw [ByteArray.size_extract]; omega); unfold crash1; rw [HCV.out, ← HRD.out, ← HF.out, ← HSZ.out, ← HN6.out, hsz]
           have HST := aK (crash_step l2 t495 xs x HX2.out.1 HX2.out.2 HXL.out (⟨(rd_T89 xs x).f0, s.extract 0 n.toNat, f⟩ : S89) _ hY HXC.out HXD.out); clear hY
           (try go_wp2)
           go_roundg (gk - 1)
           case measure => have := HX.out; have := HX2.out; omega
           case rel => exact ⟨wrap64 (x + 1), (xs.set (x : Int).toNat (⟨(rd_T89 xs x).f0, s.extract 0 n.toNat, f⟩ : S89)).set (x : Int).toNat (⟨(rd_T89 xs x).f0, s.extract 0 n.toNat, max n 0⟩ : S89), fa, ⟨by rw [HW.out]; have := HX2.out; omega, by rw [HW.out]; have := HX.out; have := HX2.out; omega⟩, ⟨by rw [List.length_set, List.length_set]; exact HXL.out⟩, ⟨by rw [HW.out]; exact HST.out.1⟩, ⟨by rw [HW.out]; exact HST.out.2⟩, ⟨rM HP2.o (fun _ _ => trivial)⟩, ⟨f2 HO500 GG26⟩, ⟨f2 HO503 GG26⟩, ⟨blk_far (blk_far BK490.o (by have h_ := Kd.R_ne HO497.o BK490.o (by decide); intro e_; exact h_ (by rw [e_]; rfl)) _) (by have h_ := Kd.R_ne HO497.o BK490.o (by decide); intro e_; exact h_ (by rw [e_]; rfl)) _⟩, ⟨blk_far (blk_far BK491.o (by have h_ := Kd.R_ne HO497.o BK491.o (by decide); intro e_; exact h_ (by rw [e_]; rfl)) _) (by have h_ := Kd.R_ne HO497.o BK491.o (by decide); intro e_; exact h_ (by rw [e_]; rfl)) _⟩, ⟨below_set (below_set HB.o HGO.o) HGO.o⟩⟩
         · have HCV := aK (show cutI l2 x = rd l2 x by unfold cutI; rw [if_pos c2, if_neg c3])
           have p4 : (rd l2 x < 0) = False := eq_false c3
           have HC0 := aK (show 0 ≤ rd l2 x by omega)
           clear hx c c2 c3 pq2 qq2
           go_wp2
           by_cases c4 : d < (rd l2 x)
           · have p5 : (d < (rd l2 x)) = True := eq_true c4
             obtain ⟨n, hn⟩ : ∃ n : Int, n = f + d := ⟨_, rfl⟩
             have e56 : IntKind.i64.wrap (f + d) = n := by rw [i64_w, hn]; have := HC0.out; have := HOK.out; have := HD5.out; unfold wrap64; omega
             have p6 : (0 ≤ n) = True := eq_true (by have := HC0.out; have := HOK.out; have := HD5.out; omega)
             have p7 : (n ≤ (s.size : Int)) = True := eq_true (by have := HC0.out; have := HOK.out; have := HD5.out; omega)
             have HN6 := aK (show n = f + (if (s.size : Int) - f < (rd l2 x) then (s.size : Int) - f else (rd l2 x)) by rw [hn]; have := HC0.out; have := HOK.out; have := HD5.out; split <;> omega); clear hn c4
             replace HO497 := aK (Kd.R_drew HO497.o); replace HO500 := aK (Kd.R_drew HO500.o); replace HO503 := aK (Kd.R_drew HO503.o); replace BK490 := aK (blk_drew BK490.o); replace BK491 := aK (blk_drew BK491.o); replace HB := aK (below_drew1 HB.o)
             obtain ⟨ce, hcl, hM, hcc, hfr⟩ := Kd.R_elem HO497.o z89 (x : Int) HX2.out.1 HX2.out.2
             obtain rfl := k89_openM hM
             have HP1 := aK ((Kd.R_seg HO497.o (x : Int) HX2.out.1 HX2.out.2 (seg := [.string (s.extract 0 n.toNat)]) (j := 1) hcl hcc (show 2 ≤ 3 from by decide) (x' := (⟨(rd_T89 xs x).f0, s.extract 0 n.toNat, f⟩ : S89)) (k89_mkM1 HRF.out _) (fun _ hk => hk)).1)
             have hg1 : World.frozen? _ ⟨go, (x : Int).toNat * 3 + 1, none⟩ = false := hfr 1
             have hk1 : World.cell? _ ⟨go, (x : Int).toNat * 3 + 1, none⟩ = some (.string s) := (hcc 1 _ rfl).trans (congrArg (fun z => some (Value.string z)) HSZ.out.symm)
             have hk2 : World.cell? _ ⟨go, (x : Int).toNat * 3 + 2, none⟩ = some (.int .i64 f) := (hcc 2 _ rfl).trans (congrArg (fun z => some (Value.int .i64 z)) HRF.out)
             replace GG26 := aK (blk_drew GG26.o)
             clear hcl hcc hfr hM hx0 hx1 hx2 hf0 hf1 hf2
             refine start_ (n := 26) (S := fun w' => w'.cell? ⟨go, (x : Int).toNat * 3 + 1, none⟩ = some (.string s) ∧ w'.cell? ⟨go, (x : Int).toNat * 3 + 2, none⟩ = some (.int .i64 f)) (ds := [25]) (bo 26 0) (by kernel_rfl) rfl rfl ⟨hk1, hk2⟩ (fun hHeld => ?_); generalize wr.drew = wd at HO497 HO500 HO503 BK490 BK491 HB HP1 hg1 hk1 GG26 hHeld ⊢
             refine pV 0 35 (bo 26 1) ?_; refine pV 1 36 (bo 26 3) ?_; refine pV 2 37 (bo 26 7) ?_; refine pV 3 38 (bo 26 15) ?_; refine tV 4 39 (bo 26 31) ?_; refine pV 5 40 (bo 26 63) ?_; refine pV 6 41 (bo 26 127) ?_; refine pV 7 42 (bo 26 255) ?_; refine tV 8 43 (bo 26 511) ?_; refine pV 9 44 (bo 26 1023) ?_; refine pV 10 45 (bo 26 2047) ?_; refine pV 11 46 (bo 26 4095) ?_; refine pV 12 47 (bo 26 8191) ?_; refine tV 13 48 (bo 26 16383) ?_; refine pV 14 49 (bo 26 32767) ?_; refine pV 15 50 (bo 26 65535) ?_; refine pV 16 51 (bo 26 131071) ?_; refine pV 17 52 (bo 26 262143) ?_; refine tV 18 53 (bo 26 524287) ?_; refine pV 19 54 (bo 26 1048575) ?_; refine pV 20 55 (bo 26 2097151) ?_; refine pV 21 56 (bo 26 4194303) ?_; refine pV 22 57 (bo 26 8388607) ?_; refine pV 23 58 (bo 26 16777215) ?_; refine pV 24 59 (bo 26 33554431) ?_
             refine last_ (i := 25) (N := none) (bo 26 67108863) rfl rfl (by kernel_rfl) (by decide) (fun K hK => ?_)
             refine skip_ (w1 := ?_) (by rfl) rfl ?_ ?_
             rotate_left
             ·go_simp; rfl
             refine hK.out _ _ ?_; clear hK K hk1 hg1; refine done_ (by kernel_rfl) ?_
             have hX : (xs.set (x : Int).toNat (⟨(rd_T89 xs x).f0, s.extract 0 n.toNat, f⟩ : S89)).getD (x : Int).toNat z89 = (⟨(rd_T89 xs x).f0, s.extract 0 n.toNat, f⟩ : S89) := by rw [List.getD_eq_getElem?_getD, List.getElem?_set_self (by have h_ := HX2.out; have h2_ := HXL.out; omega)]; rfl
             obtain ⟨ce, hcl, hM, hcc, hfr⟩ := Kd.R_elem HP1.o z89 (x : Int) HX2.out.1 HX2.out.2
             rw [hX] at hM
             obtain rfl := k89_openM hM
             have HP2 := aK ((Kd.R_seg HP1.o (x : Int) HX2.out.1 HX2.out.2 (seg := [.int .i64 (max n 0)]) (j := 2) hcl hcc (show 3 ≤ 3 from by decide) (x' := (⟨(rd_T89 xs x).f0, s.extract 0 n.toNat, max n 0⟩ : S89)) (k89_mkM _ _ _ (⟨(rd_T89 xs x).f0, s.extract 0 n.toNat, max n 0⟩ : S89)) (fun _ hk => hk)).1)
             have hy1 : World.cell? (wd.setCell ⟨go, (x : Int).toNat * 3 + 1, none⟩ (.string (s.extract 0 n.toNat))) ⟨go, (x : Int).toNat * 3 + 1, none⟩ = some (.string (s.extract 0 n.toNat)) := hcc 1 _ rfl
             have hy2 : World.cell? (wd.setCell ⟨go, (x : Int).toNat * 3 + 1, none⟩ (.string (s.extract 0 n.toNat))) ⟨go, (x : Int).toNat * 3 + 2, none⟩ = some (.int .i64 f) := hcc 2 _ rfl
             have hg2 : World.frozen? (wd.setCell ⟨go, (x : Int).toNat * 3 + 1, none⟩ (.string (s.extract 0 n.toNat))) ⟨go, (x : Int).toNat * 3 + 2, none⟩ = false := hfr 2
             clear hcl hcc hfr hM hX
             have HGO := aK (Nat.le_trans (show w.heap.size ≤ max gb490 gb491 + 1 by have h_ := GW490.o; omega) GB26.o)
             have hY : (⟨(rd_T89 xs x).f0, s.extract 0 n.toNat, max n 0⟩ : S89) = crash1 (rd_T89 t495 x) (cutI l2 x) := by have hsz : ((s.extract 0 n.toNat).size : Int) = max n 0 := (by have h1_ := of_eq_true p6; have h2_ := of_eq_true p7; rw [ByteArray.size_extract]; omega); unfold crash1; rw [HCV.out, ← HRD.out, ← HF.out, ← HSZ.out, ← HN6.out, hsz]
             have HST := aK (crash_step l2 t495 xs x HX2.out.1 HX2.out.2 HXL.out (⟨(rd_T89 xs x).f0, s.extract 0 n.toNat, f⟩ : S89) _ hY HXC.out HXD.out); clear hY
             (try go_wp2)
             go_roundg (gk - 1)
             case measure => have := HX.out; have := HX2.out; omega
             case rel => exact ⟨wrap64 (x + 1), (xs.set (x : Int).toNat (⟨(rd_T89 xs x).f0, s.extract 0 n.toNat, f⟩ : S89)).set (x : Int).toNat (⟨(rd_T89 xs x).f0, s.extract 0 n.toNat, max n 0⟩ : S89), fa, ⟨by rw [HW.out]; have := HX2.out; omega, by rw [HW.out]; have := HX.out; have := HX2.out; omega⟩, ⟨by rw [List.length_set, List.length_set]; exact HXL.out⟩, ⟨by rw [HW.out]; exact HST.out.1⟩, ⟨by rw [HW.out]; exact HST.out.2⟩, ⟨rM HP2.o (fun _ _ => trivial)⟩, ⟨f2 HO500 GG26⟩, ⟨f2 HO503 GG26⟩, ⟨blk_far (blk_far BK490.o (by have h_ := Kd.R_ne HO497.o BK490.o (by decide); intro e_; exact h_ (by rw [e_]; rfl)) _) (by have h_ := Kd.R_ne HO497.o BK490.o (by decide); intro e_; exact h_ (by rw [e_]; rfl)) _⟩, ⟨blk_far (blk_far BK491.o (by have h_ := Kd.R_ne HO497.o BK491.o (by decide); intro e_; exact h_ (by rw [e_]; rfl)) _) (by have h_ := Kd.R_ne HO497.o BK491.o (by decide); intro e_; exact h_ (by rw [e_]; rfl)) _⟩, ⟨below_set (below_set HB.o HGO.o) HGO.o⟩⟩
           · have p5 : (d < (rd l2 x)) = False := eq_false c4
             obtain ⟨n, hn⟩ : ∃ n : Int, n = f + (rd l2 x) := ⟨_, rfl⟩
             have e56 : IntKind.i64.wrap (f + (rd l2 x)) = n := by rw [i64_w, hn]; have := HC0.out; have := HOK.out; have := HD5.out; unfold wrap64; omega
             have p6 : (0 ≤ n) = True := eq_true (by have := HC0.out; have := HOK.out; have := HD5.out; omega)
             have p7 : (n ≤ (s.size : Int)) = True := eq_true (by have := HC0.out; have := HOK.out; have := HD5.out; omega)
             have HN6 := aK (show n = f + (if (s.size : Int) - f < (rd l2 x) then (s.size : Int) - f else (rd l2 x)) by rw [hn]; have := HC0.out; have := HOK.out; have := HD5.out; split <;> omega); clear hn c4
             replace HO497 := aK (Kd.R_drew HO497.o); replace HO500 := aK (Kd.R_drew HO500.o); replace HO503 := aK (Kd.R_drew HO503.o); replace BK490 := aK (blk_drew BK490.o); replace BK491 := aK (blk_drew BK491.o); replace HB := aK (below_drew1 HB.o)
             obtain ⟨ce, hcl, hM, hcc, hfr⟩ := Kd.R_elem HO497.o z89 (x : Int) HX2.out.1 HX2.out.2
             obtain rfl := k89_openM hM
             have HP1 := aK ((Kd.R_seg HO497.o (x : Int) HX2.out.1 HX2.out.2 (seg := [.string (s.extract 0 n.toNat)]) (j := 1) hcl hcc (show 2 ≤ 3 from by decide) (x' := (⟨(rd_T89 xs x).f0, s.extract 0 n.toNat, f⟩ : S89)) (k89_mkM1 HRF.out _) (fun _ hk => hk)).1)
             have hg1 : World.frozen? _ ⟨go, (x : Int).toNat * 3 + 1, none⟩ = false := hfr 1
             have hk1 : World.cell? _ ⟨go, (x : Int).toNat * 3 + 1, none⟩ = some (.string s) := (hcc 1 _ rfl).trans (congrArg (fun z => some (Value.string z)) HSZ.out.symm)
             have hk2 : World.cell? _ ⟨go, (x : Int).toNat * 3 + 2, none⟩ = some (.int .i64 f) := (hcc 2 _ rfl).trans (congrArg (fun z => some (Value.int .i64 z)) HRF.out)
             replace GG26 := aK (blk_drew GG26.o)
             clear hcl hcc hfr hM hx0 hx1 hx2 hf0 hf1 hf2
             refine start_ (n := 26) (S := fun w' => w'.cell? ⟨go, (x : Int).toNat * 3 + 1, none⟩ = some (.string s) ∧ w'.cell? ⟨go, (x : Int).toNat * 3 + 2, none⟩ = some (.int .i64 f)) (ds := [25]) (bo 26 0) (by kernel_rfl) rfl rfl ⟨hk1, hk2⟩ (fun hHeld => ?_); generalize wr.drew = wd at HO497 HO500 HO503 BK490 BK491 HB HP1 hg1 hk1 GG26 hHeld ⊢
             refine pV 0 35 (bo 26 1) ?_; refine pV 1 36 (bo 26 3) ?_; refine pV 2 37 (bo 26 7) ?_; refine pV 3 38 (bo 26 15) ?_; refine tV 4 39 (bo 26 31) ?_; refine pV 5 40 (bo 26 63) ?_; refine pV 6 41 (bo 26 127) ?_; refine pV 7 42 (bo 26 255) ?_; refine tV 8 43 (bo 26 511) ?_; refine pV 9 44 (bo 26 1023) ?_; refine pV 10 45 (bo 26 2047) ?_; refine pV 11 46 (bo 26 4095) ?_; refine pV 12 47 (bo 26 8191) ?_; refine tV 13 48 (bo 26 16383) ?_; refine pV 14 49 (bo 26 32767) ?_; refine pV 15 50 (bo 26 65535) ?_; refine pV 16 51 (bo 26 131071) ?_; refine pV 17 52 (bo 26 262143) ?_; refine tV 18 53 (bo 26 524287) ?_; refine pV 19 54 (bo 26 1048575) ?_; refine pV 20 55 (bo 26 2097151) ?_; refine pV 21 56 (bo 26 4194303) ?_; refine pV 22 57 (bo 26 8388607) ?_; refine pV 23 58 (bo 26 16777215) ?_; refine pV 24 59 (bo 26 33554431) ?_
             refine last_ (i := 25) (N := none) (bo 26 67108863) rfl rfl (by kernel_rfl) (by decide) (fun K hK => ?_)
             refine skip_ (w1 := ?_) (by rfl) rfl ?_ ?_
             rotate_left
             ·go_simp; rfl
             refine hK.out _ _ ?_; clear hK K hk1 hg1; refine done_ (by kernel_rfl) ?_
             have hX : (xs.set (x : Int).toNat (⟨(rd_T89 xs x).f0, s.extract 0 n.toNat, f⟩ : S89)).getD (x : Int).toNat z89 = (⟨(rd_T89 xs x).f0, s.extract 0 n.toNat, f⟩ : S89) := by rw [List.getD_eq_getElem?_getD, List.getElem?_set_self (by have h_ := HX2.out; have h2_ := HXL.out; omega)]; rfl
             obtain ⟨ce, hcl, hM, hcc, hfr⟩ := Kd.R_elem HP1.o z89 (x : Int) HX2.out.1 HX2.out.2
             rw [hX] at hM
             obtain rfl := k89_openM hM
             have HP2 := aK ((Kd.R_seg HP1.o (x : Int) HX2.out.1 HX2.out.2 (seg := [.int .i64 (max n 0)]) (j := 2) hcl hcc (show 3 ≤ 3 from by decide) (x' := (⟨(rd_T89 xs x).f0, s.extract 0 n.toNat, max n 0⟩ : S89)) (k89_mkM _ _ _ (⟨(rd_T89 xs x).f0, s.extract 0 n.toNat, max n 0⟩ : S89)) (fun _ hk => hk)).1)
             have hy1 : World.cell? (wd.setCell ⟨go, (x : Int).toNat * 3 + 1, none⟩ (.string (s.extract 0 n.toNat))) ⟨go, (x : Int).toNat * 3 + 1, none⟩ = some (.string (s.extract 0 n.toNat)) := hcc 1 _ rfl
             have hy2 : World.cell? (wd.setCell ⟨go, (x : Int).toNat * 3 + 1, none⟩ (.string (s.extract 0 n.toNat))) ⟨go, (x : Int).toNat * 3 + 2, none⟩ = some (.int .i64 f) := hcc 2 _ rfl
             have hg2 : World.frozen? (wd.setCell ⟨go, (x : Int).toNat * 3 + 1, none⟩ (.string (s.extract 0 n.toNat))) ⟨go, (x : Int).toNat * 3 + 2, none⟩ = false := hfr 2
             clear hcl hcc hfr hM hX
             have HGO := aK (Nat.le_trans (show w.heap.size ≤ max gb490 gb491 + 1 by have h_ := GW490.o; omega) GB26.o)
             have hY : (⟨(rd_T89 xs x).f0, s.extract 0 n.toNat, max n 0⟩ : S89) = crash1 (rd_T89 t495 x) (cutI l2 x) := by have hsz : ((s.extract 0 n.toNat).size : Int) = max n 0 := (by have h1_ := of_eq_true p6; have h2_ := of_eq_true p7; rw [ByteArray.size_extract]; omega); unfold crash1; rw [HCV.out, ← HRD.out, ← HF.out, ← HSZ.out, ← HN6.out, hsz]
             have HST := aK (crash_step l2 t495 xs x HX2.out.1 HX2.out.2 HXL.out (⟨(rd_T89 xs x).f0, s.extract 0 n.toNat, f⟩ : S89) _ hY HXC.out HXD.out); clear hY
             (try go_wp2)
             go_roundg (gk - 1)
             case measure => have := HX.out; have := HX2.out; omega
             case rel => exact ⟨wrap64 (x + 1), (xs.set (x : Int).toNat (⟨(rd_T89 xs x).f0, s.extract 0 n.toNat, f⟩ : S89)).set (x : Int).toNat (⟨(rd_T89 xs x).f0, s.extract 0 n.toNat, max n 0⟩ : S89), fa, ⟨by rw [HW.out]; have := HX2.out; omega, by rw [HW.out]; have := HX.out; have := HX2.out; omega⟩, ⟨by rw [List.length_set, List.length_set]; exact HXL.out⟩, ⟨by rw [HW.out]; exact HST.out.1⟩, ⟨by rw [HW.out]; exact HST.out.2⟩, ⟨rM HP2.o (fun _ _ => trivial)⟩, ⟨f2 HO500 GG26⟩, ⟨f2 HO503 GG26⟩, ⟨blk_far (blk_far BK490.o (by have h_ := Kd.R_ne HO497.o BK490.o (by decide); intro e_; exact h_ (by rw [e_]; rfl)) _) (by have h_ := Kd.R_ne HO497.o BK490.o (by decide); intro e_; exact h_ (by rw [e_]; rfl)) _⟩, ⟨blk_far (blk_far BK491.o (by have h_ := Kd.R_ne HO497.o BK491.o (by decide); intro e_; exact h_ (by rw [e_]; rfl)) _) (by have h_ := Kd.R_ne HO497.o BK491.o (by decide); intro e_; exact h_ (by rw [e_]; rfl)) _⟩, ⟨below_set (below_set HB.o HGO.o) HGO.o⟩⟩
       · have ccc : decide (x < (l2.length : Int)) = false := decide_eq_false c2
         have HCV := aK (show cutI l2 x = 0 by unfold cutI; rw [if_neg c2])
         clear hx c c2 pq2 qq2
         go_wp2
         have p5 : (d < 0) = False := eq_false (by have := HOK.out; have := HD5.out; omega)
         obtain ⟨n, hn⟩ : ∃ n : Int, n = f + 0 := ⟨_, rfl⟩
         have e56 : wrap64 f = n := by rw [hn]; have := HOK.out; have := HD5.out; unfold wrap64; omega
         have p6 : (0 ≤ n) = True := eq_true (by have := HOK.out; have := HD5.out; omega)
         have p7 : (n ≤ (s.size : Int)) = True := eq_true (by have := HOK.out; have := HD5.out; omega)
         have HN6 := aK (show n = f + (if (s.size : Int) - f < 0 then (s.size : Int) - f else 0) by rw [hn]; have := HOK.out; have := HD5.out; split <;> omega); clear hn
         replace HO497 := aK (Kd.R_drew HO497.o); replace HO500 := aK (Kd.R_drew HO500.o); replace HO503 := aK (Kd.R_drew HO503.o); replace BK490 := aK (blk_drew BK490.o); replace BK491 := aK (blk_drew BK491.o); replace HB := aK (below_drew1 HB.o)
         obtain ⟨ce, hcl, hM, hcc, hfr⟩ := Kd.R_elem HO497.o z89 (x : Int) HX2.out.1 HX2.out.2
         obtain rfl := k89_openM hM
         have HP1 := aK ((Kd.R_seg HO497.o (x : Int) HX2.out.1 HX2.out.2 (seg := [.string (s.extract 0 n.toNat)]) (j := 1) hcl hcc (show 2 ≤ 3 from by decide) (x' := (⟨(rd_T89 xs x).f0, s.extract 0 n.toNat, f⟩ : S89)) (k89_mkM1 HRF.out _) (fun _ hk => hk)).1)
         have hg1 : World.frozen? _ ⟨go, (x : Int).toNat * 3 + 1, none⟩ = false := hfr 1
         have hk1 : World.cell? _ ⟨go, (x : Int).toNat * 3 + 1, none⟩ = some (.string s) := (hcc 1 _ rfl).trans (congrArg (fun z => some (Value.string z)) HSZ.out.symm)
         have hk2 : World.cell? _ ⟨go, (x : Int).toNat * 3 + 2, none⟩ = some (.int .i64 f) := (hcc 2 _ rfl).trans (congrArg (fun z => some (Value.int .i64 z)) HRF.out)
         replace GG26 := aK (blk_drew GG26.o)
         clear hcl hcc hfr hM hx0 hx1 hx2 hf0 hf1 hf2
         refine start_ (n := 26) (S := fun w' => w'.cell? ⟨go, (x : Int).toNat * 3 + 1, none⟩ = some (.string s) ∧ w'.cell? ⟨go, (x : Int).toNat * 3 + 2, none⟩ = some (.int .i64 f)) (ds := [25]) (bo 26 0) (by kernel_rfl) rfl rfl ⟨hk1, hk2⟩ (fun hHeld => ?_); generalize wr.drew = wd at HO497 HO500 HO503 BK490 BK491 HB HP1 hg1 hk1 GG26 hHeld ⊢
         refine pV 0 35 (bo 26 1) ?_; refine pV 1 36 (bo 26 3) ?_; refine pV 2 37 (bo 26 7) ?_; refine pV 3 38 (bo 26 15) ?_; refine tV 4 39 (bo 26 31) ?_; refine pV 5 40 (bo 26 63) ?_; refine pV 6 41 (bo 26 127) ?_; refine pV 7 42 (bo 26 255) ?_; refine tV 8 43 (bo 26 511) ?_; refine pV 9 44 (bo 26 1023) ?_; refine pV 10 45 (bo 26 2047) ?_; refine pV 11 46 (bo 26 4095) ?_; refine pV 12 47 (bo 26 8191) ?_; refine tV 13 48 (bo 26 16383) ?_; refine pV 14 49 (bo 26 32767) ?_; refine pV 15 50 (bo 26 65535) ?_; refine pV 16 51 (bo 26 131071) ?_; refine pV 17 52 (bo 26 262143) ?_; refine tV 18 53 (bo 26 524287) ?_; refine pV 19 54 (bo 26 1048575) ?_; refine pV 20 55 (bo 26 2097151) ?_; refine pV 21 56 (bo 26 4194303) ?_; refine pV 22 57 (bo 26 8388607) ?_; refine pV 23 58 (bo 26 16777215) ?_; refine pV 24 59 (bo 26 33554431) ?_
         refine last_ (i := 25) (N := none) (bo 26 67108863) rfl rfl (by kernel_rfl) (by decide) (fun K hK => ?_)
         refine skip_ (w1 := ?_) (by rfl) rfl ?_ ?_
         rotate_left
         ·go_simp; rfl
         refine hK.out _ _ ?_; clear hK K hk1 hg1; refine done_ (by kernel_rfl) ?_
         have hX : (xs.set (x : Int).toNat (⟨(rd_T89 xs x).f0, s.extract 0 n.toNat, f⟩ : S89)).getD (x : Int).toNat z89 = (⟨(rd_T89 xs x).f0, s.extract 0 n.toNat, f⟩ : S89) := by rw [List.getD_eq_getElem?_getD, List.getElem?_set_self (by have h_ := HX2.out; have h2_ := HXL.out; omega)]; rfl
         obtain ⟨ce, hcl, hM, hcc, hfr⟩ := Kd.R_elem HP1.o z89 (x : Int) HX2.out.1 HX2.out.2
         rw [hX] at hM
         obtain rfl := k89_openM hM
         have HP2 := aK ((Kd.R_seg HP1.o (x : Int) HX2.out.1 HX2.out.2 (seg := [.int .i64 (max n 0)]) (j := 2) hcl hcc (show 3 ≤ 3 from by decide) (x' := (⟨(rd_T89 xs x).f0, s.extract 0 n.toNat, max n 0⟩ : S89)) (k89_mkM _ _ _ (⟨(rd_T89 xs x).f0, s.extract 0 n.toNat, max n 0⟩ : S89)) (fun _ hk => hk)).1)
         have hy1 : World.cell? (wd.setCell ⟨go, (x : Int).toNat * 3 + 1, none⟩ (.string (s.extract 0 n.toNat))) ⟨go, (x : Int).toNat * 3 + 1, none⟩ = some (.string (s.extract 0 n.toNat)) := hcc 1 _ rfl
         have hy2 : World.cell? (wd.setCell ⟨go, (x : Int).toNat * 3 + 1, none⟩ (.string (s.extract 0 n.toNat))) ⟨go, (x : Int).toNat * 3 + 2, none⟩ = some (.int .i64 f) := hcc 2 _ rfl
         have hg2 : World.frozen? (wd.setCell ⟨go, (x : Int).toNat * 3 + 1, none⟩ (.string (s.extract 0 n.toNat))) ⟨go, (x : Int).toNat * 3 + 2, none⟩ = false := hfr 2
         clear hcl hcc hfr hM hX
         have HGO := aK (Nat.le_trans (show w.heap.size ≤ max gb490 gb491 + 1 by have h_ := GW490.o; omega) GB26.o)
         have hY : (⟨(rd_T89 xs x).f0, s.extract 0 n.toNat, max n 0⟩ : S89) = crash1 (rd_T89 t495 x) (cutI l2 x) := by have hsz : ((s.extract 0 n.toNat).size : Int) = max n 0 := (by have h1_ := of_eq_true p6; have h2_ := of_eq_true p7; rw [ByteArray.size_extract]; omega); unfold crash1; rw [HCV.out, ← HRD.out, ← HF.out, ← HSZ.out, ← HN6.out, hsz]
         have HST := aK (crash_step l2 t495 xs x HX2.out.1 HX2.out.2 HXL.out (⟨(rd_T89 xs x).f0, s.extract 0 n.toNat, f⟩ : S89) _ hY HXC.out HXD.out); clear hY
         (try go_wp2)
         go_roundg (gk - 1)
         case measure => have := HX.out; have := HX2.out; omega
         case rel => exact ⟨wrap64 (x + 1), (xs.set (x : Int).toNat (⟨(rd_T89 xs x).f0, s.extract 0 n.toNat, f⟩ : S89)).set (x : Int).toNat (⟨(rd_T89 xs x).f0, s.extract 0 n.toNat, max n 0⟩ : S89), fa, ⟨by rw [HW.out]; have := HX2.out; omega, by rw [HW.out]; have := HX.out; have := HX2.out; omega⟩, ⟨by rw [List.length_set, List.length_set]; exact HXL.out⟩, ⟨by rw [HW.out]; exact HST.out.1⟩, ⟨by rw [HW.out]; exact HST.out.2⟩, ⟨rM HP2.o (fun _ _ => trivial)⟩, ⟨f2 HO500 GG26⟩, ⟨f2 HO503 GG26⟩, ⟨blk_far (blk_far BK490.o (by have h_ := Kd.R_ne HO497.o BK490.o (by decide); intro e_; exact h_ (by rw [e_]; rfl)) _) (by have h_ := Kd.R_ne HO497.o BK490.o (by decide); intro e_; exact h_ (by rw [e_]; rfl)) _⟩, ⟨blk_far (blk_far BK491.o (by have h_ := Kd.R_ne HO497.o BK491.o (by decide); intro e_; exact h_ (by rw [e_]; rfl)) _) (by have h_ := Kd.R_ne HO497.o BK491.o (by decide); intro e_; exact h_ (by rw [e_]; rfl)) _⟩, ⟨below_set (below_set HB.o HGO.o) HGO.o⟩⟩
     · have ccb : decide (x < (t495.length : Int)) = false := decide_eq_false c
       have HXS := aK (show xs = crashL l2 t495 0 by have h := HXC.out; rw [List.drop_of_length_le (by omega), List.take_of_length_le (by have := HXL.out; omega)] at h; simpa [crashL] using h)
       rw [HXS.out] at HO497
       clear hx c HXC HXD HXL HXS
       by_cases c1 : (t501.length : Int) < a1
       · have p1 : ((t501.length : Int) < a1) = True := eq_true c1
         by_cases c2 : (0 : Int) < (t501.length : Int)
         · have p2 : ((0 : Int) < (t501.length : Int)) = True := eq_true c2
           have p2b : (0 < t501.length) = True := eq_true (by omega)
           have hkm : (keepM a1 (t501.length : Int)).toNat = t501.length := by unfold keepM; (repeat' split) <;> omega
           have A7 := aK (show impl_names.f k t498 (t501.take t501.length) = some t504 from hkm ▸ A6.out)
           have hyl : (t501.take t501.length).length = t501.length := by rw [List.length_take]; omega
           have hML : t501.length ≤ t501.length := by omega
           have hcq := (Kd.R_reads' HO503.o).2.1
           have p6 : ((((t501.length : Nat) : Int) : Int) ≤ (t501.length : Int)) = True := eq_true (by omega)
           have p7 : ((((t501.length : Nat) : Int) : Int) ≤ (coq3 : Int)) = True := eq_true (by omega)
           replace HO503 := aK (Kd.R_take HO503.o (m := t501.length) hML)
           have p8 : (t501.length ≤ coq3) = True := eq_true (by omega)
           have hlq := (Kd.R_reads' HO503.o).1
           have hN : ∀ W, Kd.C k93 W Aoq2 t498.length t498 → t498.length ≤ coq2 → Kd.R k95 95 W w.heap.size (fun _ => True) (.slice Aoq3 t501.length coq3) (t501.take t501.length) → Calls Try.prog 93 #[.slice Aoq2 t498.length coq2, .slice Aoq3 t501.length coq3] W (fun e w' => ∃ v0_ : Value, e = .returned (v0_) ∧ Kd.R k93 93 w' W.heap.size (fun _ => True) v0_ t504 ∧ Below W.heap.size W w') := fun W h1 h2 h3 => by have h4 := impl_names.calls k Aoq2 coq2 t498 Aoq3 coq3 (t501.take t501.length) t504 W h1 h2 (by first | exact (Kd.R_reads' h3).2.2 | (rw [hyl]; exact (Kd.R_reads' h3).2.2)) (by rw [hyl]; omega) A7.out; rw [hyl] at h4; exact h4
           have HNC := aK hN; clear hN hkm A6 A7 c1 c2 hyl hML hcq hlq
           go_wp2
           replace HO497 := aK (Kd.R_drew HO497.o); replace HO500 := aK (Kd.R_drew HO500.o); replace HO503 := aK (Kd.R_drew HO503.o); replace BK490 := aK (blk_drew BK490.o); replace BK491 := aK (blk_drew BK491.o); replace HB := aK (below_drew1 HB.o)
           refine start_ (n := 13) (S := fun w' => w'.cell? ⟨gb490, 3, none⟩ = some (.slice Aoq2 t498.length coq2) ∧ w'.cell? ⟨gb490, 4, none⟩ = some (.slice Aoq3 t501.length coq3)) (ds := [12]) (bo 13 0) (by kernel_rfl) rfl rfl ⟨cb 3 BK490, cb 4 BK490⟩ (fun hHeld => ?_)
           generalize wr.drew = wd at HO497 HO500 HO503 BK490 BK491 HB hHeld ⊢
           refine pV 0 69 (bo 13 1) ?_; refine tV 1 70 (bo 13 3) ?_; refine pV 2 71 (bo 13 7) ?_; refine tV 3 72 (bo 13 15) ?_; refine pV 4 73 (bo 13 31) ?_; refine pV 5 74 (bo 13 63) ?_; refine tV 6 75 (bo 13 127) ?_; refine pV 7 76 (bo 13 255) ?_; refine pV 8 77 (bo 13 511) ?_; refine pV 9 78 (bo 13 1023) ?_; refine pV 10 79 (bo 13 2047) ?_
           refine o1 11 80 (bo 13 4095) (fun K hK => ?_); refine goes_ Try.func93 (by kernel_rfl) rfl #[.slice Aoq2 t498.length coq2, .slice Aoq3 t501.length coq3] (by rfl) rfl rfl sa ?_
           refine (HNC.out _ (Kd.R_reads' HO500.o).2.2 (Kd.R_reads' HO500.o).2.1 HO503.o).mono ?_
           rintro e w5 ⟨v510, rfl, ho0, hb⟩; refine ⟨_, rfl, ?_⟩
           have HN := rl HB ho0; replace HO497 := aK (Kd.R_below HO497.o hb); replace BK490 := bv BK490 hb; replace BK491 := bv BK491 hb; replace HB := bS HB hb; clear ho0 hb; obtain ⟨Aoq5, coq5, rfl⟩ := rs HN
           refine hK.out _ _ ⟨cb 3 BK490, cb 4 BK490⟩ (fun hHeld => ?_); clear hK K; refine nm 80 ?_
           refine last_ (i := 12) (N := some 81) (bo 13 8191) rfl rfl (by kernel_rfl) (by decide) (fun K hK => ?_); refine goes_ Try.func97 (by kernel_rfl) rfl #[.pointer (some ⟨gb490, 0, none⟩), .slice Aoq5 t504.length coq5] (by rfl) rfl rfl sa ?_
           refine (settle.calls gb490 t493 t494 (.slice Aoq1 t495.length coq1) _ _ (crashL l2 t495 0) Aoq5 coq5 t504 w.heap.size (fun _ => True) (max gb490 gb491 + 1) w _ (by omega) (by have h1 := blk_lt BK490.o; have h2 := blk_lt BK491.o; omega) HB.o GW490.o BK490.o HO497.o HN.o (by rw [HM.out]; exact HL.out)).mono ?_
           rintro e wq6 ⟨rfl, v520, b6, ri, rd, hb6, hf6⟩; refine ⟨_, rfl, ?_⟩; obtain ⟨Aoq6, coq6, e6⟩ := Kd.R_slice ri; subst e6; replace BK491 := aK ((hf6 gb491 (by omega) NB491_490.o).trans BK491.o); replace BK490 := aK b6; replace HO497 := aK (Kd.R_lower ri (show w.heap.size ≤ _ from by have := GW490.o; omega)); replace HN := aK rd; replace HB := aK hb6; clear b6 ri rd hb6 hf6
           refine hK.out _ _ ?_; clear hK K
           refine nm 81 ?_; refine done_ (by kernel_rfl) ?_; obtain ⟨_, _, _, _, _, _, _, _, _, _⟩ := cf5 BK490; obtain ⟨_, _, _, _, _, _, _, _, _, _⟩ := cf5 BK491; (try go_wp2)
           refine bodyPost_ret (results_cell_row rfl _ _ gb491 26 #[.int .i64 t493, .int .i64 t494, .slice Aoq6 (delS t504 (crashL l2 t495 0)).length coq6, .slice Aoq5 t504.length coq5, .slice none 0 0] (0, 0) _ rfl bkk Try.underlying26 rfl (by kernel_rfl)) rfl ?_; exact ⟨_, _, _, fe, rpR (rM (f5 HO497 BK491) (fun _ hk => trivial)), rpR (rM (f5 HN BK491) (fun _ hk => trivial)), Kd.R_nil _ _ _ _ _, bl⟩
         · have p2 : ((0 : Int) < (t501.length : Int)) = False := eq_false c2
           have p2b : (0 < t501.length) = False := eq_false (by omega)
           have hkm : (keepM a1 (t501.length : Int)).toNat = 0 := by unfold keepM; (repeat' split) <;> omega
           have A7 := aK (show impl_names.f k t498 (t501.take 0) = some t504 from hkm ▸ A6.out)
           have hyl : (t501.take 0).length = 0 := by rw [List.length_take]; omega
           have hML : 0 ≤ t501.length := by omega
           have hcq := (Kd.R_reads' HO503.o).2.1
           have p6 : ((0 : Int) ≤ (t501.length : Int)) = True := eq_true (by omega)
           have p7 : ((0 : Int) ≤ (coq3 : Int)) = True := eq_true (by omega)
           replace HO503 := aK (Kd.R_take HO503.o (m := 0) hML)
           have p8 : (0 ≤ coq3) = True := eq_true (by omega)
           have hlq := (Kd.R_reads' HO503.o).1
           have hN : ∀ W, Kd.C k93 W Aoq2 t498.length t498 → t498.length ≤ coq2 → Kd.R k95 95 W w.heap.size (fun _ => True) (.slice Aoq3 0 coq3) (t501.take 0) → Calls Try.prog 93 #[.slice Aoq2 t498.length coq2, .slice Aoq3 0 coq3] W (fun e w' => ∃ v0_ : Value, e = .returned (v0_) ∧ Kd.R k93 93 w' W.heap.size (fun _ => True) v0_ t504 ∧ Below W.heap.size W w') := fun W h1 h2 h3 => by have h4 := impl_names.calls k Aoq2 coq2 t498 Aoq3 coq3 (t501.take 0) t504 W h1 h2 (by first | exact (Kd.R_reads' h3).2.2 | (rw [hyl]; exact (Kd.R_reads' h3).2.2)) (by rw [hyl]; omega) A7.out; rw [hyl] at h4; exact h4
           have HNC := aK hN; clear hN hkm A6 A7 c1 c2 hyl hML hcq hlq
           go_wp2
           replace HO497 := aK (Kd.R_drew HO497.o); replace HO500 := aK (Kd.R_drew HO500.o); replace HO503 := aK (Kd.R_drew HO503.o); replace BK490 := aK (blk_drew BK490.o); replace BK491 := aK (blk_drew BK491.o); replace HB := aK (below_drew1 HB.o)
           refine start_ (n := 13) (S := fun w' => w'.cell? ⟨gb490, 3, none⟩ = some (.slice Aoq2 t498.length coq2) ∧ w'.cell? ⟨gb490, 4, none⟩ = some (.slice Aoq3 t501.length coq3)) (ds := [12]) (bo 13 0) (by kernel_rfl) rfl rfl ⟨cb 3 BK490, cb 4 BK490⟩ (fun hHeld => ?_)
           generalize wr.drew = wd at HO497 HO500 HO503 BK490 BK491 HB hHeld ⊢
           refine pV 0 69 (bo 13 1) ?_; refine tV 1 70 (bo 13 3) ?_; refine pV 2 71 (bo 13 7) ?_; refine tV 3 72 (bo 13 15) ?_; refine pV 4 73 (bo 13 31) ?_; refine pV 5 74 (bo 13 63) ?_; refine tV 6 75 (bo 13 127) ?_; refine pV 7 76 (bo 13 255) ?_; refine pV 8 77 (bo 13 511) ?_; refine pV 9 78 (bo 13 1023) ?_; refine pV 10 79 (bo 13 2047) ?_
           refine o1 11 80 (bo 13 4095) (fun K hK => ?_); refine goes_ Try.func93 (by kernel_rfl) rfl #[.slice Aoq2 t498.length coq2, .slice Aoq3 0 coq3] (by rfl) rfl rfl sa ?_
           refine (HNC.out _ (Kd.R_reads' HO500.o).2.2 (Kd.R_reads' HO500.o).2.1 HO503.o).mono ?_
           rintro e w5 ⟨v510, rfl, ho0, hb⟩; refine ⟨_, rfl, ?_⟩
           have HN := rl HB ho0; replace HO497 := aK (Kd.R_below HO497.o hb); replace BK490 := bv BK490 hb; replace BK491 := bv BK491 hb; replace HB := bS HB hb; clear ho0 hb; obtain ⟨Aoq5, coq5, rfl⟩ := rs HN
           refine hK.out _ _ ⟨cb 3 BK490, cb 4 BK490⟩ (fun hHeld => ?_); clear hK K; refine nm 80 ?_
           refine last_ (i := 12) (N := some 81) (bo 13 8191) rfl rfl (by kernel_rfl) (by decide) (fun K hK => ?_); refine goes_ Try.func97 (by kernel_rfl) rfl #[.pointer (some ⟨gb490, 0, none⟩), .slice Aoq5 t504.length coq5] (by rfl) rfl rfl sa ?_
           refine (settle.calls gb490 t493 t494 (.slice Aoq1 t495.length coq1) _ _ (crashL l2 t495 0) Aoq5 coq5 t504 w.heap.size (fun _ => True) (max gb490 gb491 + 1) w _ (by omega) (by have h1 := blk_lt BK490.o; have h2 := blk_lt BK491.o; omega) HB.o GW490.o BK490.o HO497.o HN.o (by rw [HM.out]; exact HL.out)).mono ?_
           rintro e wq6 ⟨rfl, v520, b6, ri, rd, hb6, hf6⟩; refine ⟨_, rfl, ?_⟩; obtain ⟨Aoq6, coq6, e6⟩ := Kd.R_slice ri; subst e6; replace BK491 := aK ((hf6 gb491 (by omega) NB491_490.o).trans BK491.o); replace BK490 := aK b6; replace HO497 := aK (Kd.R_lower ri (show w.heap.size ≤ _ from by have := GW490.o; omega)); replace HN := aK rd; replace HB := aK hb6; clear b6 ri rd hb6 hf6
           refine hK.out _ _ ?_; clear hK K
           refine nm 81 ?_; refine done_ (by kernel_rfl) ?_; obtain ⟨_, _, _, _, _, _, _, _, _, _⟩ := cf5 BK490; obtain ⟨_, _, _, _, _, _, _, _, _, _⟩ := cf5 BK491; (try go_wp2)
           refine bodyPost_ret (results_cell_row rfl _ _ gb491 26 #[.int .i64 t493, .int .i64 t494, .slice Aoq6 (delS t504 (crashL l2 t495 0)).length coq6, .slice Aoq5 t504.length coq5, .slice none 0 0] (0, 0) _ rfl bkk Try.underlying26 rfl (by kernel_rfl)) rfl ?_; exact ⟨_, _, _, fe, rpR (rM (f5 HO497 BK491) (fun _ hk => trivial)), rpR (rM (f5 HN BK491) (fun _ hk => trivial)), Kd.R_nil _ _ _ _ _, bl⟩
       · have p1 : ((t501.length : Int) < a1) = False := eq_false c1
         by_cases c2 : 0 < a1
         · obtain ⟨m, rfl⟩ : ∃ m : Nat, a1 = (m : Int) := ⟨a1.toNat, by omega⟩
           have p2 : (0 < (m : Int)) = True := eq_true c2
           have p2b : (0 < m) = True := eq_true (by omega)
           have hkm : (keepM (m : Int) (t501.length : Int)).toNat = m := by unfold keepM; (repeat' split) <;> omega
           have A7 := aK (show impl_names.f k t498 (t501.take m) = some t504 from hkm ▸ A6.out)
           have hyl : (t501.take m).length = m := by rw [List.length_take]; omega
           have hML : m ≤ t501.length := by omega
           have hcq := (Kd.R_reads' HO503.o).2.1
           have p6 : ((((m : Nat) : Int) : Int) ≤ (t501.length : Int)) = True := eq_true (by omega)
           have p7 : ((((m : Nat) : Int) : Int) ≤ (coq3 : Int)) = True := eq_true (by omega)
           replace HO503 := aK (Kd.R_take HO503.o (m := m) hML)
           have p8 : (m ≤ coq3) = True := eq_true (by omega)
           have hlq := (Kd.R_reads' HO503.o).1
           have hN : ∀ W, Kd.C k93 W Aoq2 t498.length t498 → t498.length ≤ coq2 → Kd.R k95 95 W w.heap.size (fun _ => True) (.slice Aoq3 m coq3) (t501.take m) → Calls Try.prog 93 #[.slice Aoq2 t498.length coq2, .slice Aoq3 m coq3] W (fun e w' => ∃ v0_ : Value, e = .returned (v0_) ∧ Kd.R k93 93 w' W.heap.size (fun _ => True) v0_ t504 ∧ Below W.heap.size W w') := fun W h1 h2 h3 => by have h4 := impl_names.calls k Aoq2 coq2 t498 Aoq3 coq3 (t501.take m) t504 W h1 h2 (by first | exact (Kd.R_reads' h3).2.2 | (rw [hyl]; exact (Kd.R_reads' h3).2.2)) (by rw [hyl]; omega) A7.out; rw [hyl] at h4; exact h4
           have HNC := aK hN; clear hN hkm A6 A7 c1 c2 hyl hML hcq hlq
           go_wp2
           replace HO497 := aK (Kd.R_drew HO497.o); replace HO500 := aK (Kd.R_drew HO500.o); replace HO503 := aK (Kd.R_drew HO503.o); replace BK490 := aK (blk_drew BK490.o); replace BK491 := aK (blk_drew BK491.o); replace HB := aK (below_drew1 HB.o)
           refine start_ (n := 13) (S := fun w' => w'.cell? ⟨gb490, 3, none⟩ = some (.slice Aoq2 t498.length coq2) ∧ w'.cell? ⟨gb490, 4, none⟩ = some (.slice Aoq3 t501.length coq3)) (ds := [12]) (bo 13 0) (by kernel_rfl) rfl rfl ⟨cb 3 BK490, cb 4 BK490⟩ (fun hHeld => ?_)
           generalize wr.drew = wd at HO497 HO500 HO503 BK490 BK491 HB hHeld ⊢
           refine pV 0 69 (bo 13 1) ?_; refine tV 1 70 (bo 13 3) ?_; refine pV 2 71 (bo 13 7) ?_; refine tV 3 72 (bo 13 15) ?_; refine pV 4 73 (bo 13 31) ?_; refine pV 5 74 (bo 13 63) ?_; refine tV 6 75 (bo 13 127) ?_; refine pV 7 76 (bo 13 255) ?_; refine pV 8 77 (bo 13 511) ?_; refine pV 9 78 (bo 13 1023) ?_; refine pV 10 79 (bo 13 2047) ?_
           refine o1 11 80 (bo 13 4095) (fun K hK => ?_); refine goes_ Try.func93 (by kernel_rfl) rfl #[.slice Aoq2 t498.length coq2, .slice Aoq3 m coq3] (by rfl) rfl rfl sa ?_
           refine (HNC.out _ (Kd.R_reads' HO500.o).2.2 (Kd.R_reads' HO500.o).2.1 HO503.o).mono ?_
           rintro e w5 ⟨v510, rfl, ho0, hb⟩; refine ⟨_, rfl, ?_⟩
           have HN := rl HB ho0; replace HO497 := aK (Kd.R_below HO497.o hb); replace BK490 := bv BK490 hb; replace BK491 := bv BK491 hb; replace HB := bS HB hb; clear ho0 hb; obtain ⟨Aoq5, coq5, rfl⟩ := rs HN
           refine hK.out _ _ ⟨cb 3 BK490, cb 4 BK490⟩ (fun hHeld => ?_); clear hK K; refine nm 80 ?_
           refine last_ (i := 12) (N := some 81) (bo 13 8191) rfl rfl (by kernel_rfl) (by decide) (fun K hK => ?_); refine goes_ Try.func97 (by kernel_rfl) rfl #[.pointer (some ⟨gb490, 0, none⟩), .slice Aoq5 t504.length coq5] (by rfl) rfl rfl sa ?_
           refine (settle.calls gb490 t493 t494 (.slice Aoq1 t495.length coq1) _ _ (crashL l2 t495 0) Aoq5 coq5 t504 w.heap.size (fun _ => True) (max gb490 gb491 + 1) w _ (by omega) (by have h1 := blk_lt BK490.o; have h2 := blk_lt BK491.o; omega) HB.o GW490.o BK490.o HO497.o HN.o (by rw [HM.out]; exact HL.out)).mono ?_
           rintro e wq6 ⟨rfl, v520, b6, ri, rd, hb6, hf6⟩; refine ⟨_, rfl, ?_⟩; obtain ⟨Aoq6, coq6, e6⟩ := Kd.R_slice ri; subst e6; replace BK491 := aK ((hf6 gb491 (by omega) NB491_490.o).trans BK491.o); replace BK490 := aK b6; replace HO497 := aK (Kd.R_lower ri (show w.heap.size ≤ _ from by have := GW490.o; omega)); replace HN := aK rd; replace HB := aK hb6; clear b6 ri rd hb6 hf6
           refine hK.out _ _ ?_; clear hK K
           refine nm 81 ?_; refine done_ (by kernel_rfl) ?_; obtain ⟨_, _, _, _, _, _, _, _, _, _⟩ := cf5 BK490; obtain ⟨_, _, _, _, _, _, _, _, _, _⟩ := cf5 BK491; (try go_wp2)
           refine bodyPost_ret (results_cell_row rfl _ _ gb491 26 #[.int .i64 t493, .int .i64 t494, .slice Aoq6 (delS t504 (crashL l2 t495 0)).length coq6, .slice Aoq5 t504.length coq5, .slice none 0 0] (0, 0) _ rfl bkk Try.underlying26 rfl (by kernel_rfl)) rfl ?_; exact ⟨_, _, _, fe, rpR (rM (f5 HO497 BK491) (fun _ hk => trivial)), rpR (rM (f5 HN BK491) (fun _ hk => trivial)), Kd.R_nil _ _ _ _ _, bl⟩
         · have p2 : (0 < a1) = False := eq_false c2
           have hkm : (keepM a1 (t501.length : Int)).toNat = 0 := by unfold keepM; (repeat' split) <;> omega
           have A7 := aK (show impl_names.f k t498 (t501.take 0) = some t504 from hkm ▸ A6.out)
           have hyl : (t501.take 0).length = 0 := by rw [List.length_take]; omega
           have hML : 0 ≤ t501.length := by omega
           have hcq := (Kd.R_reads' HO503.o).2.1
           have p6 : ((0 : Int) ≤ (t501.length : Int)) = True := eq_true (by omega)
           have p7 : ((0 : Int) ≤ (coq3 : Int)) = True := eq_true (by omega)
           replace HO503 := aK (Kd.R_take HO503.o (m := 0) hML)
           have p8 : (0 ≤ coq3) = True := eq_true (by omega)
           have hlq := (Kd.R_reads' HO503.o).1
           have hN : ∀ W, Kd.C k93 W Aoq2 t498.length t498 → t498.length ≤ coq2 → Kd.R k95 95 W w.heap.size (fun _ => True) (.slice Aoq3 0 coq3) (t501.take 0) → Calls Try.prog 93 #[.slice Aoq2 t498.length coq2, .slice Aoq3 0 coq3] W (fun e w' => ∃ v0_ : Value, e = .returned (v0_) ∧ Kd.R k93 93 w' W.heap.size (fun _ => True) v0_ t504 ∧ Below W.heap.size W w') := fun W h1 h2 h3 => by have h4 := impl_names.calls k Aoq2 coq2 t498 Aoq3 coq3 (t501.take 0) t504 W h1 h2 (by first | exact (Kd.R_reads' h3).2.2 | (rw [hyl]; exact (Kd.R_reads' h3).2.2)) (by rw [hyl]; omega) A7.out; rw [hyl] at h4; exact h4
           have HNC := aK hN; clear hN hkm A6 A7 c1 c2 hyl hML hcq hlq
           go_wp2
           replace HO497 := aK (Kd.R_drew HO497.o); replace HO500 := aK (Kd.R_drew HO500.o); replace HO503 := aK (Kd.R_drew HO503.o); replace BK490 := aK (blk_drew BK490.o); replace BK491 := aK (blk_drew BK491.o); replace HB := aK (below_drew1 HB.o)
           refine start_ (n := 13) (S := fun w' => w'.cell? ⟨gb490, 3, none⟩ = some (.slice Aoq2 t498.length coq2) ∧ w'.cell? ⟨gb490, 4, none⟩ = some (.slice Aoq3 t501.length coq3)) (ds := [12]) (bo 13 0) (by kernel_rfl) rfl rfl ⟨cb 3 BK490, cb 4 BK490⟩ (fun hHeld => ?_)
           generalize wr.drew = wd at HO497 HO500 HO503 BK490 BK491 HB hHeld ⊢
           refine pV 0 69 (bo 13 1) ?_; refine tV 1 70 (bo 13 3) ?_; refine pV 2 71 (bo 13 7) ?_; refine tV 3 72 (bo 13 15) ?_; refine pV 4 73 (bo 13 31) ?_; refine pV 5 74 (bo 13 63) ?_; refine tV 6 75 (bo 13 127) ?_; refine pV 7 76 (bo 13 255) ?_; refine pV 8 77 (bo 13 511) ?_; refine pV 9 78 (bo 13 1023) ?_; refine pV 10 79 (bo 13 2047) ?_
           refine o1 11 80 (bo 13 4095) (fun K hK => ?_); refine goes_ Try.func93 (by kernel_rfl) rfl #[.slice Aoq2 t498.length coq2, .slice Aoq3 0 coq3] (by rfl) rfl rfl sa ?_
           refine (HNC.out _ (Kd.R_reads' HO500.o).2.2 (Kd.R_reads' HO500.o).2.1 HO503.o).mono ?_
           rintro e w5 ⟨v510, rfl, ho0, hb⟩; refine ⟨_, rfl, ?_⟩
           have HN := rl HB ho0; replace HO497 := aK (Kd.R_below HO497.o hb); replace BK490 := bv BK490 hb; replace BK491 := bv BK491 hb; replace HB := bS HB hb; clear ho0 hb; obtain ⟨Aoq5, coq5, rfl⟩ := rs HN
           refine hK.out _ _ ⟨cb 3 BK490, cb 4 BK490⟩ (fun hHeld => ?_); clear hK K; refine nm 80 ?_
           refine last_ (i := 12) (N := some 81) (bo 13 8191) rfl rfl (by kernel_rfl) (by decide) (fun K hK => ?_); refine goes_ Try.func97 (by kernel_rfl) rfl #[.pointer (some ⟨gb490, 0, none⟩), .slice Aoq5 t504.length coq5] (by rfl) rfl rfl sa ?_
           refine (settle.calls gb490 t493 t494 (.slice Aoq1 t495.length coq1) _ _ (crashL l2 t495 0) Aoq5 coq5 t504 w.heap.size (fun _ => True) (max gb490 gb491 + 1) w _ (by omega) (by have h1 := blk_lt BK490.o; have h2 := blk_lt BK491.o; omega) HB.o GW490.o BK490.o HO497.o HN.o (by rw [HM.out]; exact HL.out)).mono ?_
           rintro e wq6 ⟨rfl, v520, b6, ri, rd, hb6, hf6⟩; refine ⟨_, rfl, ?_⟩; obtain ⟨Aoq6, coq6, e6⟩ := Kd.R_slice ri; subst e6; replace BK491 := aK ((hf6 gb491 (by omega) NB491_490.o).trans BK491.o); replace BK490 := aK b6; replace HO497 := aK (Kd.R_lower ri (show w.heap.size ≤ _ from by have := GW490.o; omega)); replace HN := aK rd; replace HB := aK hb6; clear b6 ri rd hb6 hf6
           refine hK.out _ _ ?_; clear hK K
           refine nm 81 ?_; refine done_ (by kernel_rfl) ?_; obtain ⟨_, _, _, _, _, _, _, _, _, _⟩ := cf5 BK490; obtain ⟨_, _, _, _, _, _, _, _, _, _⟩ := cf5 BK491; (try go_wp2)
           refine bodyPost_ret (results_cell_row rfl _ _ gb491 26 #[.int .i64 t493, .int .i64 t494, .slice Aoq6 (delS t504 (crashL l2 t495 0)).length coq6, .slice Aoq5 t504.length coq5, .slice none 0 0] (0, 0) _ rfl bkk Try.underlying26 rfl (by kernel_rfl)) rfl ?_; exact ⟨_, _, _, fe, rpR (rM (f5 HO497 BK491) (fun _ hk => trivial)), rpR (rM (f5 HN BK491) (fun _ hk => trivial)), Kd.R_nil _ _ _ _ _, bl⟩
   ·rw [if_neg c6] at H; exact absurd H (by simp)
  ·rw [if_neg c5] at H; exact absurd H (by simp)
 ·replace c4 := bF c4; subst c4; replace H := iF H; simp only [Option.some.injEq, Prod.mk.injEq] at H; obtain ⟨rfl, rfl, rfl, rfl, rfl⟩ := H
  go_enter Try.func50, Try.ntmps50
  go_wp2_with (first | ((with_reducible refine gD 3 rfl ?_); refine boxZ 3 #[.int .i64 a0_0, .int .i64 a0_1, .slice A0_2 l0_2.length c0_2, .slice A0_3 l0_3.length c0_3, .slice A0_4 l0_4.length c0_4] 26 ?_; intro gb490 hg wq1 hbox hb; have BK490 := aK hbox; have GW490 := gW HB hg; replace HB := bS HB hb; clear hb hbox hg) | ((with_reducible refine gD 6 rfl ?_); refine boxZ 6 #[.int .i64 0, .int .i64 0, .slice none 0 0, .slice none 0 0, .slice none 0 0] 26 ?_; intro gb491 hg wq2 hbox hb; have BK491 := aK hbox; have GW491 := gW HB hg; replace HB := bS HB hb; have NB490_491 := nl BK490 hg; have NB491_490 := nr BK490 hg; replace BK490 := bv BK490 hb; clear hb hbox hg; have hnbq1 := NB490_491.o; have hncq1 := NB491_490.o; obtain ⟨_, _, _, _, _, _, _, _, _, _⟩ := cf5 BK490) | ((with_reducible refine gC 28 rfl ?_); refine goesZ (some 11) rfl Try.func28 #[.agg #[.int .i64 a0_0, .int .i64 a0_1, .slice A0_2 l0_2.length c0_2, .slice A0_3 l0_3.length c0_3, .slice A0_4 l0_4.length c0_4]] ?_; (with_reducible refine (impl_DiskOk.calls k a0_0 a0_1 _ _ l0_2 (fun k_ => k_ < w.heap.size) _ _ l0_3 _ _ l0_4 _ _ ?_ ?_ ?_ ?_ ?_ A3.o).mono ?_); exact cB HR0_2 HB; exact HC0_2.o; exact Kd.V_mk HC0_3.o (Kd.F_below (Kd.C_F k93_heap HR0_3.o) bl); exact cB HR0_4 HB; exact HC0_4.o; rintro e wq3 ⟨rfl, hb⟩; refine ⟨_, rfl, ?_⟩; replace BK490 := bv BK490 hb; replace BK491 := bv BK491 hb; replace HB := bS HB hb; (try clear hb); obtain ⟨_, _, _, _, _, _, _, _, _, _⟩ := cf5 BK490; obtain ⟨_, _, _, _, _, _, _, _, _, _⟩ := cf5 BK491))
  refine bodyPost_ret (results_cell_row rfl _ _ gb491 26 #[.int .i64 0, .int .i64 0, .slice none 0 0, .slice none 0 0, .slice none 0 0] (0, 0) _ rfl bkk Try.underlying26 rfl (by kernel_rfl)) rfl ?_; exact ⟨_, _, _, fe, Kd.R_nil _ _ _ _ _, Kd.R_nil _ _ _ _ _, Kd.R_nil _ _ _ _ _, bl⟩
end Go.Proofs.Ytjcmcamijaelbaa.PDisk
