/- Contracts of settle and l4Settled, and of Go's library functions at inodes: made by hand. -/
import Derived.Test.YtjcmcamijaelbaaPDiskx0
import Derived.Test.YtjcmcamijaelbaaPDiskx3
import Derived.Test.YtjcmcamijaelbaaPDiskxH
import Derived.Test.YtjcmcamijaelbaaZap
import Derived.Test.YtjcmcamijaelbaaWExt
import Derived.Lib.SliceRun
import Derived.Outline
namespace Go.Proofs.Ytjcmcamijaelbaa.PDisk
open Go.RowKit Go.Proofs.YtjcmcamijaelbaaW.PrintWords Go.Proofs.YtjcmcamijaelbaaW.PrintLast Go.Proofs.YtjcmcamijaelbaaW.PrintMore Go.Proofs.Ytjcmcamijaelbaa.Zip
set_option linter.unusedVariables false
set_option linter.unusedSimpArgs false

set_option maxRecDepth 100000 in
theorem settle_2 (x0 : ByteArray) (x1 : Int) (a : Int) (b : ByteArray) (c : Int) (g : Nat) (w : World) (hb : w.heap[g]? = some (.cells #[.int .i64 a, .string b, .int .i64 c] 89 (0, 0))) :
 Calls Try.prog 144 #[.agg #[.string x0, .int .i64 x1], .pointer (some ⟨g, 0, none⟩)] w fun e w' => e = .returned (.bool (x1 == a)) ∧ Below w.heap.size w w' := by
 have hu93 := Try.underlying93
 have hu89 := Try.underlying89
 have BK1 := Aside0.mk hb
 have HB := Aside0.mk (Below.refl w.heap.size w)
 clear hb
 go_enter Try.func144, Try.ntmps144
 go_wp2_with (first | ((with_reducible refine gD 2 rfl ?_); refine boxZ 2 #[.string x0, .int .i64 x1] 93 ?_; intro gb hg w1 hbox hb; replace BK1 := bv BK1 hb; have BK2 := Aside0.mk hbox; have GE2 := gw (w := w) hg; replace HB := bs (w := w) hb; clear hb hbox hg; obtain ⟨hc0, hc1, hc2, hf0, hf1, hf2⟩ := cf3 BK1; obtain ⟨hd0, hd1, he0, he1⟩ := cf2 BK2))
 go_ret
 exact ⟨fe, bl⟩
def ixi (a : Int) : List (S93) → Int → Int
 | [], _ => -1
 | x :: r, i => if (x.f1 == a) = true then i else ixi a r (i + 1)
theorem ixi_drop (a : Int) (l : List (S93)) (i : Int) (h0 : 0 ≤ i) (h1 : i < (l.length : Int)) : ixi a (l.drop i.toNat) i = if ((rd_T93 l i).f1 == a) = true then i else ixi a (l.drop (i + 1).toNat) (i + 1) := by
 have hlt : i.toNat < l.length := by omega
 rw [List.drop_eq_getElem_cons hlt, show (i + 1).toNat = i.toNat + 1 by omega]
 have : rd_T93 l i = l[i.toNat] := by unfold rd_T93; rw [List.getD_eq_getElem?_getD, List.getElem?_eq_getElem hlt]; rfl
 rw [this]; rfl
theorem ixi_any (a : Int) : ∀ (l : List (S93)) (i : Int), 0 ≤ i → (decide (ixi a l i ≥ 0)) = l.any (fun x => x.f1 == a)
 | [], i, h => by simp [ixi]
 | x :: r, i, h => by
  by_cases c : (x.f1 == a) = true
  · simp [ixi, c, h]
  · have c' : (x.f1 == a) = false := by simpa using c
    have := ixi_any a r (i + 1) (by omega)
    simp only [ixi, c', List.any_cons, Bool.false_or]; exact this

set_option maxHeartbeats 8000000 in
set_option maxRecDepth 100000 in
theorem indexLink2 (A0 : Option Addr) (c0 : Nat) (l0 : List (S93)) (a : Int) (b : ByteArray) (c_ : Int) (g : Nat) (w : World) (hr0 : Kd.C k93 w A0 l0.length l0) (hc0 : l0.length ≤ c0) (hb : w.heap[g]? = some (.cells #[.int .i64 a, .string b, .int .i64 c_] 89 (0, 0))) :
 Calls Try.prog 166 #[.slice A0 l0.length c0, .func (.func 144) #[] #[.pointer (some ⟨g, 0, none⟩)]] w fun e w' => e = .returned (.int .i64 (ixi a l0 0)) ∧ Below w.heap.size w w' := by
 have hu93 := Try.underlying93
 have eg := fun (args : Array Value) (w : World) => enters_ (P := Try.prog) Try.func144 (by kernel_rfl) rfl args w
 have hlen := hr0.2.1
 have HL := Aside0.mk hlen
 have HR0 := Aside0.mk hr0
 have HC0 := Aside0.mk hc0
 have BK1 := Aside0.mk hb
 have HB := Aside0.mk (Below.refl w.heap.size w)
 obtain ⟨r, hr⟩ : ∃ r, ixi a l0 0 = r := ⟨_, rfl⟩
 rw [hr]
 have H' := Aside0.mk (show ixi a (l0.drop (0 : Int).toNat) 0 = r from hr)
 clear hr0 hc0 hb hlen hr
 go_enter Try.func166, Try.ntmps166
 go_wp2
 go_loopg [8] l0.length (fun kq v8 w' => ∃ x : Int, v8 = .int .i64 x ∧ Aside0 (0 ≤ x ∧ x + kq = l0.length) ∧ Aside0 (ixi a (l0.drop x.toNat) x = r) ∧ Aside0 (w'.heap[g]? = some (.cells #[.int .i64 a, .string b, .int .i64 c_] 89 (0, 0))) ∧ Aside0 (Below w.heap.size w w'))
 case atStart => exact ⟨0, fa, ⟨by omega, by omega⟩, H', BK1, HB⟩
 case round =>
  clear H'
  obtain ⟨x, rfl, HX, H, BK1, HB⟩ := hrel
  have hx := HX.out
  by_cases c : x < (l0.length : Int)
  · have cb : decide (x < (l0.length : Int)) = true := decide_eq_true c
    have hstep := ixi_drop a l0 x hx.1 c
    rw [H.out] at hstep
    obtain ⟨ad, e, hx0, hx1⟩ := at_T93 HR0.out x hx.1 c
    cases e
    replace hx0 := cz HB hx0
    replace hx1 := cz HB hx1
    have p1 : (0 ≤ x) = True := eq_true hx.1
    have p2 : (x < (l0.length : Int)) = True := eq_true c
    have hw : wrap64 (x + 1) = x + 1 := by have := HL.out; unfold wrap64; omega
    have HW := Aside0.mk hw
    clear hw
    by_cases c2 : ((rd_T93 l0 x).f1 == a) = true
    · rw [if_pos c2] at hstep
      have HS := Aside0.mk hstep
      clear hstep hx c
      go_wp2_with (first | (go_at_call 144; (with_reducible refine (settle_2 _ _ a b c_ g _ (bk)).mono ?_); rintro e w' ⟨rfl, hb⟩; replace HB := bs (w := w) hb; clear hb))
      go_ret
      exact ⟨by first | (rw [HS.out]; done) | (rw [HS.out]; rfl), bl⟩
    · rw [if_neg c2] at hstep
      have c2b : ((rd_T93 l0 x).f1 == a) = false := by simpa using c2
      have HS := Aside0.mk hstep
      have HX2 := Aside0.mk (And.intro hx.1 c)
      clear hstep hx c c2
      go_wp2_with (first | (go_at_call 144; (with_reducible refine (settle_2 _ _ a b c_ g _ (bk)).mono ?_); rintro e w' ⟨rfl, hb⟩; replace BK1 := bv BK1 hb; replace HB := bs (w := w) hb; clear hb))
      go_roundg (gk - 1)
      case measure => have := HX.out; have := HX2.out; omega
      case rel => exact ⟨wrap64 (x + 1), fa, ⟨by rw [HW.out]; have := HX2.out; omega, by rw [HW.out]; have := HX.out; have := HX2.out; omega⟩, ⟨by rw [HW.out]; exact HS.out.symm⟩, ⟨bk⟩, ⟨bl⟩⟩
  · have cb : decide (x < (l0.length : Int)) = false := decide_eq_false c
    have hd : l0.drop x.toNat = [] := List.drop_of_length_le (by omega)
    have HS := Aside0.mk (show r = -1 by rw [← H.out, hd]; rfl)
    clear hx c hd
    go_wp2
    go_ret
    exact ⟨by first | (rw [HS.out]; done) | (rw [HS.out]; rfl), bl⟩

set_option maxHeartbeats 8000000 in
set_option maxRecDepth 100000 in
theorem containsLink (A0 : Option Addr) (c0 : Nat) (l0 : List (S93)) (a : Int) (b : ByteArray) (c_ : Int) (g : Nat) (w : World) (hr0 : Kd.C k93 w A0 l0.length l0) (hc0 : l0.length ≤ c0) (hb : w.heap[g]? = some (.cells #[.int .i64 a, .string b, .int .i64 c_] 89 (0, 0))) :
 Calls Try.prog 143 #[.slice A0 l0.length c0, .func (.func 144) #[] #[.pointer (some ⟨g, 0, none⟩)]] w fun e w' => e = .returned (.bool (l0.any (fun x => x.f1 == a))) ∧ Below w.heap.size w w' := by
 have HR0 := Aside0.mk hr0
 have HC0 := Aside0.mk hc0
 have BK1 := Aside0.mk hb
 have HB := Aside0.mk (Below.refl w.heap.size w)
 have hA := ixi_any a l0 0 (by omega)
 obtain ⟨r, hr⟩ : ∃ r, l0.any (fun x => x.f1 == a) = r := ⟨_, rfl⟩
 obtain ⟨q, hq⟩ : ∃ q, ixi a l0 0 = q := ⟨_, rfl⟩
 rw [hr] at hA ⊢
 rw [hq] at hA
 have HQ := Aside0.mk hq
 have hA' : decide (0 ≤ q) = r := hA
 clear hr0 hc0 hb hr hq hA
 go_enter Try.func143, Try.ntmps143
 go_wp2_with (first | (go_at_call 166; (with_reducible refine (indexLink2 A0 c0 l0 a b c_ g _ (Kd.C_below HR0.out bl) HC0.out (bk)).mono ?_); rintro e w' ⟨rfl, hb⟩; rw [HQ.out]; replace HB := bs (w := w) hb; clear hb))
 go_ret
 exact ⟨by first | exact fe | rfl | simp, bl⟩
set_option maxHeartbeats 8000000 in
set_option maxRecDepth 100000 in
theorem settle_1 (a : Int) (b : ByteArray) (c_ : Int) (A1 : Option Addr) (c1 : Nat) (l1 : List (S93)) (g : Nat) (w : World) (hr1 : Kd.C k93 w A1 l1.length l1) (hc1 : l1.length ≤ c1) (hb : w.heap[g]? = some (.cells #[.slice A1 l1.length c1] 23 (0, 0))) :
 Calls Try.prog 142 #[.agg #[.int .i64 a, .string b, .int .i64 c_], .pointer (some ⟨g, 0, none⟩)] w fun e w' => e = .returned (.bool (!(l1.any (fun x => x.f1 == a)))) ∧ Below w.heap.size w w' := by
 have hu89 := Try.underlying89
 have hu23 := Try.underlying23
 have HR1 := Aside0.mk hr1
 have HC1 := Aside0.mk hc1
 have BK1 := Aside0.mk hb
 have HB := Aside0.mk (Below.refl w.heap.size w)
 clear hr1 hc1 hb
 go_enter Try.func142, Try.ntmps142
 go_wp2_with (first | ((with_reducible refine gD 2 rfl ?_); refine boxZ 2 #[.int .i64 a, .string b, .int .i64 c_] 89 ?_; intro gb hg w1 hbox hb; replace BK1 := bv BK1 hb; have BK2 := Aside0.mk hbox; have GE2 := gw (w := w) hg; replace HB := bs (w := w) hb; clear hb hbox hg; obtain ⟨hc0, hf0⟩ := cf1 BK1) | (go_at_call 143; (with_reducible refine (containsLink A1 c1 l1 a b c_ gb _ (Kd.C_below HR1.out bl) HC1.out (bk)).mono ?_); rintro e w' ⟨rfl, hb⟩; replace HB := bs (w := w) hb; clear hb))
 go_ret
 exact ⟨fe, bl⟩

def gone (l1 : List (S93)) (a : Int) : Bool := !(l1.any (fun x => x.f1 == a))
theorem settle_g (x : S89) (u : Value) (hu : u = .agg #[.int .i64 x.f0, .string x.f1, .int .i64 x.f2]) (A1 : Option Addr) (c1 : Nat) (l1 : List (S93)) (g b1 : Nat) (ok : Nat → Prop) (w : World) (hr1 : Kd.R k93 93 w b1 ok (.slice A1 l1.length c1) l1) (hb : w.heap[g]? = some (.cells #[.slice A1 l1.length c1] 23 (0, 0))) :
 Calls Try.prog 142 #[u, .pointer (some ⟨g, 0, none⟩)] w fun e w' => e = .returned (.bool (gone l1 x.f0)) ∧ Below w.heap.size w w' := by
 subst hu; exact settle_1 _ _ _ A1 c1 l1 g w (Kd.R_reads' hr1).2.2 (Kd.R_reads' hr1).2.1 hb

def ixs (l1 : List (S93)) : List (S89) → Int → Int
 | [], _ => -1
 | x :: r, i => if gone l1 x.f0 = true then i else ixs l1 r (i + 1)
theorem ixs_drop (l1 : List (S93)) (l : List (S89)) (i : Int) (h0 : 0 ≤ i) (h1 : i < (l.length : Int)) : ixs l1 (l.drop i.toNat) i = if gone l1 (rd_T89 l i).f0 = true then i else ixs l1 (l.drop (i + 1).toNat) (i + 1) := by
 have hlt : i.toNat < l.length := by omega
 rw [List.drop_eq_getElem_cons hlt, show (i + 1).toNat = i.toNat + 1 by omega]
 have : rd_T89 l i = l[i.toNat] := by unfold rd_T89; rw [List.getD_eq_getElem?_getD, List.getElem?_eq_getElem hlt]; rfl
 rw [this]; rfl
set_option maxHeartbeats 8000000 in
set_option maxRecDepth 100000 in
theorem indexInode2 (A0 : Option Addr) (c0 : Nat) (l0 : List (S89)) (A1 : Option Addr) (c1 : Nat) (l1 : List (S93)) (g b1 : Nat) (ok : Nat → Prop) (w : World) (hr1 : Kd.R k93 93 w b1 ok (.slice A1 l1.length c1) l1) (hr0 : Kd.C k89 w A0 l0.length l0) (hc0 : l0.length ≤ c0) (hb : w.heap[g]? = some (.cells #[.slice A1 l1.length c1] 23 (0, 0))) :
 Calls Try.prog 132 #[.slice A0 l0.length c0, .func (.func 142) #[] #[.pointer (some ⟨g, 0, none⟩)]] w fun e w' => e = .returned (.int .i64 (ixs l1 l0 0)) ∧ Below w.heap.size w w' := by
 have hu89 := Try.underlying89
 have eg := fun (args : Array Value) (w : World) => enters_ (P := Try.prog) Try.func142 (by kernel_rfl) rfl args w
 have hlen := hr0.2.1
 have HL := Aside0.mk hlen
 have HR0 := Aside0.mk hr0
 have HD1 := Aside0.mk hr1
 have HC0 := Aside0.mk hc0
 have BK1 := Aside0.mk hb
 have HB := Aside0.mk (Below.refl w.heap.size w)
 obtain ⟨r, hr⟩ : ∃ r, ixs l1 l0 0 = r := ⟨_, rfl⟩
 rw [hr]
 have H' := Aside0.mk (show ixs l1 (l0.drop (0 : Int).toNat) 0 = r from hr)
 clear hr0 hr1 hc0 hb hlen hr
 go_enter Try.func132, Try.ntmps132
 go_wp2
 go_loopg [8] l0.length (fun kq v8 w' => ∃ x : Int, v8 = .int .i64 x ∧ Aside0 (0 ≤ x ∧ x + kq = l0.length) ∧ Aside0 (ixs l1 (l0.drop x.toNat) x = r) ∧ Aside0 (w'.heap[g]? = some (.cells #[.slice A1 l1.length c1] 23 (0, 0))) ∧ Aside0 (Below w.heap.size w w'))
 case atStart => exact ⟨0, fa, ⟨by omega, by omega⟩, H', BK1, HB⟩
 case round =>
  clear H'
  obtain ⟨x, rfl, HX, H, BK1, HB⟩ := hrel
  have hx := HX.out
  by_cases c : x < (l0.length : Int)
  · have cb : decide (x < (l0.length : Int)) = true := decide_eq_true c
    have hstep := ixs_drop l1 l0 x hx.1 c
    rw [H.out] at hstep
    obtain ⟨ad, e, hx0, hx1, hx2⟩ := at_T89 HR0.out x hx.1 c
    cases e
    replace hx0 := cz HB hx0
    replace hx1 := cz HB hx1
    replace hx2 := cz HB hx2
    have p1 : (0 ≤ x) = True := eq_true hx.1
    have p2 : (x < (l0.length : Int)) = True := eq_true c
    have hw : wrap64 (x + 1) = x + 1 := by have := HL.out; unfold wrap64; omega
    have HW := Aside0.mk hw
    clear hw
    by_cases c2 : gone l1 (rd_T89 l0 x).f0 = true
    · rw [if_pos c2] at hstep
      have HS := Aside0.mk hstep
      clear hstep hx c
      go_wp2_with (first | (go_at_call 142; (with_reducible refine (settle_g (rd_T89 l0 x) _ rfl A1 c1 l1 g b1 ok _ (Kd.R_below HD1.out bl) (bk)).mono ?_); rintro e w' ⟨rfl, hb⟩; replace HB := bs (w := w) hb; clear hb))
      go_ret
      exact ⟨by first | (rw [HS.out]; done) | (rw [HS.out]; rfl), bl⟩
    · rw [if_neg c2] at hstep
      have c2b : gone l1 (rd_T89 l0 x).f0 = false := by simpa using c2
      have HS := Aside0.mk hstep
      have HX2 := Aside0.mk (And.intro hx.1 c)
      clear hstep hx c c2
      go_wp2_with (first | (go_at_call 142; (with_reducible refine (settle_g (rd_T89 l0 x) _ rfl A1 c1 l1 g b1 ok _ (Kd.R_below HD1.out bl) (bk)).mono ?_); rintro e w' ⟨rfl, hb⟩; replace BK1 := bv BK1 hb; replace HB := bs (w := w) hb; clear hb))
      go_roundg (gk - 1)
      case measure => have := HX.out; have := HX2.out; omega
      case rel => exact ⟨wrap64 (x + 1), fa, ⟨by rw [HW.out]; have := HX2.out; omega, by rw [HW.out]; have := HX.out; have := HX2.out; omega⟩, ⟨by rw [HW.out]; exact HS.out.symm⟩, ⟨bk⟩, ⟨bl⟩⟩
  · have cb : decide (x < (l0.length : Int)) = false := decide_eq_false c
    have hd : l0.drop x.toNat = [] := List.drop_of_length_le (by omega)
    have HS := Aside0.mk (show r = -1 by rw [← H.out, hd]; rfl)
    clear hx c hd
    go_wp2
    go_ret
    exact ⟨by first | (rw [HS.out]; done) | (rw [HS.out]; rfl), bl⟩

def delS (l1 : List (S93)) (l : List (S89)) : List (S89) := l.filter (fun x => !(gone l1 x.f0))
theorem ixs_spec (l1 : List (S93)) : ∀ (l : List (S89)) (i : Int), 0 ≤ i → (ixs l1 l i = -1 ∧ delS l1 l = l) ∨ (∃ n : Nat, ixs l1 l i = i + n ∧ n < l.length ∧ delS l1 l = l.take n ++ delS l1 (l.drop (n + 1)))
 | [], i, _ => .inl ⟨rfl, rfl⟩
 | x :: r, i, h => by
  by_cases c : gone l1 x.f0 = true
  · exact .inr ⟨0, by simp [ixs, c], by simp, by simp [delS, c]⟩
  · have c' : gone l1 x.f0 = false := by simpa using c
    have e : delS l1 (x :: r) = x :: delS l1 r := by simp [delS, c']
    have e2 : ixs l1 (x :: r) i = ixs l1 r (i + 1) := by simp [ixs, c']
    rcases ixs_spec l1 r (i + 1) (by omega) with ⟨h1, h2⟩ | ⟨n, h1, h2, h3⟩
    · exact .inl ⟨by rw [e2, h1], by rw [e, h2]⟩
    · exact .inr ⟨n + 1, by rw [e2, h1]; omega, by simp; omega, by rw [e, h3]; rfl⟩

set_option maxHeartbeats 8000000 in
set_option maxRecDepth 100000 in
theorem deleteInode (u : Value) (l0 : List (S89)) (A1 : Option Addr) (c1 : Nat) (l1 : List (S93)) (g b1 : Nat) (ok : Nat → Prop) (w0 w : World) (hB : Below w0.heap.size w0 w) (ho : Kd.R k89 89 w w0.heap.size (fun _ => True) u l0) (hlim : l0.length < 4398046511104) (hr1 : Kd.R k93 93 w b1 ok (.slice A1 l1.length c1) l1) (hb : w.heap[g]? = some (.cells #[.slice A1 l1.length c1] 23 (0, 0))) :
 Calls Try.prog 141 #[u, .func (.func 142) #[] #[.pointer (some ⟨g, 0, none⟩)]] w fun e w' => ∃ v, e = .returned v ∧ Kd.R k89 89 w' w0.heap.size (fun _ => True) v (delS l1 l0) ∧ Kd.R k93 93 w' b1 ok (.slice A1 l1.length c1) l1 ∧ Below w0.heap.size w0 w' := by
 have hu89 := Try.underlying89
 have eg := fun (args : Array Value) (w : World) => enters_ (P := Try.prog) Try.func142 (by kernel_rfl) rfl args w
 have HL := Aside0.mk hlim
 have HD1 := Aside0.mk hr1
 have BK1 := Aside0.mk hb
 have HB := Aside0.mk hB
 have HO := Aside0.mk ho
 clear hB hb hlim hr1
 rcases ixs_spec l1 l0 0 (by omega) with ⟨h1, h2⟩ | ⟨n, h1, h2, h3⟩
 · obtain ⟨A, c, rfl, hlc, hC⟩ := Kd.R_reads ho
   have HI := Aside0.mk h1
   have HC0 := Aside0.mk hC
   have HLC := Aside0.mk hlc
   rw [h2]
   clear ho h1 h2 hC hlc
   go_enter Try.func141, Try.ntmps141
   go_wp2_with (first | (go_at_call 132; (with_reducible refine (indexInode2 A c l0 A1 c1 l1 g b1 ok _ HD1.out HC0.out HLC.out (bk)).mono ?_); rintro e w' ⟨rfl, hb⟩; rw [HI.out]; have HB2 := Aside0.mk (Kd.R_below HO.out hb); replace HD1 := Aside0.mk (Kd.R_below HD1.out hb); replace HB := bs (w := w0) hb; clear hb))
   go_ret
   exact ⟨_, rfl, HB2.out, HD1.out, bl⟩
 · have hn0 : 0 < l0.length := by omega
   obtain ⟨g2, cap, rfl, hcap⟩ : ∃ g2 cap, u = .slice (some ⟨g2, 0, none⟩) l0.length cap ∧ l0.length ≤ cap := by
    obtain ⟨_, inner, ⟨hl, hown⟩, hr⟩ := ho
    rcases hown with ⟨rfl, hz⟩ | ⟨g2, cap, cur, rfl, _, _, hle, _⟩
    · omega
    · exact ⟨g2, cap, rfl, hle⟩
   have HNE := Aside0.mk (show g ≠ g2 from fun e_ => Kd.R_ne ho BK1.out (by decide) (by rw [e_]; rfl))
   obtain ⟨cg2, hcg2⟩ := (show ∃ cells, w.heap[g2]? = some (.cells cells 89 (0, 0)) from (by obtain ⟨inner, ho2⟩ := Kd.R_own ho; exact own_typed ho2 g2 rfl))
   replace HD1 := Aside0.mk (Kd.R_types HD1.out hcg2 (by decide))
   clear hcg2
   have hC := (Kd.R_reads' ho).2.2
   have HC0 := Aside0.mk hC
   have HLC := Aside0.mk hcap
   have HI := Aside0.mk h1
   have HD : Aside0 (l0.take n ++ delS l1 (l0.drop (n + 1)) = delS l1 l0) := ⟨h3.symm⟩
   have HN := Aside0.mk h2
   obtain ⟨r, hr⟩ : ∃ r, delS l1 l0 = r := ⟨_, rfl⟩
   rw [hr] at HD ⊢
   clear ho h1 h2 h3 hC hcap hr hn0
   have e1 : wrap64 ((n : Int) + 1) = (n : Int) + 1 := by have := HN.out; have := HL.out; unfold wrap64; omega
   have hne : ((n : Int) == -1) = false := by simp
   go_enter Try.func141, Try.ntmps141
   go_wp2_with (first | (go_at_call 132; (with_reducible refine (indexInode2 (some ⟨g2, 0, none⟩) cap l0 A1 c1 l1 g b1 _ _ HD1.out HC0.out HLC.out (bk)).mono ?_); rintro e w' ⟨rfl, hb⟩; rw [show ixs l1 l0 0 = (n : Int) by rw [HI.out]; omega]; replace HO := Aside0.mk (Kd.R_below HO.out hb); replace HD1 := Aside0.mk (Kd.R_below HD1.out hb); replace BK1 := bv BK1 hb; replace HB := bs (w := w0) hb; clear hb))
   go_loopg [5, 6] (l0.length - (n + 1)) (fun kq v5 v6 w' => ∃ (i j : Int) (xs : List (S89)), v5 = .int .i64 i ∧ v6 = .int .i64 j ∧ Aside0 (0 ≤ i ∧ i < j ∧ j + kq = l0.length) ∧ Aside0 (xs.length = l0.length) ∧ Aside0 (xs.take i.toNat ++ delS l1 (l0.drop j.toNat) = r) ∧ Aside0 (xs.drop j.toNat = l0.drop j.toNat) ∧ Aside0 (Kd.R k89 89 w' w0.heap.size (fun _ => True) (.slice (some ⟨g2, 0, none⟩) l0.length cap) xs) ∧ Aside0 (Kd.R k93 93 w' b1 (fun k => ok k ∧ k ≠ g2) (.slice A1 l1.length c1) l1) ∧ Aside0 (w'.heap[g]? = some (.cells #[.slice A1 l1.length c1] 23 (0, 0))) ∧ Aside0 (Below w0.heap.size w0 w'))
   case atStart => exact ⟨(n : Int), wrap64 ((n : Int) + 1), l0, fa, fa, ⟨by rw [e1]; have := HN.out; omega⟩, ⟨rfl⟩, ⟨by rw [e1]; exact HD.out⟩, ⟨rfl⟩, HO, HD1, BK1, HB⟩
   case round =>
    clear HC0 e1 hne HD HI
    obtain ⟨i, j, xs, rfl, rfl, HX, HXL, H, HT, HO, HD1, BK1, HB⟩ := hrel
    have hx := HX.out
    by_cases c : j < (l0.length : Int)
    · have cb : decide (j < (l0.length : Int)) = true := decide_eq_true c
      have hC := (Kd.R_reads' HO.out).2.2
      rw [HXL.out] at hC
      obtain ⟨ad, e, hx0, hx1, hx2⟩ := at_T89 hC j (by omega) c
      cases e
      obtain ⟨ad, e, hy0, hy1, hy2⟩ := at_T89 hC i (by omega) (by omega)
      cases e
      simp only [addz] at hx0 hx1 hx2 hy0 hy1 hy2
      have p1 : (0 ≤ j) = True := eq_true (by omega)
      have p2 : (j < (l0.length : Int)) = True := eq_true c
      have q1 : (0 ≤ i) = True := eq_true (by omega)
      have q2 : (i < (l0.length : Int)) = True := eq_true (by omega)
      have HW := Aside0.mk (show wrap64 (j + 1) = j + 1 by have := HL.out; unfold wrap64; omega)
      have HW2 := Aside0.mk (show wrap64 (i + 1) = i + 1 by have := HL.out; unfold wrap64; omega)
      have hdj : l0.drop j.toNat = rd_T89 xs j :: l0.drop (j + 1).toNat := by
       have hlt : j.toNat < xs.length := by have := HXL.out; omega
       have hlt2 : j.toNat < l0.length := by omega
       rw [← HT.out, List.drop_eq_getElem_cons hlt, show (j + 1).toNat = j.toNat + 1 by omega]
       have : rd_T89 xs j = xs[j.toNat] := by unfold rd_T89; rw [List.getD_eq_getElem?_getD, List.getElem?_eq_getElem hlt]; rfl
       rw [this]
       have ht := congrArg List.tail HT.out
       rw [List.drop_eq_getElem_cons hlt, List.drop_eq_getElem_cons hlt2, List.tail_cons, List.tail_cons] at ht
       rw [ht]
      have hT2 : xs.drop (j + 1).toNat = l0.drop (j + 1).toNat := by
       rw [show (j + 1).toNat = j.toNat + 1 by omega, ← List.drop_drop, ← List.drop_drop, HT.out]
      have HT2 := Aside0.mk hT2
      have HX2 := Aside0.mk (And.intro hx c)
      have hH := H.out
      rw [hdj] at hH
      clear hx c hC hT2 hdj
      by_cases c2 : gone l1 (rd_T89 xs j).f0 = true
      · have HH : Aside0 (xs.take i.toNat ++ delS l1 (l0.drop (j + 1).toNat) = r) := ⟨by rw [← hH]; simp [delS, c2]⟩
        clear hH H HT
        go_wp2_with (first | ((with_reducible refine gD 7 rfl ?_); refine boxZ 7 #[.int .i64 0, .string (⟨#[]⟩ : ByteArray), .int .i64 0] 89 ?_; intro gb hg w1 hbox hb; have HO1 := Aside0.mk (Kd.R_below (Kd.R_bound HO.out) hb); have HD2 := Aside0.mk (Kd.R_below (Kd.R_bound HD1.out) hb); have HG := Aside0.mk hg; have NB := nl BK1 hg; replace BK1 := bv BK1 hb; have BK2 := Aside0.mk hbox; have GE2 := gw (w := w0) hg; replace HB := bs (w := w0) hb; clear hb hbox hg; obtain ⟨hd0, hd1, hd2, he0, he1, he2⟩ := cf3 BK2) | (go_at_call 142; (with_reducible refine (settle_g (rd_T89 xs j) _ rfl A1 c1 l1 g b1 (fun _ => True) _ ?sr ?sb).mono ?_); (case sb => exact blk_far (blk_far (blk_far BK1.out NB.out _) NB.out _) NB.out _); (case sr => exact Kd.R_mono (Kd.R_far (p := ⟨gb, 2, none⟩) (Kd.R_far (p := ⟨gb, 1, none⟩) (Kd.R_far (p := ⟨gb, 0, none⟩) HD2.out (fun k hk => by rw [HG.out]; exact Nat.ne_of_lt hk.2.2.1) _) (fun k hk => by rw [HG.out]; exact Nat.ne_of_lt hk.2.2.1) _) (fun k hk => by rw [HG.out]; exact Nat.ne_of_lt hk.2.2.1) _) (fun _ _ => trivial)); rintro e w2 ⟨rfl, hb⟩; replace HO := Aside0.mk (Kd.R_mono (Kd.R_below (Kd.R_far (p := ⟨gb, 2, none⟩) (Kd.R_far (p := ⟨gb, 1, none⟩) (Kd.R_far (p := ⟨gb, 0, none⟩) HO1.out (fun k hk => by rw [HG.out]; exact Nat.ne_of_lt hk.2.2.1) _) (fun k hk => by rw [HG.out]; exact Nat.ne_of_lt hk.2.2.1) _) (fun k hk => by rw [HG.out]; exact Nat.ne_of_lt hk.2.2.1) _) hb) (fun _ _ => trivial)); replace HD1 := Aside0.mk (Kd.R_mono (Kd.R_below (Kd.R_far (p := ⟨gb, 2, none⟩) (Kd.R_far (p := ⟨gb, 1, none⟩) (Kd.R_far (p := ⟨gb, 0, none⟩) HD2.out (fun k hk => by rw [HG.out]; exact Nat.ne_of_lt hk.2.2.1) _) (fun k hk => by rw [HG.out]; exact Nat.ne_of_lt hk.2.2.1) _) (fun k hk => by rw [HG.out]; exact Nat.ne_of_lt hk.2.2.1) _) hb) (fun _ hk => hk.1)); replace BK1 := Aside0.mk (blk_below (blk_far (blk_far (blk_far BK1.out NB.out _) NB.out _) NB.out _) hb); replace BK2 := Aside0.mk (blk_below (blk_put (blk_put (blk_put BK2.out 0 _ rfl) 1 _ rfl) 2 _ rfl) hb); replace HB := bs (w := w0) hb; clear hb hd0 hd1 hd2 he0 he1 he2; obtain ⟨hd0, hd1, hd2, he0, he1, he2⟩ := cf3 BK2))
        go_roundg (gk - 1)
        case measure => have := HX2.out; omega
        case rel => exact ⟨i, wrap64 (j + 1), xs, fa, fa, ⟨by rw [HW.out]; have := HX2.out; omega⟩, HXL, ⟨by rw [HW.out]; exact HH.out⟩, ⟨by rw [HW.out]; exact HT2.out⟩, HO, HD1, BK1, HB⟩
      · have c2b : gone l1 (rd_T89 xs j).f0 = false := by simpa using c2
        have HH : Aside0 (xs.take i.toNat ++ (rd_T89 xs j :: delS l1 (l0.drop (j + 1).toNat)) = r) := ⟨by rw [← hH]; simp [delS, c2b]⟩
        clear hH H HT c2
        go_wp2_with (first | ((with_reducible refine gD 7 rfl ?_); refine boxZ 7 #[.int .i64 0, .string (⟨#[]⟩ : ByteArray), .int .i64 0] 89 ?_; intro gb hg w1 hbox hb; have HO1 := Aside0.mk (Kd.R_below (Kd.R_bound HO.out) hb); have HD2 := Aside0.mk (Kd.R_below (Kd.R_bound HD1.out) hb); have HG := Aside0.mk hg; have NB := nl BK1 hg; replace BK1 := bv BK1 hb; have BK2 := Aside0.mk hbox; have GE2 := gw (w := w0) hg; replace HB := bs (w := w0) hb; clear hb hbox hg; obtain ⟨hd0, hd1, hd2, he0, he1, he2⟩ := cf3 BK2) | (go_at_call 142; (with_reducible refine (settle_g (rd_T89 xs j) _ rfl A1 c1 l1 g b1 (fun _ => True) _ ?sr ?sb).mono ?_); (case sb => exact blk_far (blk_far (blk_far BK1.out NB.out _) NB.out _) NB.out _); (case sr => exact Kd.R_mono (Kd.R_far (p := ⟨gb, 2, none⟩) (Kd.R_far (p := ⟨gb, 1, none⟩) (Kd.R_far (p := ⟨gb, 0, none⟩) HD2.out (fun k hk => by rw [HG.out]; exact Nat.ne_of_lt hk.2.2.1) _) (fun k hk => by rw [HG.out]; exact Nat.ne_of_lt hk.2.2.1) _) (fun k hk => by rw [HG.out]; exact Nat.ne_of_lt hk.2.2.1) _) (fun _ _ => trivial)); rintro e w2 ⟨rfl, hb⟩; replace HO := Aside0.mk (Kd.R_mono (Kd.R_below (Kd.R_far (p := ⟨gb, 2, none⟩) (Kd.R_far (p := ⟨gb, 1, none⟩) (Kd.R_far (p := ⟨gb, 0, none⟩) HO1.out (fun k hk => by rw [HG.out]; exact Nat.ne_of_lt hk.2.2.1) _) (fun k hk => by rw [HG.out]; exact Nat.ne_of_lt hk.2.2.1) _) (fun k hk => by rw [HG.out]; exact Nat.ne_of_lt hk.2.2.1) _) hb) (fun _ _ => trivial)); replace HD1 := Aside0.mk (Kd.R_mono (Kd.R_below (Kd.R_far (p := ⟨gb, 2, none⟩) (Kd.R_far (p := ⟨gb, 1, none⟩) (Kd.R_far (p := ⟨gb, 0, none⟩) HD2.out (fun k hk => by rw [HG.out]; exact Nat.ne_of_lt hk.2.2.1) _) (fun k hk => by rw [HG.out]; exact Nat.ne_of_lt hk.2.2.1) _) (fun k hk => by rw [HG.out]; exact Nat.ne_of_lt hk.2.2.1) _) hb) (fun _ hk => hk.1)); replace BK1 := Aside0.mk (blk_below (blk_far (blk_far (blk_far BK1.out NB.out _) NB.out _) NB.out _) hb); replace BK2 := Aside0.mk (blk_below (blk_put (blk_put (blk_put BK2.out 0 _ rfl) 1 _ rfl) 2 _ rfl) hb); replace HB := bs (w := w0) hb; clear hb hd0 hd1 hd2 he0 he1 he2; obtain ⟨hd0, hd1, hd2, he0, he1, he2⟩ := cf3 BK2) | ((with_reducible refine gate_store (t := 89) (p := 33) rfl ?_); refine Kd.R_store k89 (w0 := w0) w0.heap.size rfl rfl 89 (.tmp 33) (.tmp 32) rfl 89 (g := g2) (n := l0.length) (cap := cap) i 0 xs (rd_T89 xs j) (.agg #[.int .i64 (rd_T89 xs j).f0, .string (rd_T89 xs j).f1, .int .i64 (rd_T89 xs j).f2]) [.int .i64 (rd_T89 xs j).f0, .string (rd_T89 xs j).f1, .int .i64 (rd_T89 xs j).f2] [.int .i64 (rd_T89 xs i).f0, .string (rd_T89 xs i).f1, .int .i64 (rd_T89 xs i).f2] (fun _ => True) (fun _ => False) rfl (show i.toNat * 3 = i.toNat * k89.sz + 0 from rfl) rfl rfl ?ht ?h1 HO.out ?h0 ?hi rfl ?hcc (show 0 + 3 ≤ 3 from Nat.le_refl _) ?hM (fun _ h => h.elim) HB.out ?_; (case ht => kernel_rfl); (case h1 => intro q hq; rcases List.mem_cons.1 hq with rfl | hq; rfl; rcases List.mem_cons.1 hq with rfl | hq; rfl; rcases List.mem_cons.1 hq with rfl | hq; rfl; cases hq); (case h0 => have := HX2.out; omega); (case hi => have := HX2.out; omega); (case hcc => have hC2 := (Kd.R_reads' HO.out).2.2; rw [HXL.out] at hC2; obtain ⟨ad, e, hz0, hz1, hz2⟩ := at_T89 hC2 i (by have := HX2.out; omega) (by have := HX2.out; omega); cases e; simp only [addz] at hz0 hz1 hz2; intro q u hq; match q, hq with | 0, hq => (cases hq; exact hz0) | 1, hq => (cases hq; exact hz1) | 2, hq => (cases hq; exact hz2)); (case hM => exact k89_mkM _ _ _ _); intro w3 ho hb hg; replace BK1 := Aside0.mk (blk_grown BK1.out hg (fun e_ => HNE.out (by injection e_))); replace HD1 := Aside0.mk (Kd.R_grown HD1.out hg (fun k hk e_ => hk.2 (by injection e_))); replace HO := Aside0.mk ho; replace HB := Aside0.mk hb; clear hb hg ho))
        go_roundg (gk - 1)
        case measure => have := HX2.out; omega
        case rel => exact ⟨wrap64 (i + 1), wrap64 (j + 1), xs.set i.toNat (rd_T89 xs j), fa, fa, ⟨by rw [HW.out, HW2.out]; have := HX2.out; omega⟩, ⟨by rw [List.length_set]; exact HXL.out⟩, ⟨by rw [HW.out, HW2.out, show (i + 1).toNat = i.toNat + 1 by have := HX2.out; omega, set_take _ _ _ (by have := HX2.out; have := HXL.out; omega), List.append_assoc]; exact HH.out⟩, ⟨by rw [HW.out, List.drop_set_of_lt (by have := HX2.out; omega)]; exact HT2.out⟩, HO, HD1, BK1, HB⟩
    · have cb : decide (j < (l0.length : Int)) = false := decide_eq_false c
      have hfin : xs.take i.toNat = r := by
       have h := H.out
       rw [List.drop_of_length_le (show l0.length ≤ j.toNat by omega)] at h
       simpa [delS] using h
      have HF := Aside0.mk hfin
      have HX2 := Aside0.mk (And.intro hx c)
      have q1 : (0 ≤ i) = True := eq_true (by omega)
      have q2 : (i ≤ (l0.length : Int)) = True := eq_true (by omega)
      have hcl : ∃ zs : List Value, zs.length = (l0.length - i.toNat) * 3 ∧ (Builtin.clear_ #[22] 0 #[.slice (some ⟨g2, i.toNat * 3, none⟩) (l0.length - i.toNat) (cap - i.toNat)]).run Try.prog wr = .ok (.tuple #[]) (wr.setCells g2 (i.toNat * 3) zs) := by
       obtain ⟨_, inner, ⟨_, hown⟩, _⟩ := HO.out
       rcases hown with ⟨hv, _⟩ | ⟨g', cap', cur, hv, hb, hh, hle, hm, hs, ht⟩
       · cases hv
       injection hv with ha hn hc
       injection ha with ha
       injection ha with hg
       subst hg; subst hc
       have hs2 : cur.size = cap * 3 := hs
       exact run_clear_cells wr 22 89 0 (.agg #[.int .i64 0, .string ⟨#[]⟩, .int .i64 0]) Try.underlying22 (fun w => by kernel_rfl) g2 (i.toNat * 3) (l0.length - i.toNat) (cap - i.toNat) (by omega) (by intro v hv; rcases List.mem_cons.1 hv with rfl | hv; rfl; rcases List.mem_cons.1 hv with rfl | hv; rfl; rcases List.mem_cons.1 hv with rfl | hv; rfl; cases hv) (by decide) cur 89 hh (by have := HLC.out; show i.toNat * 3 + (l0.length - i.toNat) * 3 ≤ cur.size; omega)
      obtain ⟨zs, hz1, hz2⟩ := hcl
      have HOF : Aside0 (Kd.R k89 89 (wr.setCells g2 (i.toNat * 3) zs) w0.heap.size (fun _ => True) (.slice (some ⟨g2, 0, none⟩) i.toNat cap) r) := ⟨by
       have h := Kd.R_take HO.out (m := i.toNat) (by have := HXL.out; omega)
       rw [HF.out] at h
       exact R_tail h _ _ (Nat.le_refl _) (by have := HLC.out; show i.toNat * 3 + zs.length ≤ cap * 3; omega)⟩
      have HDF : Aside0 (Kd.R k93 93 (wr.setCells g2 (i.toNat * 3) zs) b1 ok (.slice A1 l1.length c1) l1) := ⟨Kd.R_mono (Kd.R_step HD1.out (fun k hk _ => setCells_far zs _ k hk.2)) (fun _ hk => hk.1)⟩
      have HBF : Aside0 (Below w0.heap.size w0 (wr.setCells g2 (i.toNat * 3) zs)) := ⟨by
       obtain ⟨s1, s2, s3, s4⟩ := setCells_same g2 zs (i.toNat * 3) wr
       have hg0 := Kd.R_base HO.out g2 rfl
       exact ⟨s1.trans HB.out.os, s2.trans HB.out.tape, s3.trans HB.out.output, by rw [s4]; exact HB.out.size, fun k hk => (setCells_far zs _ k (by omega)).trans (HB.out.block k hk)⟩⟩
      have q3 : (i ≤ (cap : Int)) = True := eq_true (by have := HLC.out; omega)
      have n1 : ¬ (i.toNat = cap) := by have := HLC.out; omega
      have n2 : ¬ (cap = i.toNat) := by have := HLC.out; omega
      clear H HT hx c hfin hz1
      go_wp2_with fail
      go_ret
      exact ⟨_, rfl, HOF.out, HDF.out, HBF.out⟩

theorem cut_world (w : World) (N : Nat) (h : N ≤ w.heap.size) : ∃ w0 : World, w0.heap.size = N ∧ Below N w0 w := by
 refine ⟨{ w with heap := w.heap.extract 0 N }, by simp; omega, rfl, rfl, rfl, by simp; omega, fun k hk => ?_⟩
 simp only [Array.getElem?_extract]
 rw [if_pos (by omega), Nat.zero_add]
theorem deleteInode' (u : Value) (l0 : List (S89)) (A1 : Option Addr) (c1 : Nat) (l1 : List (S93)) (g b1 : Nat) (ok : Nat → Prop) (N : Nat) (w : World) (hN : N ≤ w.heap.size) (ho : Kd.R k89 89 w N (fun _ => True) u l0) (hlim : l0.length < 4398046511104) (hr1 : Kd.R k93 93 w b1 ok (.slice A1 l1.length c1) l1) (hb : w.heap[g]? = some (.cells #[.slice A1 l1.length c1] 23 (0, 0))) :
 Calls Try.prog 141 #[u, .func (.func 142) #[] #[.pointer (some ⟨g, 0, none⟩)]] w fun e w' => ∃ v, e = .returned v ∧ Kd.R k89 89 w' N (fun _ => True) v (delS l1 l0) ∧ Kd.R k93 93 w' b1 ok (.slice A1 l1.length c1) l1 ∧ (∀ k, k < N → w'.heap[k]? = w.heap[k]?) ∧ (∀ (M : Nat) (w0 : World), Below M w0 w → M ≤ N → w0.heap.size ≤ N → Below M w0 w') := by
 obtain ⟨w0, h1, h2⟩ := cut_world w N hN
 subst h1
 refine (deleteInode u l0 A1 c1 l1 g b1 ok w0 w h2 ho hlim hr1 hb).mono ?_
 rintro e w' ⟨v, rfl, a1, a2, a3⟩
 exact ⟨v, rfl, a1, a2, fun k hk => (a3.block k hk).trans (h2.block k hk).symm, fun M w1 h hM hs => ⟨a3.os.trans (h2.os.symm.trans h.os), a3.tape.trans (h2.tape.symm.trans h.tape), a3.output.trans (h2.output.symm.trans h.output), Nat.le_trans hs a3.size, fun k hk => ((a3.block k (by omega)).trans (h2.block k (by omega)).symm).trans (h.block k hk)⟩⟩
set_option maxHeartbeats 8000000 in
set_option maxRecDepth 100000 in
theorem settle.calls (gd : Nat) (x0 x1 : Int) (vI vD0 vM0 : Value) (lI : List (S89)) (A1 : Option Addr) (c1 : Nat) (lD : List (S93)) (b1 : Nat) (ok : Nat → Prop) (N : Nat) (w0 w : World) (hN : gd < N) (hNw : N ≤ w.heap.size) (hB : Below w0.heap.size w0 w) (hgd : w0.heap.size ≤ gd) (hbd : w.heap[gd]? = some (.cells #[.int .i64 x0, .int .i64 x1, vI, vD0, vM0] 26 (0, 0))) (hI : Kd.R k89 89 w N (fun _ => True) vI lI) (hD : Kd.R k93 93 w b1 ok (.slice A1 lD.length c1) lD) (hlim : lI.length < 4398046511104) :
 Calls Try.prog 97 #[.pointer (some ⟨gd, 0, none⟩), .slice A1 lD.length c1] w fun e w' => e = .returned (.tuple #[]) ∧ ∃ vI', w'.heap[gd]? = some (.cells #[.int .i64 x0, .int .i64 x1, vI', .slice A1 lD.length c1, .slice none 0 0] 26 (0, 0)) ∧ Kd.R k89 89 w' N (fun _ => True) vI' (delS lD lI) ∧ Kd.R k93 93 w' b1 ok (.slice A1 lD.length c1) lD ∧ Below w0.heap.size w0 w' ∧ (∀ k, k < N → k ≠ gd → w'.heap[k]? = w.heap[k]?) := by
 have hu26 := Try.underlying26
 have hu23 := Try.underlying23
 have HN := Aside0.mk hN
 have HNW := Aside0.mk hNw
 have HGD := Aside0.mk hgd
 have HL := Aside0.mk hlim
 have HI := Aside0.mk (Kd.R_types hI hbd (by decide))
 have HD := Aside0.mk (Kd.R_types hD hbd (by decide))
 have BKd := Aside0.mk hbd
 have HB := Aside0.mk hB
 obtain ⟨A, c, eI⟩ := Kd.R_slice hI
 subst eI
 clear hN hNw hgd hlim hI hD hbd hB
 go_enter Try.func97, Try.ntmps97
 go_wp2_with (first | ((with_reducible refine gD 3 rfl ?_); refine boxZ 3 #[.slice A1 lD.length c1] 23 ?_; intro g hg w1 hbox hb; have HG := Aside0.mk hg; have NB := nl BKd hg; have NB2 := nr BKd hg; replace BKd := bv BKd hb; have BKg := Aside0.mk hbox; replace HI := Aside0.mk (Kd.R_below HI.out hb); replace HD := Aside0.mk (Kd.R_below HD.out hb); have HB1 := Aside0.mk hb; replace HB := bs (w := w0) hb; clear hb hbox hg; obtain ⟨hc0, hf0⟩ := cf1 BKg; obtain ⟨hd0, hd1, hd2, hd3, hd4, he0, he1, he2, he3, he4⟩ := cf5 BKd) | (go_at_call 141; (with_reducible refine (deleteInode' (.slice A lI.length c) lI A1 c1 lD g b1 ok N _ ?hN ?ho HL.out ?hr ?hb).mono ?_); (case hN => have := HNW.out; have := HB1.out.size; simp only [World.size_setCell]; omega); (case ho => exact Kd.R_mono (Kd.R_far (p := ⟨gd, 4, none⟩) (Kd.R_far (p := ⟨gd, 3, none⟩) HI.out (fun _ hk => hk.2) _) (fun _ hk => hk.2) _) (fun _ _ => trivial)); (case hr => exact Kd.R_mono (Kd.R_far (p := ⟨gd, 4, none⟩) (Kd.R_far (p := ⟨gd, 3, none⟩) HD.out (fun _ hk => hk.2) _) (fun _ hk => hk.2) _) (fun _ hk => hk.1)); (case hb => exact blk_far (blk_far BKg.out NB2.out _) NB2.out _); rintro e w2 ⟨v, rfl, r1, r2, r3, r4⟩; obtain ⟨Av, cv, ev⟩ := Kd.R_slice r1; subst ev; have HB2 := Aside0.mk (r4 w0.heap.size w0 (below_set (below_set HB.out HGD.out) HGD.out) (by have := HGD.out; have := HN.out; omega) (by have := HGD.out; have := HN.out; omega)); have BK2 := Aside0.mk ((r3 gd HN.out).trans (blk_put (blk_put BKd.out 3 _ rfl) 4 _ rfl)); have HI2 := Aside0.mk (Kd.R_types r1 BK2.out (by decide)); have HD2 := Aside0.mk (Kd.R_types r2 BK2.out (by decide)); have HF := Aside0.mk (show ∀ k, k < N → k ≠ gd → w2.heap[k]? = w.heap[k]? from fun k hk hne => (r3 k hk).trans ((Below.heap_setCell _ _ _ k hne).trans ((Below.heap_setCell _ _ _ k hne).trans (HB1.out.block k (by have := HNW.out; omega))))); clear r1 r2 r3 r4 hc0 hf0 hd0 hd1 hd2 hd3 hd4 he0 he1 he2 he3 he4; obtain ⟨hd0, hd1, hd2, hd3, hd4, he0, he1, he2, he3, he4⟩ := cf5 BK2))
 refine bodyPost_end (results_none rfl _ _ _) rfl ?_
 exact ⟨rfl, _, blk_put BK2.out 2 _ rfl, Kd.R_mono (Kd.R_far (p := ⟨gd, 2, none⟩) HI2.out (fun _ hk => hk.2) _) (fun _ _ => trivial), Kd.R_mono (Kd.R_far (p := ⟨gd, 2, none⟩) HD2.out (fun _ hk => hk.2) _) (fun _ hk => hk.1), below_set HB2.out HGD.out, fun k hk hne => (Below.heap_setCell _ _ _ k hne).trans (HF.out k hk hne)⟩
theorem linked_run (i : Int) (l : List (S93)) (h : l.length ≤ 9223372036854775807) : ∀ (n : Nat) (x : Int), 0 ≤ x → x + n = l.length → spec_l4Linked.l0 (n + 1) l i x = some ((l.drop x.toNat).any (fun y => y.f1 == i))
 | 0, x, h0, h1 => by
  simp only [spec_l4Linked.l0]
  rw [if_neg (by omega), List.drop_of_length_le (by omega)]; rfl
 | n + 1, x, h0, h1 => by
  have f := linked_run i l h n (x + 1) (by omega) (by omega)
  have hlt : x.toNat < l.length := by omega
  have e : rd_T93 l x = l[x.toNat] := by unfold rd_T93; rw [List.getD_eq_getElem?_getD, List.getElem?_eq_getElem hlt]; rfl
  rw [spec_l4Linked.l0, if_pos (by omega), if_pos h0, show wrap64 (x + 1) = x + 1 by unfold wrap64; omega, f, List.drop_eq_getElem_cons hlt, List.any_cons, show (x + 1).toNat = x.toNat + 1 by omega, e]
  by_cases c : (l[x.toNat]).f1 = i
  · rw [if_pos c]; simp [c]
  · rw [if_neg c]; have c' : ((l[x.toNat]).f1 == i) = false := by simpa using c
    rw [c']; simp
theorem linked_f (i : Int) (l : List (S93)) (h : l.length ≤ 9223372036854775807) : spec_l4Linked.f (l.length + 1) l i = some (l.any (fun y => y.f1 == i)) := by
 have := linked_run i l h l.length 0 (by omega) (by omega)
 unfold spec_l4Linked.f; simpa using this
theorem delS_snoc (l1 : List (S93)) (l : List (S89)) (i : Int) (h0 : 0 ≤ i) (h1 : i < (l.length : Int)) : delS l1 (l.take (i + 1).toNat) = delS l1 (l.take i.toNat) ++ (if (l1.any (fun y => y.f1 == (rd_T89 l i).f0)) = true then [rd_T89 l i] else []) := by
 have hlt : i.toNat < l.length := by omega
 have e : rd_T89 l i = l[i.toNat] := by unfold rd_T89; rw [List.getD_eq_getElem?_getD, List.getElem?_eq_getElem hlt]; rfl
 rw [show (i + 1).toNat = i.toNat + 1 by omega, List.take_succ_eq_append_getElem hlt]
 unfold delS
 rw [List.filter_append, e]
 congr 1
 simp only [List.filter_cons, List.filter_nil, gone, Bool.not_not]
def spec_l4Settled.f (a0_0 : Int) (a0_1 : Int) (l0_2 : List (S89)) (l0_3 : List (S93)) (l0_4 : List (S95)) (l1 : List (S93)) (l2 : List (S89)) : Option (Int × Int × (List (S89)) × (List (S93)) × (List (S95))) := if l2.length < 4398046511104 then some (a0_0, a0_1, delS l1 l2, l1, ([] : List (S95))) else none
set_option maxHeartbeats 8000000 in
set_option maxRecDepth 100000 in
theorem spec_l4Settled.calls (a0_0 : Int) (a0_1 : Int) (A0_2 : Option Addr) (c0_2 : Nat) (l0_2 : List (S89)) (A0_3 : Option Addr) (c0_3 : Nat) (l0_3 : List (S93)) (A0_4 : Option Addr) (c0_4 : Nat) (l0_4 : List (S95)) (A1 : Option Addr) (c1 : Nat) (l1 : List (S93)) (A2 : Option Addr) (c2 : Nat) (l2 : List (S89)) (r1 : Int) (r2 : Int) (r3 : List (S89)) (r4 : List (S93)) (r5 : List (S95)) (w : World) (hr0_2 : Kd.C k89 w A0_2 l0_2.length l0_2) (hc0_2 : l0_2.length ≤ c0_2) (hr0_3 : Kd.C k93 w A0_3 l0_3.length l0_3) (hc0_3 : l0_3.length ≤ c0_3) (hr0_4 : Kd.C k95 w A0_4 l0_4.length l0_4) (hc0_4 : l0_4.length ≤ c0_4) (hr1 : Kd.C k93 w A1 l1.length l1) (hc1 : l1.length ≤ c1) (hr2 : Kd.C k89 w A2 l2.length l2) (hc2 : l2.length ≤ c2) (h : spec_l4Settled.f a0_0 a0_1 l0_2 l0_3 l0_4 l1 l2 = some (r1, r2, r3, r4, r5)) :
 Calls Try.prog 95 #[.agg #[.int .i64 a0_0, .int .i64 a0_1, .slice A0_2 l0_2.length c0_2, .slice A0_3 l0_3.length c0_3, .slice A0_4 l0_4.length c0_4], .slice A1 l1.length c1, .slice A2 l2.length c2] w fun e w' => ∃ v2_ v3_ v4_ : Value, e = .returned (.agg #[.int .i64 r1, .int .i64 r2, v2_, v3_, v4_]) ∧ Kd.R k89 89 w' w.heap.size (fun _ => True) v2_ r3 ∧ (v3_ = .slice A1 l1.length c1 ∧ r4 = l1) ∧ Kd.R k95 95 w' w.heap.size (fun _ => True) v4_ r5 ∧ Below w.heap.size w w' := by
 have hlim : l2.length < 4398046511104 := by
  by_cases c : l2.length < 4398046511104
  · exact c
  · simp [spec_l4Settled.f, c] at h
 have h1 : (a0_0, a0_1, delS l1 l2, l1, ([] : List (S95))) = (r1, r2, r3, r4, r5) := by simpa [spec_l4Settled.f, hlim] using h
 simp only [Prod.mk.injEq] at h1
 obtain ⟨rfl, rfl, h3, rfl, rfl⟩ := h1
 have hlen1 := hr1.2.1
 have hu26 := Try.underlying26; have hu89 := Try.underlying89; have HR1 := aK hr1; have HC1 := aK hc1; have HR2 := aK hr2; have HC2 := aK hc2; have HL := aK hlim; have HB := aK (Below.refl w.heap.size w)
 have HA := aK (fun i => linked_f i l1 (by omega))
 have H3 := aK h3
 clear hr0_2 hc0_2 hr0_3 hc0_3 hr0_4 hc0_4 hr1 hc1 hr2 hc2 h hlim h3 hlen1
 go_enter Try.func95, Try.ntmps95
 go_wp2_with (first | ((with_reducible refine gD 3 rfl ?_); refine boxZ 3 #[.int .i64 a0_0, .int .i64 a0_1, .slice A0_2 l0_2.length c0_2, .slice A0_3 l0_3.length c0_3, .slice A0_4 l0_4.length c0_4] 26 ?_; intro gb1 hg wq1 hbox hb; have BK1 := aK hbox; have GW1 := gW HB hg; replace HB := bS HB hb; clear hb hbox hg) | ((with_reducible refine gD 6 rfl ?_); refine boxZ 6 #[.int .i64 0, .int .i64 0, .slice none 0 0, .slice none 0 0, .slice none 0 0] 26 ?_; intro gb2 hg wq2 hbox hb; have BK2 := aK hbox; have GW2 := gW HB hg; replace HB := bS HB hb; have NB12 := nl BK1 hg; have NB21 := nr BK1 hg; replace BK1 := bv BK1 hb; clear hb hbox hg; have hnbq1 := NB12.o; have hncq1 := NB21.o; obtain ⟨_, _, _, _, _, _, _, _, _, _⟩ := cf5 BK1) | ((with_reducible refine gD 7 rfl ?_); refine boxZ 7 #[.int .i64 0, .int .i64 0, .slice none 0 0, .slice none 0 0, .slice none 0 0] 26 ?_; intro gb3 hg wq3 hbox hb; have BK3 := aK hbox; have GW3 := gW HB hg; replace HB := bS HB hb; have NB23 := nl BK2 hg; have NB32 := nr BK2 hg; have NB13 := nl BK1 hg; replace BK1 := bv BK1 hb; replace BK2 := bv BK2 hb; clear hb hbox hg; have hnbq2 := NB23.o; have hncq2 := NB32.o; obtain ⟨_, _, _, _, _, _, _, _, _, _⟩ := cf5 BK3))
 go_loopg [8] l2.length (fun kq v8 w' => ∃ (x : Int) (AO : Option Addr) (cO : Nat), v8 = .int .i64 x ∧ Aside0 (0 ≤ x ∧ x + kq = l2.length) ∧ Aside0 (Kd.R k89 89 w' w.heap.size (fun _ => True) (.slice AO (delS l1 (l2.take x.toNat)).length cO) (delS l1 (l2.take x.toNat))) ∧ Aside0 (w'.heap[gb3]? = some (.cells #[.int .i64 a0_0, .int .i64 a0_1, .slice AO (delS l1 (l2.take x.toNat)).length cO, .slice A1 l1.length c1, .slice none 0 0] 26 (0, 0))) ∧ Aside0 (w'.heap[gb2]? = some (.cells #[.int .i64 0, .int .i64 0, .slice none 0 0, .slice none 0 0, .slice none 0 0] 26 (0, 0))) ∧ Aside0 (Below w.heap.size w w'))
 case atStart => exact ⟨0, none, 0, fa, ⟨by omega, by omega⟩, ⟨Kd.R_nil _ _ _ _ _⟩, ⟨bkk⟩, ⟨bkk⟩, ⟨bl⟩⟩
 case round =>
  obtain ⟨x, AO, cO, rfl, HX, HO, BK3, BK2, HB⟩ := hrel
  have hx := HX.out
  by_cases c : x < (l2.length : Int)
  · have ccb : decide (x < (l2.length : Int)) = true := decide_eq_true c
    have hstep := delS_snoc l1 l2 x hx.1 c
    obtain ⟨ad, e, hx0, hx1, hx2⟩ := at_T89 HR2.out x hx.1 c
    cases e
    have hw0 := hx0; have hw1 := hx1; have hw2 := hx2
    replace hx0 := cz HB hx0
    replace hx1 := cz HB hx1
    replace hx2 := cz HB hx2
    have p1 : (0 ≤ x) = True := eq_true hx.1
    have p2 : (x < (l2.length : Int)) = True := eq_true c
    have hw : wrap64 (x + 1) = x + 1 := by have := HL.out; unfold wrap64; omega
    have HW := Aside0.mk hw
    clear hw
    by_cases c2 : (l1.any (fun y => y.f1 == (rd_T89 l2 x).f0)) = true
    · rw [if_pos c2] at hstep
      have HS := Aside0.mk hstep
      have hA := HA.out (rd_T89 l2 x).f0
      rw [c2] at hA
      have HA2 := Aside0.mk hA
      have HX2 := Aside0.mk (And.intro hx.1 c)
      clear hstep hx c c2 hA
      go_wp2_with (first | (go_at_call 77; (with_reducible refine (spec_l4Linked.calls _ A1 c1 l1 _ true _ ?_ HC1.out HA2.out).mono ?_); exact (Kd.C_below HR1.out bl); rintro e w' ⟨rfl, ⟨nd, rfl⟩⟩))
      replace HO := aK (Kd.R_drew (Kd.R_drewN HO.o nd)); replace BK3 := aK (blk_drew (blk_drewN BK3.o nd)); replace BK2 := aK (blk_drew (blk_drewN BK2.o nd)); replace HB := aK (below_drew1 (pw_below_drewN HB.o nd))
      refine start_ (n := 10) (S := fun w' => w'.cell? ⟨gb3, 2, none⟩ = some (.slice AO (delS l1 (l2.take x.toNat)).length cO) ∧ w'.cell? (ad.add ((x).toNat * 3)) = some (.int .i64 (rd_T89 l2 x).f0) ∧ w'.cell? ⟨(ad.add ((x).toNat * 3)).block, (ad.add ((x).toNat * 3)).off + 1, none⟩ = some (.string (rd_T89 l2 x).f1) ∧ w'.cell? ⟨(ad.add ((x).toNat * 3)).block, (ad.add ((x).toNat * 3)).off + 2, none⟩ = some (.int .i64 (rd_T89 l2 x).f2)) (ds := [9]) (bo 10 0) (by kernel_rfl) rfl rfl ⟨cb 2 BK3, cz HB hw0, cz HB hw1, cz HB hw2⟩ (fun hHeld => ?_)
      generalize (World.drew _) = wr2 at HO BK3 BK2 HB hHeld ⊢
      refine pV 0 28 (bo 10 1) ?_; refine pV 2 30 (bo 10 5) ?_; refine pV 3 31 (bo 10 13) ?_; refine pV 4 32 (bo 10 29) ?_; refine tV 1 29 (bo 10 31) ?_; refine tV 5 33 (bo 10 63) ?_
      refine o1 6 34 (bo 10 127) (fun K hK => ?_)
      refine value_ (w1 := ?_) (v := ?_) (by rfl) rfl ?_ ?_
      rotate_left 2
      ·go_simp
       constructor
       ·rfl
       ·rfl
      refine hK.out _ _ ⟨(World.cell?_alloc_lt _ _ _ (World.block_lt_of_cell? _ _ hHeld.1)).trans hHeld.1, (World.cell?_alloc_lt _ _ _ (World.block_lt_of_cell? _ _ hHeld.2.1)).trans hHeld.2.1, (World.cell?_alloc_lt _ _ _ (World.block_lt_of_cell? _ _ hHeld.2.2.1)).trans hHeld.2.2.1, (World.cell?_alloc_lt _ _ _ (World.block_lt_of_cell? _ _ hHeld.2.2.2)).trans hHeld.2.2.2⟩ (fun hHeld => ?_)
      clear hK K; refine nm 34 ?_
      refine o1 7 35 (bo 10 255) (fun K hK => ?_)
      refine Kd.R_append_step k89 (w0 := w) w.heap.size (by rfl) (.tmp 29) (.tmp 34) 22 89 (.agg #[(.int .i64 0), (.string ⟨#[]⟩), (.int .i64 0)]) 32 rfl Try.underlying22 info89 rfl (by decide) (by omega) (.slice AO (delS l1 (l2.take x.toNat)).length cO) (delS l1 (l2.take x.toNat)) (rd_T89 l2 x) [.int .i64 (rd_T89 l2 x).f0, .string (rd_T89 l2 x).f1, .int .i64 (rd_T89 l2 x).f2] (fun _ => True) (fun _ => False) rfl rfl ?aP (fun _ hk => hk.elim) ?aF ?aO ?aB ?aS ?aL ?_
      case aP => exact k89_mkM _ _ _ (rd_T89 l2 x)
      case aB => exact bl
      case aF => exact (fun _ _ => trivial)
      case aO => exact HO.o
      case aS => exact (below_size bl)
      case aL =>
       have h1 := HL.out; have h2 := HX2.out; have h3 : (delS l1 (l2.take x.toNat)).length ≤ x.toNat := by
        refine Nat.le_trans (List.length_filter_le _ _) ?_
        rw [List.length_take]; omega
       omega
      intro v1 w9 ho hb hg hat
      obtain ⟨AP, cP, e9⟩ := Kd.R_slice ho
      subst e9
      have HN9 := HS.out
      rw [← HN9] at ho
      have e10 : (delS l1 (l2.take x.toNat)).length + 1 = (delS l1 (l2.take (x + 1).toNat)).length := by rw [HN9]; simp
      replace BK3 := aK (blk_grown (g := gb3) (o := .cells #[.int .i64 a0_0, .int .i64 a0_1, .slice AO (delS l1 (l2.take x.toNat)).length cO, .slice A1 l1.length c1, .slice none 0 0] 26 (0, 0)) bk hg (Kd.R_ne HO.out BK3.out (by decide)))
      replace BK2 := aK (blk_grown (g := gb2) (o := .cells #[.int .i64 0, .int .i64 0, .slice none 0 0, .slice none 0 0, .slice none 0 0] 26 (0, 0)) bk hg (Kd.R_ne HO.out BK2.out (by decide)))
      replace HO := aK ho; replace HB := aK hb; clear ho hb hg hat
      rw [← HN9]
      clear HN9 e10
      refine hK.out _ _ ⟨cb 2 BK3, cz HB hw0, cz HB hw1, cz HB hw2⟩ (fun hHeld => ?_)
      clear hK K; refine nm 35 ?_; refine pV 8 36 (bo 10 511) ?_
      obtain ⟨hd0, hd1, hd2, hd3, hd4, he0, he1, he2, he3, he4⟩ := cf5 BK3
      refine last_ (i := 9) (N := none) (bo 10 1023) rfl rfl (by kernel_rfl) (by decide) (fun K hK => ?_)
      refine skip_ (w1 := ?_) (by rfl) rfl ?_ ?_
      rotate_left
      ·go_simp; rfl
      refine hK.out _ _ ?_; clear hK K; refine done_ (by kernel_rfl) ?_; (try go_wp2)
      go_roundg (gk - 1)
      case measure => have := HX.out; have := HX2.out; omega
      case rel => exact ⟨wrap64 (x + 1), AP, cP, fa, ⟨by rw [HW.out]; have := HX2.out; omega, by rw [HW.out]; have := HX.out; have := HX2.out; omega⟩, ⟨by rw [HW.out]; exact f1 HO BK3⟩, ⟨by rw [HW.out]; exact blk_put BK3.o 2 _ rfl⟩, ⟨by first | exact blk_far BK2.o NB23.o _ | exact blk_far BK2.o NB32.o _⟩, ⟨bl⟩⟩
    · rw [if_neg c2, List.append_nil] at hstep
      have c2b : (l1.any (fun y => y.f1 == (rd_T89 l2 x).f0)) = false := by simpa using c2
      have HS := Aside0.mk hstep
      have hA := HA.out (rd_T89 l2 x).f0
      rw [c2b] at hA
      have HA2 := Aside0.mk hA
      have HX2 := Aside0.mk (And.intro hx.1 c)
      clear hstep hx c c2 c2b hA
      go_wp2_with (first | (go_at_call 77; (with_reducible refine (spec_l4Linked.calls _ A1 c1 l1 _ false _ ?_ HC1.out HA2.out).mono ?_); exact (Kd.C_below HR1.out bl); rintro e w' ⟨rfl, ⟨nd, rfl⟩⟩))
      go_roundg (gk - 1)
      case measure => have := HX.out; have := HX2.out; omega
      case rel => exact ⟨wrap64 (x + 1), AO, cO, fa, ⟨by rw [HW.out]; have := HX2.out; omega, by rw [HW.out]; have := HX.out; have := HX2.out; omega⟩, ⟨by rw [HW.out, HS.out]; exact rpR HO.out⟩, ⟨by rw [HW.out, HS.out]; exact bk⟩, ⟨bk⟩, ⟨bl⟩⟩
  · have ccb : decide (x < (l2.length : Int)) = false := decide_eq_false c
    have HT := Aside0.mk (show delS l1 (l2.take x.toNat) = r3 by rw [List.take_of_length_le (by omega)]; exact H3.out)
    rw [HT.out] at HO BK3
    clear hx c
    obtain ⟨_, _, _, _, _, _, _, _, _, _⟩ := cf5 BK3; obtain ⟨_, _, _, _, _, _, _, _, _, _⟩ := cf5 BK2
    go_wp2
    refine bodyPost_ret (results_cell_row rfl _ _ gb2 26 #[.int .i64 a0_0, .int .i64 a0_1, .slice AO r3.length cO, .slice A1 l1.length c1, .slice none 0 0] (0, 0) _ rfl bkk Try.underlying26 rfl (by kernel_rfl)) rfl ?_; exact ⟨_, _, _, fe, rpR (rM (f5 HO BK2) (fun _ hk => trivial)), ⟨rfl, trivial⟩, Kd.R_nil _ _ _ _ _, bl⟩
end Go.Proofs.Ytjcmcamijaelbaa.PDisk
