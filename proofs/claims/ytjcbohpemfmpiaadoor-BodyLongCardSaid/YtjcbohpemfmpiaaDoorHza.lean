/- Numbers by sixteen, as the program writes them: each number up to 4100, by the evaluator. -/
import Derived.Test.YtjcbohpemfmpiaaDoorT
import Derived.Test.YtjcbohpemfmpiaaDoorHt
import Derived.KernelRfl
namespace Go.Proofs.YtjcbohpemfmpiaaDoor.bodyLong
set_option linter.unusedVariables false
set_option linter.unusedSimpArgs false
open Go.Ev Go.Ev.YtjcbohpemfmpiaaDoor Go.ChangeShapes Go.WideShapes Go.ChangeAt Go.RowKit headLong
set_option maxRecDepth 100000
noncomputable def hxN (d : Nat) : Nat := br (Nat.ble d 9) (Nat.add 48 d) (Nat.add 87 d)
noncomputable def hexN (n : Nat) : Nat := br (Nat.ble n 15) 1 (br (Nat.ble n 255) 2 (br (Nat.ble n 4095) 3 4))
noncomputable def hexC (n : Nat) : Nat := br (Nat.ble n 15) (hxN n) (br (Nat.ble n 255) (Nat.add (hxN (Nat.div n 16)) (Nat.mul 256 (hxN (Nat.mod n 16)))) (br (Nat.ble n 4095) (Nat.add (hxN (Nat.div n 256)) (Nat.mul 256 (Nat.add (hxN (Nat.mod (Nat.div n 16) 16)) (Nat.mul 256 (hxN (Nat.mod n 16)))))) (Nat.add (hxN (Nat.div n 4096)) (Nat.mul 256 (Nat.add (hxN (Nat.mod (Nat.div n 256) 16)) (Nat.mul 256 (Nat.add (hxN (Nat.mod (Nat.div n 16) 16)) (Nat.mul 256 (hxN (Nat.mod n 16))))))))))
theorem hxN_hx {d : Nat} (h : d < 16) : hxN d = (hx d).toNat := by
  rw [hx_nat h]; unfold hxN
  by_cases h1 : d < 10
  · rw [if_pos h1, ble_iff.2 (by omega), br_true]; rfl
  · rw [if_neg h1, ble_false (by omega), br_false]; rfl
theorem hex_len (n : Nat) : ((hexD n).map hx).length = hexN n := by
  unfold hexD hexN
  by_cases h1 : n < 16
  · rw [if_pos h1, ble_iff.2 (by omega), br_true]; rfl
  · rw [if_neg h1, ble_false (by omega), br_false]
    by_cases h2 : n < 256
    · rw [if_pos h2, ble_iff.2 (by omega), br_true]; rfl
    · rw [if_neg h2, ble_false (by omega), br_false]
      by_cases h3 : n < 4096
      · rw [if_pos h3, ble_iff.2 (by omega), br_true]; rfl
      · rw [if_neg h3, ble_false (by omega), br_false]; rfl
theorem hex_enc (n : Nat) (h : n < 65536) : encL ((hexD n).map hx) = hexC n := by
  unfold hexD hexC
  by_cases h1 : n < 16
  · rw [if_pos h1, ble_iff.2 (by omega), br_true, hxN_hx h1]; show (hx n).toNat + 256 * 0 = _; omega
  · rw [if_neg h1, ble_false (by omega), br_false]
    by_cases h2 : n < 256
    · rw [if_pos h2, ble_iff.2 (by omega), br_true]
      show (hx (n / 16)).toNat + 256 * ((hx (n % 16)).toNat + 256 * 0) = hxN (n / 16) + 256 * hxN (n % 16)
      rw [hxN_hx (by omega), hxN_hx (by omega)]; omega
    · rw [if_neg h2, ble_false (by omega), br_false]
      by_cases h3 : n < 4096
      · rw [if_pos h3, ble_iff.2 (by omega), br_true]
        show (hx (n / 256)).toNat + 256 * ((hx (n / 16 % 16)).toNat + 256 * ((hx (n % 16)).toNat + 256 * 0)) = hxN (n / 256) + 256 * (hxN (n / 16 % 16) + 256 * hxN (n % 16))
        rw [hxN_hx (by omega), hxN_hx (by omega), hxN_hx (by omega)]; omega
      · rw [if_neg h3, ble_false (by omega), br_false]
        show (hx (n / 4096)).toNat + 256 * ((hx (n / 256 % 16)).toNat + 256 * ((hx (n / 16 % 16)).toNat + 256 * ((hx (n % 16)).toNat + 256 * 0))) = hxN (n / 4096) + 256 * (hxN (n / 256 % 16) + 256 * (hxN (n / 16 % 16) + 256 * hxN (n % 16)))
        rw [hxN_hx (by omega), hxN_hx (by omega), hxN_hx (by omega), hxN_hx (by omega)]; omega
/-- A number's text by sixteen. -/
def hexS (n : Nat) : ByteArray := ⟨((hexD n).map hx).toArray⟩
theorem hexS_of {n : Nat} (h : n < 65536) {s : ByteArray} (h1 : s.size = hexN n) (h2 : encL s.data.toList = hexC n) : s = hexS n := by
  have e : s.data.toList = (hexD n).map hx := encL_inj (by rw [hex_len]; exact (Array.length_toList).trans h1) (by rw [hex_enc n h]; exact h2)
  apply ByteArray.ext
  show s.data = ((hexD n).map hx).toArray
  rw [← e]
theorem mixedF : Tryd.prog.follows .mixedOrders = true := by kernel_rfl
theorem run_0 : allN (fun i => rStr (hexN (Nat.add 0 i)) (hexC (Nat.add 0 i)) (call2 tab 100 (fnKey 23) [.int .i64 (Nat.add 0 i), .int .i64 16] hempty n00)) 256 = true := by kernel_rfl
theorem run_1 : allN (fun i => rStr (hexN (Nat.add 256 i)) (hexC (Nat.add 256 i)) (call2 tab 100 (fnKey 23) [.int .i64 (Nat.add 256 i), .int .i64 16] hempty n00)) 256 = true := by kernel_rfl
theorem run_2 : allN (fun i => rStr (hexN (Nat.add 512 i)) (hexC (Nat.add 512 i)) (call2 tab 100 (fnKey 23) [.int .i64 (Nat.add 512 i), .int .i64 16] hempty n00)) 256 = true := by kernel_rfl
theorem run_3 : allN (fun i => rStr (hexN (Nat.add 768 i)) (hexC (Nat.add 768 i)) (call2 tab 100 (fnKey 23) [.int .i64 (Nat.add 768 i), .int .i64 16] hempty n00)) 256 = true := by kernel_rfl
theorem run_4 : allN (fun i => rStr (hexN (Nat.add 1024 i)) (hexC (Nat.add 1024 i)) (call2 tab 100 (fnKey 23) [.int .i64 (Nat.add 1024 i), .int .i64 16] hempty n00)) 256 = true := by kernel_rfl
theorem run_5 : allN (fun i => rStr (hexN (Nat.add 1280 i)) (hexC (Nat.add 1280 i)) (call2 tab 100 (fnKey 23) [.int .i64 (Nat.add 1280 i), .int .i64 16] hempty n00)) 256 = true := by kernel_rfl
theorem run_6 : allN (fun i => rStr (hexN (Nat.add 1536 i)) (hexC (Nat.add 1536 i)) (call2 tab 100 (fnKey 23) [.int .i64 (Nat.add 1536 i), .int .i64 16] hempty n00)) 256 = true := by kernel_rfl
theorem run_7 : allN (fun i => rStr (hexN (Nat.add 1792 i)) (hexC (Nat.add 1792 i)) (call2 tab 100 (fnKey 23) [.int .i64 (Nat.add 1792 i), .int .i64 16] hempty n00)) 256 = true := by kernel_rfl
theorem run_8 : allN (fun i => rStr (hexN (Nat.add 2048 i)) (hexC (Nat.add 2048 i)) (call2 tab 100 (fnKey 23) [.int .i64 (Nat.add 2048 i), .int .i64 16] hempty n00)) 256 = true := by kernel_rfl
theorem run_9 : allN (fun i => rStr (hexN (Nat.add 2304 i)) (hexC (Nat.add 2304 i)) (call2 tab 100 (fnKey 23) [.int .i64 (Nat.add 2304 i), .int .i64 16] hempty n00)) 256 = true := by kernel_rfl
theorem run_10 : allN (fun i => rStr (hexN (Nat.add 2560 i)) (hexC (Nat.add 2560 i)) (call2 tab 100 (fnKey 23) [.int .i64 (Nat.add 2560 i), .int .i64 16] hempty n00)) 256 = true := by kernel_rfl
theorem run_11 : allN (fun i => rStr (hexN (Nat.add 2816 i)) (hexC (Nat.add 2816 i)) (call2 tab 100 (fnKey 23) [.int .i64 (Nat.add 2816 i), .int .i64 16] hempty n00)) 256 = true := by kernel_rfl
theorem run_12 : allN (fun i => rStr (hexN (Nat.add 3072 i)) (hexC (Nat.add 3072 i)) (call2 tab 100 (fnKey 23) [.int .i64 (Nat.add 3072 i), .int .i64 16] hempty n00)) 256 = true := by kernel_rfl
theorem run_13 : allN (fun i => rStr (hexN (Nat.add 3328 i)) (hexC (Nat.add 3328 i)) (call2 tab 100 (fnKey 23) [.int .i64 (Nat.add 3328 i), .int .i64 16] hempty n00)) 256 = true := by kernel_rfl
theorem run_14 : allN (fun i => rStr (hexN (Nat.add 3584 i)) (hexC (Nat.add 3584 i)) (call2 tab 100 (fnKey 23) [.int .i64 (Nat.add 3584 i), .int .i64 16] hempty n00)) 256 = true := by kernel_rfl
theorem run_15 : allN (fun i => rStr (hexN (Nat.add 3840 i)) (hexC (Nat.add 3840 i)) (call2 tab 100 (fnKey 23) [.int .i64 (Nat.add 3840 i), .int .i64 16] hempty n00)) 256 = true := by kernel_rfl
theorem run_16 : allN (fun i => rStr (hexN (Nat.add 4096 i)) (hexC (Nat.add 4096 i)) (call2 tab 100 (fnKey 23) [.int .i64 (Nat.add 4096 i), .int .i64 16] hempty n00)) 256 = true := by kernel_rfl
theorem fmt_at {gl : GlF} (hT : HT gl) (n : Nat) (hn : n < 65536) (h : rStr (hexN n) (hexC n) (call2 tab 100 (fnKey 23) [.int .i64 n, .int .i64 16] hempty n00) = true) (y : World) (hgl : GlAt (rhoS gl) y) :
    Calls Tryd.prog 23 #[.int .i64 (n : Int), .int .i64 16] y fun e w' => e = .returned (.string (hexS n)) ∧ Below y.heap.size y w' :=
  (lawS_call oneS mixedF (tab_ok hT) Tryd.func23 (by kernel_rfl) (by kernel_rfl) h (rels_cons.2 ⟨_, _, rfl, rel_i64 (by omega), rels_cons.2 ⟨_, _, rfl, rel_i64 (n := 16) (by omega), rels_nil.2 rfl⟩⟩) y hgl).mono fun e w' ⟨⟨s, h1, h2, h3⟩, h4⟩ => ⟨by rw [h1, hexS_of hn h2 h3], h4⟩
theorem fmt_ {gl : GlF} (hT : HT gl) (n : Nat) (hn : n ≤ 4100) (y : World) (hgl : GlAt (rhoS gl) y) :
    Calls Tryd.prog 23 #[.int .i64 (n : Int), .int .i64 16] y fun e w' => e = .returned (.string (hexS n)) ∧ Below y.heap.size y w' := by
  refine fmt_at hT n (by omega) ?_ y hgl
  by_cases h0 : n < 256
  · obtain ⟨j, rfl⟩ : ∃ j, n = Nat.add 0 j := ⟨n - 0, by show n = 0 + (n - 0); omega⟩
    exact allN_at run_0 j (by have : 0 + j < 256 := h0; omega)
  by_cases h1 : n < 512
  · obtain ⟨j, rfl⟩ : ∃ j, n = Nat.add 256 j := ⟨n - 256, by show n = 256 + (n - 256); omega⟩
    exact allN_at run_1 j (by have : 256 + j < 512 := h1; omega)
  by_cases h2 : n < 768
  · obtain ⟨j, rfl⟩ : ∃ j, n = Nat.add 512 j := ⟨n - 512, by show n = 512 + (n - 512); omega⟩
    exact allN_at run_2 j (by have : 512 + j < 768 := h2; omega)
  by_cases h3 : n < 1024
  · obtain ⟨j, rfl⟩ : ∃ j, n = Nat.add 768 j := ⟨n - 768, by show n = 768 + (n - 768); omega⟩
    exact allN_at run_3 j (by have : 768 + j < 1024 := h3; omega)
  by_cases h4 : n < 1280
  · obtain ⟨j, rfl⟩ : ∃ j, n = Nat.add 1024 j := ⟨n - 1024, by show n = 1024 + (n - 1024); omega⟩
    exact allN_at run_4 j (by have : 1024 + j < 1280 := h4; omega)
  by_cases h5 : n < 1536
  · obtain ⟨j, rfl⟩ : ∃ j, n = Nat.add 1280 j := ⟨n - 1280, by show n = 1280 + (n - 1280); omega⟩
    exact allN_at run_5 j (by have : 1280 + j < 1536 := h5; omega)
  by_cases h6 : n < 1792
  · obtain ⟨j, rfl⟩ : ∃ j, n = Nat.add 1536 j := ⟨n - 1536, by show n = 1536 + (n - 1536); omega⟩
    exact allN_at run_6 j (by have : 1536 + j < 1792 := h6; omega)
  by_cases h7 : n < 2048
  · obtain ⟨j, rfl⟩ : ∃ j, n = Nat.add 1792 j := ⟨n - 1792, by show n = 1792 + (n - 1792); omega⟩
    exact allN_at run_7 j (by have : 1792 + j < 2048 := h7; omega)
  by_cases h8 : n < 2304
  · obtain ⟨j, rfl⟩ : ∃ j, n = Nat.add 2048 j := ⟨n - 2048, by show n = 2048 + (n - 2048); omega⟩
    exact allN_at run_8 j (by have : 2048 + j < 2304 := h8; omega)
  by_cases h9 : n < 2560
  · obtain ⟨j, rfl⟩ : ∃ j, n = Nat.add 2304 j := ⟨n - 2304, by show n = 2304 + (n - 2304); omega⟩
    exact allN_at run_9 j (by have : 2304 + j < 2560 := h9; omega)
  by_cases h10 : n < 2816
  · obtain ⟨j, rfl⟩ : ∃ j, n = Nat.add 2560 j := ⟨n - 2560, by show n = 2560 + (n - 2560); omega⟩
    exact allN_at run_10 j (by have : 2560 + j < 2816 := h10; omega)
  by_cases h11 : n < 3072
  · obtain ⟨j, rfl⟩ : ∃ j, n = Nat.add 2816 j := ⟨n - 2816, by show n = 2816 + (n - 2816); omega⟩
    exact allN_at run_11 j (by have : 2816 + j < 3072 := h11; omega)
  by_cases h12 : n < 3328
  · obtain ⟨j, rfl⟩ : ∃ j, n = Nat.add 3072 j := ⟨n - 3072, by show n = 3072 + (n - 3072); omega⟩
    exact allN_at run_12 j (by have : 3072 + j < 3328 := h12; omega)
  by_cases h13 : n < 3584
  · obtain ⟨j, rfl⟩ : ∃ j, n = Nat.add 3328 j := ⟨n - 3328, by show n = 3328 + (n - 3328); omega⟩
    exact allN_at run_13 j (by have : 3328 + j < 3584 := h13; omega)
  by_cases h14 : n < 3840
  · obtain ⟨j, rfl⟩ : ∃ j, n = Nat.add 3584 j := ⟨n - 3584, by show n = 3584 + (n - 3584); omega⟩
    exact allN_at run_14 j (by have : 3584 + j < 3840 := h14; omega)
  by_cases h15 : n < 4096
  · obtain ⟨j, rfl⟩ : ∃ j, n = Nat.add 3840 j := ⟨n - 3840, by show n = 3840 + (n - 3840); omega⟩
    exact allN_at run_15 j (by have : 3840 + j < 4096 := h15; omega)
  obtain ⟨j, rfl⟩ : ∃ j, n = Nat.add 4096 j := ⟨n - 4096, by show n = 4096 + (n - 4096); omega⟩
  exact allN_at run_16 j (by have : 4096 + j ≤ 4100 := hn; omega)
end Go.Proofs.YtjcbohpemfmpiaaDoor.bodyLong
