/- What the functions do, as equations over their texts, 1. -/
import Derived.Test.YtdgefeadbcbglaaDoorBK
import Derived.KernelRfl
namespace Go.Ev.YtdgefeadbcbglaaDoor
open Go Go.Ev
set_option linter.unusedVariables false
set_option linter.unusedSimpArgs false
/-- The last digits of a number. -/
def dec:Nat->Nat->List UInt8
  | 0, u => []
  | k+1, u => dec k (u / 10)++[UInt8.ofNat (48+u % 10)]
theorem dec_len:∀ (k u:Nat), (dec k u).length=k
  | 0, u => rfl
  | k+1, u => by show (dec k (u / 10)++_).length=_; rw [List.length_append, dec_len k]; rfl
theorem dec_dig:∀ (k u:Nat), ∀ b∈dec k u, 48≤b.toNat∧b.toNat≤57
  | 0, u, b, h => by cases h
  | k+1, u, b, h => by
    rcases List.mem_append.1 (show b∈dec k (u / 10)++[UInt8.ofNat (48+u % 10)] from h) with h | h
    · exact dec_dig k _ b h
    · rw [List.mem_singleton.1 h, show (UInt8.ofNat (48+u % 10)).toNat=(48+u % 10) % 256 from rfl]; omega
theorem tn8 (x:Nat):(UInt8.ofNat x).toNat=x % 256 := rfl
noncomputable abbrev zer:List V := [.int .u8 0, .int .u8 0, .int .u8 0, .int .u8 0, .int .u8 0, .int .u8 0, .int .u8 0, .int .u8 0, .int .u8 0, .int .u8 0, .int .u8 0, .int .u8 0, .int .u8 0, .int .u8 0, .int .u8 0, .int .u8 0, .int .u8 0, .int .u8 0, .int .u8 0, .int .u8 0, .int .u8 0, .int .u8 0, .int .u8 0, .int .u8 0]
theorem fb_key {p:K4} {h:Heap} {n:K4} (rs:List V) {ds ds':List Nat} (e:ds=ds'):R.rv (.tup []) (Ae p h (some (.c (.l (ds.map (V.int .u8)++rs)) false none))) n=R.rv (.tup []) (Ae p h (some (.c (.l (ds'.map (V.int .u8)++rs)) false none))) n := by rw [e]
theorem fb_3 {m u:Nat} {p:K4} {h:Heap} {n:K4} {cap:Nat} {ex:Bool} (hp:A9 p h=some (.c (.l zer) false none)) (h1:100≤u) (h2:u<1000) :
    Al tab (m+1) ⟨.d0, .d5, .d9⟩ [.sl p 0 3 cap ex 1, .int .u64 u] h n = .rv (.tup []) (Ae p h (some (.c (.l (uc (dec 3 u)++zer.drop 3)) false none))) n := by
  rw [call2_at, show B5 ⟨.d0, .d5, .d9⟩ tab=some x89 from rfl, x89]
  simp (config := {maxSteps := 3000000}) (disch := omega) only [G7,FW,FM,FL,FV,FP,Hq,E7,FI,JJ,JX,CH,qa,g0,g1,g2,g3,g4,g5,g6,g7,g8,g9,Bt,Bp,Bo,BC,BE,By,BF,g17,Bx,Bv,w0,w1,w2,w3,w4,w5,w6,w7,w8,w9,Bn,Bm,Br,BG,Bz,BB,BA,BD,Bw,Bu,Mk,Nat.reduceAdd,Nat.reduceSub,Nat.reduceMul,Nat.reduceMod,Nat.reduceDiv,Q0,U,en1,hp,zer,List.set_cons_zero,List.set_cons_succ,List.length_cons,List.length_nil]
  exact fb_key [.int .u8 0, .int .u8 0, .int .u8 0, .int .u8 0, .int .u8 0, .int .u8 0, .int .u8 0, .int .u8 0, .int .u8 0, .int .u8 0, .int .u8 0, .int .u8 0, .int .u8 0, .int .u8 0, .int .u8 0, .int .u8 0, .int .u8 0, .int .u8 0, .int .u8 0, .int .u8 0, .int .u8 0] (ds := [_, _, _]) (ds' := [_, _, _]) (by simp only [List.cons.injEq,tn8,and_true]; omega)
theorem fb_4 {m u:Nat} {p:K4} {h:Heap} {n:K4} {cap:Nat} {ex:Bool} (hp:A9 p h=some (.c (.l zer) false none)) (h1:1000≤u) (h2:u<10000) :
    Al tab (m+1) ⟨.d0, .d5, .d9⟩ [.sl p 0 4 cap ex 1, .int .u64 u] h n = .rv (.tup []) (Ae p h (some (.c (.l (uc (dec 4 u)++zer.drop 4)) false none))) n := by
  rw [call2_at, show B5 ⟨.d0, .d5, .d9⟩ tab=some x89 from rfl, x89]
  simp (config := {maxSteps := 3000000}) (disch := omega) only [G7,FW,FM,FL,FV,FP,Hq,E7,FI,JJ,JX,CH,qa,g0,g1,g2,g3,g4,g5,g6,g7,g8,g9,Bt,Bp,Bo,BC,BE,By,BF,g17,Bx,Bv,w0,w1,w2,w3,w4,w5,w6,w7,w8,w9,Bn,Bm,Br,BG,Bz,BB,BA,BD,Bw,Bu,Mk,Nat.reduceAdd,Nat.reduceSub,Nat.reduceMul,Nat.reduceMod,Nat.reduceDiv,Q0,U,en1,hp,zer,List.set_cons_zero,List.set_cons_succ,List.length_cons,List.length_nil]
  exact fb_key [.int .u8 0, .int .u8 0, .int .u8 0, .int .u8 0, .int .u8 0, .int .u8 0, .int .u8 0, .int .u8 0, .int .u8 0, .int .u8 0, .int .u8 0, .int .u8 0, .int .u8 0, .int .u8 0, .int .u8 0, .int .u8 0, .int .u8 0, .int .u8 0, .int .u8 0, .int .u8 0] (ds := [_, _, _, _]) (ds' := [_, _, _, _]) (by simp only [List.cons.injEq,tn8,and_true]; omega)
theorem fb_5 {m u:Nat} {p:K4} {h:Heap} {n:K4} {cap:Nat} {ex:Bool} (hp:A9 p h=some (.c (.l zer) false none)) (h1:10000≤u) (h2:u<100000) :
    Al tab (m+1) ⟨.d0, .d5, .d9⟩ [.sl p 0 5 cap ex 1, .int .u64 u] h n = .rv (.tup []) (Ae p h (some (.c (.l (uc (dec 5 u)++zer.drop 5)) false none))) n := by
  rw [call2_at, show B5 ⟨.d0, .d5, .d9⟩ tab=some x89 from rfl, x89]
  simp (config := {maxSteps := 3000000}) (disch := omega) only [G7,FW,FM,FL,FV,FP,Hq,E7,FI,JJ,JX,CH,qa,g0,g1,g2,g3,g4,g5,g6,g7,g8,g9,Bt,Bp,Bo,BC,BE,By,BF,g17,Bx,Bv,w0,w1,w2,w3,w4,w5,w6,w7,w8,w9,Bn,Bm,Br,BG,Bz,BB,BA,BD,Bw,Bu,Mk,Nat.reduceAdd,Nat.reduceSub,Nat.reduceMul,Nat.reduceMod,Nat.reduceDiv,Q0,U,en1,hp,zer,List.set_cons_zero,List.set_cons_succ,List.length_cons,List.length_nil]
  exact fb_key [.int .u8 0, .int .u8 0, .int .u8 0, .int .u8 0, .int .u8 0, .int .u8 0, .int .u8 0, .int .u8 0, .int .u8 0, .int .u8 0, .int .u8 0, .int .u8 0, .int .u8 0, .int .u8 0, .int .u8 0, .int .u8 0, .int .u8 0, .int .u8 0, .int .u8 0] (ds := [_, _, _, _, _]) (ds' := [_, _, _, _, _]) (by simp only [List.cons.injEq,tn8,and_true]; omega)
theorem fb_6 {m u:Nat} {p:K4} {h:Heap} {n:K4} {cap:Nat} {ex:Bool} (hp:A9 p h=some (.c (.l zer) false none)) (h1:100000≤u) (h2:u<1000000) :
    Al tab (m+1) ⟨.d0, .d5, .d9⟩ [.sl p 0 6 cap ex 1, .int .u64 u] h n = .rv (.tup []) (Ae p h (some (.c (.l (uc (dec 6 u)++zer.drop 6)) false none))) n := by
  rw [call2_at, show B5 ⟨.d0, .d5, .d9⟩ tab=some x89 from rfl, x89]
  simp (config := {maxSteps := 3000000}) (disch := omega) only [G7,FW,FM,FL,FV,FP,Hq,E7,FI,JJ,JX,CH,qa,g0,g1,g2,g3,g4,g5,g6,g7,g8,g9,Bt,Bp,Bo,BC,BE,By,BF,g17,Bx,Bv,w0,w1,w2,w3,w4,w5,w6,w7,w8,w9,Bn,Bm,Br,BG,Bz,BB,BA,BD,Bw,Bu,Mk,Nat.reduceAdd,Nat.reduceSub,Nat.reduceMul,Nat.reduceMod,Nat.reduceDiv,Q0,U,en1,hp,zer,List.set_cons_zero,List.set_cons_succ,List.length_cons,List.length_nil]
  exact fb_key [.int .u8 0, .int .u8 0, .int .u8 0, .int .u8 0, .int .u8 0, .int .u8 0, .int .u8 0, .int .u8 0, .int .u8 0, .int .u8 0, .int .u8 0, .int .u8 0, .int .u8 0, .int .u8 0, .int .u8 0, .int .u8 0, .int .u8 0, .int .u8 0] (ds := [_, _, _, _, _, _]) (ds' := [_, _, _, _, _, _]) (by simp only [List.cons.injEq,tn8,and_true]; omega)
theorem fb_7 {m u:Nat} {p:K4} {h:Heap} {n:K4} {cap:Nat} {ex:Bool} (hp:A9 p h=some (.c (.l zer) false none)) (h1:1000000≤u) (h2:u<10000000) :
    Al tab (m+1) ⟨.d0, .d5, .d9⟩ [.sl p 0 7 cap ex 1, .int .u64 u] h n = .rv (.tup []) (Ae p h (some (.c (.l (uc (dec 7 u)++zer.drop 7)) false none))) n := by
  rw [call2_at, show B5 ⟨.d0, .d5, .d9⟩ tab=some x89 from rfl, x89]
  simp (config := {maxSteps := 3000000}) (disch := omega) only [G7,FW,FM,FL,FV,FP,Hq,E7,FI,JJ,JX,CH,qa,g0,g1,g2,g3,g4,g5,g6,g7,g8,g9,Bt,Bp,Bo,BC,BE,By,BF,g17,Bx,Bv,w0,w1,w2,w3,w4,w5,w6,w7,w8,w9,Bn,Bm,Br,BG,Bz,BB,BA,BD,Bw,Bu,Mk,Nat.reduceAdd,Nat.reduceSub,Nat.reduceMul,Nat.reduceMod,Nat.reduceDiv,Q0,U,en1,hp,zer,List.set_cons_zero,List.set_cons_succ,List.length_cons,List.length_nil]
  exact fb_key [.int .u8 0, .int .u8 0, .int .u8 0, .int .u8 0, .int .u8 0, .int .u8 0, .int .u8 0, .int .u8 0, .int .u8 0, .int .u8 0, .int .u8 0, .int .u8 0, .int .u8 0, .int .u8 0, .int .u8 0, .int .u8 0, .int .u8 0] (ds := [_, _, _, _, _, _, _]) (ds' := [_, _, _, _, _, _, _]) (by simp only [List.cons.injEq,tn8,and_true]; omega)
theorem fb_8 {m u:Nat} {p:K4} {h:Heap} {n:K4} {cap:Nat} {ex:Bool} (hp:A9 p h=some (.c (.l zer) false none)) (h1:10000000≤u) (h2:u<100000000) :
    Al tab (m+1) ⟨.d0, .d5, .d9⟩ [.sl p 0 8 cap ex 1, .int .u64 u] h n = .rv (.tup []) (Ae p h (some (.c (.l (uc (dec 8 u)++zer.drop 8)) false none))) n := by
  rw [call2_at, show B5 ⟨.d0, .d5, .d9⟩ tab=some x89 from rfl, x89]
  simp (config := {maxSteps := 3000000}) (disch := omega) only [G7,FW,FM,FL,FV,FP,Hq,E7,FI,JJ,JX,Lh,qa,g0,g1,g2,g3,g4,g5,g6,g7,g8,g9,Bt,Bp,Bo,BC,BE,By,BF,g17,Bx,Bv,w0,w1,w2,w3,w4,w5,w6,w7,w8,w9,Bn,Bm,Br,BG,Bz,BB,BA,BD,Bw,Bu,Mk,Nat.reduceAdd,Nat.reduceSub,Nat.reduceMul,Nat.reduceMod,Nat.reduceDiv,Q0,U,en1,hp,zer,List.set_cons_zero,List.set_cons_succ,List.length_cons,List.length_nil]
  exact fb_key [.int .u8 0, .int .u8 0, .int .u8 0, .int .u8 0, .int .u8 0, .int .u8 0, .int .u8 0, .int .u8 0, .int .u8 0, .int .u8 0, .int .u8 0, .int .u8 0, .int .u8 0, .int .u8 0, .int .u8 0, .int .u8 0] (ds := [_, _, _, _, _, _, _, _]) (ds' := [_, _, _, _, _, _, _, _]) (by simp only [List.cons.injEq,tn8,and_true]; omega)
theorem fb_9 {m u:Nat} {p:K4} {h:Heap} {n:K4} {cap:Nat} {ex:Bool} (hp:A9 p h=some (.c (.l zer) false none)) (h1:100000000≤u) (h2:u<1000000000) :
    Al tab (m+1) ⟨.d0, .d5, .d9⟩ [.sl p 0 9 cap ex 1, .int .u64 u] h n = .rv (.tup []) (Ae p h (some (.c (.l (uc (dec 9 u)++zer.drop 9)) false none))) n := by
  rw [call2_at, show B5 ⟨.d0, .d5, .d9⟩ tab=some x89 from rfl, x89]
  simp (config := {maxSteps := 3000000}) (disch := omega) only [G7,FW,FM,FL,FV,FP,Hq,E7,FI,JJ,JX,Lh,qa,g0,g1,g2,g3,g4,g5,g6,g7,g8,g9,Bt,Bp,Bo,BC,BE,By,BF,g17,Bx,Bv,w0,w1,w2,w3,w4,w5,w6,w7,w8,w9,Bn,Bm,Br,BG,Bz,BB,BA,BD,Bw,Bu,Mk,Nat.reduceAdd,Nat.reduceSub,Nat.reduceMul,Nat.reduceMod,Nat.reduceDiv,Q0,U,en1,hp,zer,List.set_cons_zero,List.set_cons_succ,List.length_cons,List.length_nil]
  exact fb_key [.int .u8 0, .int .u8 0, .int .u8 0, .int .u8 0, .int .u8 0, .int .u8 0, .int .u8 0, .int .u8 0, .int .u8 0, .int .u8 0, .int .u8 0, .int .u8 0, .int .u8 0, .int .u8 0, .int .u8 0] (ds := [_, _, _, _, _, _, _, _, _]) (ds' := [_, _, _, _, _, _, _, _, _]) (by simp only [List.cons.injEq,tn8,and_true]; omega)
theorem fb_10 {m u:Nat} {p:K4} {h:Heap} {n:K4} {cap:Nat} {ex:Bool} (hp:A9 p h=some (.c (.l zer) false none)) (h1:1000000000≤u) (h2:u<4294967296) :
    Al tab (m+1) ⟨.d0, .d5, .d9⟩ [.sl p 0 10 cap ex 1, .int .u64 u] h n = .rv (.tup []) (Ae p h (some (.c (.l (uc (dec 10 u)++zer.drop 10)) false none))) n := by
  rw [call2_at, show B5 ⟨.d0, .d5, .d9⟩ tab=some x89 from rfl, x89]
  simp (config := {maxSteps := 3000000}) (disch := omega) only [G7,FW,FM,FL,FV,FP,Hq,E7,FI,JJ,JX,Lh,qa,g0,g1,g2,g3,g4,g5,g6,g7,g8,g9,Bt,Bp,Bo,BC,BE,By,BF,g17,Bx,Bv,w0,w1,w2,w3,w4,w5,w6,w7,w8,w9,Bn,Bm,Br,BG,Bz,BB,BA,BD,Bw,Bu,Mk,Nat.reduceAdd,Nat.reduceSub,Nat.reduceMul,Nat.reduceMod,Nat.reduceDiv,Q0,U,en1,hp,zer,List.set_cons_zero,List.set_cons_succ,List.length_cons,List.length_nil]
  exact fb_key [.int .u8 0, .int .u8 0, .int .u8 0, .int .u8 0, .int .u8 0, .int .u8 0, .int .u8 0, .int .u8 0, .int .u8 0, .int .u8 0, .int .u8 0, .int .u8 0, .int .u8 0, .int .u8 0] (ds := [_, _, _, _, _, _, _, _, _, _]) (ds' := [_, _, _, _, _, _, _, _, _, _]) (by simp only [List.cons.injEq,tn8,and_true]; omega)
theorem ndK_S (m u:Nat):Jw (m+1) u=br (Nat.ble (Nat.succ u) 10) 1 (Nat.succ (Jw m (u / 10))) := rfl
theorem nd_of:∀ (m k u:Nat), k≤m->(k=0∨10 ^ k≤u)->u<10 ^ (k+1)->Jw m u=k+1
  | 0, k, u, hk, h1, h2 => by
    obtain rfl:k=0 := by omega
    rfl
  | m+1, 0, u, hk, h1, h2 => by
    rw [ndK_S, show Nat.ble (Nat.succ u) 10=true from Ab.2 (Nat.succ_le_of_lt (show u<10 by simpa using h2))]; rfl
  | m+1, k+1, u, hk, h1, h2 => by
    have h3:10 ^ (k+1)≤u := by
      rcases h1 with h | h
      · omega
      · exact h
    have e1:10 ^ (k+1)=10 ^ k*10 := Nat.pow_succ _ _
    have e2:10 ^ (k+1+1)=10 ^ (k+1)*10 := Nat.pow_succ _ _
    have e3:0<10 ^ k := Nat.pow_pos (by decide)
    rw [ndK_S, show Nat.ble (Nat.succ u) 10=false from AH (by omega), Ai, nd_of m k (u / 10) (by omega) (by right; omega) (by omega)]
noncomputable def decU (u:Nat):List UInt8 := dec (Jw 19 u) u
theorem decU_len (u:Nat):(decU u).length=Jw 19 u := dec_len _ _
theorem nd_lt {u:Nat} (h:u<4294967296):1≤Jw 19 u∧Jw 19 u≤10 := by
  have key:∀ k, k≤9->(k=0∨10 ^ k≤u)->u<10 ^ (k+1)->1≤Jw 19 u∧Jw 19 u≤10 := fun k hk h1 h2 => by rw [nd_of 19 k u (by omega) h1 h2]; omega
  by_cases h0:u<10
  · exact key 0 (by omega) (.inl rfl) (by simpa using h0)
  by_cases h1:u<100
  · exact key 1 (by omega) (.inr (by omega)) (by omega)
  by_cases h2:u<1000
  · exact key 2 (by omega) (.inr (by omega)) (by omega)
  by_cases h3:u<10000
  · exact key 3 (by omega) (.inr (by omega)) (by omega)
  by_cases h4:u<100000
  · exact key 4 (by omega) (.inr (by omega)) (by omega)
  by_cases h5:u<1000000
  · exact key 5 (by omega) (.inr (by omega)) (by omega)
  by_cases h6:u<10000000
  · exact key 6 (by omega) (.inr (by omega)) (by omega)
  by_cases h7:u<100000000
  · exact key 7 (by omega) (.inr (by omega)) (by omega)
  by_cases h8:u<1000000000
  · exact key 8 (by omega) (.inr (by omega)) (by omega)
  exact key 9 (by omega) (.inr (by omega)) (by omega)
theorem q_slS {c m a b:Nat} (hab:a≤b) (hb:b≤m) (h2:b<9223372036854775808) (κ:V->R):L4 (.str m c) (some (.int .i64 a)) (some (.int .i64 b)) κ=κ (.str (b - a) (lo (sh c a) (b - a))) := by
  show br (Nat.ble (Nat.succ b) 9223372036854775808) (br (Nat.ble (Nat.succ a) 9223372036854775808) (br (Nat.ble a b) (br (Nat.ble b m) (Aa (Nat.sub b a) fun l => Aa (Ev.lo (sh c a) l) fun r => κ (.str l r)) (.fail "")) (.fail "")) (.fail "")) (.fail "")=_
  rw [show Nat.ble (Nat.succ b) 9223372036854775808=true from Ab.2 (by omega), Ac, show Nat.ble (Nat.succ a) 9223372036854775808=true from Ab.2 (by omega), Ac, Ab.2 hab, Ac, Ab.2 hb, Ac, A7, A7]; rfl
theorem sm2B:T7 (fun i => Nat.beq (lo (sh YP (i*2)) 2) (48+i / 10+256*(48+i % 10))) 100=true := by kernel_rfl
theorem small_1 {m u:Nat} {h:Heap} {n:K4} (hu:u<10):Al tab (m+1) ⟨.d0, .d5, .d7⟩ [.int .i64 u] h n = .rv (sb (decU u)) h n := by
  rw [call2_at, show B5 ⟨.d0, .d5, .d7⟩ tab=some x87 from rfl, x87]
  simp (disch := omega) only [qa,g0,g1,g2,g3,g4,g5,g6,g7,g8,g9,Bt,Bp,Bo,BC,BE,By,BF,g17,Bx,Bv,w0,w1,w2,w3,w4,w5,w6,w7,w8,w9,Bn,Bm,Br,BG,Bz,BB,BA,BD,Bw,Bu,Mk,Nat.reduceAdd,Nat.reduceSub,Nat.reduceMul,Nat.reduceMod,Nat.reduceDiv,Q0,U,en3,q_slS]
  rw [show u+1 - u=1 by omega, show lo (sh 237927390410950444456928663707796224754864904193074819559483181009558347043374296609072 u) 1=48+u from ZM hu]
  unfold decU
  rw [nd_of 19 0 u (by omega) (.inl rfl) (by simpa using hu)]
  show R.rv (.str 1 (48+u)) h n=R.rv (.str 1 ((UInt8.ofNat (48+u % 10)).toNat+256*0)) h n
  rw [tn8, show (48+u % 10) % 256+256*0=48+u by omega]
theorem small_2 {m u:Nat} {h:Heap} {n:K4} (h1:10≤u) (hu:u<100):Al tab (m+1) ⟨.d0, .d5, .d7⟩ [.int .i64 u] h n = .rv (sb (decU u)) h n := by
  rw [call2_at, show B5 ⟨.d0, .d5, .d7⟩ tab=some x87 from rfl, x87]
  simp (disch := omega) only [qa,g0,g1,g2,g3,g4,g5,g6,g7,g8,g9,Bt,Bp,Bo,BC,BE,By,BF,g17,Bx,Bv,w0,w1,w2,w3,w4,w5,w6,w7,w8,w9,Bn,Bm,Br,BG,Bz,BB,BA,BD,Bw,Bu,Mk,Nat.reduceAdd,Nat.reduceSub,Nat.reduceMul,Nat.reduceMod,Nat.reduceDiv,Q0,U,en3,q_slS]
  rw [show u*2+2 - u*2=2 by omega, show lo (sh 9938655150514779720929161263213647789093395803754561035662628441001274968862597953692946393464194303251501229616933063375291039650253924995779037586872666250072396106842829501851083234932712366962979930255066872747696324303968523733872590022915936937156789320557469720923390131174387415513794469201054844961267015441141542819553679203788501627738430154234325528792480477051962324423099068299719245009424585859096469223093538032153047611602695245052081125123941502624659711709950000 (u*2)) 2=48+u / 10+256*(48+u % 10) from Nat.eq_of_beq_eq_true (Kv sm2B u hu)]
  unfold decU
  rw [nd_of 19 1 u (by omega) (.inr (by omega)) (by omega)]
  show R.rv (.str 2 (48+u / 10+256*(48+u % 10))) h n=R.rv (.str 2 ((UInt8.ofNat (48+u / 10 % 10)).toNat+256*((UInt8.ofNat (48+u % 10)).toNat+256*0))) h n
  rw [tn8, tn8, show (48+u / 10 % 10) % 256+256*((48+u % 10) % 256+256*0)=48+u / 10+256*(48+u % 10) by omega]
theorem q_slA0 {p:K4} {h:Heap} {xs:List V} {k:Nat} (hp:A9 p h=some (.c (.l xs) false none)) (hx:xs.length=24) (hk:k≤24) (κ:V->R):Ho 24 1 (.ptr p 0) none (some (.int .i64 k)) h κ=κ (.sl p 0 k 24 true 1) := by
  show JV p h (fun cs _ _ => X7 cs fun z => br (Nat.ble (Nat.add 0 (Nat.mul 24 1)) z) (br (Nat.ble (Nat.succ k) 9223372036854775808) (br (Nat.ble 0 k) (br (Nat.ble k 24) (Aa (Nat.sub k 0) fun l => Aa (Nat.sub 24 0) fun c => Aa (Nat.add 0 (Nat.mul 0 1)) fun o => κ (.sl p o l c true 1)) (.fail "")) (.fail "")) (.fail "")) (.fail ""))=_
  rw [Dj, ET hp, Ru, show Cs.len (.l xs)=24 from hx, show Nat.ble (Nat.add 0 (Nat.mul 24 1)) 24=true from rfl, Ac, show Nat.ble (Nat.succ k) 9223372036854775808=true from Ab.2 (by omega), Ac, show Nat.ble 0 k=true from Ab.2 (Nat.zero_le _), Ac, Ab.2 hk, Ac, A7, A7, A7]; rfl
theorem q_b2sU {p:K4} {h:Heap} {l:List UInt8} {rs:List V} {s:Bool} {pr:Option K4} {cap k:Nat} {ex:Bool} (hp:A9 p h=some (.c (.l (uc l++rs)) s pr)) (hk:k=l.length) (κ:V->R):GW (.sl p 0 k cap ex 1) h κ=κ (sb l) := by
  subst hk
  show br (Nat.beq 1 1) (JV p h fun cs _ _ => AW cs 0 l.length fun y => @Cs.rec (fun _ => R) (fun l => Cu l (fun m c => κ (.str m c)) (.fail "")) (fun m c => κ (.str m c)) y) (.fail "")=_
  rw [Nat.beq_refl, Ac, Dj, ET hp, Gp (by rw [List.length_append, QE]; omega), List.drop_zero]
  have e:(uc l++rs).take l.length=uc l := by rw [←QE l]; exact List.take_left'  rfl
  rw [e]
  exact Ph l _ _
theorem fb_any {m u:Nat} {p:K4} {h:Heap} {n:K4} {cap:Nat} {ex:Bool} (hp:A9 p h=some (.c (.l zer) false none)) (h1:100≤u) (h2:u<4294967296) :
    Al tab (m+1) ⟨.d0, .d5, .d9⟩ [.sl p 0 (Jw 19 u) cap ex 1, .int .u64 u] h n = .rv (.tup []) (Ae p h (some (.c (.l (uc (decU u)++zer.drop (Jw 19 u))) false none))) n := by
  unfold decU
  by_cases c2:u<1000
  · rw [nd_of 19 2 u (by omega) (.inr (by omega)) (by omega)]; exact fb_3 hp h1 c2
  by_cases c3:u<10000
  · rw [nd_of 19 3 u (by omega) (.inr (by omega)) (by omega)]; exact fb_4 hp (by omega) c3
  by_cases c4:u<100000
  · rw [nd_of 19 4 u (by omega) (.inr (by omega)) (by omega)]; exact fb_5 hp (by omega) c4
  by_cases c5:u<1000000
  · rw [nd_of 19 5 u (by omega) (.inr (by omega)) (by omega)]; exact fb_6 hp (by omega) c5
  by_cases c6:u<10000000
  · rw [nd_of 19 6 u (by omega) (.inr (by omega)) (by omega)]; exact fb_7 hp (by omega) c6
  by_cases c7:u<100000000
  · rw [nd_of 19 7 u (by omega) (.inr (by omega)) (by omega)]; exact fb_8 hp (by omega) c7
  by_cases c8:u<1000000000
  · rw [nd_of 19 8 u (by omega) (.inr (by omega)) (by omega)]; exact fb_9 hp (by omega) c8
  rw [nd_of 19 9 u (by omega) (.inr (by omega)) (by omega)]; exact fb_10 hp (by omega) h2
theorem dig_ok {m u:Nat} {h:Heap} {n:K4} (h1:1≤u):Al tab (m+1) ⟨.d0, .d5, .d8⟩ [.int .u64 u] h n = .rv (.int .i64 (Jw 19 u)) h n := by
  rw [call2_at, show B5 ⟨.d0, .d5, .d8⟩ tab=some (.prim ID) from rfl]
  show KR (br (Nat.ble 1 u) (Aa (Jw 19 u) fun i => R.rv (.int .i64 i) h n) (R.fail ""))=_
  rw [Ab.2 h1, Ac, A7]; rfl
theorem fmtU_ok {m u:Nat} {h:Heap} {n:K4} (hu:u<4294967296) (hn:n.toN<60000) :
    ∃ h' n', Al tab (m+3) ⟨.d0, .d3, .d2⟩ [.int .u64 u, .int .i64 10] h n = .rv (sb (decU u)) h' n'∧n.toN≤n'.toN∧n'.toN≤n.toN+1∧(Ay h n->Ay h' n')∧(∀ q:K4, q.toN<n.toN->A9 q h'=A9 q h) := by
  have u1 := K4.up_toN (p := n) (by omega)
  generalize hR:Al tab (m+3) ⟨.d0, .d3, .d2⟩ [.int .u64 u, .int .i64 10] h n=R0
  rw [call2_at, show B5 ⟨.d0, .d3, .d2⟩ tab=some x50 from rfl, x50] at hR
  simp (disch := omega) only [qa,g0,g1,g2,g3,g4,g5,g6,g7,g8,g9,Bt,Bp,Bo,BC,BE,By,BF,g17,Bx,Bv,w0,w1,w2,w3,w4,w5,w6,w7,w8,w9,Bn,Bm,Br,BG,Bz,BB,BA,BD,Bw,Bu,Mk,Nat.reduceAdd,Nat.reduceSub,Nat.reduceMul,Nat.reduceMod,Nat.reduceDiv,Q0,U,en1] at hR
  rw [call2_at, show B5 ⟨.d0, .d4, .d9⟩ tab=some x73 from rfl, x73] at hR
  by_cases h1:u<100
  · have e1:∀ κ, B2 .i64 (.int .u64 u) κ=κ (.int .i64 u) := fun κ => by
      rw [H3 (k := .i64) (j := .u64) (show u<18446744073709551616 by omega), show u % Mk .i64=u from Nat.mod_eq_of_lt (show u<18446744073709551616 by omega)]
    have e2:Al tab (m+1) ⟨.d0, .d5, .d7⟩ [.int .i64 u] h n = .rv (sb (decU u)) h n := by
      by_cases h0:u<10
      · exact small_1 h0
      · exact small_2 (by omega) h1
    simp (disch := omega) only [qa,g0,g1,g2,g3,g4,g5,g6,g7,g8,g9,Bt,Bp,Bo,BC,BE,By,BF,g17,Bx,Bv,w0,w1,w2,w3,w4,w5,w6,w7,w8,w9,Bn,Bm,Br,BG,Bz,BB,BA,BD,Bw,Bu,Mk,Nat.reduceAdd,Nat.reduceSub,Nat.reduceMul,Nat.reduceMod,Nat.reduceDiv,Q0,U,en1,e1,e2] at hR
    subst hR
    exact ⟨_, _, rfl, by omega, by omega, fun hf => hf, fun q hq => rfl⟩
  · obtain ⟨l1, l2⟩ := nd_lt hu
    have e3 := fun (h':Heap) => dig_ok (m := m) (u := u) (h := h') (n := n.up) (by omega)
    have e4 := fun κ => q_slA0 (p := n) (h := Ae n h (some (.c (.l zer) false none))) (k := Jw 19 u) (A6 _ _ _) rfl (by omega) κ
    have e5 := fb_any (m := m) (u := u) (p := n) (h := Ae n h (some (.c (.l zer) false none))) (n := n.up) (cap := 24) (ex := true) (A6 _ _ _) (by omega) hu
    have e6 := fun κ => q_slA0 (p := n) (h := Ae n (Ae n h (some (.c (.l zer) false none))) (some (.c (.l (uc (decU u)++zer.drop (Jw 19 u))) false none))) (k := Jw 19 u) (A6 _ _ _) (by rw [List.length_append, QE, decU_len, List.length_drop]; show _+(24 - _)=24; omega) (by omega) κ
    have e7 := fun κ => q_b2sU (p := n) (h := Ae n (Ae n h (some (.c (.l zer) false none))) (some (.c (.l (uc (decU u)++zer.drop (Jw 19 u))) false none))) (l := decU u) (rs := zer.drop (Jw 19 u)) (s := false) (pr := none) (cap := 24) (k := Jw 19 u) (ex := true) (A6 _ _ _) (decU_len u).symm κ
    simp only [Ge] at e6 e7 e5
    simp (disch := omega) only [qa,g0,g1,g2,g3,g4,g5,g6,g7,g8,g9,Bt,Bp,Bo,BC,BE,By,BF,g17,Bx,Bv,w0,w1,w2,w3,w4,w5,w6,w7,w8,w9,Bn,Bm,Br,BG,Bz,BB,BA,BD,Bw,Bu,Mk,Nat.reduceAdd,Nat.reduceSub,Nat.reduceMul,Nat.reduceMod,Nat.reduceDiv,Q0,U,en1,e3,e4,e5,e6,e7] at hR
    subst hR
    exact ⟨_, _, rfl, by omega, by omega, fun hf q hq => (AG (by omega) _ _).trans (hf q (by omega)), fun q hq => As hq _ _⟩
noncomputable def mayLB (c:Fz):S->Heap->K4->R := fun t h n=>g3 t fun z3=>g2 t fun z4=>Ba z3 z4 fun z5=>BM z5 (Ao 1 (g0 t fun z6=>Cn z6 z3 fun z7=>Cv z7 (iB 48) fun z8=>gK z8 z7 h n fun z9 h n=>gO z8 h n (fun k=>Dp z9 (iB 57) k) fun za h n=>AI z8 za (.bool false) fun zb=>Cc false zb h n (fun k=>k z7 h n) fun zc h n=>Cc false zb h n (fun k=>Cv zc (iB 97) fun v=>k v h n) fun zd h n=>Cc false zb h n (fun k=>k zd h n) fun ze h n=>gK ze z7 h n fun zf h n=>gO ze h n (fun k=>Dp zf (iB 122) k) fun zg h n=>Cc false zb h n (fun k=>AI ze zg (.bool false) fun v=>k v h n) fun zh h n=>AI zb (.bool true) zh fun zi=>Cc false zi h n (fun k=>k z7 h n) fun zj h n=>Cc false zi h n (fun k=>Cv zj (iB 65) fun v=>k v h n) fun zk h n=>Cc false zi h n (fun k=>k zk h n) fun zl h n=>gK zl z7 h n fun zm h n=>gO zl h n (fun k=>Dp zm (iB 90) k) fun zn h n=>Cc false zi h n (fun k=>AI zl zn (.bool false) fun v=>k v h n) fun zo h n=>AI zi (.bool true) zo fun zp=>Cc false zp h n (fun k=>k z7 h n) fun zq h n=>Cc false zp h n (fun k=>BH zq (iB 46) fun v=>k v h n) fun zr h n=>AI zp (.bool true) zr fun zs=>EN zs fun zt=>BM zt (w1 t (.bool false) fun t=>rT t h n)<|nR t h n) fun t h n=>g3 t fun zu=>AM zu (iI 1) fun zv=>w3 t zv fun t=>nR t h n)<|.ok (.exit 0) t h n
noncomputable def x48L:Ent := .code en3 (fun c t h n=>g0 t fun z1=>GY z1 fun z2=>Ao 0 (w1 t (.bool false) fun t=>w2 t z2 fun t=>w3 t (iI 0) fun t=>C0 (mayLB c) t h n) fun t h n=>g0 t fun zw=>Cw zw (.str 0 0) fun zx=>gK zx zw h n fun zy h n=>gO zx h n (fun k=>GY zy k) fun zz h n=>gO zx h n (fun k=>Dp zz (iI 32) k) fun z10 h n=>AI zx z10 (.bool false) fun z11=>w1 t z11 fun t=>rT t h n) (fun t h n=>g1 t fun a0=>.rv a0 h n)
theorem x48_L:x48=x48L := rfl
theorem idx_sb {l:List UInt8} {i:Nat} (hi:i<l.length) (hl:l.length<9223372036854775808) (κ:V->R):Cn (sb l) (.int .i64 i) κ=κ (.int .u8 (l[i]'hi).toNat) := by
  show br (Nat.ble (Nat.succ i) 9223372036854775808) (br (Nat.ble (Nat.succ i) l.length) (Aa (Ev.lo (sh (Ar l) i) 1) fun r => κ (.int .u8 r)) (.fail "")) _=_
  rw [show Nat.ble (Nat.succ i) 9223372036854775808=true from Ab.2 (by omega), Ac, show Nat.ble (Nat.succ i) l.length=true from Ab.2 hi, Ac, A7, Er]
  have e:(l.drop i).take 1=[l[i]'hi] := by rw [List.drop_eq_getElem_cons hi]; rfl
  rw [e]; rfl
/-- Bytes of a segment's name. -/
def SegB (b:UInt8):Prop := b.toNat=46∨b.toNat=116∨48≤b.toNat∧b.toNat≤57
theorem lt_u8 {a b:Nat} (ha:a<256) (hb:b<256):DO .u8 a b=decide (a<b) := Om ha hb
theorem may_round {c:Fz} {l:List UInt8} {i:Nat} {d:V} {h:Heap} {n:K4} {c1 c2 c3 c4 c5 c6 c7:SQ} (hi:i<l.length) (hl:l.length<9223372036854775808) (hb:SegB (l[i]'hi)) :
    mayLB c (.mk (.mk (sb l) d (.int .i64 l.length) (.int .i64 i)) c1 c2 c3 c4 c5 c6 c7) h n = .ok .nrm (.mk (.mk (sb l) d (.int .i64 l.length) (.int .i64 (i+1))) c1 c2 c3 c4 c5 c6 c7) h n := by
  unfold mayLB
  have e := idx_sb hi hl
  have hb2:(l[i]'hi).toNat<256 := (l[i]'hi).toNat_lt
  rcases hb with hb | hb | ⟨hb, hb'⟩
  · rw [hb] at e
    simp (config := {maxSteps := 3000000}) (disch := omega) only [qa,g0,g1,g2,g3,g4,g5,g6,g7,g8,g9,Bt,Bp,Bo,BC,BE,By,BF,g17,Bx,Bv,w0,w1,w2,w3,w4,w5,w6,w7,w8,w9,Bn,Bm,Br,BG,Bz,BB,BA,BD,Bw,Bu,Mk,Nat.reduceAdd,Nat.reduceSub,Nat.reduceMul,Nat.reduceMod,Nat.reduceDiv,Q0,U,e,lt_u8,CI,CC,Ct,Cq,BO]
  · rw [hb] at e
    simp (config := {maxSteps := 3000000}) (disch := omega) only [qa,g0,g1,g2,g3,g4,g5,g6,g7,g8,g9,Bt,Bp,Bo,BC,BE,By,BF,g17,Bx,Bv,w0,w1,w2,w3,w4,w5,w6,w7,w8,w9,Bn,Bm,Br,BG,Bz,BB,BA,BD,Bw,Bu,Mk,Nat.reduceAdd,Nat.reduceSub,Nat.reduceMul,Nat.reduceMod,Nat.reduceDiv,Q0,U,e,lt_u8,CI,CC,Ct,Cq,BO]
  · generalize (l[i]'hi).toNat=b at e hb hb' hb2
    simp (config := {maxSteps := 3000000}) (disch := omega) only [qa,g0,g1,g2,g3,g4,g5,g6,g7,g8,g9,Bt,Bp,Bo,BC,BE,By,BF,g17,Bx,Bv,w0,w1,w2,w3,w4,w5,w6,w7,w8,w9,Bn,Bm,Br,BG,Bz,BB,BA,BD,Bw,Bu,Mk,Nat.reduceAdd,Nat.reduceSub,Nat.reduceMul,Nat.reduceMod,Nat.reduceDiv,Q0,U,e,lt_u8,CI,CC,Ct,Cq,BO]
theorem may_rounds {c:Fz} {l:List UInt8} {d:V} {h:Heap} {n:K4} {c1 c2 c3 c4 c5 c6 c7:SQ} (hl:l.length<9223372036854775808) (hb:∀ b∈l, SegB b):∀ (k i m:Nat), i+k=l.length →
    DH (mayLB c) (k+m) (.mk (.mk (sb l) d (.int .i64 l.length) (.int .i64 i)) c1 c2 c3 c4 c5 c6 c7) h n=DH (mayLB c) m (.mk (.mk (sb l) d (.int .i64 l.length) (.int .i64 l.length)) c1 c2 c3 c4 c5 c6 c7) h n
  | 0, i, m, hk => by rw [show i=l.length by omega, Nat.zero_add]
  | k+1, i, m, hk => by
    rw [show k+1+m=(k+m)+1 by omega, Dh, may_round (by omega) hl (hb _ (List.getElem_mem _)), Gq]
    exact may_rounds hl hb k (i+1) m (by omega)
theorem may_any {m:Nat} {l:List UInt8} {h:Heap} {n:K4} (h1:0<l.length) (h2:l.length≤32) (hb:∀ b∈l, SegB b):Al tab (m+1) ⟨.d0, .d3, .d0⟩ [sb l] h n = .rv (.bool true) h n := by
  rw [call2_at, show B5 ⟨.d0, .d3, .d0⟩ tab=some x48 from rfl, x48_L, x48L]
  have e0:∀ κ, Cw (sb l) (.str 0 0) κ=κ (.bool true) := fun κ => by
    have e1:Cw (sb l) (.str 0 0) κ=Ki .neq (sb l) (.str 0 0) κ := Kx .neq _ _ _
    rw [e1]
    show br (Db l.length (Ar l) 0 0) (κ (.bool false)) (κ (.bool true))=_
    rw [show Db l.length (Ar l) 0 0=false from by unfold Db; rw [Cb, decide_eq_false (by omega)]; rfl]; rfl
  have e2 := fun κ => V4 l (by omega) κ
  simp (disch := omega) only [qa,g0,g1,g2,g3,g4,g5,g6,g7,g8,g9,Bt,Bp,Bo,BC,BE,By,BF,g17,Bx,Bv,w0,w1,w2,w3,w4,w5,w6,w7,w8,w9,Bn,Bm,Br,BG,Bz,BB,BA,BD,Bw,Bu,Mk,Nat.reduceAdd,Nat.reduceSub,Nat.reduceMul,Nat.reduceMod,Nat.reduceDiv,Q0,U,en3,e2,CI,CC,Ct,Cq,BO]
  rw [CH, ←Dh]
  have e := may_rounds (c := Al tab m) (l := l) (d := .bool false) (h := h) (n := n) (c1 := Q0) (c2 := Q0) (c3 := Q0) (c4 := Q0) (c5 := Q0) (c6 := Q0) (c7 := Q0) (by omega) hb l.length 0 (999999999 - l.length+1) (by omega)
  rw [show l.length+(999999999 - l.length+1)=999999999+1 by omega] at e
  simp only [Q0,U] at e
  rw [e, Dh]
  unfold mayLB
  simp (disch := omega) only [qa,g0,g1,g2,g3,g4,g5,g6,g7,g8,g9,Bt,Bp,Bo,BC,BE,By,BF,g17,Bx,Bv,w0,w1,w2,w3,w4,w5,w6,w7,w8,w9,Bn,Bm,Br,BG,Bz,BB,BA,BD,Bw,Bu,Mk,Nat.reduceAdd,Nat.reduceSub,Nat.reduceMul,Nat.reduceMod,Nat.reduceDiv,Q0,U,e0,e2,CI,CC,Ct,Cq,BO]
/-- A segment's name. -/
noncomputable def segN (id k:Nat):List UInt8 := [116]++decU id++[46]++[UInt8.ofNat (48+k)]
theorem segN_len (id k:Nat):(segN id k).length=Jw 19 id+3 := by
  show ([116]++decU id++[46]++[UInt8.ofNat (48+k)]).length=_
  simp only [List.length_append,decU_len,List.length_cons,List.length_nil]; omega
theorem segN_ok (id k:Nat) (hk:k≤9):∀ b∈segN id k, SegB b := by
  intro b hb
  have hb:b∈[116]++decU id++[46]++[UInt8.ofNat (48+k)] := hb
  simp only [List.mem_append,List.mem_singleton] at hb
  rcases hb with ((hb | hb) | hb) | hb
  · subst hb; exact .inr (.inl rfl)
  · exact .inr (.inr (dec_dig _ _ b hb))
  · subst hb; exact .inl rfl
  · subst hb; refine .inr (.inr ?_); rw [tn8]; omega
theorem fmtI_ok {m k:Nat} {h:Heap} {n:K4} (hk:k≤9):Al tab (m+3) ⟨.d0, .d3, .d3⟩ [.int .i64 k, .int .i64 10] h n = .rv (sb [UInt8.ofNat (48+k)]) h n := by
  rw [call2_at, show B5 ⟨.d0, .d3, .d3⟩ tab=some x51 from rfl, x51]
  simp (disch := omega) only [qa,g0,g1,g2,g3,g4,g5,g6,g7,g8,g9,Bt,Bp,Bo,BC,BE,By,BF,g17,Bx,Bv,w0,w1,w2,w3,w4,w5,w6,w7,w8,w9,Bn,Bm,Br,BG,Bz,BB,BA,BD,Bw,Bu,Mk,Nat.reduceAdd,Nat.reduceSub,Nat.reduceMul,Nat.reduceMod,Nat.reduceDiv,Q0,U,en1]
  rw [call2_at, show B5 ⟨.d0, .d4, .d10⟩ tab=some x74 from rfl, x74]
  have e:decU k=[UInt8.ofNat (48+k)] := by
    unfold decU
    rw [nd_of 19 0 k (by omega) (.inl rfl) (by omega)]
    show [UInt8.ofNat (48+k % 10)]=_
    rw [Nat.mod_eq_of_lt (by omega)]
  simp (disch := omega) only [qa,g0,g1,g2,g3,g4,g5,g6,g7,g8,g9,Bt,Bp,Bo,BC,BE,By,BF,g17,Bx,Bv,w0,w1,w2,w3,w4,w5,w6,w7,w8,w9,Bn,Bm,Br,BG,Bz,BB,BA,BD,Bw,Bu,Mk,Nat.reduceAdd,Nat.reduceSub,Nat.reduceMul,Nat.reduceMod,Nat.reduceDiv,Q0,U,CI,CC,Ct,Cq,BO,en1,small_1,e]
theorem name_ok {m id k:Nat} {h:Heap} {n:K4} (hk:k≤9) (hu:id<4294967296) (hn:n.toN<60000) :
    ∃ h' n', Al tab (m+4) ⟨.d0, .d1, .d12⟩ [.int .u32 id, .int .i64 k] h n = .rv (sb (segN id k)) h' n'∧n.toN≤n'.toN∧n'.toN≤n.toN+1∧(Ay h n->Ay h' n')∧(∀ q:K4, q.toN<n.toN->A9 q h'=A9 q h) := by
  obtain ⟨h', n', e, a1, a2, a3, a4⟩ := fmtU_ok (m := m) (u := id) (h := h) (n := n) hu hn
  obtain ⟨l1, l2⟩ := nd_lt hu
  have hL := decU_len id
  refine ⟨h', n', ?_, a1, a2, a3, a4⟩
  rw [call2_at, show B5 ⟨.d0, .d1, .d12⟩ tab=some x28 from rfl, x28]
  have c1:∀ κ, B2 .u64 (.int .u32 id) κ=κ (.int .u64 id) := fun κ => by
    rw [H3 (k := .u64) (j := .u32) (show id<4294967296 from hu), show id % Mk .u64=id from Nat.mod_eq_of_lt (Nat.lt_trans hu (by decide))]
  have c2:∀ κ, AM (.str 1 116) (sb (decU id)) κ=κ (sb (116::decU id)) := fun κ => VA (a := [116]) (by show 1+_≤_; omega) κ
  have c3:∀ κ, AM (sb (116::decU id)) (.str 1 46) κ=κ (sb (116::(decU id++[46]))) := fun κ => VA (b := [46]) (by show _+1+1≤_; omega) κ
  have c4:∀ κ, AM (sb (116::(decU id++[46]))) (sb [UInt8.ofNat (48+k)]) κ=κ (sb (segN id k)) := fun κ => VA (by simp only [List.length_append,List.length_cons,List.length_nil]; omega) κ
  have c5:DO .i64 1099511627776 k=false := by rw [Om (k := .i64) (show 1099511627776<9223372036854775808 by decide) (show k<9223372036854775808 by omega)]; exact decide_eq_false (by omega)
  simp (disch := omega) only [qa,g0,g1,g2,g3,g4,g5,g6,g7,g8,g9,Bt,Bp,Bo,BC,BE,By,BF,g17,Bx,Bv,w0,w1,w2,w3,w4,w5,w6,w7,w8,w9,Bn,Bm,Br,BG,Bz,BB,BA,BD,Bw,Bu,Mk,Nat.reduceAdd,Nat.reduceSub,Nat.reduceMul,Nat.reduceMod,Nat.reduceDiv,Q0,U,CI,CC,Ct,Cq,BO,en1,c1,e,c2,c3,c4,c5,fmtI_ok]
structure Rec where
  kind:Nat
  ten:Nat
  ep:Nat
  ob:Nat
  sq:Nat
  body:List UInt8
/-- Its cells. -/
noncomputable def rcs (r:Rec):List V := [.int .i64 r.kind, .int .u32 r.ten, .int .u64 r.ep, .int .u64 r.ob, .int .u64 r.sq, sb r.body]
/-- It is a value of the program's. -/
structure RecOK (r:Rec):Prop where
  kind:r.kind<18446744073709551616
  ten:r.ten<4294967296
  ep:r.ep<18446744073709551616
  ob:r.ob<18446744073709551616
  sq:r.sq<18446744073709551616
  body:r.body.length≤2000
/-- It may be. -/
structure RecMay (r:Rec):Prop where
  k1:1≤r.kind
  k2:r.kind≤4
  ten:r.ten<4294967296
  ep:r.ep≤1099511627776
  ob:r.ob≤1099511627776
  sq:r.sq≤1099511627776
  body:r.body.length≤1000
theorem RecMay.ok {r:Rec} (H:RecMay r):RecOK r := ⟨by have := H.k2; omega, H.ten, by have := H.ep; omega, by have := H.ob; omega, by have := H.sq; omega, by have := H.body; omega⟩
theorem same_str (a c:Nat) (κ:R):Bl (.str a c) (.str a c) κ=κ := by
  show br (Db a c a c) κ (.fail "")=_
  rw [show Db a c a c=true from by unfold Db; rw [Cb, Cb, decide_eq_true rfl, decide_eq_true rfl]; rfl]; rfl
def mx3 (a b c:Nat):Nat := if a<b then (if b<c then c else b) else (if a<c then c else a)
theorem mx3_le {a b c m:Nat}:mx3 a b c≤m ↔ a≤m∧b≤m∧c≤m := by
  unfold mx3
  split <;> split <;> omega
theorem q_max3 {a b c:Nat} (ha:a<18446744073709551616) (hb:b<18446744073709551616) (hc:c<18446744073709551616) (κ:V->R):QT (.int .u64 a) (.int .u64 b) (.int .u64 c) κ=κ (.int .u64 (mx3 a b c)) := by
  show br (AZ .u64 .u64) (br (AZ .u64 .u64) (br (DO .u64 a b) (br (DO .u64 b c) (κ (.int .u64 c)) (κ (.int .u64 b))) (br (DO .u64 a c) (κ (.int .u64 c)) (κ (.int .u64 a)))) (.fail "")) (.fail "")=_
  rw [AA.2 rfl, Ac, Ac, Q8 ha hb, Q8 hb hc, Q8 ha hc]
  unfold mx3
  by_cases h1:a<b <;> by_cases h2:b<c <;> by_cases h3:a<c <;> simp only [h1,h2,h3,decide_true,decide_false,Ac,Ai,if_true,if_false,if_pos,if_neg,not_false_eq_true]
theorem lnS_sb {l:List UInt8} (h:l.length≤2000) (κ:V->R):GY (sb l) κ=κ (.int .i64 l.length) := V4 l (by omega) κ
theorem may_yes {m:Nat} {r:Rec} {h:Heap} {n:K4} (H:RecMay r) (hn:n.toN<65000):Al tab (m+1) ⟨.d0, .d4, .d3⟩ [.agg (rcs r)] h n = .rv (.bool true) (Ae n h (some (.c (.l (rcs r)) false none))) n.up := by
  have e0 := @mx3_le r.ep r.ob r.sq 1099511627776
  have e1 := e0.2 ⟨H.ep, H.ob, H.sq⟩
  have e2 := H.k1
  have e3 := H.k2
  have e4 := H.body
  have e5 := fun κ => q_max3 (a := r.ep) (b := r.ob) (c := r.sq) (by have := H.ep; omega) (by have := H.ob; omega) (by have := H.sq; omega) κ
  have e6 := fun κ => lnS_sb (l := r.body) (by omega) κ
  rw [call2_at, show B5 ⟨.d0, .d4, .d3⟩ tab=some x67 from rfl, x67]
  unfold rcs
  simp (config := {maxSteps := 3000000}) (disch := omega) only [qa,g0,g1,g2,g3,g4,g5,g6,g7,g8,g9,Bt,Bp,Bo,BC,BE,By,BF,g17,Bx,Bv,w0,w1,w2,w3,w4,w5,w6,w7,w8,w9,Bn,Bm,Br,BG,Bz,BB,BA,BD,Bw,Bu,Mk,Nat.reduceAdd,Nat.reduceSub,Nat.reduceMul,Nat.reduceMod,Nat.reduceDiv,Q0,U,en3,e5,e6,CI,CC,Ct,Cq,BO,BI]
theorem may_no {m:Nat} {r:Rec} {h:Heap} {n:K4} (O:RecOK r) (H:¬ RecMay r) (hn:n.toN<65000):Al tab (m+1) ⟨.d0, .d4, .d3⟩ [.agg (rcs r)] h n = .rv (.bool false) (Ae n h (some (.c (.l (rcs r)) false none))) n.up := by
  have e0 := @mx3_le r.ep r.ob r.sq 1099511627776
  have e5 := fun κ => q_max3 (a := r.ep) (b := r.ob) (c := r.sq) O.ep O.ob O.sq κ
  have e6 := fun κ => lnS_sb (l := r.body) O.body κ
  have e7 := O.kind
  have e8 := O.body
  have e9:mx3 r.ep r.ob r.sq<18446744073709551616 := by have := O.ep; have := O.ob; have := O.sq; unfold mx3; split <;> split <;> omega
  rw [call2_at, show B5 ⟨.d0, .d4, .d3⟩ tab=some x67 from rfl, x67]
  unfold rcs
  by_cases k1:r.kind<1
  · simp (config := {maxSteps := 3000000}) (disch := omega) only [qa,g0,g1,g2,g3,g4,g5,g6,g7,g8,g9,Bt,Bp,Bo,BC,BE,By,BF,g17,Bx,Bv,w0,w1,w2,w3,w4,w5,w6,w7,w8,w9,Bn,Bm,Br,BG,Bz,BB,BA,BD,Bw,Bu,Mk,Nat.reduceAdd,Nat.reduceSub,Nat.reduceMul,Nat.reduceMod,Nat.reduceDiv,Q0,U,en3,e5,e6,CI,CC,Ct,Cq,BO,BI]
  by_cases k0:9223372036854775808≤r.kind
  · simp (config := {maxSteps := 3000000}) (disch := omega) only [qa,g0,g1,g2,g3,g4,g5,g6,g7,g8,g9,Bt,Bp,Bo,BC,BE,By,BF,g17,Bx,Bv,w0,w1,w2,w3,w4,w5,w6,w7,w8,w9,Bn,Bm,Br,BG,Bz,BB,BA,BD,Bw,Bu,Mk,Nat.reduceAdd,Nat.reduceSub,Nat.reduceMul,Nat.reduceMod,Nat.reduceDiv,Q0,U,en3,e5,e6,CI,CC,Ct,Cq,BO,BI]
  by_cases k2:4<r.kind
  · simp (config := {maxSteps := 3000000}) (disch := omega) only [qa,g0,g1,g2,g3,g4,g5,g6,g7,g8,g9,Bt,Bp,Bo,BC,BE,By,BF,g17,Bx,Bv,w0,w1,w2,w3,w4,w5,w6,w7,w8,w9,Bn,Bm,Br,BG,Bz,BB,BA,BD,Bw,Bu,Mk,Nat.reduceAdd,Nat.reduceSub,Nat.reduceMul,Nat.reduceMod,Nat.reduceDiv,Q0,U,en3,e5,e6,CI,CC,Ct,Cq,BO,BI]
  by_cases k3:1099511627776<mx3 r.ep r.ob r.sq
  · simp (config := {maxSteps := 3000000}) (disch := omega) only [qa,g0,g1,g2,g3,g4,g5,g6,g7,g8,g9,Bt,Bp,Bo,BC,BE,By,BF,g17,Bx,Bv,w0,w1,w2,w3,w4,w5,w6,w7,w8,w9,Bn,Bm,Br,BG,Bz,BB,BA,BD,Bw,Bu,Mk,Nat.reduceAdd,Nat.reduceSub,Nat.reduceMul,Nat.reduceMod,Nat.reduceDiv,Q0,U,en3,e5,e6,CI,CC,Ct,Cq,BO,BI]
  have k4:1000<r.body.length := by
    rcases Nat.lt_or_ge 1000 r.body.length with h | h
    · exact h
    · have := e0.1 (by omega)
      exact absurd ⟨by omega, by omega, O.ten, this.1, this.2.1, this.2.2, h⟩ H
  simp (config := {maxSteps := 3000000}) (disch := omega) only [qa,g0,g1,g2,g3,g4,g5,g6,g7,g8,g9,Bt,Bp,Bo,BC,BE,By,BF,g17,Bx,Bv,w0,w1,w2,w3,w4,w5,w6,w7,w8,w9,Bn,Bm,Br,BG,Bz,BB,BA,BD,Bw,Bu,Mk,Nat.reduceAdd,Nat.reduceSub,Nat.reduceMul,Nat.reduceMod,Nat.reduceDiv,Q0,U,en3,e5,e6,CI,CC,Ct,Cq,BO,BI]
noncomputable def encLB (c:Fz):S->Heap->K4->R := fun t h n=>g6 t fun zw=>g5 t fun zx=>Ba zw zx fun zy=>BM zy (Ao 1 (g4 t fun zz=>AY 1 zz zw fun z10=>Au z10 h fun z11=>g3 t fun z12=>Ag (c ⟨.d0,.d4,.d4⟩ [z11,(iI 8)] h n) fun z13 h n=>C3 1 1 z12 z13 h n fun z14 h n=>w3 t z14 fun t=>nR t h n) fun t h n=>g6 t fun z15=>AM z15 (iI 1) fun z16=>w6 t z16 fun t=>nR t h n)<|.ok (.exit 0) t h n
noncomputable def x42L:Ent := .code en3 (fun c t h n=>g0 t fun z1=>Fl z1 h n fun z2 h n=>CK 6 z2 h fun z3=>Ag (c ⟨.d0,.d4,.d3⟩ [z3] h n) fun z4 h n=>EN z4 fun z5=>BM z5 (w1 t z2 fun t=>w2 t (.nil .sl) fun t=>rT t h n)<|AF 0 (iB 83) [(iB 0),(iB 0)] fun z6=>AF 1 (iB 82) z6 fun z7=>Cp true 2 1 z7 h n fun z8 h n=>JC z8 h fun z9=>Ak 0 z2 fun za=>Au za h fun zb=>B2 .u8 zb fun zc=>AF 0 zc [(iB 0)] fun zd=>Cp true 1 1 zd h n fun ze h n=>C3 1 1 z9 ze h n fun zf h n=>Ak 1 z2 fun zg=>Au zg h fun zh=>B2 .u64 zh fun zi=>Ag (c ⟨.d0,.d4,.d4⟩ [zi,(iI 4)] h n) fun zj h n=>C3 1 1 zf zj h n fun zk h n=>Ak 2 z2 fun zl=>Au zl h fun zm=>Ak 3 z2 fun zn=>Au zn h fun zo=>Ak 4 z2 fun zp=>Au zp h fun zq=>AF 0 zm [(iL 0),(iL 0),(iL 0)] fun zr=>AF 1 zo zr fun zs=>AF 2 zq zs fun zt=>Cp false 3 1 zt h n fun zu h n=>AJ zu fun zv=>Ao 0 (w1 t z2 fun t=>w2 t (.nil .sl) fun t=>w3 t zk fun t=>w4 t zu fun t=>w5 t zv fun t=>w6 t (iI 0) fun t=>C0 (encLB c) t h n) fun t h n=>g3 t fun z17=>g1 t fun z18=>Ak 5 z18 fun z19=>Au z19 h fun z1a=>GY z1a fun z1b=>B2 .u64 z1b fun z1c=>Ag (c ⟨.d0,.d4,.d4⟩ [z1c,(iI 4)] h n) fun z1d h n=>C3 1 1 z17 z1d h n fun z1e h n=>Mo n fun b n=>U1 b .d0 h<|mV z1e fun z1f=>AE (Ak 5 z18 AD) fun z1g=>AE (Au z1g h AD) fun z1h=>DY (Ag (c ⟨.d0,.d4,.d6⟩ [z1f] h n) .rv) fun z1i h n=>U1 b .d0 h<|alX b .d0 h (fun r=>Nd z1h h r .rv) fun z1j h1=>AE (Au z1g h AD) fun v=>Bl z1h v<|DY (Ag (c ⟨.d0,.d4,.d5⟩ [z1i,z1j] h1 n) .rv) fun z1k h n=>mV z1k fun z1l=>mV z1e fun z1m=>mV z1l fun z1n=>AE (B2 .u64 z1n AD) fun z1o=>AE (Ak 5 z18 AD) fun z1p=>AE (Au z1p h AD) fun z1q=>DY (Ag (c ⟨.d0,.d4,.d4⟩ [z1o,(iI 4)] h n) .rv) fun z1r h n=>AE (Au z1p h AD) fun v=>Bl z1q v<|DY (C3 1 1 z1m z1r h n .rv) fun z1s h n=>AE (Au z1p h AD) fun v=>Bl z1q v<|DY (C3 1 1 z1s z1q h n .rv) fun z1t h n=>mV z1t fun z1u=>w2 t z1u fun t=>w3 t z1e fun t=>rT t h n) (fun t h n=>g2 t fun a0=>.rv a0 h n)
theorem x42_L:x42=x42L := rfl
theorem same_sb (l:List UInt8) (κ:R):Bl (sb l) (sb l) κ=κ := same_str _ _ κ
theorem enc_round {m:Nat} {A:K4->Prop} {n p:K4} {h:Heap} {c d0 d1 d2 d7:V} {l:List UInt8} {xs:List V} {i x:Nat} (H:ES A n h c l) (hA:∀ q:K4, n.toN≤q.toN->A q) (hp:A9 p h=some (.c (.l xs) false none)) (hi:i<3) (hx:∀ κ:V->R, DN i xs κ=κ (.int .u64 x)) (hx2:x<18446744073709551616) (hl:l.length≤1000) (hn:n.toN<62000) :
    ∃ c' h' n', encLB (Al tab (m+1)) (.mk (.mk d0 d1 d2 c) (.mk (.sl p 0 3 3 true 1) (.int .i64 3) (.int .i64 i) d7) Q0 Q0 Q0 Q0 Q0 Q0) h n = .ok .nrm (.mk (.mk d0 d1 d2 c') (.mk (.sl p 0 3 3 true 1) (.int .i64 3) (.int .i64 (i+1)) d7) Q0 Q0 Q0 Q0 Q0 Q0) h' n' ∧
      ES A n' h' c' (l++putL x 8)∧n.toN≤n'.toN∧n'.toN≤n.toN+17∧(∀ q:K4, ¬ A q->q.toN<n.toN->A9 q h'=A9 q h)∧(Ay h n->Ay h' n') := by
  obtain ⟨c1, h1, n1, e1, o1, a1, b1, f1, r1⟩ := put_ok (m := m) (v := x) (k := 8) (n := n) (h := h) hx2 (by omega) (by omega) (by omega)
  obtain ⟨c2, h2, n2, e2, o2, a2, b2, f2, r2⟩ := Kr (H.frame a1 fun q _ hq => f1 q hq) (fun q hq => hA q (by omega)) o1.src (by rw [putL_len]; omega) (by omega)
  refine ⟨c2, h2, n2, ?_, o2, by omega, by omega, fun q hq hq2 => (f2 q hq).trans (f1 q hq2), fun hf => r2 (r1 hf)⟩
  unfold encLB
  simp (config := {maxSteps := 3000000}) (disch := omega) only [qa,g0,g1,g2,g3,g4,g5,g6,g7,g8,g9,Bt,Bp,Bo,BC,BE,By,BF,g17,Bx,Bv,w0,w1,w2,w3,w4,w5,w6,w7,w8,w9,Bn,Bm,Br,BG,Bz,BB,BA,BD,Bw,Bu,Mk,Nat.reduceAdd,Nat.reduceSub,Nat.reduceMul,Nat.reduceMod,Nat.reduceDiv,Q0,U,hp,hx,e1,e2,Nat.add_zero,Nat.mul_one]
/-- A record's bytes. -/
noncomputable def encH (r:Rec):List UInt8 := [83, 82]++[UInt8.ofNat r.kind]++putL r.ten 4++putL r.ep 8++putL r.ob 8++putL r.sq 8++putL r.body.length 4
noncomputable def encR (r:Rec):List UInt8 := encH r++putL (crcM (crcM 0 (encH r)) r.body) 4++r.body
theorem encH_len (r:Rec):(encH r).length=35 := by unfold encH; simp only [List.length_append,putL_len,List.length_cons,List.length_nil]
theorem encR_len (r:Rec):(encR r).length=39+r.body.length := by unfold encR; simp only [List.length_append,putL_len,encH_len]
theorem enc_ok {m:Nat} {r:Rec} {h:Heap} {n:K4} (H:RecMay r) (hfr:Ay h n) (hn:n.toN<60000) :
    ∃ c' h' n', Al tab (m+3) ⟨.d0, .d2, .d10⟩ [.agg (rcs r)] h n = .rv c' h' n'∧Fx n.toN n' h' c' (encR r)∧n.toN≤n'.toN∧n'.toN≤n.toN+150∧(∀ q:K4, q.toN<n.toN->A9 q h'=A9 q h)∧Ay h' n' := by
  have z1 := H.k1
  have z2 := H.k2
  have z3 := H.ten
  have z4 := H.ep
  have z5 := H.ob
  have z6 := H.sq
  have z7 := H.body
  have u1 := K4.up_toN (p := n) (by omega)
  have u2 := K4.up_toN (p := n.up) (by omega)
  have u3 := K4.up_toN (p := n.up.up) (by omega)
  have u4 := K4.up_toN (p := n.up.up.up) (by omega)
  -- its box, May, the mark, the kind
  have em := may_yes (m := m+1) (r := r) (h := Ae n h (some (.c (.l (rcs r)) false none))) (n := n.up) H (by omega)
  let h0 := Ae n.up (Ae n h (some (.c (.l (rcs r)) false none))) (some (.c (.l (rcs r)) false none))
  let h1 := Ae n.up.up h0 (some (.c (cb [83, 82]) false none))
  let h2 := Ae n.up.up.up h1 (some (.c (cb [UInt8.ofNat r.kind]) false none))
  have f2:∀ q:K4, q.toN<n.up.up.toN->A9 q h2=A9 q h0 := fun q hq => (As (by omega) _ _).trans (As (by omega) _ _)
  have r2:Ay h2 n.up.up.up.up := fun q hq => (AG (by omega) _ _).trans ((AG (by omega) _ _).trans ((AG (by omega) _ _).trans ((AG (by omega) _ _).trans (hfr q (by omega)))))
  have o2:Fx n.up.up.toN n.up.up.up.up h2 (.sl n.up.up 0 2 2 true 1) [83, 82] := .inr ⟨n.up.up, true, none, rfl, (As (by omega) _ _).trans (A6 _ _ _), by omega, by omega, .inl rfl⟩
  have s2:FD (.sl n.up.up.up 0 1 1 true 1) [UInt8.ofNat r.kind] h2 := .inr (.inr ⟨n.up.up.up, 0, 1, true, _, false, none, rfl, A6 _ _ _, by simp, by simp⟩)
  obtain ⟨c3, h3, n3, e3, o3, a3, b3, f3, r3⟩ := LG o2 s2 (by omega) (by simp) (by omega)
  -- the tenant
  obtain ⟨c4, h4, n4, e4, o4, a4, b4, f4, r4⟩ := put_ok (m := m+1) (v := r.ten) (k := 4) (n := n3) (h := h3) (by omega) (by omega) (by omega) (by omega)
  obtain ⟨c5, h5, n5, e5, o5, a5, b5, f5, r5⟩ := LG (o3.frame (by omega) fun q _ hq => f4 q hq) o4.src (by omega) (by rw [putL_len]; simp) (by omega)
  -- three numbers
  have u5 := K4.up_toN (p := n5) (by omega)
  let h6 := Ae n5 h5 (some (.c (.l [.int .u64 r.ep, .int .u64 r.ob, .int .u64 r.sq]) false none))
  let A:K4->Prop := fun q => n.up.up.toN≤q.toN∧q.toN≠n5.toN
  have o6:ES A n5.up h6 c5 _ := (o5.toA (A := A) fun q h1 h2 => ⟨h1, by omega⟩).frame (by omega) fun q _ hq => As hq _ _
  have p6:A9 n5 h6=some (.c (.l [.int .u64 r.ep, .int .u64 r.ob, .int .u64 r.sq]) false none) := A6 _ _ _
  have nA:¬ A n5 := fun h => h.2 rfl
  have l3:∀ q:K4, q.toN<n.up.up.toN->¬ A q := fun q hq h => by have := h.1; omega
  obtain ⟨c7, h7, n7, e7, o7, a7, b7, f7, r7⟩ := enc_round (m := m+1) (d0 := .agg (rcs r)) (d1 := .ptr n 0) (d2 := .nil .sl) (d7 := B4) (i := 0) (x := r.ep) o6 (fun q hq => ⟨by omega, by omega⟩) p6 (by omega) (fun κ => rfl) (by omega) (by simp only [List.length_append,putL_len,List.length_cons,List.length_nil]; omega) (by omega)
  obtain ⟨c8, h8, n8, e8, o8, a8, b8, f8, r8⟩ := enc_round (m := m+1) (d0 := .agg (rcs r)) (d1 := .ptr n 0) (d2 := .nil .sl) (d7 := B4) (i := 1) (x := r.ob) o7 (fun q hq => ⟨by omega, by omega⟩) ((f7 n5 nA (by omega)).trans p6) (by omega) (fun κ => rfl) (by omega) (by simp only [List.length_append,putL_len,List.length_cons,List.length_nil]; omega) (by omega)
  obtain ⟨c9, h9, n9, e9, o9, a9, b9, f9, r9⟩ := enc_round (m := m+1) (d0 := .agg (rcs r)) (d1 := .ptr n 0) (d2 := .nil .sl) (d7 := B4) (i := 2) (x := r.sq) o8 (fun q hq => ⟨by omega, by omega⟩) ((f8 n5 nA (by omega)).trans ((f7 n5 nA (by omega)).trans p6)) (by omega) (fun κ => rfl) (by omega) (by simp only [List.length_append,putL_len,List.length_cons,List.length_nil]; omega) (by omega)
  -- the body's length
  obtain ⟨ca, ha, na, ea, oa, aa, ba, fa, ra⟩ := put_ok (m := m+1) (v := r.body.length) (k := 4) (n := n9) (h := h9) (by omega) (by omega) (by omega) (by omega)
  obtain ⟨cb', hb, nb, eb, ob, ab, bb, fb, rb⟩ := Kr (o9.frame (by omega) fun q _ hq => fa q hq) (fun q hq => ⟨by omega, by omega⟩) oa.src (by simp only [List.length_append,putL_len,List.length_cons,List.length_nil]; omega) (by omega)
  have ob':ES A nb hb cb' (encH r) := ob
  have rbb:Ay hb nb := rb (ra (r9 (r8 (r7 (fun q hq => (AG (by omega) _ _).trans (r5 (r4 (r3 r2)) q (by omega)))))))
  have gb:∀ q:K4, q.toN<n.up.up.toN->A9 q hb=A9 q h0 := fun q hq => (fb q (l3 q hq)).trans ((fa q (by omega)).trans ((f9 q (l3 q hq) (by omega)).trans ((f8 q (l3 q hq) (by omega)).trans ((f7 q (l3 q hq) (by omega)).trans ((As (by omega) _ _).trans ((f5 q (by omega)).trans ((f4 q (by omega)).trans ((f3 q (by omega)).trans (f2 q hq)))))))))
  have v1 := K4.up16_toN (p := nb) (by omega)
  have v2 := K4.up16_toN (p := nb.up16) (by omega)
  have v3 := K4.pl_toN (p := nb) (by omega) .d0
  have d0:D.d0.toN=0 := rfl
  rw [d0] at v3
  let rp := nb.up16.pl .d0
  let nc := nb.up16.up16
  have ww1:rp.toN=(nb.toN / 16+1)*16+0 := v3
  have ww2:nc.toN=_ := v2
  let hc := Ae rp hb (some (.c (cb r.body) false none))
  have oc:ES A nc hc cb' (encH r) := ob'.frame (by omega) fun q _ hq => As (by omega) _ _
  have rc:Ay hc nc := fun q hq => (AG (by omega) _ _).trans (rbb q (by omega))
  have sc:FD (.sl rp 0 r.body.length r.body.length false 1) r.body hc := .inr (.inr ⟨rp, 0, _, false, _, false, none, rfl, A6 _ _ _, by omega, by rw [List.drop_zero, List.take_length]⟩)
  have k1 := crcM_lt (s := crcM 0 (encH r)) (l := r.body) (crcM_lt (by omega))
  obtain ⟨cd, hd, nd, ed, od, ad, bd, fd, rd⟩ := put_ok (m := m+1) (v := crcM (crcM 0 (encH r)) r.body) (k := 4) (n := nc) (h := hc) (by omega) (by omega) (by omega) (by omega)
  obtain ⟨ce, he, ne, ee, oe, ae, be, fe, re⟩ := Kr (oc.frame ad fun q _ hq => fd q hq) (fun q hq => ⟨by omega, by omega⟩) od.src (by rw [encH_len, putL_len]; omega) (by omega)
  obtain ⟨cf, hf, nf, ef, of, af, bf, ff, rf⟩ := WQ (b := r.body) oe (fun q hq => ⟨by omega, by omega⟩) (by rw [List.length_append, encH_len, putL_len]; omega) (by omega)
  have gf:∀ q:K4, q.toN<n.up.up.toN->A9 q hf=A9 q h0 := fun q hq => (ff q (l3 q hq)).trans ((fe q (l3 q hq)).trans ((fd q (by omega)).trans ((As (by omega) _ _).trans (gb q hq))))
  refine ⟨cf, hf, nf, ?_, of.toP (fun q hq => by have := hq.1; omega), by omega, by omega, fun q hq => (gf q (by omega)).trans ((As (by omega) _ _).trans (As (by omega) _ _)), rf (re (rd rc))⟩
  have es := sum_src (m := m) (n := nc) ob'.src (by rw [encH_len]; omega)
  have emr := more_src (m := m+1) (n := nc) (s := crcM 0 (encH r)) sc (by omega) (crcM_lt (by omega))
  have eq0:∀ {h':Heap}, (∀ q:K4, q.toN<n.up.up.toN->A9 q h'=A9 q h0)->A9 n h'=some (.c (.l [.int .i64 r.kind, .int .u32 r.ten, .int .u64 r.ep, .int .u64 r.ob, .int .u64 r.sq, sb r.body]) false none) := fun {h'} e => (e n (by omega)).trans ((As (by omega) _ _).trans (A6 _ _ _))
  have x1 := eq0 f2
  have x3 := eq0 (h' := h3) fun q hq => (f3 q (by omega)).trans (f2 q hq)
  have x5 := eq0 (h' := h5) fun q hq => (f5 q (by omega)).trans ((f4 q (by omega)).trans ((f3 q (by omega)).trans (f2 q hq)))
  have x9 := eq0 (h' := h9) fun q hq => (f9 q (l3 q hq) (by omega)).trans ((f8 q (l3 q hq) (by omega)).trans ((f7 q (l3 q hq) (by omega)).trans ((As (by omega) _ _).trans ((f5 q (by omega)).trans ((f4 q (by omega)).trans ((f3 q (by omega)).trans (f2 q hq)))))))
  have xb := eq0 (h' := hb) gb
  have x1b := eq0 (h' := h1) fun q hq => As (by omega) _ _
  have xc := eq0 (h' := hc) fun q hq => (As (by omega) _ _).trans (gb q hq)
  have xd := eq0 (h' := hd) fun q hq => (fd q (by omega)).trans ((As (by omega) _ _).trans (gb q hq))
  have xe := eq0 (h' := he) fun q hq => (fe q (l3 q hq)).trans ((fd q (by omega)).trans ((As (by omega) _ _).trans (gb q hq)))
  have em':Al tab (m+2) ⟨.d0, .d4, .d3⟩ [.agg [.int .i64 r.kind, .int .u32 r.ten, .int .u64 r.ep, .int .u64 r.ob, .int .u64 r.sq, sb r.body]] (Ae n h (some (.c (.l [.int .i64 r.kind, .int .u32 r.ten, .int .u64 r.ep, .int .u64 r.ob, .int .u64 r.sq, sb r.body]) false none))) n.up = .rv (.bool true) h0 n.up.up := em
  have y1:∀ κ, Cp true 2 1 [.int .u8 83, .int .u8 82] h0 n.up.up κ=κ (.sl n.up.up 0 2 2 true 1) h1 n.up.up.up := fun κ => Abq (by omega) (by omega) (by omega) _ κ
  have y1k:∀ κ, JC (.sl n.up.up 0 2 2 true 1) h1 κ=κ (.sl n.up.up 0 2 2 true 1) := fun κ => YE (A6 _ _ _) κ
  have y2:∀ κ, Cp true 1 1 [.int .u8 r.kind] h1 n.up.up.up κ=κ (.sl n.up.up.up 0 1 1 true 1) h2 n.up.up.up.up := fun κ => Ya (by omega) (by omega) _ κ
  have y5:∀ κ, Cp false 3 1 [.int .u64 r.ep, .int .u64 r.ob, .int .u64 r.sq] h5 n5 κ=κ (.sl n5 0 3 3 true 1) h6 n5.up := fun κ => Qx (by omega) _ _ _ _ κ
  have yk:∀ κ, B2 .u8 (.int .i64 r.kind) κ=κ (.int .u8 r.kind) := fun κ => by
    rw [H3 (k := .u8) (j := .i64) (show r.kind<9223372036854775808 by omega), show r.kind % Mk .u8=r.kind from Nat.mod_eq_of_lt (show r.kind<256 by omega)]
  have yf:A9 (nb.up16.pl .d0) hb=none := rbb _ (by show nb.toN≤rp.toN; omega)
  have ys:∀ κ, Nd (sb r.body) hb (nb.up16.pl .d0) κ=κ (.sl rp 0 r.body.length r.body.length false 1) hc rp.up := fun κ => Zt _ _ (by show rp.toN<_; omega) κ
  have es':Al tab (m+2) ⟨.d0, .d4, .d6⟩ [cb'] hb nb.up16.up16=_ := es
  have emr':Al tab (m+2) ⟨.d0, .d4, .d5⟩ [.int .u32 (crcM 0 (encH r)), .sl rp 0 r.body.length r.body.length false 1] hc nb.up16.up16 = .rv (.int .u32 (crcM (crcM 0 (encH r)) r.body)) hc nb.up16.up16 := emr
  have ed':Al tab (m+2) ⟨.d0, .d4, .d4⟩ [.int .u64 (crcM (crcM 0 (encH r)) r.body), .int .i64 4] hc nb.up16.up16 = .rv cd hd nd := ed
  have eL:C0 (encLB (Al tab (m+2))) (.mk (.mk (.agg [.int .i64 r.kind, .int .u32 r.ten, .int .u64 r.ep, .int .u64 r.ob, .int .u64 r.sq, sb r.body]) (.ptr n 0) (.nil .sl) c5) (.mk (.sl n5 0 3 3 true 1) (.int .i64 3) (.int .i64 0) B4) Q0 Q0 Q0 Q0 Q0 Q0) (Ae n5 h5 (some (.c (.l [.int .u64 r.ep, .int .u64 r.ob, .int .u64 r.sq]) false none))) n5.up = .ok (.exit 0) (.mk (.mk (.agg [.int .i64 r.kind, .int .u32 r.ten, .int .u64 r.ep, .int .u64 r.ob, .int .u64 r.sq, sb r.body]) (.ptr n 0) (.nil .sl) c9) (.mk (.sl n5 0 3 3 true 1) (.int .i64 3) (.int .i64 3) B4) Q0 Q0 Q0 Q0 Q0 Q0) h9 n9 := by
    rw [CH]
    refine (congrArg (fun x => L7 x _) e7).trans ?_
    rw [Gq, show 999999999=999999998+1 from rfl, Dh]
    refine (congrArg (fun x => L7 x _) e8).trans ?_
    rw [Gq, show 999999998=999999997+1 from rfl, Dh]
    refine (congrArg (fun x => L7 x _) e9).trans ?_
    rw [Gq, show 999999997=999999996+1 from rfl, Dh]
    unfold encLB
    simp (disch := omega) only [qa,g0,g1,g2,g3,g4,g5,g6,g7,g8,g9,Bt,Bp,Bo,BC,BE,By,BF,g17,Bx,Bv,w0,w1,w2,w3,w4,w5,w6,w7,w8,w9,Bn,Bm,Br,BG,Bz,BB,BA,BD,Bw,Bu,Mk,Nat.reduceAdd,Nat.reduceSub,Nat.reduceMul,Nat.reduceMod,Nat.reduceDiv,Q0,U]
    rfl
  have eln := fun κ => lnS_sb (l := r.body) (by omega) κ
  rw [call2_at, show B5 ⟨.d0, .d2, .d10⟩ tab=some x42 from rfl, x42_L, x42L]
  show Kf _ _ [.agg [.int .i64 r.kind, .int .u32 r.ten, .int .u64 r.ep, .int .u64 r.ob, .int .u64 r.sq, sb r.body]] h n=_
  rw [show m+1+1=m+2 from rfl] at *
  simp only [Q0,U] at eL
  simp (disch := omega) only [qa,g0,g1,g2,g3,g4,g5,g6,g7,g8,g9,Bt,Bp,Bo,BC,BE,By,BF,g17,Bx,Bv,w0,w1,w2,w3,w4,w5,w6,w7,w8,w9,Bn,Bm,Br,BG,Bz,BB,BA,BD,Bw,Bu,Mk,Nat.reduceAdd,Nat.reduceSub,Nat.reduceMul,Nat.reduceMod,Nat.reduceDiv,Q0,U] at e3
  simp (config := {maxSteps := 3000000}) (disch := omega) only [qa,g0,g1,g2,g3,g4,g5,g6,g7,g8,g9,Bt,Bp,Bo,BC,BE,By,BF,g17,Bx,Bv,w0,w1,w2,w3,w4,w5,w6,w7,w8,w9,Bn,Bm,Br,BG,Bz,BB,BA,BD,Bw,Bu,Mk,Nat.reduceAdd,Nat.reduceSub,Nat.reduceMul,Nat.reduceMod,Nat.reduceDiv,Q0,U,en3,EW,em',y1,y1k,y2,y5,yk,x1b,x3,x5,x9,xb,xc,xd,xe,e3,e4,e5,ea,eb,eL,eln,yf,ys,es',emr',ed',ee,ef,same_sb,QN,cvi_32,cvi_64,emr,ed]
theorem size_none {m:Nat} {f d:K4} {h:Heap} {n:K4} {a c room rd calls fl:Nat} {lw w:V} (hf:A9 f h=some (.c (.l (fsC room rd calls fl (.map d) lw w)) false none)) (hd:A9 d h=some (.m [] [] 0)) :
    Al tab (m+1) ⟨.d0, .d2, .d7⟩ [.ptr f 0, .str a c] h n = .rv (.int .i64 18446744073709551615) h n := by
  rw [call2_at, show B5 ⟨.d0, .d2, .d7⟩ tab=some x39 from rfl, x39]
  simp (disch := omega) only [qa,g0,g1,g2,g3,g4,g5,g6,g7,g8,g9,Bt,Bp,Bo,BC,BE,By,BF,g17,Bx,Bv,w0,w1,w2,w3,w4,w5,w6,w7,w8,w9,Bn,Bm,Br,BG,Bz,BB,BA,BD,Bw,Bu,Mk,Nat.reduceAdd,Nat.reduceSub,Nat.reduceMul,Nat.reduceMod,Nat.reduceDiv,Q0,U,en1,hf,hd]
/-- A segment's record. -/
abbrev sgC (f:K4) (a c id size:Nat) (w:Bool):List V := [.ptr f 0, .str a c, .int .u32 id, .int .i64 size, .bool w]
/-- A disk with one file, and a segment on it. -/
structure GS (h:Heap) (n f d x dm pc sp:K4) (room rd calls fl a c b k:Nat) (cv sv lw w:V) (id:Nat) (bs:List UInt8) (wh:Bool):Prop where
  hf:A9 f h=some (.c (.l (fsC room rd calls fl (.map d) lw w)) false none)
  hd:A9 d h=some (.m [(.str a c, .ptr x 0)] [b] k)
  hb:b<k
  hx:A9 x h=some (.c (.l [cv, sv, .map dm]) false none)
  hm:∃ es ds dk, A9 dm h=some (.m es ds dk)∧IK es
  own:OU pc h cv bs
  hs:A9 sp h=some (.c (.l (sgC f a c id bs.length wh)) false none)
  fr:Ay h n
  nd:[f, d, x, dm, pc, sp].Pairwise (· ≠ ·)
  lt:∀ q∈[f, d, x, dm, pc, sp], q.toN<n.toN
theorem gcreate_ok {m id num:Nat} {f d:K4} {h:Heap} {n:K4} {room rd calls:Nat} {l0:V} (hid:id<4294967296) (hnum:num≤9)
    (hf:A9 f h=some (.c (.l (fsC room rd calls 18446744073709551615 (.map d) l0 (.nil .sl))) false none)) (hd:A9 d h=some (.m [] [] 0)) (hfr:Ay h n) (hfn:f.toN<n.toN) (hdf:d.toN<f.toN) (hc:calls<900000) (hn:n.toN<50000) :
    ∃ h' n' x dm pc sp lw, Al tab (m+5) ⟨.d0, .d1, .d1⟩ [.ptr f 0, .int .u32 id, .int .i64 num] h n = .rv (.tup [.ptr sp 0, .int .i64 0]) h' n'∧n.toN≤n'.toN∧n'.toN≤n.toN+80 ∧
      GS h' n' f d x dm pc sp room rd (calls+2) 18446744073709551615 (segN id num).length (Ar (segN id num)) 0 1 (.nil .sl) (.nil .sl) lw (.nil .sl) id [] true := by
  have u1 := K4.up_toN (p := n) (by omega)
  obtain ⟨l1, l2⟩ := nd_lt hid
  have hL := segN_len id num
  obtain ⟨h1, n1, e1, a1, a2, r1, f1⟩ := name_ok (m := m) (id := id) (k := num) (h := h) (n := n) hnum hid (by omega)
  have e1:Al tab (m+4) ⟨.d0, .d1, .d12⟩ [.int .u32 id, .int .i64 num] h n = .rv (.str (segN id num).length (Ar (segN id num))) h1 n1 := e1
  have hS := size_none (m := m+3) (n := n1) (a := (segN id num).length) (c := Ar (segN id num)) ((f1 f hfn).trans hf) ((f1 d (by omega)).trans hd)
  obtain ⟨h2, n2, e2, a3, a4, r2, f2, d2, u2, k2, x2, m2, pw, y2, pw1, pw2, w2'⟩ := create_ok (m := m) (n := n1) (a := (segN id num).length) (c := Ar (segN id num)) (.inl ⟨rfl, rfl⟩) (by omega) (fun h n => may_any (m := m+2) (l := segN id num) (by omega) (by omega) (segN_ok id num hnum)) ((f1 f hfn).trans hf) ((f1 d (by omega)).trans hd) (r1 hfr) (by omega) hdf (by omega)
  obtain ⟨h3, e3, f3, r3, l3, y3⟩ := syncdir_ok (m := m+1) (n := n2) (.inl ⟨rfl, rfl⟩) (by omega) y2 d2 (by omega) hdf (by omega)
  have u3 := K4.up_toN (p := n2) (by omega)
  have u4 := K4.up_toN (p := n2.up) (by omega)
  have u5 := K4.up_toN (p := n2.up.up) (by omega)
  have e0:∀ κ, BH (.str (segN id num).length (Ar (segN id num))) (.str 0 0) κ=κ (.bool false) := fun κ => by
    have e1:BH (sb (segN id num)) (.str 0 0) κ=Ki .eql (sb (segN id num)) (.str 0 0) κ := Kx .eql _ _ _
    refine e1.trans ?_
    show BW (Db (segN id num).length (Ar (segN id num)) 0 0) (fun r => κ (.bool r))=_
    rw [show Db (segN id num).length (Ar (segN id num)) 0 0=false from by unfold Db; rw [Cb, decide_eq_false (by omega)]; rfl]; rfl
  generalize hR:Al tab (m+5) ⟨.d0, .d1, .d1⟩ [.ptr f 0, .int .u32 id, .int .i64 num] h n=R0
  rw [call2_at, show B5 ⟨.d0, .d1, .d1⟩ tab=some x17 from rfl, x17] at hR
  rw [show m+3+1=m+4 from rfl] at hS
  rw [show m+1+3=m+4 from rfl] at e3
  simp (config := {maxSteps := 3000000}) (disch := omega) only [qa,g0,g1,g2,g3,g4,g5,g6,g7,g8,g9,Bt,Bp,Bo,BC,BE,By,BF,g17,Bx,Bv,w0,w1,w2,w3,w4,w5,w6,w7,w8,w9,Bn,Bm,Br,BG,Bz,BB,BA,BD,Bw,Bu,Mk,Nat.reduceAdd,Nat.reduceSub,Nat.reduceMul,Nat.reduceMod,Nat.reduceDiv,Q0,U,en0,e1,e0,hS,e2,e3,CI,CC,Ct,Cq,BO] at hR
  subst hR
  -- a place for no bytes
  refine ⟨_, _, n1.up, n1, n2, n2.up, .map n2, rfl, by omega, by omega, ⟨?_, ?_, by omega, ?_, ⟨[], [], 0, ?_, IK.nil⟩, .inl ⟨rfl, rfl⟩, A6 _ _ _, ?_, ?_, ?_⟩⟩
  · exact (As (by omega) _ _).trans y3
  · exact (As (by omega) _ _).trans ((f3 d (by omega) (K4.ne_of_lt hdf)).trans d2)
  · exact (As (by omega) _ _).trans ((f3 _ (by omega) (K4.ne_of_lt (by omega)).symm).trans x2)
  · exact (As (by omega) _ _).trans ((f3 _ (by omega) (K4.ne_of_lt (by omega)).symm).trans m2)
  · exact fun q hq => (AG (by omega) _ _).trans (r3 r2 q (by omega))
  · simp only [List.pairwise_cons,List.mem_cons,List.not_mem_nil,or_false,forall_eq_or_imp,forall_eq,List.Pairwise.nil,and_true,false_implies,implies_true]
    have lt:∀ {p q:K4}, p.toN<q.toN->p≠q := fun h => K4.ne_of_lt h
    exact ⟨⟨(lt hdf).symm, lt (by omega), lt (by omega), lt (by omega), lt (by omega)⟩, ⟨lt (by omega), lt (by omega), lt (by omega), lt (by omega)⟩, ⟨(lt (by omega)).symm, lt (by omega), lt (by omega)⟩, ⟨lt (by omega), lt (by omega)⟩, lt (by omega)⟩
  · intro q hq
    simp only [List.mem_cons,List.not_mem_nil,or_false] at hq
    rcases hq with rfl | rfl | rfl | rfl | rfl | rfl <;> omega
theorem GS.lts {h:Heap} {n f d x dm pc sp:K4} {room rd calls fl a c b k id:Nat} {cv sv lw w:V} {bs:List UInt8} {wh:Bool} (D:GS h n f d x dm pc sp room rd calls fl a c b k cv sv lw w id bs wh) :
    f.toN<n.toN∧d.toN<n.toN∧x.toN<n.toN∧dm.toN<n.toN∧pc.toN<n.toN∧sp.toN<n.toN := ⟨D.lt f (by simp), D.lt d (by simp), D.lt x (by simp), D.lt dm (by simp), D.lt pc (by simp), D.lt sp (by simp)⟩
/-- The state, where nothing of it was touched. -/
theorem GS.up {h h':Heap} {n n' f d x dm pc sp:K4} {room rd calls fl a c b k id:Nat} {cv sv lw w:V} {bs:List UInt8} {wh:Bool} (D:GS h n f d x dm pc sp room rd calls fl a c b k cv sv lw w id bs wh) (hn:n.toN≤n'.toN) (e:∀ q:K4, q.toN<n.toN->A9 q h'=A9 q h) (hf:Ay h' n'):GS h' n' f d x dm pc sp room rd calls fl a c b k cv sv lw w id bs wh := by
  obtain ⟨lf, ld, lx, lm, lp, ls⟩ := D.lts
  obtain ⟨es, ds, dk, hm, ik⟩ := D.hm
  exact ⟨(e f lf).trans D.hf, (e d ld).trans D.hd, D.hb, (e x lx).trans D.hx, ⟨es, ds, dk, (e dm lm).trans hm, ik⟩, D.own.frame (e pc lp), (e sp ls).trans D.hs, hf, D.nd, fun q hq => Nat.lt_of_lt_of_le (D.lt q hq) hn⟩
theorem loop_3 (body:S->Heap->K4->R) (t:S) (h:Heap) (n:K4):C0 body t h n=L7 (body t h n) fun t h n => L7 (body t h n) fun t h n => L7 (body t h n) (DH body 999999997) := id rfl
theorem mid {X Y Z:List UInt8} {i j:Nat} (hi:X.length=i) (hj:Y.length=j):((X++(Y++Z)).drop i).take j=Y := by
  subst hi hj
  rw [List.drop_left' rfl, List.take_left' rfl]
theorem sub_mid {L B:List UInt8} {off len i j:Nat} (hB:(L.drop off).take len=B) (hij:i+j≤len):(L.drop (off+i)).take j=(B.drop i).take j := by
  rw [←hB, List.drop_take, List.drop_drop, List.take_take, Nat.min_eq_left (by omega)]
theorem ld_cb {L:List UInt8} {o:Nat} {s:Bool} {pr:Option K4} {b:UInt8} {l:List UInt8} (h:(L.drop o).take 1=[b]) (κ:V->R):S2 (some (.c (cb L) s pr)) o κ=κ (.int .u8 b.toNat) := by
  have hl:o<L.length := by
    rcases Nat.lt_or_ge o L.length with h1 | h1
    · exact h1
    · rw [List.drop_eq_nil_of_le h1] at h; cases h
  show br (Nat.ble (Nat.succ o) L.length) (Aa (Ev.lo (sh (Ar L) o) 1) fun r => κ (.int .u8 r)) _=_
  rw [show Nat.ble (Nat.succ o) L.length=true from Ab.2 hl, Ac, A7, Er, h]; rfl
theorem encH_parts (r:Rec) (rest:List UInt8) (H:RecMay r):∃ B, encR r++rest=B∧B.take 1=[83]∧(B.drop 1).take 1=[82]∧(B.drop 2).take 1=[UInt8.ofNat r.kind]∧numL ((B.drop 3).take 4)=r.ten∧numL ((B.drop 7).take 8)=r.ep∧numL ((B.drop 15).take 8)=r.ob∧numL ((B.drop 23).take 8)=r.sq ∧
    numL ((B.drop 31).take 4)=r.body.length∧B.take 35=encH r∧numL ((B.drop 35).take 4)=crcM (crcM 0 (encH r)) r.body∧(B.drop 39).take r.body.length=r.body := by
  have hh := encH_len r
  have k1 := crcM_lt (s := crcM 0 (encH r)) (l := r.body) (crcM_lt (by omega))
  have z3 := H.ten
  have z4 := H.ep
  have z5 := H.ob
  have z6 := H.sq
  have z7 := H.body
  have q1:encR r++rest=[83]++([82]++([UInt8.ofNat r.kind]++(putL r.ten 4++(putL r.ep 8++(putL r.ob 8++(putL r.sq 8++(putL r.body.length 4++(putL (crcM (crcM 0 (encH r)) r.body) 4++(r.body++rest))))))))) := by
    unfold encR
    rw [show encH r=[83, 82]++[UInt8.ofNat r.kind]++putL r.ten 4++putL r.ep 8++putL r.ob 8++putL r.sq 8++putL r.body.length 4 from rfl]
    simp only [List.append_assoc,List.cons_append,List.nil_append]
  refine ⟨_, rfl, ?_, ?_, ?_, ?_, ?_, ?_, ?_, ?_, ?_, ?_, ?_⟩
  · rw [q1]; rfl
  · rw [q1]; rfl
  · rw [q1]; rfl
  · rw [q1, ←List.append_assoc, ←List.append_assoc, mid (by rfl) (putL_len _ _), numL_put (by omega) (by decide)]
  · rw [q1, ←List.append_assoc, ←List.append_assoc, ←List.append_assoc, mid (by simp only [List.length_append,putL_len,List.length_cons,List.length_nil]) (putL_len _ _), numL_put (by omega) (by decide)]
  · rw [q1, ←List.append_assoc, ←List.append_assoc, ←List.append_assoc, ←List.append_assoc, mid (by simp only [List.length_append,putL_len,List.length_cons,List.length_nil]) (putL_len _ _), numL_put (by omega) (by decide)]
  · rw [q1, ←List.append_assoc, ←List.append_assoc, ←List.append_assoc, ←List.append_assoc, ←List.append_assoc, mid (by simp only [List.length_append,putL_len,List.length_cons,List.length_nil]) (putL_len _ _), numL_put (by omega) (by decide)]
  · rw [q1, ←List.append_assoc, ←List.append_assoc, ←List.append_assoc, ←List.append_assoc, ←List.append_assoc, ←List.append_assoc, mid (by simp only [List.length_append,putL_len,List.length_cons,List.length_nil]) (putL_len _ _), numL_put (by omega) (by decide)]
  · rw [show encR r++rest=encH r++(putL (crcM (crcM 0 (encH r)) r.body) 4++r.body++rest) by unfold encR; simp only [List.append_assoc], List.take_left' hh]
  · rw [show encR r++rest=encH r++(putL (crcM (crcM 0 (encH r)) r.body) 4++(r.body++rest)) by unfold encR; simp only [List.append_assoc], mid hh (putL_len _ _), numL_put (by omega) (by decide)]
  · rw [show encR r++rest=(encH r++putL (crcM (crcM 0 (encH r)) r.body) 4)++(r.body++rest) by unfold encR; simp only [List.append_assoc], mid (by rw [List.length_append, hh, putL_len]) rfl]
theorem begins_ok {m:Nat} {h:Heap} {n p:K4} {off len cap k:Nat} {ex:Bool} (hlen:39≤len) (hl2:len≤1000000000)
    (c0:∀ κ:V->R, S2 (A9 p h) off κ=κ (.int .u8 83)) (c1:∀ κ:V->R, S2 (A9 p h) (off+1) κ=κ (.int .u8 82)) (c2:∀ κ:V->R, S2 (A9 p h) (off+2) κ=κ (.int .u8 k)) (k1:1≤k) (k2:k≤4) :
    Al tab (m+1) ⟨.d0, .d5, .d4⟩ [.sl p off len cap ex 1] h n = .rv (.bool true) h n := by
  rw [call2_at, show B5 ⟨.d0, .d5, .d4⟩ tab=some x84 from rfl, x84]
  have i0:∀ κ:V->R, Cn (.str 2 21075) (.int .i64 0) κ=κ (.int .u8 83) := fun κ => by kernel_rfl
  have i1:∀ κ:V->R, Cn (.str 2 21075) (.int .i64 1) κ=κ (.int .u8 82) := fun κ => by kernel_rfl
  simp (config := {maxSteps := 3000000}) (disch := omega) only [qa,g0,g1,g2,g3,g4,g5,g6,g7,g8,g9,Bt,Bp,Bo,BC,BE,By,BF,g17,Bx,Bv,w0,w1,w2,w3,w4,w5,w6,w7,w8,w9,Bn,Bm,Br,BG,Bz,BB,BA,BD,Bw,Bu,Mk,Nat.reduceAdd,Nat.reduceSub,Nat.reduceMul,Nat.reduceMod,Nat.reduceDiv,Q0,U,en3,loop_3,c0,c1,c2,i0,i1,lt_u8,Nat.zero_mul,Nat.add_zero,CI,CC,Ct,Cq,BO,BI,eq_self]
theorem q_iW (a:Nat):iW a = .int .u32 a := rfl
theorem q_iL (a:Nat):iL a = .int .u64 a := rfl
theorem q_iB (a:Nat):iB a = .int .u8 a := rfl
theorem add_sub3 (a b:Nat):a+b - a=b := Nat.add_sub_cancel_left ..
theorem q_celN (p:K4) (o:Nat) (h:Heap) (κ:V->R):Wg 6 (.ptr p o) h κ=Jy (A9 p h) 6 o κ := W8 6 p o h κ
theorem q_st6' {p:K4} {h:Heap} {a0 a1 a2 a3 a4 a5 b0 b1 b2 b3 b4 b5:V} (hp:A9 p h=some (.c (.l [a0, a1, a2, a3, a4, a5]) false none)) (κ:Heap->R):CX 6 (.ptr p 0) (.agg [b0, b1, b2, b3, b4, b5]) h κ=κ (Ae p h (some (.c (.l [b0, b1, b2, b3, b4, b5]) false none))) :=
  YN (b := [b0, b1, b2, b3, b4, b5]) (off := 0) hp rfl (Nat.le_refl _) κ
abbrev rl (a b c d e:Nat) (l:V):List V := [.int .i64 a, .int .u32 b, .int .u64 c, .int .u64 d, .int .u64 e, l]
theorem decode_ok {m:Nat} {h:Heap} {n p:K4} {off len cap:Nat} {ex s:Bool} {pr:Option K4} {L rest:List UInt8} {r:Rec} (H:RecMay r) (hp:A9 p h=some (.c (cb L) s pr)) (hB:(L.drop off).take len=encR r++rest) (hol:off+len≤L.length) (hlc:len≤cap) (hl2:len≤900000000) (hpn:p.toN<n.toN) (hfr:Ay h n) (hn:n.toN<60000) :
    ∃ h' n', Al tab (m+3) ⟨.d0, .d4, .d1⟩ [.sl p off len cap ex 1] h n = .rv (.tup [.agg (rcs r), .int .i64 (39+r.body.length), .int .i64 0]) h' n'∧n.toN≤n'.toN∧n'.toN≤n.toN+40∧(∀ q:K4, q.toN<n.toN->A9 q h'=A9 q h)∧Ay h' n' := by
  obtain ⟨B, hBe, p0, p1, p2, p3, p4, p5, p6, p7, p8, p9, p10⟩ := encH_parts r rest H
  rw [hBe] at hB
  have hBl:B.length=len := by rw [←hB]; exact Ep hol
  have hlen:39+r.body.length≤len := by rw [←hBl, ←hBe, List.length_append, encR_len]; omega
  have z1 := H.k1
  have z2 := H.k2
  have z3 := H.ten
  have z4 := H.ep
  have z5 := H.ob
  have z6 := H.sq
  have z7 := H.body
  have u1 := K4.up_toN (p := n) (by omega)
  have v1 := K4.up16_toN (p := n.up) (by omega)
  have v2 := K4.up16_toN (p := n.up.up16) (by omega)
  have v3 := K4.pl_toN (p := n.up) (by omega) .d0
  have d0:D.d0.toN=0 := rfl
  rw [d0] at v3
  have u2 := K4.up_toN (p := n.up.up16.up16) (by omega)
  have rpn:(n.up.up16.pl .d0).toN=(n.up.toN / 16+1)*16+0 := v3
  obtain ⟨hA, hAe⟩:∃ x, Ae n h (some (.c (.l (rl 0 0 0 0 0 (.str 0 0))) false none))=x := ⟨_, rfl⟩
  obtain ⟨hB2, hBe2⟩:∃ x, Ae (n.up.up16.pl .d0) hA (some (.c (.l (rl r.kind r.ten r.ep r.ob r.sq (.str 0 0))) false none))=x := ⟨_, rfl⟩
  obtain ⟨hC, hCe⟩:∃ x, Ae n.up.up16.up16 hB2 (some (.c (.l (rl r.kind r.ten r.ep r.ob r.sq (.str 0 0))) false none))=x := ⟨_, rfl⟩
  obtain ⟨hD, hDe⟩:∃ x, Ae (n.up.up16.pl .d0) hC (some (.c (.l (rl r.kind r.ten r.ep r.ob r.sq (sb r.body))) false none))=x := ⟨_, rfl⟩
  obtain ⟨hE, hEe⟩:∃ x, Ae n hD (some (.c (.l (rl r.kind r.ten r.ep r.ob r.sq (sb r.body))) false none))=x := ⟨_, rfl⟩
  have gA:∀ q:K4, q≠n->A9 q hA=A9 q h := fun q hq => by rw [←hAe]; exact A8 _ _ hq.symm
  have gB:∀ q:K4, q≠(n.up.up16.pl .d0)->A9 q hB2=A9 q hA := fun q hq => by rw [←hBe2]; exact A8 _ _ hq.symm
  have gC:∀ q:K4, q≠n.up.up16.up16->A9 q hC=A9 q hB2 := fun q hq => by rw [←hCe]; exact A8 _ _ hq.symm
  have gD:∀ q:K4, q≠(n.up.up16.pl .d0)->A9 q hD=A9 q hC := fun q hq => by rw [←hDe]; exact A8 _ _ hq.symm
  have gE:∀ q:K4, q≠n->A9 q hE=A9 q hD := fun q hq => by rw [←hEe]; exact A8 _ _ hq.symm
  have ne:∀ {p q:K4}, p.toN<q.toN->p≠q := fun h => K4.ne_of_lt h
  have pA:A9 p hA=some (.c (cb L) s pr) := (gA p (ne hpn)).trans hp
  have pB:A9 p hB2=some (.c (cb L) s pr) := (gB p (ne (by omega))).trans pA
  have pC:A9 p hC=some (.c (cb L) s pr) := (gC p (ne (by omega))).trans pB
  have at1:∀ {i:Nat} {b:UInt8}, i+1≤len->(B.drop i).take 1=[b]->(L.drop (off+i)).take 1=[b] := fun hi e => by rw [sub_mid hB hi]; exact e
  have hk:(UInt8.ofNat r.kind).toNat=r.kind := by rw [tn8]; omega
  have c0:∀ κ:V->R, S2 (A9 p hA) off κ=κ (.int .u8 83) := fun κ => by rw [pA]; exact ld_cb (l := []) (at1 (i := 0) (by omega) p0) κ
  have c1:∀ κ:V->R, S2 (A9 p hA) (off+1) κ=κ (.int .u8 82) := fun κ => by rw [pA]; exact ld_cb (l := []) (at1 (i := 1) (by omega) p1) κ
  have c2:∀ κ:V->R, S2 (A9 p hA) (off+2) κ=κ (.int .u8 r.kind) := fun κ => by rw [pA]; exact (ld_cb (l := []) (at1 (i := 2) (by omega) p2) κ).trans (by rw [hk])
  have c2b:∀ κ:V->R, S2 (A9 p (Ae (n.up.up16.pl .d0) hA (some (.c (.l (rl 0 0 0 0 0 (.str 0 0))) false none)))) (off+2) κ=κ (.int .u8 r.kind) := fun κ => by rw [As (by omega)]; exact c2 κ
  have eb := begins_ok (m := m+1) (off := off) (len := len) (n := n.up) (cap := cap) (ex := ex) (h := hA) (by omega) (by omega) c0 c1 c2 z1 z2
  have get:∀ (h':Heap) (n':K4) (i j v:Nat), A9 p h'=some (.c (cb L) s pr)->i+j≤len->numL ((B.drop i).take j)=v->Al tab (m+2) ⟨.d0, .d5, .d5⟩ [.sl p (off+i) j (cap - i) ex 1] h' n' = .rv (.int .u64 v) h' n' := fun h' n' i j v e1 e2 e3 => by
    rw [get_sl e1 (by omega) (sub_mid hB e2) (by omega), ←e3]; rfl
  have gg3 := get hA n.up.up16.up16 3 4 _ pA (by omega) p3
  have gg7 := get hA n.up.up16.up16 7 8 _ pA (by omega) p4
  have gg15 := get hA n.up.up16.up16 15 8 _ pA (by omega) p5
  have gg23 := get hA n.up.up16.up16 23 8 _ pA (by omega) p6
  have gg31 := get hB2 n.up.up16.up16 31 4 _ pB (by omega) p7
  have gg35 := get hC n.up.up16.up16.up 35 4 _ pC (by omega) p9
  have em := may_yes (m := m+1) (r := { r with body := [] }) (h := hB2) (n := n.up.up16.up16) ⟨H.k1, H.k2, H.ten, H.ep, H.ob, H.sq, by show 0≤1000; omega⟩ (by omega)
  have em':Al tab (m+2) ⟨.d0, .d4, .d3⟩ [.agg (rl r.kind r.ten r.ep r.ob r.sq (.str 0 0))] hB2 n.up.up16.up16 = .rv (.bool true) hC n.up.up16.up16.up := em.trans (by rw [←hCe]; rfl)
  have es := sum_sl (m := m) (n := n.up.up16.up16.up) (off := off) (L := L) (len := 35) (cap := cap) (ex := ex) (l := encH r) pC (by omega) (by have := sub_mid (i := 0) (j := 35) hB (by omega); rw [Nat.add_zero, List.drop_zero] at this; rw [this, p8]) (by omega)
  have emr := more_sl (m := m+1) (n := n.up.up16.up16.up) (s := crcM 0 (encH r)) (off := off+39) (len := r.body.length) (cap := cap - 39) (ex := ex) (l := r.body) pC (by omega) (by rw [sub_mid hB (by omega)]; exact p10) (by omega) (crcM_lt (by omega))
  have ebs:∀ κ, GW (.sl p (off+39) r.body.length (cap - 39) ex 1) hC κ=κ (sb r.body) := fun κ => by
    rw [Yh pC (by omega), sub_mid hB (by omega), p10]
  have k1 := crcM_lt (s := crcM 0 (encH r)) (l := r.body) (crcM_lt (by omega))
  have yf:A9 (n.up.up16.pl .d0) hA=none := (gA _ (ne (by omega)).symm).trans (hfr _ (by omega))
  have sst:∀ {p:K4} {o:Nat} {h:Heap} {κ:Heap->R}, Bb (.ptr p o) (sb r.body) h κ=TM (A9 p h) h p o (sb r.body) κ := OE _ _ _ _ _ _
  have yB:A9 (n.up.up16.pl .d0) hB2=some (.c (.l (rl r.kind r.ten r.ep r.ob r.sq (.str 0 0))) false none) := by rw [←hBe2]; exact A6 _ _ _
  have yC:A9 (n.up.up16.pl .d0) hC=some (.c (.l (rl r.kind r.ten r.ep r.ob r.sq (.str 0 0))) false none) := (gC _ (ne (by omega))).trans (by rw [←hBe2]; exact A6 _ _ _)
  have yD:A9 (n.up.up16.pl .d0) hD=some (.c (.l (rl r.kind r.ten r.ep r.ob r.sq (sb r.body))) false none) := by rw [←hDe]; exact A6 _ _ _
  have yn:A9 n hD=some (.c (.l (rl 0 0 0 0 0 (.str 0 0))) false none) := (gD _ (ne (by omega))).trans ((gC _ (ne (by omega))).trans ((gB _ (ne (by omega))).trans (by rw [←hAe]; exact A6 _ _ _)))
  have stE:∀ κ:Heap->R, CX 6 (.ptr n 0) (.agg (rl r.kind r.ten r.ep r.ob r.sq (sb r.body))) hD κ=κ hE := fun κ => (q_st6' yn κ).trans (by rw [←hEe])
  have yE:A9 n hE=some (.c (.l (rl r.kind r.ten r.ep r.ob r.sq (sb r.body))) false none) := by rw [←hEe]; exact A6 _ _ _
  have cu8:∀ κ:V->R, B2 .i64 (.int .u8 r.kind) κ=κ (.int .i64 r.kind) := fun κ => by
    rw [H3 (k := .i64) (j := .u8) (show r.kind<256 by omega), show r.kind % Mk .i64=r.kind from Nat.mod_eq_of_lt (show r.kind<18446744073709551616 by omega)]
  have cu64:∀ {a:Nat} (_:a<4294967296) (κ:V->R), B2 .u32 (.int .u64 a) κ=κ (.int .u32 a) := fun h κ => E7 h κ
  refine ⟨hE, n.up.up16.up16.up, ?_, by omega, by omega, fun q hq => ?_, fun q hq => ?_⟩
  · rw [call2_at, show B5 ⟨.d0, .d4, .d1⟩ tab=some x65 from rfl, x65]
    rw [show m+1+1=m+2 from rfl] at *
    simp (config := {maxSteps := 3000000}) (disch := omega) only [qa,g0,g1,g2,g3,g4,g5,g6,g7,g8,g9,Bt,Bp,Bo,BC,BE,By,BF,g17,Bx,Bv,w0,w1,w2,w3,w4,w5,w6,w7,w8,w9,Bn,Bm,Br,BG,Bz,BB,BA,BD,Bw,Bu,Mk,Nat.reduceAdd,Nat.reduceSub,Nat.reduceMul,Nat.reduceMod,Nat.reduceDiv,Q0,U,en3,q_iW,q_iL,q_iB,hAe,hBe2,hDe,eb,Sn,Ac0,PX,EW,q_celN,c0,c1,c2,c2b,gg3,gg7,gg15,gg23,gg31,gg35,em',es,emr,ebs,yf,sst,yB,yC,yD,stE,yE,cu8,cu64,QN,add_sub3,cvi_i64_u64,eq_self,CI,CC,Ct,Cq,BO,BI,Nat.zero_mul,Nat.add_zero]
    rfl
  · exact (gE q (ne hq)).trans ((gD q (ne (by omega))).trans ((gC q (ne (by omega))).trans ((gB q (ne (by omega))).trans (gA q (ne hq)))))
  · exact (gE q (ne (by omega)).symm).trans ((gD q (ne (by omega)).symm).trans ((gC q (ne (by omega)).symm).trans ((gB q (ne (by omega)).symm).trans ((gA q (ne (by omega)).symm).trans (hfr q (by omega))))))
noncomputable def frLB (c:Fz):S->Heap->K4->R := fun t h n=>g4 t fun z1=>g0 t fun z2=>AJ z2 fun z3=>Ba z1 z3 fun z4=>BM z4 (Ao 1 (DQ 1 z2 (some z1) none fun z5=>Ag (c ⟨.d0,.d4,.d1⟩ [z5] h n) fun z6 h n=>B6 0 z6 fun z7=>B6 1 z6 fun z8=>B6 2 z6 fun z9=>Dz (.l [(iI 0),(iW 0),(iL 0),(iL 0),(iL 0),(.str 0 0)]) h n fun za h n=>CX 6 za z7 h fun h=>Cw z9 (iI 0) fun zb=>BM zb (.ok (.exit 0) t h n)<|g3 t fun zc=>CK 6 za h fun zd=>AF 0 z1 [(iI 0),(iI 0),(iW 0),(iL 0),(iL 0),(iL 0),(.str 0 0)] fun ze=>Dg 1 6 zd ze fun zf=>Dg 0 7 (.agg zf) [(iI 0),(iI 0),(iW 0),(iL 0),(iL 0),(iL 0),(.str 0 0)] fun zg=>Cp false 1 7 zg h n fun zh h n=>C3 7 64 zc zh h n fun zi h n=>AM z1 z8 fun zj=>w3 t zi fun t=>w4 t zj fun t=>nR t h n) fun t h n=>nR t h n)<|.ok (.exit 0) t h n
noncomputable def x71L:Ent := .code en3 (fun c t h n=>Ao 0 (w1 t (.nil .sl) fun t=>w2 t (iI 0) fun t=>w3 t (.nil .sl) fun t=>w4 t (iI 0) fun t=>C0 (frLB c) t h n) fun t h n=>g3 t fun zk=>g4 t fun zl=>w1 t zk fun t=>w2 t zl fun t=>rT t h n) (fun t h n=>g1 t fun a0=>g2 t fun a1=>.rv (.tup [a0,a1]) h n)
theorem x71_L:x71=x71L := rfl
/-- A found record's cells. -/
noncomputable def fd (at':Nat) (r:Rec):List V := .int .i64 at'::rcs r
noncomputable def founds:Nat->List Rec->List V
  | _, [] => []
  | a, r::rs => fd a r++founds (a+(39+r.body.length)) rs
noncomputable def bytesR:List Rec->List UInt8
  | [] => []
  | r::rs => encR r++bytesR rs
theorem rngO_7 (a b c d e f g:V) (s:Bool) (pr:Option K4) (κ:Cs->R):Tl (some (.c (.l [a, b, c, d, e, f, g]) s pr)) 0 7 κ=κ (.l [a, b, c, d, e, f, g]) := id rfl
theorem part_16 (a b c d e f x0 x1 x2 x3 x4 x5 x6:V) (κ:List V->R):Dg 1 6 (.agg [a, b, c, d, e, f]) [x0, x1, x2, x3, x4, x5, x6] κ=κ [x0, a, b, c, d, e, f] := id rfl
theorem part_07 (a b c d e f g x0 x1 x2 x3 x4 x5 x6:V) (κ:List V->R):Dg 0 7 (.agg [a, b, c, d, e, f, g]) [x0, x1, x2, x3, x4, x5, x6] κ=κ [a, b, c, d, e, f, g] := id rfl
theorem fr_round {m:Nat} {lo:Nat} {h:Heap} {n p:K4} {off len cap at' k:Nat} {ex s:Bool} {pr:Option K4} {L rest:List UInt8} {r:Rec} {d1 d2 c:V} {l:List V} {c2 c3 c4 c5 c6 c7:SQ} {e1 e2 e3:V} (H:RecMay r) (hp:A9 p h=some (.c (cb L) s pr)) (hB:(L.drop (off+at')).take (len - at')=encR r++rest) (hol:off+len≤L.length) (hlc:len≤cap) (hl2:len≤900000000) (hpn:p.toN<lo) (hlo:lo≤n.toN)
    (O:FE lo n h 7 c l k) (hk:k≤1000000) (ha:at'<len) (hfr:Ay h n) (hn:n.toN<59000) :
    ∃ c' h' n', frLB (Al tab (m+3)) (.mk (.mk (.sl p off len cap ex 1) d1 d2 c) (.mk (.int .i64 at') e1 e2 e3) c2 c3 c4 c5 c6 c7) h n = .ok .nrm (.mk (.mk (.sl p off len cap ex 1) d1 d2 c') (.mk (.int .i64 (at'+(39+r.body.length))) e1 e2 e3) c2 c3 c4 c5 c6 c7) h' n' ∧
      FE lo n' h' 7 c' (l++fd at' r) (k+1)∧n.toN≤n'.toN∧n'.toN≤n.toN+45∧(∀ q:K4, q.toN<lo->A9 q h'=A9 q h)∧Ay h' n' := by
  have z7 := H.body
  obtain ⟨h1, n1, ed, a1, b1, f1, r1⟩ := decode_ok (m := m) (ex := ex) H hp hB (by omega) (show len - at'≤cap - at' by omega) (by omega) (by omega) hfr (by omega)
  have u1 := K4.up_toN (p := n1) (by omega)
  have u2 := K4.up_toN (p := n1.up) (by omega)
  obtain ⟨h2, h2e⟩:∃ x, Ae n1 h1 (some (.c (.l (rl r.kind r.ten r.ep r.ob r.sq (sb r.body))) false none))=x := ⟨_, rfl⟩
  obtain ⟨h3, h3e⟩:∃ x, Ae n1.up h2 (some (.c (.l [.int .i64 at', .int .i64 r.kind, .int .u32 r.ten, .int .u64 r.ep, .int .u64 r.ob, .int .u64 r.sq, sb r.body]) false none))=x := ⟨_, rfl⟩
  have gg2:∀ q:K4, q≠n1->A9 q h2=A9 q h1 := fun q hq => by rw [←h2e]; exact A8 _ _ hq.symm
  have gg3:∀ q:K4, q≠n1.up->A9 q h3=A9 q h2 := fun q hq => by rw [←h3e]; exact A8 _ _ hq.symm
  have ne:∀ {p q:K4}, p.toN<q.toN->p≠q := fun h => K4.ne_of_lt h
  have O3:FE lo n1.up.up h3 7 c l k := O.frame (by omega) fun q _ hq => (gg3 q (ne (by omega))).trans ((gg2 q (ne (by omega))).trans (f1 q hq))
  obtain ⟨h4, pr', e4, _, O4, f4, r4⟩ := Xn (eb := 64) (b := fd at' r) (m := 1) O3 (by omega) rfl (by omega) (by omega) (by omega)
  have u3 := K4.up_toN (p := n1.up.up) (by omega)
  refine ⟨_, h4, _, ?_, O4, by omega, by omega, fun q hq => (f4 q hq).trans ((gg3 q (ne (by omega))).trans ((gg2 q (ne (by omega))).trans (f1 q (by omega)))), r4 fun q hq => (gg3 q (ne (by omega)).symm).trans ((gg2 q (ne (by omega)).symm).trans (r1 q (by omega)))⟩
  have y2:A9 n1 h2=some (.c (.l (rl r.kind r.ten r.ep r.ob r.sq (sb r.body))) false none) := by rw [←h2e]; exact A6 _ _ _
  have y3:A9 n1.up h3=some (.c (.l [.int .i64 at', .int .i64 r.kind, .int .u32 r.ten, .int .u64 r.ep, .int .u64 r.ob, .int .u64 r.sq, sb r.body]) false none) := by rw [←h3e]; exact A6 _ _ _
  have hln:∀ κ, AJ (.sl p off len cap ex 1) κ=κ (.int .i64 len) := fun κ => Co (by omega) κ
  have ed':Al tab (m+3) ⟨.d0, .d4, .d1⟩ [.sl p (off+at') (len - at') (cap - at') ex 1] h n = .rv (.tup [.agg (rl r.kind r.ten r.ep r.ob r.sq (sb r.body)), .int .i64 (39+r.body.length), .int .i64 0]) h1 n1 := ed
  have e4':∀ κ:KV, BR 7 64 c 1 (.l [.int .i64 at', .int .i64 r.kind, .int .u32 r.ten, .int .u64 r.ep, .int .u64 r.ob, .int .u64 r.sq, sb r.body]) h3 n1.up.up κ=κ (.sl n1.up.up 0 (k+1) (k+1) false 7) h4 n1.up.up.up := e4
  have e6:∀ κ:Heap->R, CX 6 (.ptr n1 0) (.agg (rl r.kind r.ten r.ep r.ob r.sq (sb r.body))) (Ae n1 h1 (some (.c (.l (rl 0 0 0 0 0 (.str 0 0))) false none))) κ=κ h2 := fun κ => (PX _ _ _ _ _ _ _ _ _ _ _ _ _ _ κ).trans (by rw [←h2e])
  unfold frLB
  simp (config := {maxSteps := 3000000}) (disch := omega) only [qa,g0,g1,g2,g3,g4,g5,g6,g7,g8,g9,Bt,Bp,Bo,BC,BE,By,BF,g17,Bx,Bv,w0,w1,w2,w3,w4,w5,w6,w7,w8,w9,Bn,Bm,Br,BG,Bz,BB,BA,BD,Bw,Bu,Mk,Nat.reduceAdd,Nat.reduceSub,Nat.reduceMul,Nat.reduceMod,Nat.reduceDiv,Q0,U,hln,Xi,q_iW,q_iL,q_iB,ed',e6,y2,y3,h3e,EW,part_16,part_07,rngO_7,e4',eq_self,CI,CC,Ct,Cq,BO,BI,Nat.add_zero]
theorem bytesR_app:∀ a b:List Rec, bytesR (a++b)=bytesR a++bytesR b
  | [], b => rfl
  | r::a, b => by rw [List.cons_append, bytesR, bytesR, bytesR_app a b, List.append_assoc]
theorem fr_loop {m:Nat} {lo:Nat} {p:K4} {off len cap:Nat} {ex s:Bool} {pr:Option K4} {L:List UInt8} {d1 d2:V} {c2 c3 c4 c5 c6 c7:SQ} {e1 e2 e3:V} (hol:off+len≤L.length) (hlc:len≤cap) (hl2:len≤900000000) (hpn:p.toN<lo) :
    ∀ (rs:List Rec) (h:Heap) (n:K4) (at' k:Nat) (c:V) (l:List V), (∀ r∈rs, RecMay r)->A9 p h=some (.c (cb L) s pr)->at'≤len->(L.drop (off+at')).take (len - at')=bytesR rs->lo≤n.toN->FE lo n h 7 c l k->k+rs.length≤1000->Ay h n->n.toN+45*rs.length<59000 →
    ∃ c' h' n', (∀ K, DH (frLB (Al tab (m+3))) (K+rs.length+1) (.mk (.mk (.sl p off len cap ex 1) d1 d2 c) (.mk (.int .i64 at') e1 e2 e3) c2 c3 c4 c5 c6 c7) h n = .ok (.exit 0) (.mk (.mk (.sl p off len cap ex 1) d1 d2 c') (.mk (.int .i64 len) e1 e2 e3) c2 c3 c4 c5 c6 c7) h' n') ∧
      FE lo n' h' 7 c' (l++founds at' rs) (k+rs.length)∧n.toN≤n'.toN∧n'.toN≤n.toN+45*rs.length∧(∀ q:K4, q.toN<lo->A9 q h'=A9 q h)∧Ay h' n' := by
  intro rs
  induction rs with
  | nil =>
    intro h n at' k c l hm hp ha hB hlo O hk hfr hn
    have e:len - at'=0 := by
      have := congrArg List.length hB
      rw [Ep (by omega)] at this
      exact this
    obtain rfl:at'=len := by omega
    refine ⟨c, h, n, fun K => ?_, by rw [founds, List.append_nil]; exact O, by omega, by omega, fun q _ => rfl, hfr⟩
    have hln:∀ κ, AJ (.sl p off at' cap ex 1) κ=κ (.int .i64 at') := fun κ => Co (by omega) κ
    rw [Dh]
    unfold frLB
    simp (config := {maxSteps := 3000000}) (disch := omega) only [qa,g0,g1,g2,g3,g4,g5,g6,g7,g8,g9,Bt,Bp,Bo,BC,BE,By,BF,g17,Bx,Bv,w0,w1,w2,w3,w4,w5,w6,w7,w8,w9,Bn,Bm,Br,BG,Bz,BB,BA,BD,Bw,Bu,Mk,Nat.reduceAdd,Nat.reduceSub,Nat.reduceMul,Nat.reduceMod,Nat.reduceDiv,Q0,U,hln]
  | cons r rs ih =>
    intro h n at' k c l hm hp ha hB hlo O hk hfr hn
    rw [List.length_cons] at hk hn
    have hl := congrArg List.length hB
    rw [Ep (by omega), bytesR, List.length_append, encR_len] at hl
    obtain ⟨c1, h1, n1, e1', o1, a1, b1, f1, r1⟩ := fr_round (m := m) (ex := ex) (cap := cap) (d1 := d1) (d2 := d2) (c2 := c2) (c3 := c3) (c4 := c4) (c5 := c5) (c6 := c6) (c7 := c7) (e1 := e1) (e2 := e2) (e3 := e3) (hm r (by simp)) hp (by rw [hB, bytesR]) hol hlc hl2 hpn hlo O (by omega) (by omega) hfr (by omega)
    have hB2:(L.drop (off+(at'+(39+r.body.length)))).take (len - (at'+(39+r.body.length)))=bytesR rs := by
      have e:(L.drop (off+at'+(39+r.body.length))).take (len - at' - (39+r.body.length))=((L.drop (off+at')).take (len - at')).drop (39+r.body.length) := by
        rw [List.drop_take, List.drop_drop]
      rw [show off+(at'+(39+r.body.length))=off+at'+(39+r.body.length) by omega, show len - (at'+(39+r.body.length))=len - at' - (39+r.body.length) by omega, e, hB, bytesR]
      exact List.drop_left' (encR_len r)
    obtain ⟨c2', h2, n2, e2', o2, a2, b2, f2, r2⟩ := ih h1 n1 (at'+(39+r.body.length)) (k+1) c1 _ (fun x hx => hm x (by simp [hx])) ((f1 p hpn).trans hp) (by omega) hB2 (by omega) o1 (by omega) r1 (by omega)
    refine ⟨c2', h2, n2, fun K => ?_, ?_, by omega, by rw [List.length_cons]; omega, fun q hq => (f2 q hq).trans (f1 q hq), r2⟩
    · rw [List.length_cons, show K+(rs.length+1)+1=(K+rs.length+1)+1 by omega, Dh, e1', Gq]
      exact e2' K
    · rw [founds, ←List.append_assoc, List.length_cons, show k+(rs.length+1)=k+1+rs.length by omega]; exact o2
theorem front_ok {m:Nat} {h:Heap} {n p:K4} {v:V} {rs:List Rec} (hm:∀ r∈rs, RecMay r) (O:OU p h v (bytesR rs)) (hpn:p.toN<n.toN) (hk:rs.length≤1000) (hl:(bytesR rs).length≤900000000) (hfr:Ay h n) (hn:n.toN+45*rs.length<59000) :
    ∃ c' h' n', Al tab (m+4) ⟨.d0, .d4, .d7⟩ [v] h n = .rv (.tup [c', .int .i64 (bytesR rs).length]) h' n'∧FE n.toN n' h' 7 c' (founds 0 rs) rs.length∧n.toN≤n'.toN∧n'.toN≤n.toN+45*rs.length∧(∀ q:K4, q.toN<n.toN->A9 q h'=A9 q h)∧Ay h' n' := by
  rcases O with ⟨rfl, e⟩ | ⟨ex, rfl, hp⟩
  · have e0:rs=[] := by
      cases rs with
      | nil => rfl
      | cons r rs => rw [bytesR] at e; have := congrArg List.length e; rw [List.length_append, encR_len] at this; simp only [List.length_nil] at this; omega
    subst e0
    refine ⟨.nil .sl, h, n, ?_, .inl ⟨rfl, rfl, rfl⟩, by omega, by omega, fun q _ => rfl, hfr⟩
    rw [call2_at, show B5 ⟨.d0, .d4, .d7⟩ tab=some x71 from rfl, x71_L, x71L]
    simp (config := {maxSteps := 3000000}) (disch := omega) only [qa,g0,g1,g2,g3,g4,g5,g6,g7,g8,g9,Bt,Bp,Bo,BC,BE,By,BF,g17,Bx,Bv,w0,w1,w2,w3,w4,w5,w6,w7,w8,w9,Bn,Bm,Br,BG,Bz,BB,BA,BD,Bw,Bu,Mk,Nat.reduceAdd,Nat.reduceSub,Nat.reduceMul,Nat.reduceMod,Nat.reduceDiv,Q0,U,en3]
    rw [CH]
    unfold frLB
    simp (config := {maxSteps := 3000000}) (disch := omega) only [qa,g0,g1,g2,g3,g4,g5,g6,g7,g8,g9,Bt,Bp,Bo,BC,BE,By,BF,g17,Bx,Bv,w0,w1,w2,w3,w4,w5,w6,w7,w8,w9,Bn,Bm,Br,BG,Bz,BB,BA,BD,Bw,Bu,Mk,Nat.reduceAdd,Nat.reduceSub,Nat.reduceMul,Nat.reduceMod,Nat.reduceDiv,Q0,U,bytesR]
  · obtain ⟨c1, h1, n1, e1, o1, a1, b1, f1, r1⟩ := fr_loop (m := m) (lo := n.toN) (off := 0) (len := (bytesR rs).length) (cap := (bytesR rs).length) (ex := ex) (L := bytesR rs) (d1 := .nil .sl) (d2 := .int .i64 0) (c2 := Q0) (c3 := Q0) (c4 := Q0) (c5 := Q0) (c6 := Q0) (c7 := Q0) (e1 := B4) (e2 := B4) (e3 := B4) (by omega) (Nat.le_refl _) hl hpn rs h n 0 0 (.nil .sl) [] hm hp (by omega) (by rw [List.drop_zero, Nat.sub_zero, List.take_length]) (Nat.le_refl _) (.inl ⟨rfl, rfl, rfl⟩) (by omega) hfr hn
    rw [List.nil_append, Nat.zero_add] at o1
    refine ⟨c1, h1, n1, ?_, o1, a1, b1, f1, r1⟩
    have e2 := e1 (999999999 - rs.length)
    rw [show 999999999 - rs.length+rs.length+1=999999999+1 by omega] at e2
    simp only [Q0] at e2
    rw [call2_at, show B5 ⟨.d0, .d4, .d7⟩ tab=some x71 from rfl, x71_L, x71L]
    simp (config := {maxSteps := 3000000}) (disch := omega) only [qa,g0,g1,g2,g3,g4,g5,g6,g7,g8,g9,Bt,Bp,Bo,BC,BE,By,BF,g17,Bx,Bv,w0,w1,w2,w3,w4,w5,w6,w7,w8,w9,Bn,Bm,Br,BG,Bz,BB,BA,BD,Bw,Bu,Mk,Nat.reduceAdd,Nat.reduceSub,Nat.reduceMul,Nat.reduceMod,Nat.reduceDiv,Q0,U,en3]
    rw [CH, ←Dh, e2]
    simp (config := {maxSteps := 3000000}) (disch := omega) only [qa,g0,g1,g2,g3,g4,g5,g6,g7,g8,g9,Bt,Bp,Bo,BC,BE,By,BF,g17,Bx,Bv,w0,w1,w2,w3,w4,w5,w6,w7,w8,w9,Bn,Bm,Br,BG,Bz,BB,BA,BD,Bw,Bu,Mk,Nat.reduceAdd,Nat.reduceSub,Nat.reduceMul,Nat.reduceMod,Nat.reduceDiv,Q0,U]
noncomputable def rdLB (c:Fz):S->Heap->K4->R := fun t h n=>g7 t fun zo=>g6 t fun zp=>Ba zo zp fun zq=>BM zq (Ao 1 (g5 t fun zr=>AY 7 zr zo fun zs=>CK 7 zs h fun zt=>Dz (.l [(iI 0),(iI 0),(iW 0),(iL 0),(iL 0),(iL 0),(.str 0 0)]) h n fun zu h n=>CX 7 zu zt h fun h=>AE (Ak 1 zu AD) fun zv=>AE (Ak 1 zv AD) fun zw=>AE (Au zw h AD) fun zx=>g0 t fun zy=>mV zy fun zz=>AE (Am zz AD) fun z10=>AE (Ak 2 z10 AD) fun z11=>AE (Au z11 h AD) fun z12=>AE (Cw zx z12 AD) fun z13=>BM z13 (g3 t fun z14=>mV z14 fun z15=>mV zo fun z16=>AE (DQ 7 z15 none (some z16) AD) fun z17=>AE (Ak 0 zu AD) fun z18=>AE (Au z18 h AD) fun z19=>mV z17 fun z1a=>mV z19 fun z1b=>w1 t z1a fun t=>w2 t z1b fun t=>rT t h n)<|nR t h n) fun t h n=>g7 t fun z1c=>AM z1c (iI 1) fun z1d=>w7 t z1d fun t=>nR t h n)<|.ok (.exit 0) t h n
noncomputable def x43L:Ent := .code en3 (fun c t h n=>g0 t fun z1=>mV z1 fun z2=>AE (Am z2 AD) fun z3=>AE (Ak 0 z3 AD) fun z4=>AE (Au z4 h AD) fun z5=>mV z1 fun z6=>AE (Am z6 AD) fun z7=>AE (Ak 1 z7 AD) fun z8=>AE (Au z8 h AD) fun z9=>mV z1 fun za=>AE (Am za AD) fun zb=>AE (Ak 3 zb AD) fun zc=>AE (Au zc h AD) fun zd=>DY (Ag (c ⟨.d0,.d4,.d0⟩ [z5,z9,(iI 0),zd] h n) .rv) fun ze h n=>mV ze fun zf=>AE (B6 0 zf AD) fun zg=>AE (B6 1 zf AD) fun zh=>mV zg fun zi=>mV zh fun zj=>Ag (c ⟨.d0,.d4,.d7⟩ [zi] h n) fun zk h n=>B6 0 zk fun zl=>B6 1 zk fun zm=>AJ zl fun zn=>Ao 0 (w1 t (.nil .sl) fun t=>w2 t (iI 0) fun t=>w3 t zl fun t=>w4 t zm fun t=>w5 t zl fun t=>w6 t zn fun t=>w7 t (iI 0) fun t=>C0 (rdLB c) t h n) fun t h n=>g3 t fun z1e=>g4 t fun z1f=>w1 t z1e fun t=>w2 t z1f fun t=>rT t h n) (fun t h n=>g1 t fun a0=>g2 t fun a1=>.rv (.tup [a0,a1]) h n)
theorem x43_L:x43=x43L := rfl
theorem founds_at:∀ (rs:List Rec) (a i:Nat), i<rs.length->∃ a' r, r∈rs∧((founds a rs).drop (i*7)).take 7=fd a' r
  | r::rs, a, 0, _ => ⟨a, r, by simp, by rw [founds, Nat.zero_mul, List.drop_zero]; exact List.take_left' rfl⟩
  | r::rs, a, i+1, h => by
    obtain ⟨a', r', h1, h2⟩ := founds_at rs (a+(39+r.body.length)) i (by rw [List.length_cons] at h; omega)
    refine ⟨a', r', by simp [h1], ?_⟩
    rw [founds, show (i+1)*7=(fd a r).length+i*7 by show _=7+_; omega, ←List.drop_drop, List.drop_left' rfl]
    exact h2
theorem rd_round {c:Fz} {h:Heap} {n sp:K4} {v d1 d2 d3 d4:V} {rs:List Rec} {id i:Nat} {f:K4} {a cc size:Nat} {wh:Bool} {c2 c3 c4 c5 c6 c7:SQ} (hi:i<rs.length) (hl:rs.length≤1000) (hid:∀ r∈rs, r.ten=id) (O:LS h n [] 7 v (founds 0 rs) rs.length) (hs:A9 sp h=some (.c (.l (sgC f a cc id size wh)) false none)) (hsn:sp.toN<n.toN) (hn:n.toN<60000) :
    ∃ h', rdLB c (.mk (.mk (.ptr sp 0) d1 d2 d3) (.mk d4 v (.int .i64 rs.length) (.int .i64 i)) c2 c3 c4 c5 c6 c7) h n = .ok .nrm (.mk (.mk (.ptr sp 0) d1 d2 d3) (.mk d4 v (.int .i64 rs.length) (.int .i64 (i+1))) c2 c3 c4 c5 c6 c7) h' n.up∧(∀ q:K4, q≠n->A9 q h'=A9 q h) := by
  have u1 := K4.up_toN (p := n) (by omega)
  obtain ⟨a', r, hr, hf⟩ := founds_at rs 0 i hi
  obtain ⟨p, o, e1, e2, _⟩ := O.ix hi (by omega)
  have ht := hid r hr
  have e2':∀ κ:V->R, Jy (A9 p h) 7 o κ=κ (.agg [.int .i64 a', .int .i64 r.kind, .int .u32 id, .int .u64 r.ep, .int .u64 r.ob, .int .u64 r.sq, sb r.body]) := fun κ => by rw [e2, hf, ←ht]; rfl
  refine ⟨Ae n h (some (.c (.l [.int .i64 a', .int .i64 r.kind, .int .u32 id, .int .u64 r.ep, .int .u64 r.ob, .int .u64 r.sq, sb r.body]) false none)), ?_, fun q hq => A8 _ _ hq.symm⟩
  have e3:∀ κ:Heap->R, CX 7 (.ptr n 0) (.agg [.int .i64 a', .int .i64 r.kind, .int .u32 id, .int .u64 r.ep, .int .u64 r.ob, .int .u64 r.sq, sb r.body]) (Ae n h (some (.c (.l [.int .i64 0, .int .i64 0, .int .u32 0, .int .u64 0, .int .u64 0, .int .u64 0, .str 0 0]) false none))) κ=κ (Ae n h (some (.c (.l [.int .i64 a', .int .i64 r.kind, .int .u32 id, .int .u64 r.ep, .int .u64 r.ob, .int .u64 r.sq, sb r.body]) false none))) := fun κ => by
    refine (YN (a := [.int .i64 0, .int .i64 0, .int .u32 0, .int .u64 0, .int .u64 0, .int .u64 0, .str 0 0]) (b := [.int .i64 a', .int .i64 r.kind, .int .u32 id, .int .u64 r.ep, .int .u64 r.ob, .int .u64 r.sq, sb r.body]) (off := 0) (pr := none) (A6 _ _ _) rfl (Nat.le_refl _) κ).trans ?_
    show κ (Ae n (Ae n h _) _)=_
    rw [Ge]; rfl
  unfold rdLB
  simp (config := {maxSteps := 3000000}) (disch := omega) only [qa,g0,g1,g2,g3,g4,g5,g6,g7,g8,g9,Bt,Bp,Bo,BC,BE,By,BF,g17,Bx,Bv,w0,w1,w2,w3,w4,w5,w6,w7,w8,w9,Bn,Bm,Br,BG,Bz,BB,BA,BD,Bw,Bu,Mk,Nat.reduceAdd,Nat.reduceSub,Nat.reduceMul,Nat.reduceMod,Nat.reduceDiv,Q0,U,e1,e2',e3,q_iW,q_iL,q_iB,hs,eq_self,CI,CC,Ct,Cq,BO,BI,Nat.add_zero]
theorem rd_rounds {c:Fz} {sp:K4} {v d1 d2 d3 d4:V} {rs:List Rec} {id:Nat} {f:K4} {a cc size:Nat} {wh:Bool} {c2 c3 c4 c5 c6 c7:SQ} (hl:rs.length≤1000) (hid:∀ r∈rs, r.ten=id) :
    ∀ (j i:Nat) (h:Heap) (n:K4), i+j=rs.length->LS h n [] 7 v (founds 0 rs) rs.length->A9 sp h=some (.c (.l (sgC f a cc id size wh)) false none)->sp.toN<n.toN->Ay h n->n.toN+j<60000 →
    ∃ h' n', (∀ K, DH (rdLB c) (K+j+1) (.mk (.mk (.ptr sp 0) d1 d2 d3) (.mk d4 v (.int .i64 rs.length) (.int .i64 i)) c2 c3 c4 c5 c6 c7) h n = .ok (.exit 0) (.mk (.mk (.ptr sp 0) d1 d2 d3) (.mk d4 v (.int .i64 rs.length) (.int .i64 rs.length)) c2 c3 c4 c5 c6 c7) h' n') ∧
      n.toN≤n'.toN∧n'.toN≤n.toN+j∧(∀ q:K4, q.toN<n.toN->A9 q h'=A9 q h)∧Ay h' n' := by
  intro j
  induction j with
  | zero =>
    intro i h n hi O hs hsn hfr hn
    obtain rfl:i=rs.length := by omega
    refine ⟨h, n, fun K => ?_, by omega, by omega, fun q _ => rfl, hfr⟩
    rw [Dh]
    unfold rdLB
    simp (config := {maxSteps := 3000000}) (disch := omega) only [qa,g0,g1,g2,g3,g4,g5,g6,g7,g8,g9,Bt,Bp,Bo,BC,BE,By,BF,g17,Bx,Bv,w0,w1,w2,w3,w4,w5,w6,w7,w8,w9,Bn,Bm,Br,BG,Bz,BB,BA,BD,Bw,Bu,Mk,Nat.reduceAdd,Nat.reduceSub,Nat.reduceMul,Nat.reduceMod,Nat.reduceDiv,Q0,U]
  | succ j ih =>
    intro i h n hi O hs hsn hfr hn
    have u1 := K4.up_toN (p := n) (by omega)
    obtain ⟨h1, e1, f1⟩ := rd_round (c := c) (d1 := d1) (d2 := d2) (d3 := d3) (d4 := d4) (c2 := c2) (c3 := c3) (c4 := c4) (c5 := c5) (c6 := c6) (c7 := c7) (show i<rs.length by omega) hl hid O hs hsn (by omega)
    obtain ⟨h2, n2, e2, a2, b2, f2, r2⟩ := ih (i+1) h1 n.up (by omega) (O.more (by omega) fun q hq => f1 q (K4.ne_of_lt hq)) ((f1 sp (K4.ne_of_lt hsn)).trans hs) (by omega) (fun q hq => (f1 q (K4.ne_of_lt (by omega)).symm).trans (hfr q (by omega))) (by omega)
    refine ⟨h2, n2, fun K => ?_, by omega, by omega, fun q hq => (f2 q (by omega)).trans (f1 q (K4.ne_of_lt hq)), r2⟩
    rw [show K+(j+1)+1=(K+j+1)+1 by omega, Dh, e1, Gq]
    exact e2 K
theorem records_ok {m:Nat} {h:Heap} {n f d x dm pc sp:K4} {room rd calls fl a c b k id:Nat} {cv sv lw w:V} {rs:List Rec} {wh:Bool} (D:GS h n f d x dm pc sp room rd calls fl a c b k cv sv lw w id (bytesR rs) wh)
    (hm:∀ r∈rs, RecMay r) (hid:∀ r∈rs, r.ten=id) (hk:rs.length≤100) (hl:(bytesR rs).length≤1000000) (hrd:rd<1000000000000) (hn:n.toN<50000) :
    ∃ h' n' v, Al tab (m+6) ⟨.d0, .d1, .d6⟩ [.ptr sp 0] h n = .rv v h' n'∧LS h' n' [f, d, x, dm, pc, sp] 7 v (founds 0 rs) rs.length∧n.toN≤n'.toN∧n'.toN≤n.toN+5000∧(∀ q:K4, q.toN<n.toN->q≠f->A9 q h'=A9 q h) ∧
      GS h' n' f d x dm pc sp room (rd+(bytesR rs).length) calls fl a c b k cv sv lw w id (bytesR rs) wh := by
  obtain ⟨lf, ld, lx, lm, lp, ls⟩ := D.lts
  have nd := D.nd
  simp only [List.pairwise_cons,List.mem_cons,List.not_mem_nil,or_false,forall_eq_or_imp,forall_eq,List.Pairwise.nil,and_true,false_implies,implies_true] at nd
  obtain ⟨⟨nfd, nfx, nfm, nfp, nfs⟩, ⟨ndx, ndm, ndp, nds⟩, ⟨nxm, nxp, nxs⟩, ⟨nmp, nms⟩, nps⟩ := nd
  obtain ⟨h1, n1, v1, p1, e1, a1, b1, r1, f1, y1, o1, q1⟩ := read_ok (m := m+2) (n := n) (off := 0) (len := (bytesR rs).length) D.hf D.hd D.hx D.own (by omega) (by omega) hrd lf nfd.symm nfx.symm lp nfp.symm (by omega)
  rw [List.drop_zero, List.take_length] at o1
  obtain ⟨h2, n2, v2, ⟨c2', e2, o2, a2, b2, f2, r2⟩⟩:∃ h2 n2 v2, ∃ c', Al tab (m+4) ⟨.d0, .d4, .d7⟩ [v1] h1 n1 = .rv (.tup [c', .int .i64 (bytesR rs).length]) h2 n2∧FE n1.toN n2 h2 7 c' (founds 0 rs) rs.length∧n1.toN≤n2.toN∧n2.toN≤n1.toN+45*rs.length∧(∀ q:K4, q.toN<n1.toN->A9 q h2=A9 q h1)∧Ay h2 n2∧v2=V.bool true := by
    obtain ⟨c', h', n', e, o, a, b, f, r⟩ := front_ok (m := m) (n := n1) (h := h1) hm o1 (by rcases q1 with rfl | q1 <;> omega) (by omega) (by omega) (r1 D.fr) (by omega)
    exact ⟨h', n', .bool true, c', e, o, a, b, f, r, rfl⟩
  obtain ⟨r2, _⟩ := r2
  have s1 := (f1 sp ls nfs.symm).trans D.hs
  have s2 := (f2 sp (by omega)).trans s1
  obtain ⟨h3, n3, e3, a3, b3, f3, r3⟩ := rd_rounds (c := Al tab (m+4)) (v := c2') (d1 := .nil .sl) (d2 := .int .i64 0) (d3 := c2') (d4 := .int .i64 (bytesR rs).length) (c2 := Q0) (c3 := Q0) (c4 := Q0) (c5 := Q0) (c6 := Q0) (c7 := Q0) (by omega) hid rs.length 0 h2 n2 (by omega) (o2.ls [] (fun q hq => by cases hq)) s2 (by omega) r2 (by omega)
  have e4 := e3 (999999999 - rs.length)
  rw [show 999999999 - rs.length+rs.length+1=999999999+1 by omega] at e4
  simp only [Q0] at e4
  have lsl := (o2.ls [f, d, x, dm, pc, sp] (fun q hq => by
    have := D.lt q hq
    omega))
  have lln:∀ κ, AJ c2' κ=κ (.int .i64 rs.length) := fun κ => lsl.len (by omega) κ
  obtain ⟨es, ds, dk, hm', ik⟩ := D.hm
  have g3:∀ q:K4, q.toN<n.toN->q≠f->A9 q h3=A9 q h := fun q hq h1 => (f3 q (by omega)).trans ((f2 q (by omega)).trans (f1 q hq h1))
  refine ⟨h3, n3, c2', ?_, lsl.more (by omega) f3, by omega, by omega, g3, ⟨(f3 f (by omega)).trans ((f2 f (by omega)).trans y1), (g3 d ld nfd.symm).trans D.hd, D.hb, (g3 x lx nfx.symm).trans D.hx, ⟨es, ds, dk, (g3 dm lm nfm.symm).trans hm', ik⟩, D.own.frame (g3 pc lp nfp.symm), (g3 sp ls nfs.symm).trans D.hs, r3, D.nd, fun q hq => by have := D.lt q hq; omega⟩⟩
  have hs := D.hs
  clear g3
  rw [call2_at, show B5 ⟨.d0, .d1, .d6⟩ tab=some x22 from rfl, x22]
  simp (config := {maxSteps := 3000000}) (disch := omega) only [qa,g0,g1,g2,g3,g4,g5,g6,g7,g8,g9,Bt,Bp,Bo,BC,BE,By,BF,g17,Bx,Bv,w0,w1,w2,w3,w4,w5,w6,w7,w8,w9,Bn,Bm,Br,BG,Bz,BB,BA,BD,Bw,Bu,Mk,Nat.reduceAdd,Nat.reduceSub,Nat.reduceMul,Nat.reduceMod,Nat.reduceDiv,Q0,U,en3]
  rw [call2_at, show B5 ⟨.d0, .d2, .d11⟩ tab=some x43 from rfl, x43_L, x43L]
  simp (config := {maxSteps := 3000000}) (disch := omega) only [qa,g0,g1,g2,g3,g4,g5,g6,g7,g8,g9,Bt,Bp,Bo,BC,BE,By,BF,g17,Bx,Bv,w0,w1,w2,w3,w4,w5,w6,w7,w8,w9,Bn,Bm,Br,BG,Bz,BB,BA,BD,Bw,Bu,Mk,Nat.reduceAdd,Nat.reduceSub,Nat.reduceMul,Nat.reduceMod,Nat.reduceDiv,Q0,U,en3,hs,e1,e2,lln]
  rw [CH, ←Dh, e4]
  simp (config := {maxSteps := 3000000}) (disch := omega) only [qa,g0,g1,g2,g3,g4,g5,g6,g7,g8,g9,Bt,Bp,Bo,BC,BE,By,BF,g17,Bx,Bv,w0,w1,w2,w3,w4,w5,w6,w7,w8,w9,Bn,Bm,Br,BG,Bz,BB,BA,BD,Bw,Bu,Mk,Nat.reduceAdd,Nat.reduceSub,Nat.reduceMul,Nat.reduceMod,Nat.reduceDiv,Q0,U]
theorem gsize_ok {m:Nat} {h:Heap} {n sp f:K4} {a c id size:Nat} {wh:Bool} (hs:A9 sp h=some (.c (.l (sgC f a c id size wh)) false none)):Al tab (m+1) ⟨.d0, .d1, .d5⟩ [.ptr sp 0] h n = .rv (.int .i64 size) h n := by
  rw [call2_at, show B5 ⟨.d0, .d1, .d5⟩ tab=some x21 from rfl, x21]
  simp (disch := omega) only [qa,g0,g1,g2,g3,g4,g5,g6,g7,g8,g9,Bt,Bp,Bo,BC,BE,By,BF,g17,Bx,Bv,w0,w1,w2,w3,w4,w5,w6,w7,w8,w9,Bn,Bm,Br,BG,Bz,BB,BA,BD,Bw,Bu,Mk,Nat.reduceAdd,Nat.reduceSub,Nat.reduceMul,Nat.reduceMod,Nat.reduceDiv,Q0,U,en3,hs]
theorem begun15:Y1 (Al tab 30 ⟨.d0, .d0, .d15⟩ [] AN Z9)=true := by kernel_rfl
theorem part_06 (a b c d e f x0 x1 x2 x3 x4 x5:V) (κ:List V->R):Dg 0 6 (.agg [a, b, c, d, e, f]) [x0, x1, x2, x3, x4, x5] κ=κ [a, b, c, d, e, f] := id rfl
end Go.Ev.YtdgefeadbcbglaaDoor
