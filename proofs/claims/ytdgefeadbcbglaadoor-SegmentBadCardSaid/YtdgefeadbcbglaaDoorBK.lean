/- What the functions do, as equations over their texts, 0. -/
import Derived.Test.YtdgefeadbcbglaaDoorBT
import Derived.KernelRfl
namespace Go.Ev.YtdgefeadbcbglaaDoor
open Go Go.Ev
set_option linter.unusedVariables false
set_option linter.unusedSimpArgs false
theorem call2_at {T:FC} {m:Nat} {f:K3} {args:List V} {h:Heap} {n:K4}:Al T (m+1) f args h n=Kf (Al T m) (B5 f T) args h n := by
  show Wh f T (fun o => Kf (Al T m) o args h n)=_
  exact S8 _ _ _
/-- What a disk's record holds. -/
abbrev fsC (room rd calls fl:Nat) (d l w:V):List V := [.int .i64 room, d, l, w, .int .i64 fl, .int .i64 calls, .int .i64 rd]
theorem begin_ok {m:Nat} {p:K4} {h:Heap} {n:K4} {room rd calls:Nat} {d l w:V} (hp:A9 p h=some (.c (.l (fsC room rd calls 18446744073709551615 d l w)) false none)) (hc:calls<1000000) :
    Al tab (m+1) ⟨.d0, .d2, .d15⟩ [.ptr p 0] h n = .rv (.int .i64 0) (Ae p h (some (.c (.l (fsC room rd (calls+1) 18446744073709551615 d l w)) false none))) n := by
  rw [call2_at, show B5 ⟨.d0, .d2, .d15⟩ tab=some x47 from rfl, x47]
  simp (disch := omega) only [qa,g0,g1,g2,g3,g4,g5,g6,g7,g8,g9,Bt,Bp,Bo,BC,BE,By,BF,g17,Bx,Bv,w0,w1,w2,w3,w4,w5,w6,w7,w8,w9,Bn,Bm,Br,BG,Bz,BB,BA,BD,Bw,Bu,Mk,Nat.reduceAdd,Nat.reduceSub,Nat.reduceMul,Nat.reduceMod,Nat.reduceDiv,Q0,U,en3,hp,fsC]
theorem begin_wait {m:Nat} {p:K4} {h:Heap} {n:K4} {room rd calls fl:Nat} {d l w:V} (hp:A9 p h=some (.c (.l (fsC room rd calls fl d l w)) false none)) (hc:calls<1000000) (hf:fl<1000000) (h1:1≤fl) :
    Al tab (m+1) ⟨.d0, .d2, .d15⟩ [.ptr p 0] h n = .rv (.int .i64 0) (Ae p h (some (.c (.l (fsC room rd (calls+1) (fl - 1) d l w)) false none))) n := by
  rw [call2_at, show B5 ⟨.d0, .d2, .d15⟩ tab=some x47 from rfl, x47]
  simp (disch := omega) only [qa,g0,g1,g2,g3,g4,g5,g6,g7,g8,g9,Bt,Bp,Bo,BC,BE,By,BF,g17,Bx,Bv,w0,w1,w2,w3,w4,w5,w6,w7,w8,w9,Bn,Bm,Br,BG,Bz,BB,BA,BD,Bw,Bu,Mk,Nat.reduceAdd,Nat.reduceSub,Nat.reduceMul,Nat.reduceMod,Nat.reduceDiv,Q0,U,en3,hp,fsC]
theorem room_ok {m:Nat} {p:K4} {h:Heap} {n:K4} {r0 rd calls fl room:Nat} {d l w:V} (hp:A9 p h=some (.c (.l (fsC r0 rd calls fl d l w)) false none)) (hr:room≤4194304) :
    Al tab (m+1) ⟨.d0, .d2, .d6⟩ [.ptr p 0, .int .i64 room] h n = .rv (.tup []) (Ae p h (some (.c (.l (fsC room rd calls fl d l w)) false none))) n := by
  rw [call2_at, show B5 ⟨.d0, .d2, .d6⟩ tab=some x38 from rfl, x38]
  rcases Nat.lt_or_ge room 4194304 with h1 | h1
  · simp (disch := omega) only [qa,g0,g1,g2,g3,g4,g5,g6,g7,g8,g9,Bt,Bp,Bo,BC,BE,By,BF,g17,Bx,Bv,w0,w1,w2,w3,w4,w5,w6,w7,w8,w9,Bn,Bm,Br,BG,Bz,BB,BA,BD,Bw,Bu,Mk,Nat.reduceAdd,Nat.reduceSub,Nat.reduceMul,Nat.reduceMod,Nat.reduceDiv,Q0,U,en1,hp,fsC]
  · obtain rfl:room=4194304 := by omega
    simp (disch := omega) only [qa,g0,g1,g2,g3,g4,g5,g6,g7,g8,g9,Bt,Bp,Bo,BC,BE,By,BF,g17,Bx,Bv,w0,w1,w2,w3,w4,w5,w6,w7,w8,w9,Bn,Bm,Br,BG,Bz,BB,BA,BD,Bw,Bu,Mk,Nat.reduceAdd,Nat.reduceSub,Nat.reduceMul,Nat.reduceMod,Nat.reduceDiv,Q0,U,en1,hp,fsC]
theorem new_ok {m:Nat} {h:Heap} {n:K4} {room:Nat} (hr:room≤4194304) (hn:n.toN<60000) :
    Al tab (m+3) ⟨.d0, .d1, .d0⟩ [.int .i64 room] h n = .rv (.ptr n.up.up 0) (Ae n.up.up (Ae n.up (Ae n h (some (.m [] [] 0))) (some (.m [] [] 0))) (some (.c (.l (fsC room 0 0 18446744073709551615 (.map n) (.map n.up) (.nil .sl))) false none))) n.up.up.up := by
  have u1 := K4.up_toN (p := n) (by omega)
  have u2 := K4.up_toN (p := n.up) (by omega)
  have u3 := K4.up_toN (p := n.up.up) (by omega)
  rw [call2_at, show B5 ⟨.d0, .d1, .d0⟩ tab=some x16 from rfl, x16]
  simp (disch := omega) only [qa,g0,g1,g2,g3,g4,g5,g6,g7,g8,g9,Bt,Bp,Bo,BC,BE,By,BF,g17,Bx,Bv,w0,w1,w2,w3,w4,w5,w6,w7,w8,w9,Bn,Bm,Br,BG,Bz,BB,BA,BD,Bw,Bu,Mk,Nat.reduceAdd,Nat.reduceSub,Nat.reduceMul,Nat.reduceMod,Nat.reduceDiv,Q0,U,en3]
  rw [room_ok (A6 _ _ _) hr]
  simp (disch := omega) only [qa,g0,g1,g2,g3,g4,g5,g6,g7,g8,g9,Bt,Bp,Bo,BC,BE,By,BF,g17,Bx,Bv,w0,w1,w2,w3,w4,w5,w6,w7,w8,w9,Bn,Bm,Br,BG,Bz,BB,BA,BD,Bw,Bu,Mk,Nat.reduceAdd,Nat.reduceSub,Nat.reduceMul,Nat.reduceMod,Nat.reduceDiv,Q0,U]
theorem do_mk {m:Nat} {d x:K4} {h:Heap} {n:K4} {a c a0 c0 r:Nat} (hd:A9 d h=some (.m [] [] 0)) (hdn:d.toN<n.toN) (hn:n.toN<60000) :
    Al tab (m+1) ⟨.d0, .d4, .d8⟩ [.map d, .agg [.str a0 c0, .str a c, .ptr x r]] h n = .rv (.tup []) (Ae d (Ae n h (some (.c (.l [.str a0 c0, .str a c, .ptr x r]) false none))) (some (.m [(.str a c, .ptr x r)] [0] 1))) n.up := by
  rw [call2_at, show B5 ⟨.d0, .d4, .d8⟩ tab=some x72 from rfl, x72]
  simp (disch := omega) only [qa,g0,g1,g2,g3,g4,g5,g6,g7,g8,g9,Bt,Bp,Bo,BC,BE,By,BF,g17,Bx,Bv,w0,w1,w2,w3,w4,w5,w6,w7,w8,w9,Bn,Bm,Br,BG,Bz,BB,BA,BD,Bw,Bu,Mk,Nat.reduceAdd,Nat.reduceSub,Nat.reduceMul,Nat.reduceMod,Nat.reduceDiv,Q0,U,en1,hd]
theorem change_mk {m:Nat} {f d x:K4} {h:Heap} {n:K4} {a c a0 c0 r room rd calls fl:Nat} {l:V} (hf:A9 f h=some (.c (.l (fsC room rd calls fl (.map d) l (.nil .sl))) false none)) (hd:A9 d h=some (.m [] [] 0)) (hfr:Ay h n)
    (hfn:f.toN<n.toN) (hdn:d.toN<n.toN) (hdf:d.toN<f.toN) (hn:n.toN<59000) :
    ∃ h' n', Al tab (m+2) ⟨.d0, .d3, .d1⟩ [.ptr f 0, .agg [.str a0 c0, .str a c, .ptr x r]] h n = .rv (.int .i64 0) h' n'∧n.toN≤n'.toN∧n'.toN≤n.toN+60∧Ay h' n'∧(∀ q:K4, q.toN<n.toN->q≠f->q≠d->A9 q h'=A9 q h) ∧
      A9 d h'=some (.m [(.str a c, .ptr x r)] [0] 1) ∧ ∃ pw:K4, n.toN≤pw.toN∧A9 f h'=some (.c (.l (fsC room rd calls fl (.map d) l (.sl pw 0 1 1 false 3))) false none)∧A9 pw h'=some (.c (.l [.str a0 c0, .str a c, .ptr x r]) false none) := by
  have u1 := K4.up_toN (p := n) (by omega)
  have u2 := K4.up_toN (p := n.up) (by omega)
  have v1 := K4.up16_toN (p := n.up.up) (by omega)
  have v2 := K4.up16_toN (p := n.up.up.up16) (by omega)
  have v3 := K4.pl_toN (p := n.up.up) (by omega) .d0
  have u3 := K4.up_toN (p := n.up.up.up16.up16) (by omega)
  have d0:D.d0.toN=0 := rfl
  rw [d0] at v3
  generalize hR:Al tab (m+2) ⟨.d0, .d3, .d1⟩ [.ptr f 0, .agg [.str a0 c0, .str a c, .ptr x r]] h n=R0
  rw [call2_at, show B5 ⟨.d0, .d3, .d1⟩ tab=some x49 from rfl, x49] at hR
  simp (disch := omega) only [qa,g0,g1,g2,g3,g4,g5,g6,g7,g8,g9,Bt,Bp,Bo,BC,BE,By,BF,g17,Bx,Bv,w0,w1,w2,w3,w4,w5,w6,w7,w8,w9,Bn,Bm,Br,BG,Bz,BB,BA,BD,Bw,Bu,Mk,Nat.reduceAdd,Nat.reduceSub,Nat.reduceMul,Nat.reduceMod,Nat.reduceDiv,Q0,U,en1,hf] at hR
  have e1 := do_mk (m := m) (d := d) (x := x) (h := Ae n h (some (.c (.l [.str a0 c0, .str a c, .ptr x r]) false none))) (n := n.up) (a := a) (c := c) (a0 := a0) (c0 := c0) (r := r) ((As hdn _ _).trans hd) (by omega) (by omega)
  rw [e1] at hR
  have h1:∀ y z:Option Ob, A9 (n.up.up.up16.pl .d0) (Ae d (Ae n.up (Ae n h y) z) (some (.m [(.str a c, .ptr x r)] [0] 1)))=none := fun y z => by
    simp (disch := omega) only [AG]; exact hfr _ (by omega)
  simp (disch := omega) only [qa,g0,g1,g2,g3,g4,g5,g6,g7,g8,g9,Bt,Bp,Bo,BC,BE,By,BF,g17,Bx,Bv,w0,w1,w2,w3,w4,w5,w6,w7,w8,w9,Bn,Bm,Br,BG,Bz,BB,BA,BD,Bw,Bu,Mk,Nat.reduceAdd,Nat.reduceSub,Nat.reduceMul,Nat.reduceMod,Nat.reduceDiv,Q0,U,hf,h1] at hR
  subst hR
  have hq:∀ q:K4, n.toN≤q.toN->A9 q h=none := hfr
  refine ⟨_, _, rfl, by omega, by omega, fun q hqn => ?_, fun q hqn h1 h2 => ?_, ?_, n.up.up.up16.up16, by omega, ?_, ?_⟩
  · simp (disch := omega) only [AG]; exact hfr q (by omega)
  · simp (disch := omega) only [As,A8 _ _ (Ne.symm h1),A8 _ _ (Ne.symm h2)]
  · simp (disch := omega) only [As,AG,A6]
  · simp (disch := omega) only [As,AG,A6]
  · simp (disch := omega) only [As,AG,A6]
theorem sort_1 {m:Nat} {p:K4} {ex:Bool} {h:Heap} {n:K4}:Al tab (m+6) ⟨.d0, .d6, .d11⟩ [.sl p 0 1 1 ex 1] h n = .rv (.tup []) h n := by kernel_rfl
theorem its_ok:∀ (its:List Nat) (g:Nat) (κ:R), g∈its->Ib g its κ=κ
  | [], _, _, h => by cases h
  | x::l, g, κ, h => by
    show br (Nat.beq x g) κ (Ib g l κ)=κ
    rw [Cb]
    by_cases e:x=g
    · rw [decide_eq_true e]; rfl
    · rw [decide_eq_false e]
      exact its_ok l g κ (by rcases List.mem_cons.1 h with h | h; exact absurd h.symm e; exact h)
theorem sorted_1 {m:Nat} {pm z:K4} {h:Heap} {n:K4} {a c b k:Nat} {v:V} (hz:A9 z h=some (.c (.l [.map pm]) false none)) (hm:A9 pm h=some (.m [(.str a c, v)] [b] k)) (hb:b<k) (hzn:z.toN<n.toN) (hmn:pm.toN<n.toN) (hn:n.toN<59000) :
    ∃ h' n' q, Al tab (m+8) ⟨.d0, .d5, .d11⟩ [.fn 108 [.ptr z 0]] h n = .rv (.sl q 0 1 1 false 1) h' n'∧n.toN≤n'.toN∧n'.toN≤n.toN+10∧(∀ q:K4, q.toN<n.toN->A9 q h'=A9 q h)∧(Ay h n->Ay h' n')∧n.toN≤q.toN∧q.toN<n'.toN∧A9 q h'=some (.c (.l [.str a c]) false none) := by
  have u1 := K4.up_toN (p := n) (by omega)
  have u2 := K4.up_toN (p := n.up) (by omega)
  have u3 := K4.up_toN (p := n.up.up) (by omega)
  have u4 := K4.up_toN (p := n.up.up.up) (by omega)
  have u5 := K4.up_toN (p := n.up.up.up.up) (by omega)
  generalize hR:Al tab (m+8) ⟨.d0, .d5, .d11⟩ [.fn 108 [.ptr z 0]] h n=R0
  rw [call2_at, show B5 ⟨.d0, .d5, .d11⟩ tab=some x91 from rfl, x91] at hR
  simp (disch := omega) only [qa,g0,g1,g2,g3,g4,g5,g6,g7,g8,g9,Bt,Bp,Bo,BC,BE,By,BF,g17,Bx,Bv,w0,w1,w2,w3,w4,w5,w6,w7,w8,w9,Bn,Bm,Br,BG,Bz,BB,BA,BD,Bw,Bu,Mk,Nat.reduceAdd,Nat.reduceSub,Nat.reduceMul,Nat.reduceMod,Nat.reduceDiv,Q0,U,en3] at hR
  rw [call2_at, show B5 ⟨.d0, .d6, .d10⟩ tab=some x106 from rfl, x106] at hR
  simp (disch := omega) only [qa,g0,g1,g2,g3,g4,g5,g6,g7,g8,g9,Bt,Bp,Bo,BC,BE,By,BF,g17,Bx,Bv,w0,w1,w2,w3,w4,w5,w6,w7,w8,w9,Bn,Bm,Br,BG,Bz,BB,BA,BD,Bw,Bu,Mk,Nat.reduceAdd,Nat.reduceSub,Nat.reduceMul,Nat.reduceMod,Nat.reduceDiv,Q0,U,en3] at hR
  rw [call2_at, show B5 ⟨.d0, .d7, .d5⟩ tab=some x117 from rfl, x117, Afw _ _ _ _ _ _ _ (its_ok _) 108 [.ptr z 0] rfl (by decide) (by omega)] at hR
  rw [call2_at, show B5 (Bk 108) tab=some x108 from rfl, x108] at hR
  simp (disch := omega) only [qa,g0,g1,g2,g3,g4,g5,g6,g7,g8,g9,Bt,Bp,Bo,BC,BE,By,BF,g17,Bx,Bv,w0,w1,w2,w3,w4,w5,w6,w7,w8,w9,Bn,Bm,Br,BG,Bz,BB,BA,BD,Bw,Bu,Mk,Nat.reduceAdd,Nat.reduceSub,Nat.reduceMul,Nat.reduceMod,Nat.reduceDiv,Q0,U,en1,hz,hm,Lh] at hR
  rw [call2_at, show B5 (Bk 117) tab=some x117 from rfl, x117, Yk] at hR
  simp (disch := omega) only [qa,g0,g1,g2,g3,g4,g5,g6,g7,g8,g9,Bt,Bp,Bo,BC,BE,By,BF,g17,Bx,Bv,w0,w1,w2,w3,w4,w5,w6,w7,w8,w9,Bn,Bm,Br,BG,Bz,BB,BA,BD,Bw,Bu,Mk,Nat.reduceAdd,Nat.reduceSub,Nat.reduceMul,Nat.reduceMod,Nat.reduceDiv,Q0,U,en3,rd117,hm,hb] at hR
  rw [sort_1] at hR
  simp (disch := omega) only [qa,g0,g1,g2,g3,g4,g5,g6,g7,g8,g9,Bt,Bp,Bo,BC,BE,By,BF,g17,Bx,Bv,w0,w1,w2,w3,w4,w5,w6,w7,w8,w9,Bn,Bm,Br,BG,Bz,BB,BA,BD,Bw,Bu,Mk,Nat.reduceAdd,Nat.reduceSub,Nat.reduceMul,Nat.reduceMod,Nat.reduceDiv,Q0,U,en3] at hR
  subst hR
  refine ⟨_, _, _, rfl, by omega, by omega, fun q hq => ?_, fun hf q hq => ?_, ?_, ?_, ?_⟩
  · simp (disch := omega) only [As]
  · simp (disch := omega) only [AG]; exact hf q (by omega)
  · omega
  · omega
  · simp (disch := omega) only [As,AG,A6]
/-- A disk that does not fail yet. -/
def Bg (fl fl':Nat):Prop := (fl=18446744073709551615∧fl'=fl)∨(1≤fl∧fl<1000000∧fl'=fl - 1)
theorem begin_bg {m:Nat} {p:K4} {h:Heap} {n:K4} {room rd calls fl fl':Nat} {d l w:V} (hb:Bg fl fl') (hp:A9 p h=some (.c (.l (fsC room rd calls fl d l w)) false none)) (hc:calls<1000000) :
    Al tab (m+1) ⟨.d0, .d2, .d15⟩ [.ptr p 0] h n = .rv (.int .i64 0) (Ae p h (some (.c (.l (fsC room rd (calls+1) fl' d l w)) false none))) n := by
  rcases hb with ⟨rfl, rfl⟩ | ⟨h1, h2, rfl⟩
  · exact begin_ok hp hc
  · exact begin_wait hp hc h2 h1
theorem create_ok {m:Nat} {f d:K4} {h:Heap} {n:K4} {a c room rd calls fl fl':Nat} {l:V} (hb:Bg fl fl') (hc:calls<1000000) (hmay:∀ h n, Al tab (m+3) ⟨.d0, .d3, .d0⟩ [.str a c] h n = .rv (.bool true) h n)
    (hf:A9 f h=some (.c (.l (fsC room rd calls fl (.map d) l (.nil .sl))) false none)) (hd:A9 d h=some (.m [] [] 0)) (hfr:Ay h n)
    (hfn:f.toN<n.toN) (hdf:d.toN<f.toN) (hn:n.toN<58000) :
    ∃ h' n', Al tab (m+4) ⟨.d0, .d1, .d11⟩ [.ptr f 0, .str a c] h n = .rv (.int .i64 0) h' n'∧n.toN≤n'.toN∧n'.toN≤n.toN+70∧Ay h' n'∧(∀ q:K4, q.toN<n.toN->q≠f->q≠d->A9 q h'=A9 q h) ∧
      A9 d h'=some (.m [(.str a c, .ptr n.up 0)] [0] 1)∧n.up.toN=n.toN+1∧n.toN+1<n'.toN∧A9 n.up h'=some (.c (.l [.nil .sl, .nil .sl, .map n]) false none)∧A9 n h'=some (.m [] [] 0) ∧
      ∃ pw:K4, A9 f h'=some (.c (.l (fsC room rd (calls+1) fl' (.map d) l (.sl pw 0 1 1 false 3))) false none)∧n.toN+2≤pw.toN∧pw.toN<n'.toN∧A9 pw h'=some (.c (.l [.str 0 0, .str a c, .ptr n.up 0]) false none) := by
  have u1 := K4.up_toN (p := n) (by omega)
  have u2 := K4.up_toN (p := n.up) (by omega)
  generalize hR:Al tab (m+4) ⟨.d0, .d1, .d11⟩ [.ptr f 0, .str a c] h n=R0
  rw [call2_at, show B5 ⟨.d0, .d1, .d11⟩ tab=some x27 from rfl, x27] at hR
  simp (disch := omega) only [qa,g0,g1,g2,g3,g4,g5,g6,g7,g8,g9,Bt,Bp,Bo,BC,BE,By,BF,g17,Bx,Bv,w0,w1,w2,w3,w4,w5,w6,w7,w8,w9,Bn,Bm,Br,BG,Bz,BB,BA,BD,Bw,Bu,Mk,Nat.reduceAdd,Nat.reduceSub,Nat.reduceMul,Nat.reduceMod,Nat.reduceDiv,Q0,U,en1] at hR
  rw [begin_bg hb hf hc] at hR
  simp (disch := omega) only [qa,g0,g1,g2,g3,g4,g5,g6,g7,g8,g9,Bt,Bp,Bo,BC,BE,By,BF,g17,Bx,Bv,w0,w1,w2,w3,w4,w5,w6,w7,w8,w9,Bn,Bm,Br,BG,Bz,BB,BA,BD,Bw,Bu,Mk,Nat.reduceAdd,Nat.reduceSub,Nat.reduceMul,Nat.reduceMod,Nat.reduceDiv,Q0,U] at hR
  rw [hmay] at hR
  simp (disch := omega) only [qa,g0,g1,g2,g3,g4,g5,g6,g7,g8,g9,Bt,Bp,Bo,BC,BE,By,BF,g17,Bx,Bv,w0,w1,w2,w3,w4,w5,w6,w7,w8,w9,Bn,Bm,Br,BG,Bz,BB,BA,BD,Bw,Bu,Mk,Nat.reduceAdd,Nat.reduceSub,Nat.reduceMul,Nat.reduceMod,Nat.reduceDiv,Q0,U,hd] at hR
  have hf1:A9 f (Ae n.up (Ae n (Ae f h (some (.c (.l (fsC room rd (calls+1) fl' (.map d) l (.nil .sl))) false none))) (some (.m [] [] 0))) (some (.c (.l [.nil .sl, .nil .sl, .map n]) false none)))=some (.c (.l (fsC room rd (calls+1) fl' (.map d) l (.nil .sl))) false none) := by simp (disch := omega) only [As,A6]
  have hd1:A9 d (Ae n.up (Ae n (Ae f h (some (.c (.l (fsC room rd (calls+1) fl' (.map d) l (.nil .sl))) false none))) (some (.m [] [] 0))) (some (.c (.l [.nil .sl, .nil .sl, .map n]) false none)))=some (.m [] [] 0) := by simp (disch := omega) only [As,hd]
  have hfr1:Ay (Ae n.up (Ae n (Ae f h (some (.c (.l (fsC room rd (calls+1) fl' (.map d) l (.nil .sl))) false none))) (some (.m [] [] 0))) (some (.c (.l [.nil .sl, .nil .sl, .map n]) false none))) n.up.up := fun q hq => by simp (disch := omega) only [AG]; exact hfr q (by omega)
  obtain ⟨h', n', e1, b1, b2, f1, o1, d1, pw, p1, yg1, yg2⟩ := change_mk (m := m+1) (f := f) (d := d) (x := n.up) (a := a) (c := c) (a0 := 0) (c0 := 0) (r := 0) hf1 hd1 hfr1 (by omega) (by omega) hdf (by omega)
  rw [show m+1+2=m+3 from rfl] at e1
  rw [e1] at hR
  simp (disch := omega) only [qa,g0,g1,g2,g3,g4,g5,g6,g7,g8,g9,Bt,Bp,Bo,BC,BE,By,BF,g17,Bx,Bv,w0,w1,w2,w3,w4,w5,w6,w7,w8,w9,Bn,Bm,Br,BG,Bz,BB,BA,BD,Bw,Bu,Mk,Nat.reduceAdd,Nat.reduceSub,Nat.reduceMul,Nat.reduceMod,Nat.reduceDiv,Q0,U] at hR
  subst hR
  refine ⟨_, _, rfl, by omega, by omega, f1, fun q hq h1 h2 => ?_, d1, u1, by omega, ?_, ?_, pw, yg1, by omega, Nat.lt_of_not_le fun hle => (by have := f1 pw hle; rw [yg2] at this; cases this), yg2⟩
  · rw [o1 q (by omega) h1 h2]
    simp (disch := omega) only [As,A8 _ _ (Ne.symm h1)]
  · rw [o1 n.up (by omega) (K4.ne_of_lt (by omega)).symm (K4.ne_of_lt (by omega)).symm]
    simp (disch := omega) only [A6]
  · rw [o1 n (by omega) (K4.ne_of_lt (by omega)).symm (K4.ne_of_lt (by omega)).symm]
    simp (disch := omega) only [As,A6]
theorem clone_m {m:Nat} {d:K4} {h:Heap} {n:K4} {es:List (V×V)} {bs:List Nat} {k:Nat} (hd:A9 d h=some (.m es bs k)) (hn:n.toN<65000) :
    Al tab (m+1) ⟨.d0, .d4, .d2⟩ [.map d] h n = .rv (.map n) (Ae n h (some (.m es bs k))) n.up := by
  rw [call2_at, show B5 ⟨.d0, .d4, .d2⟩ tab=some (.prim La) from rfl]
  show KR (Rv d h fun es bs c => DZ h n (.m es bs c) fun h n' => .rv (.map n) h n')=_
  rw [Ft, JP, hd, Uy, Du (by omega)]; rfl
theorem syncdir_ok {m:Nat} {f d:K4} {h:Heap} {n:K4} {room rd calls fl fl':Nat} {l w:V} {es:List (V×V)} {bs:List Nat} {k:Nat} (hb:Bg fl fl') (hc:calls<1000000)
    (hf:A9 f h=some (.c (.l (fsC room rd calls fl (.map d) l w)) false none)) (hd:A9 d h=some (.m es bs k)) (hfn:f.toN<n.toN) (hdf:d.toN<f.toN) (hn:n.toN<58000) :
    ∃ h', Al tab (m+3) ⟨.d0, .d2, .d8⟩ [.ptr f 0] h n = .rv (.int .i64 0) h' n.up∧(∀ q:K4, q.toN<n.toN->q≠f->A9 q h'=A9 q h)∧(Ay h n->Ay h' n.up)∧A9 n h'=some (.m es bs k) ∧
      A9 f h'=some (.c (.l (fsC room rd (calls+1) fl' (.map d) (.map n) (.nil .sl))) false none) := by
  have u1 := K4.up_toN (p := n) (by omega)
  generalize hR:Al tab (m+3) ⟨.d0, .d2, .d8⟩ [.ptr f 0] h n=R0
  rw [call2_at, show B5 ⟨.d0, .d2, .d8⟩ tab=some x40 from rfl, x40] at hR
  simp (disch := omega) only [qa,g0,g1,g2,g3,g4,g5,g6,g7,g8,g9,Bt,Bp,Bo,BC,BE,By,BF,g17,Bx,Bv,w0,w1,w2,w3,w4,w5,w6,w7,w8,w9,Bn,Bm,Br,BG,Bz,BB,BA,BD,Bw,Bu,Mk,Nat.reduceAdd,Nat.reduceSub,Nat.reduceMul,Nat.reduceMod,Nat.reduceDiv,Q0,U,en3] at hR
  rw [begin_bg hb hf hc] at hR
  simp (disch := omega) only [qa,g0,g1,g2,g3,g4,g5,g6,g7,g8,g9,Bt,Bp,Bo,BC,BE,By,BF,g17,Bx,Bv,w0,w1,w2,w3,w4,w5,w6,w7,w8,w9,Bn,Bm,Br,BG,Bz,BB,BA,BD,Bw,Bu,Mk,Nat.reduceAdd,Nat.reduceSub,Nat.reduceMul,Nat.reduceMod,Nat.reduceDiv,Q0,U] at hR
  rw [clone_m (d := d) (es := es) (bs := bs) (k := k) (by rw [A8 _ _ (K4.ne_of_lt (by omega)).symm]; exact hd) (by omega)] at hR
  simp (disch := omega) only [qa,g0,g1,g2,g3,g4,g5,g6,g7,g8,g9,Bt,Bp,Bo,BC,BE,By,BF,g17,Bx,Bv,w0,w1,w2,w3,w4,w5,w6,w7,w8,w9,Bn,Bm,Br,BG,Bz,BB,BA,BD,Bw,Bu,Mk,Nat.reduceAdd,Nat.reduceSub,Nat.reduceMul,Nat.reduceMod,Nat.reduceDiv,Q0,U] at hR
  subst hR
  refine ⟨_, rfl, fun q hq h1 => ?_, fun hfr q hq => ?_, ?_, ?_⟩
  · simp (disch := omega) only [As,A8 _ _ (Ne.symm h1)]
  · simp (disch := omega) only [AG]; exact hfr q (by omega)
  · simp (disch := omega) only [As,AG,A6]
  · simp (disch := omega) only [As,AG,A6]
theorem names_1 {m:Nat} {f d:K4} {h:Heap} {n:K4} {a c b k room rd calls fl:Nat} {l w v:V} (hf:A9 f h=some (.c (.l (fsC room rd calls fl (.map d) l w)) false none)) (hd:A9 d h=some (.m [(.str a c, v)] [b] k)) (hb:b<k)
    (hfn:f.toN<n.toN) (hdf:d.toN<n.toN) (hn:n.toN<58000) :
    ∃ h' n' q, Al tab (m+9) ⟨.d0, .d4, .d11⟩ [.ptr f 0] h n = .rv (.sl q 0 1 1 false 1) h' n'∧n.toN≤n'.toN∧n'.toN≤n.toN+12∧(∀ q:K4, q.toN<n.toN->A9 q h'=A9 q h)∧(Ay h n->Ay h' n')∧n.toN≤q.toN∧q.toN<n'.toN∧A9 q h'=some (.c (.l [.str a c]) false none) := by
  have u1 := K4.up_toN (p := n) (by omega)
  generalize hR:Al tab (m+9) ⟨.d0, .d4, .d11⟩ [.ptr f 0] h n=R0
  rw [call2_at, show B5 ⟨.d0, .d4, .d11⟩ tab=some x75 from rfl, x75] at hR
  simp (disch := omega) only [qa,g0,g1,g2,g3,g4,g5,g6,g7,g8,g9,Bt,Bp,Bo,BC,BE,By,BF,g17,Bx,Bv,w0,w1,w2,w3,w4,w5,w6,w7,w8,w9,Bn,Bm,Br,BG,Bz,BB,BA,BD,Bw,Bu,Mk,Nat.reduceAdd,Nat.reduceSub,Nat.reduceMul,Nat.reduceMod,Nat.reduceDiv,Q0,U,en3,hf] at hR
  rw [call2_at, show B5 ⟨.d0, .d5, .d12⟩ tab=some x92 from rfl, x92] at hR
  simp (disch := omega) only [qa,g0,g1,g2,g3,g4,g5,g6,g7,g8,g9,Bt,Bp,Bo,BC,BE,By,BF,g17,Bx,Bv,w0,w1,w2,w3,w4,w5,w6,w7,w8,w9,Bn,Bm,Br,BG,Bz,BB,BA,BD,Bw,Bu,Mk,Nat.reduceAdd,Nat.reduceSub,Nat.reduceMul,Nat.reduceMod,Nat.reduceDiv,Q0,U,en3,R1] at hR
  obtain ⟨h', n', q, e1, b1, b2, o1, f1, q1, q2, yg1⟩ := sorted_1 (m := m) (pm := d) (z := n) (h := Ae n h (some (.c (.l [.map d]) false none))) (n := n.up) (a := a) (c := c) (b := b) (k := k) (v := v) (A6 _ _ _) ((As (by omega) _ _).trans hd) hb (by omega) (by omega) (by omega)
  rw [e1] at hR
  simp (disch := omega) only [qa,g0,g1,g2,g3,g4,g5,g6,g7,g8,g9,Bt,Bp,Bo,BC,BE,By,BF,g17,Bx,Bv,w0,w1,w2,w3,w4,w5,w6,w7,w8,w9,Bn,Bm,Br,BG,Bz,BB,BA,BD,Bw,Bu,Mk,Nat.reduceAdd,Nat.reduceSub,Nat.reduceMul,Nat.reduceMod,Nat.reduceDiv,Q0,U] at hR
  subst hR
  refine ⟨_, _, _, rfl, by omega, by omega, fun q hq => ?_, fun hfr => f1 fun q hq => ?_, by omega, q2, yg1⟩
  · rw [o1 q (by omega)]; simp (disch := omega) only [As]
  · simp (disch := omega) only [AG]; exact hfr q (by omega)
theorem used_1 {m:Nat} {f d x:K4} {h:Heap} {n:K4} {a c b k room rd calls fl L:Nat} {l w cv sv dv:V} (hf:A9 f h=some (.c (.l (fsC room rd calls fl (.map d) l w)) false none)) (hd:A9 d h=some (.m [(.str a c, .ptr x 0)] [b] k)) (hb:b<k)
    (hx:A9 x h=some (.c (.l [cv, sv, dv]) false none)) (hL:∀ κ, AJ cv κ=κ (.int .i64 L)) (hL2:L<1000000000)
    (hfn:f.toN<n.toN) (hdf:d.toN<n.toN) (hxn:x.toN<n.toN) (hn:n.toN<58000) :
    ∃ h' n', Al tab (m+10) ⟨.d0, .d3, .d4⟩ [.ptr f 0] h n = .rv (.int .i64 L) h' n'∧n.toN≤n'.toN∧n'.toN≤n.toN+12∧(∀ q:K4, q.toN<n.toN->A9 q h'=A9 q h)∧(Ay h n->Ay h' n') := by
  obtain ⟨h', n', q, e1, b1, b2, o1, f1, q1, q2, yg1⟩ := names_1 (m := m) (n := n) hf hd hb hfn hdf hn
  have hf' := (o1 f hfn).trans hf
  have hd' := (o1 d (by omega)).trans hd
  have hx' := (o1 x hxn).trans hx
  generalize hR:Al tab (m+10) ⟨.d0, .d3, .d4⟩ [.ptr f 0] h n=R0
  rw [call2_at, show B5 ⟨.d0, .d3, .d4⟩ tab=some x52 from rfl, x52] at hR
  simp (disch := omega) only [qa,g0,g1,g2,g3,g4,g5,g6,g7,g8,g9,Bt,Bp,Bo,BC,BE,By,BF,g17,Bx,Bv,w0,w1,w2,w3,w4,w5,w6,w7,w8,w9,Bn,Bm,Br,BG,Bz,BB,BA,BD,Bw,Bu,Mk,Nat.reduceAdd,Nat.reduceSub,Nat.reduceMul,Nat.reduceMod,Nat.reduceDiv,Q0,U,en3] at hR
  rw [e1] at hR
  simp (disch := omega) only [qa,g0,g1,g2,g3,g4,g5,g6,g7,g8,g9,Bt,Bp,Bo,BC,BE,By,BF,g17,Bx,Bv,w0,w1,w2,w3,w4,w5,w6,w7,w8,w9,Bn,Bm,Br,BG,Bz,BB,BA,BD,Bw,Bu,Mk,Nat.reduceAdd,Nat.reduceSub,Nat.reduceMul,Nat.reduceMod,Nat.reduceDiv,Q0,U,Lh,hf',hd',hx',yg1,hL] at hR
  subst hR
  exact ⟨_, _, rfl, b1, b2, o1, f1⟩
theorem dirty_run {d0 d1 d3 d4 cv sv:V} {c2 c3 c4 c5 c6 c7:SQ} {n p q:K4} {a0 m0:Nat} (hm:m0≤900000000) (ha:a0≤1000000000) (hpq:p≠q) :
    ∀ (j i0:Nat) (h:Heap) (es:List (V×V)) (bs:List Nat) (c:Nat), i0+j=m0->A9 p h=some (.c (.l [cv, sv, .map q]) false none)->A9 q h=some (.m es bs c)->IK es →
    ∃ h', (∀ K, DH CO (K+j+1) (.mk (.mk d0 d1 (.int .i64 a0) d3) (.mk d4 (.ptr p 0) (.int .i64 m0) (.int .i64 i0)) c2 c3 c4 c5 c6 c7) h n = .ok (.exit 1) (.mk (.mk d0 d1 (.int .i64 a0) d3) (.mk d4 (.ptr p 0) (.int .i64 m0) (.int .i64 m0)) c2 c3 c4 c5 c6 c7) h' n) ∧
      (∀ r, r≠q->A9 r h'=A9 r h) ∧ ∃ es' bs' c', A9 q h'=some (.m es' bs' c')∧IK es'
  | 0, i0, h, es, bs, c, hi, hp, hq, hk => by
    obtain rfl:i0=m0 := by omega
    refine ⟨h, fun K => ?_, fun r _ => rfl, es, bs, c, hq, hk⟩
    rw [Dh]
    unfold CO
    simp (disch := omega) only [qa,g0,g1,g2,g3,g4,g5,g6,g7,g8,g9,Bt,Bp,Bo,BC,BE,By,BF,g17,Bx,Bv,w0,w1,w2,w3,w4,w5,w6,w7,w8,w9,Bn,Bm,Br,BG,Bz,BB,BA,BD,Bw,Bu,Mk,Nat.reduceAdd,Nat.reduceSub,Nat.reduceMul,Nat.reduceMod,Nat.reduceDiv,Q0,U]
  | j+1, i0, h, es, bs, c, hi, hp, hq, hk => by
    obtain ⟨es1, bs1, c1, e1, k1⟩ := Ae5 hq hk ((a0+i0) / 64) (.bool true)
    have hp1:A9 p (Ae q h (some (.m es1 bs1 c1)))=some (.c (.l [cv, sv, .map q]) false none) := by rw [A8 _ _ (Ne.symm hpq)]; exact hp
    obtain ⟨h', e2, o2, es2, bs2, c2', q2, k2⟩ := dirty_run (d0 := d0) (d1 := d1) (d3 := d3) (d4 := d4) (cv := cv) (sv := sv) (c2 := c2) (c3 := c3) (c4 := c4) (c5 := c5) (c6 := c6) (c7 := c7) (n := n) hm ha hpq j (i0+1) (Ae q h (some (.m es1 bs1 c1))) es1 bs1 c1 (by omega) hp1 (A6 _ _ _) k1
    refine ⟨h', fun K => ?_, fun r hr => (o2 r hr).trans (A8 _ _ (Ne.symm hr)), es2, bs2, c2', q2, k2⟩
    rw [Dh]
    have e3 := e2 K
    generalize hN:K+(j+1)=N at *
    rw [←e3]
    unfold CO
    simp (disch := omega) only [qa,g0,g1,g2,g3,g4,g5,g6,g7,g8,g9,Bt,Bp,Bo,BC,BE,By,BF,g17,Bx,Bv,w0,w1,w2,w3,w4,w5,w6,w7,w8,w9,Bn,Bm,Br,BG,Bz,BB,BA,BD,Bw,Bu,Mk,Nat.reduceAdd,Nat.reduceSub,Nat.reduceMul,Nat.reduceMod,Nat.reduceDiv,Q0,U,Ue,hp,e1]
theorem dirty_loop {d0 d1 d3 d4 cv sv:V} {c2 c3 c4 c5 c6 c7:SQ} {n p q:K4} {a0 m0:Nat} (hm:m0≤900000000) (ha:a0≤1000000000) (hpq:p≠q)
    (h:Heap) (es:List (V×V)) (bs:List Nat) (c:Nat) (hp:A9 p h=some (.c (.l [cv, sv, .map q]) false none)) (hq:A9 q h=some (.m es bs c)) (hk:IK es) :
    ∃ h', J1 CO NO (.mk (.mk d0 d1 (.int .i64 a0) d3) (.mk d4 (.ptr p 0) (.int .i64 m0) (.int .i64 0)) c2 c3 c4 c5 c6 c7) h n = .ok (.exit 1) (.mk (.mk d0 d1 (.int .i64 a0) d3) (.mk d4 (.ptr p 0) (.int .i64 m0) (.int .i64 m0)) c2 c3 c4 c5 c6 c7) h' n ∧
      (∀ r, r≠q->A9 r h'=A9 r h) ∧ ∃ es' bs' c', A9 q h'=some (.m es' bs' c')∧IK es' := by
  obtain ⟨h', e, o, es', bs', c', q', k'⟩ := dirty_run (d0 := d0) (d1 := d1) (d3 := d3) (d4 := d4) (cv := cv) (sv := sv) (c2 := c2) (c3 := c3) (c4 := c4) (c5 := c5) (c6 := c6) (c7 := c7) (n := n) hm ha hpq m0 0 h es bs c (by omega) hp hq hk
  refine ⟨h', ?_, o, es', bs', c', q', k'⟩
  rw [←P4, CH, ←Dh]
  have e1 := e (999999999 - m0)
  rw [show 999999999 - m0+m0+1=999999999+1 by omega] at e1
  exact e1
theorem write_app {m:Nat} {f d x dm pc:K4} {h:Heap} {n:K4} {a c b k room rd calls fl fl':Nat} {lw w cv sv v:V} {bs l:List UInt8} {es:List (V×V)} {ds:List Nat} {dk:Nat} (hbg:Bg fl fl') (hc:calls<1000000)
    (hf:A9 f h=some (.c (.l (fsC room rd calls fl (.map d) lw w)) false none)) (hd:A9 d h=some (.m [(.str a c, .ptr x 0)] [b] k)) (hb:b<k)
    (hx:A9 x h=some (.c (.l [cv, sv, .map dm]) false none)) (hdm:A9 dm h=some (.m es ds dk)) (hik:IK es) (ho:OU pc h cv bs) (hs:FD v l h)
    (hroom:room≤4194304) (hroom2:bs.length+l.length≤room) (h0:0<l.length)
    (hfn:f.toN<n.toN) (hdf:d.toN<n.toN) (ndf:d≠f) (hxn:x.toN<n.toN) (nfx:f≠x) (hdn:dm.toN<n.toN) (ndx:dm≠x) (nfd:f≠dm) (hpn:pc.toN<n.toN) (npf:pc≠f) (npx:pc≠x) (npm:pc≠dm) (hn:n.toN<57000)
    (hsp:∀ p:K4, (∃ off cap ex, v = .sl p off l.length cap ex 1)->p.toN<n.toN∧p≠f∧p≠x∧p≠dm∧p≠pc) :
    ∃ h' n' p', Al tab (m+11) ⟨.d0, .d1, .d13⟩ [.ptr f 0, .str a c, .int .i64 bs.length, v] h n = .rv (.int .i64 0) h' n'∧n.toN≤n'.toN∧n'.toN≤n.toN+14∧(Ay h n->Ay h' n')∧(∀ q:K4, q.toN<n.toN->q≠f->q≠dm->q≠pc->q≠x->A9 q h'=A9 q h) ∧
      A9 f h'=some (.c (.l (fsC room rd (calls+1) fl' (.map d) lw w)) false none)∧(∃ es ds dk, A9 dm h'=some (.m es ds dk)∧IK es)∧n.toN≤p'.toN∧p'.toN<n'.toN ∧ ∃ cv', A9 x h'=some (.c (.l [cv', sv, .map dm]) false none)∧OU p' h' cv' (bs++l) := by
  generalize hR:Al tab (m+11) ⟨.d0, .d1, .d13⟩ [.ptr f 0, .str a c, .int .i64 bs.length, v] h n=R0
  rw [call2_at, show B5 ⟨.d0, .d1, .d13⟩ tab=some x29 from rfl, x29, y29] at hR
  simp (disch := omega) only [qa,g0,g1,g2,g3,g4,g5,g6,g7,g8,g9,Bt,Bp,Bo,BC,BE,By,BF,g17,Bx,Bv,w0,w1,w2,w3,w4,w5,w6,w7,w8,w9,Bn,Bm,Br,BG,Bz,BB,BA,BD,Bw,Bu,Mk,Nat.reduceAdd,Nat.reduceSub,Nat.reduceMul,Nat.reduceMod,Nat.reduceDiv,Q0,U,en4] at hR
  rw [begin_bg hbg hf hc] at hR
  have hd1:A9 d (Ae f h (some (.c (.l (fsC room rd (calls+1) fl' (.map d) lw w)) false none)))=some (.m [(.str a c, .ptr x 0)] [b] k) := (A8 _ _ ndf.symm).trans hd
  have hx1:A9 x (Ae f h (some (.c (.l (fsC room rd (calls+1) fl' (.map d) lw w)) false none)))=some (.c (.l [cv, sv, .map dm]) false none) := (A8 _ _ nfx).trans hx
  have hL := ho.len (by omega)
  have hl := hs.len (by omega)
  simp (disch := omega) only [qa,g0,g1,g2,g3,g4,g5,g6,g7,g8,g9,Bt,Bp,Bo,BC,BE,By,BF,g17,Bx,Bv,w0,w1,w2,w3,w4,w5,w6,w7,w8,w9,Bn,Bm,Br,BG,Bz,BB,BA,BD,Bw,Bu,Mk,Nat.reduceAdd,Nat.reduceSub,Nat.reduceMul,Nat.reduceMod,Nat.reduceDiv,Q0,U,hd1,hx1,hL,hl,Vq,Vl,Ct,Cq] at hR
  obtain ⟨h1, n1, e1, b1, b2, o1, f1⟩ := used_1 (m := m) (n := n) (A6 f h (some (.c (.l (fsC room rd (calls+1) fl' (.map d) lw w)) false none))) hd1 hb hx1 hL (by omega) hfn hdf hxn (by omega)
  rw [e1] at hR
  have hf2 := (o1 f hfn).trans (A6 f h _)
  have hx2 := (o1 x hxn).trans hx1
  have hd2 := (o1 d (by omega)).trans hd1
  have hdm2 := (o1 dm (by omega)).trans ((A8 _ _ nfd).trans hdm)
  have ho2:OU pc h1 cv bs := ho.frame ((o1 pc hpn).trans (A8 _ _ npf.symm))
  have hsm := ho.same
  simp (disch := omega) only [qa,g0,g1,g2,g3,g4,g5,g6,g7,g8,g9,Bt,Bp,Bo,BC,BE,By,BF,g17,Bx,Bv,w0,w1,w2,w3,w4,w5,w6,w7,w8,w9,Bn,Bm,Br,BG,Bz,BB,BA,BD,Bw,Bu,Mk,Nat.reduceAdd,Nat.reduceSub,Nat.reduceMul,Nat.reduceMod,Nat.reduceDiv,Q0,U,hx2,hf2,hd2,hL,hl,Vq,Vl,Ct,Cq,hsm,QN,Wx,Nat.add_sub_cancel_left] at hR
  obtain ⟨h2, pr, e2, hp2, hpr, o2⟩ := Ui ho2 (m := l.length) h0 (by omega) (n := n1) (by omega) (by omega)
  have hll:(bs++List.replicate l.length (0:UInt8)).length=bs.length+l.length := by rw [List.length_append, List.length_replicate]
  rw [hll] at e2
  have u1 := K4.up_toN (p := n1) (by omega)
  have nx1:x≠n1 := K4.ne_of_lt (by omega)
  have nf1:f≠n1 := K4.ne_of_lt (by omega)
  have nm1:dm≠n1 := K4.ne_of_lt (by omega)
  have nxm:x≠dm := ndx.symm
  have hx3 := (o2 x nx1 npx.symm).trans hx2
  rw [show Ik 1 1 true [iB 0]=Ik 1 1 true [.int .u8 0] from rfl, e2] at hR
  simp (disch := omega) only [qa,g0,g1,g2,g3,g4,g5,g6,g7,g8,g9,Bt,Bp,Bo,BC,BE,By,BF,g17,Bx,Bv,w0,w1,w2,w3,w4,w5,w6,w7,w8,w9,Bn,Bm,Br,BG,Bz,BB,BA,BD,Bw,Bu,Mk,Nat.reduceAdd,Nat.reduceSub,Nat.reduceMul,Nat.reduceMod,Nat.reduceDiv,Q0,U,hx3,hl,Xi,Nat.add_sub_cancel_left] at hR
  have hs2:FD v l (Ae x h2 (some (.c (.l [.sl n1 0 (bs.length+l.length) (bs.length+l.length) false 1, sv, .map dm]) false none))) := hs.frame fun p hp => by
    obtain ⟨q1, q2, q3, q4, q5⟩ := hsp p hp
    rw [A8 _ _ (Ne.symm q3), o2 p (K4.ne_of_lt (by omega)) q5, o1 p q1, A8 _ _ (Ne.symm q2)]
  obtain ⟨h3, e3, hp3, o3⟩ := X3 (p := pc) (n := n1) (bs := bs) ((A8 _ _ nx1).trans hp2) hpr hs2 h0 (by omega)
  rw [e3] at hR
  have hx4:A9 x h3=some (.c (.l [.sl n1 0 (bs.length+l.length) (bs.length+l.length) false 1, sv, .map dm]) false none) := (o3 x nx1 npx.symm).trans (A6 _ _ _)
  have hdm4:A9 dm h3=some (.m es ds dk) := by rw [o3 dm nm1 npm.symm, A8 _ _ nxm, o2 dm nm1 npm.symm, hdm2]
  obtain ⟨h4, e4, o4, es', bs', c', q4, k4⟩ := dirty_loop (d0 := .ptr f 0) (d1 := .str a c) (d3 := v) (d4 := .int .i64 0) (a0 := bs.length) (m0 := l.length) (by omega) (by omega) nxm h3 es ds dk hx4 hdm4 hik
  rw [e4] at hR
  simp (disch := omega) only [qa,g0,g1,g2,g3,g4,g5,g6,g7,g8,g9,Bt,Bp,Bo,BC,BE,By,BF,g17,Bx,Bv,w0,w1,w2,w3,w4,w5,w6,w7,w8,w9,Bn,Bm,Br,BG,Bz,BB,BA,BD,Bw,Bu,Mk,Nat.reduceAdd,Nat.reduceSub,Nat.reduceMul,Nat.reduceMod,Nat.reduceDiv,Q0,U] at hR
  subst hR
  refine ⟨_, _, n1, rfl, by omega, by omega, fun hfr q hq => ?_, fun q hq h5 h6 h7 h8 => ?_, ?_, ⟨es', bs', c', q4, k4⟩, b1, by omega, _, (o4 x nxm).trans hx4, .inr ⟨false, ?_, ?_⟩⟩
  · rw [o4 q (K4.ne_of_lt (by omega)).symm, o3 q (K4.ne_of_lt (by omega)).symm (K4.ne_of_lt (by omega)).symm, A8 _ _ (K4.ne_of_lt (by omega)), o2 q (K4.ne_of_lt (by omega)).symm (K4.ne_of_lt (by omega)).symm]
    exact f1 (fun r hr => (A8 _ _ (K4.ne_of_lt (by omega))).trans (hfr r hr)) q (by omega)
  · rw [o4 q h6, o3 q (K4.ne_of_lt (by omega)) h7, A8 _ _ (Ne.symm h8), o2 q (K4.ne_of_lt (by omega)) h7, o1 q hq, A8 _ _ (Ne.symm h5)]
  · rw [o4 f nfd, o3 f nf1 npf.symm, A8 _ _ nfx.symm, o2 f nf1 npf.symm]; exact hf2
  · rw [List.length_append]
  · rw [o4 n1 nm1.symm]; exact hp3
theorem q_appS (u v:V) (h:Heap) (n:K4) (κ:KV):C3 1 1 u v h n κ=H8 1 v h fun m y => BR 1 1 u m y h n κ := id rfl
theorem app_empty {l:List UInt8} {n:K4} {h:Heap} (hn:n.toN<64000) (hl:l.length≤1000000000) (hg:A9 n h=some (.c (.b 0 0) false none)) :
    ∃ h' n' v p', (∀ κ:KV, BR 1 1 (.sl n 0 0 0 true 1) l.length (cb l) h n.up κ=κ v h' n')∧n.toN<n'.toN∧n'.toN≤n.toN+2∧OU p' h' v l∧n.toN≤p'.toN∧p'.toN<n'.toN∧(∀ q:K4, q.toN≤n.toN->A9 q h'=A9 q h)∧(∀ q:K4, n'.toN≤q.toN->A9 q h'=A9 q h)∧v = .sl p' 0 l.length l.length (decide (l.length=0)) 1 := by
  have u1 := K4.up_toN (p := n) (by omega)
  have u2 := K4.up_toN (p := n.up) (by omega)
  cases l with
  | nil => exact ⟨h, n.up, .sl n 0 0 0 true 1, n, fun κ => Lj (.inr ⟨n, 0, 0, 0, true, rfl⟩) _ _ _ _, by omega, by omega, .inr ⟨true, rfl, hg⟩, by omega, by omega, fun q _ => rfl, fun q _ => rfl, rfl⟩
  | cons u l =>
    refine ⟨Ae n.up h (some (.c (cb (u::l)) false none)), n.up.up, .sl n.up 0 (u::l).length (u::l).length false 1, n.up, fun κ => ?_, by omega, by omega, .inr ⟨false, rfl, A6 _ _ _⟩, by omega, by omega, fun q hq => As (by omega) _ _, fun q hq => AG (by omega) _ _, ?_⟩
    · have e := Fu (a := []) (b := u::l) (ex := true) (h := h) (p := n) (pr := none) hg (by rw [List.length_cons]; omega) (by rw [List.length_nil]; omega) (n := n.up) (by omega) κ
      rw [if_pos rfl] at e
      exact e
    · rw [decide_eq_false (by rw [List.length_cons]; omega)]
theorem clone_nil {m:Nat} {h:Heap} {n:K4}:Al tab (m+1) ⟨.d0, .d5, .d3⟩ [.nil .sl] h n = .rv (.nil .sl) h n := by
  rw [call2_at, show B5 ⟨.d0, .d5, .d3⟩ tab=some x83 from rfl, x83]
  simp (disch := omega) only [qa,g0,g1,g2,g3,g4,g5,g6,g7,g8,g9,Bt,Bp,Bo,BC,BE,By,BF,g17,Bx,Bv,w0,w1,w2,w3,w4,w5,w6,w7,w8,w9,Bn,Bm,Br,BG,Bz,BB,BA,BD,Bw,Bu,Mk,Nat.reduceAdd,Nat.reduceSub,Nat.reduceMul,Nat.reduceMod,Nat.reduceDiv,Q0,U,en3]
theorem clone_sl {m:Nat} {p:K4} {h:Heap} {n:K4} {off len cap:Nat} {ex:Bool} {L l:List UInt8} {s:Bool} {pr:Option K4} (hp:A9 p h=some (.c (cb L) s pr)) (hl:off+len≤L.length) (hL:L.length≤1000000000) (he:(L.drop off).take len=l) (hpn:p.toN<n.toN) (hn:n.toN<63000) :
    ∃ h' n' v p', Al tab (m+1) ⟨.d0, .d5, .d3⟩ [.sl p off len cap ex 1] h n = .rv v h' n'∧n.toN<n'.toN∧n'.toN≤n.toN+2∧OU p' h' v l∧n.toN≤p'.toN∧p'.toN<n'.toN∧(∀ q:K4, q.toN<n.toN->A9 q h'=A9 q h)∧(Ay h n->Ay h' n')∧v = .sl p' 0 l.length l.length (decide (l.length=0)) 1 := by
  have u1 := K4.up_toN (p := n) (by omega)
  have hll:l.length=len := by rw [←he]; exact Ep hl
  obtain ⟨h', n', v, p', e1, b1, b2, o1, c1, c2, yg1, yg2, yw1⟩ := app_empty (l := l) (n := n) (h := Ae n h (some (.c (.b 0 0) false none))) (by omega) (by omega) (A6 _ _ _)
  generalize hR:Al tab (m+1) ⟨.d0, .d5, .d3⟩ [.sl p off len cap ex 1] h n=R0
  rw [call2_at, show B5 ⟨.d0, .d5, .d3⟩ tab=some x83 from rfl, x83] at hR
  simp (disch := omega) only [qa,g0,g1,g2,g3,g4,g5,g6,g7,g8,g9,Bt,Bp,Bo,BC,BE,By,BF,g17,Bx,Bv,w0,w1,w2,w3,w4,w5,w6,w7,w8,w9,Bn,Bm,Br,BG,Bz,BB,BA,BD,Bw,Bu,Mk,Nat.reduceAdd,Nat.reduceSub,Nat.reduceMul,Nat.reduceMod,Nat.reduceDiv,Q0,U,en3,q_appS] at hR
  rw [Zl ((As hpn _ _).trans hp) hl, he] at hR
  rw [←hll, e1] at hR
  simp (disch := omega) only [qa,g0,g1,g2,g3,g4,g5,g6,g7,g8,g9,Bt,Bp,Bo,BC,BE,By,BF,g17,Bx,Bv,w0,w1,w2,w3,w4,w5,w6,w7,w8,w9,Bn,Bm,Br,BG,Bz,BB,BA,BD,Bw,Bu,Mk,Nat.reduceAdd,Nat.reduceSub,Nat.reduceMul,Nat.reduceMod,Nat.reduceDiv,Q0,U] at hR
  subst hR
  refine ⟨h', n', v, p', rfl, b1, b2, o1, c1, c2, fun q hq => ?_, fun hfr q hq => ?_, yw1⟩
  · rw [yg1 q (by omega)]; exact As hq _ _
  · rw [yg2 q hq]; exact (AG (by omega) _ _).trans (hfr q (by omega))
theorem read_ok {m:Nat} {f d x pc:K4} {h:Heap} {n:K4} {a c b k room rd calls fl off len:Nat} {lw w cv sv dv:V} {bs:List UInt8}
    (hf:A9 f h=some (.c (.l (fsC room rd calls fl (.map d) lw w)) false none)) (hd:A9 d h=some (.m [(.str a c, .ptr x 0)] [b] k))
    (hx:A9 x h=some (.c (.l [cv, sv, dv]) false none)) (ho:OU pc h cv bs) (hbs:bs.length≤1000000000) (hol:off+len≤bs.length) (hrd:rd<1000000000000)
    (hfn:f.toN<n.toN) (ndf:d≠f) (nxf:x≠f) (hpn:pc.toN<n.toN) (npf:pc≠f) (hn:n.toN<57000) :
    ∃ h' n' v p', Al tab (m+2) ⟨.d0, .d4, .d0⟩ [.ptr f 0, .str a c, .int .i64 off, .int .i64 len] h n = .rv (.tup [v, .int .i64 0]) h' n'∧n.toN≤n'.toN∧n'.toN≤n.toN+3∧(Ay h n->Ay h' n')∧(∀ q:K4, q.toN<n.toN->q≠f->A9 q h'=A9 q h) ∧
      A9 f h'=some (.c (.l (fsC room (rd+len) calls fl (.map d) lw w)) false none)∧OU p' h' v ((bs.drop off).take len)∧(p'=pc∨n.toN≤p'.toN∧p'.toN<n'.toN) := by
  generalize hR:Al tab (m+2) ⟨.d0, .d4, .d0⟩ [.ptr f 0, .str a c, .int .i64 off, .int .i64 len] h n=R0
  rw [call2_at, show B5 ⟨.d0, .d4, .d0⟩ tab=some x64 from rfl, x64] at hR
  have hL := ho.len (by omega)
  have hx1:∀ z, A9 x (Ae f h z)=some (.c (.l [cv, sv, dv]) false none) := fun z => (A8 _ _ nxf.symm).trans hx
  simp (config := {maxSteps := 3000000}) (disch := omega) only [qa,g0,g1,g2,g3,g4,g5,g6,g7,g8,g9,Bt,Bp,Bo,BC,BE,By,BF,g17,Bx,Bv,w0,w1,w2,w3,w4,w5,w6,w7,w8,w9,Bn,Bm,Br,BG,Bz,BB,BA,BD,Bw,Bu,Mk,Nat.reduceAdd,Nat.reduceSub,Nat.reduceMul,Nat.reduceMod,Nat.reduceDiv,Q0,U,en4,hf,hd,hx,hL,hx1] at hR
  rcases ho with ⟨rfl, rfl⟩ | ⟨ex, rfl, hp⟩
  · obtain rfl:off=0 := by simp only [List.length_nil] at hol; omega
    obtain rfl:len=0 := by simp only [List.length_nil] at hol; omega
    rw [WB, clone_nil] at hR
    simp (disch := omega) only [qa,g0,g1,g2,g3,g4,g5,g6,g7,g8,g9,Bt,Bp,Bo,BC,BE,By,BF,g17,Bx,Bv,w0,w1,w2,w3,w4,w5,w6,w7,w8,w9,Bn,Bm,Br,BG,Bz,BB,BA,BD,Bw,Bu,Mk,Nat.reduceAdd,Nat.reduceSub,Nat.reduceMul,Nat.reduceMod,Nat.reduceDiv,Q0,U] at hR
    subst hR
    exact ⟨_, _, _, pc, rfl, by omega, by omega, fun hfr q hq => (A8 _ _ (K4.ne_of_lt (by omega))).trans (hfr q hq), fun q hq h1 => A8 _ _ (Ne.symm h1), A6 _ _ _, .inl ⟨rfl, rfl⟩, .inl rfl⟩
  · rw [Sn (by omega) (by omega) (by omega)] at hR
    obtain ⟨h', n', v, p', e, b1, b2, o, c1, c2, yg, yf, yw⟩ := clone_sl (m := m) (n := n) (p := pc) (off := 0+off) (len := off+len - off) (cap := bs.length - off) (ex := ex) (L := bs) (l := (bs.drop off).take len) ((A8 _ _ npf.symm).trans hp) (by omega) hbs (by rw [Nat.zero_add, Nat.add_sub_cancel_left]) hpn (by omega)
    rw [e] at hR
    simp (disch := omega) only [qa,g0,g1,g2,g3,g4,g5,g6,g7,g8,g9,Bt,Bp,Bo,BC,BE,By,BF,g17,Bx,Bv,w0,w1,w2,w3,w4,w5,w6,w7,w8,w9,Bn,Bm,Br,BG,Bz,BB,BA,BD,Bw,Bu,Mk,Nat.reduceAdd,Nat.reduceSub,Nat.reduceMul,Nat.reduceMod,Nat.reduceDiv,Q0,U] at hR
    subst hR
    exact ⟨h', n', v, p', rfl, by omega, by omega, fun hfr => yf fun q hq => (A8 _ _ (K4.ne_of_lt (by omega))).trans (hfr q hq), fun q hq h1 => (yg q hq).trans (A8 _ _ (Ne.symm h1)), (yg f hfn).trans (A6 _ _ _), o, .inr ⟨c1, c2⟩⟩
def com32 (x:Nat):Nat := Nat.xor 4294967295 x
theorem com_u (r:Nat) (κ:V->R):Rk (.int .u32 r) κ=κ (.int .u32 (com32 r)) := by
  show Aa (Nat.xor (Nat.sub (Mk .u32) 1) r) (fun r => κ (.int .u32 r))=_
  rw [A7]; rfl
theorem com_lt {x:Nat} (h:x<4294967296):com32 x<4294967296 := Nat.xor_lt_two_pow (n := 32) (by decide) h
noncomputable def crcM (s:Nat) (l:List UInt8):Nat := com32 (I1 l.length (Ar l) (com32 s))
theorem crcQ_lt:∀ (j d x:Nat), x<4294967296->I1 j d x<4294967296
  | 0, _, _, h => h
  | j+1, d, x, h => by
    show I1 j (sh d 1) (Jo (Nat.xor x (lo d 1)))<4294967296
    exact crcQ_lt j _ _ (by rw [J3]; exact Ks 8 (Nat.xor_lt_two_pow (n := 32) h (Nat.lt_trans (JM _) (by decide))))
theorem crcM_lt {s:Nat} {l:List UInt8} (h:s<4294967296):crcM s l<4294967296 := com_lt (crcQ_lt _ _ _ (com_lt h))
theorem crc_loop {d0 d1 d2 d7:V} {c2 c3 c4 c5 c6 c7:SQ} {h:Heap} {n p:K4} {off len cap x:Nat} {ex sup:Bool} {prev:Option K4} {L l:List UInt8} (hp:A9 p h=some (.c (cb L) sup prev)) (hl:off+len≤L.length) (he:(L.drop off).take len=l) (hL:len≤900000000) (hx:x<4294967296) :
    ∃ d7', J1 Dd S0 (.mk (.mk d0 d1 d2 (.int .u32 x)) (.mk (.sl p off len cap ex 1) (.int .i64 len) (.int .i64 0) d7) c2 c3 c4 c5 c6 c7) h n = .ok (.exit 0) (.mk (.mk d0 d1 d2 (.int .u32 (I1 l.length (Ar l) x))) (.mk (.sl p off len cap ex 1) (.int .i64 len) (.int .i64 len) d7') c2 c3 c4 c5 c6 c7) h n := by
  have hll:l.length=len := by rw [←he]; exact Ep hl
  have out:∀ (x:Nat) (d7:V) (K:Nat), DH Dd (K+1) (.mk (.mk d0 d1 d2 (.int .u32 x)) (.mk (.sl p off len cap ex 1) (.int .i64 len) (.int .i64 len) d7) c2 c3 c4 c5 c6 c7) h n = .ok (.exit 0) (.mk (.mk d0 d1 d2 (.int .u32 x)) (.mk (.sl p off len cap ex 1) (.int .i64 len) (.int .i64 len) d7) c2 c3 c4 c5 c6 c7) h n := fun x d7 K => by
    rw [Dh]
    unfold Dd
    simp (disch := omega) only [qa,g0,g1,g2,g3,g4,g5,g6,g7,g8,g9,Bt,Bp,Bo,BC,BE,By,BF,g17,Bx,Bv,w0,w1,w2,w3,w4,w5,w6,w7,w8,w9,Bn,Bm,Br,BG,Bz,BB,BA,BD,Bw,Bu,Mk,Nat.reduceAdd,Nat.reduceSub,Nat.reduceMul,Nat.reduceMod,Nat.reduceDiv,Q0,U]
  rw [←Kp, CH, ←Dh]
  cases hn:len with
  | zero =>
    obtain rfl:l=[] := List.length_eq_zero_iff.1 (hll.trans hn)
    have := out x d7 999999999
    rw [hn] at this
    exact ⟨d7, this⟩
  | succ j =>
    have e := Hr (d0 := d0) (d1 := d1) (d2 := d2) (c2 := c2) (c3 := c3) (c4 := c4) (c5 := c5) (c6 := c6) (c7 := c7) (n := n) (cap := cap) (ex := ex) hp (Nat.le_refl len) hl (by omega) j 0 x d7 (by omega) hx (999999998 - j+1)
    rw [show j+1+(999999998 - j+1)=999999999+1 by omega, show 0+(j+1)=len by omega, out] at e
    rw [←hn, e, show j+1=len by omega, ←NY, Er, show off+0=off from rfl, he, hll]
    exact ⟨_, rfl⟩
theorem more_sl {m:Nat} {h:Heap} {n p:K4} {off len cap s:Nat} {ex sup:Bool} {prev:Option K4} {L l:List UInt8} (hp:A9 p h=some (.c (cb L) sup prev)) (hl:off+len≤L.length) (he:(L.drop off).take len=l) (hL:len≤900000000) (hs:s<4294967296) :
    Al tab (m+1) ⟨.d0, .d4, .d5⟩ [.int .u32 s, .sl p off len cap ex 1] h n = .rv (.int .u32 (crcM s l)) h n := by
  rw [call2_at, show B5 ⟨.d0, .d4, .d5⟩ tab=some x69 from rfl, x69, y69]
  simp (disch := omega) only [qa,g0,g1,g2,g3,g4,g5,g6,g7,g8,g9,Bt,Bp,Bo,BC,BE,By,BF,g17,Bx,Bv,w0,w1,w2,w3,w4,w5,w6,w7,w8,w9,Bn,Bm,Br,BG,Bz,BB,BA,BD,Bw,Bu,Mk,Nat.reduceAdd,Nat.reduceSub,Nat.reduceMul,Nat.reduceMod,Nat.reduceDiv,Q0,U,en1,com_u]
  obtain ⟨d7, e⟩ := crc_loop (d0 := .int .u32 s) (d1 := .sl p off len cap ex 1) (d2 := .int .u32 0) (d7 := B4) (c2 := Q0) (c3 := Q0) (c4 := Q0) (c5 := Q0) (c6 := Q0) (c7 := Q0) (n := n) (cap := cap) (ex := ex) hp hl he hL (com_lt hs)
  simp only [Q0] at e
  rw [e]
  simp (disch := omega) only [qa,g0,g1,g2,g3,g4,g5,g6,g7,g8,g9,Bt,Bp,Bo,BC,BE,By,BF,g17,Bx,Bv,w0,w1,w2,w3,w4,w5,w6,w7,w8,w9,Bn,Bm,Br,BG,Bz,BB,BA,BD,Bw,Bu,Mk,Nat.reduceAdd,Nat.reduceSub,Nat.reduceMul,Nat.reduceMod,Nat.reduceDiv,Q0,U,com_u]; rfl
theorem more_nil {m:Nat} {h:Heap} {n:K4} {s:Nat} (hs:s<4294967296):Al tab (m+1) ⟨.d0, .d4, .d5⟩ [.int .u32 s, .nil .sl] h n = .rv (.int .u32 (crcM s [])) h n := by
  rw [call2_at, show B5 ⟨.d0, .d4, .d5⟩ tab=some x69 from rfl, x69, y69]
  simp (disch := omega) only [qa,g0,g1,g2,g3,g4,g5,g6,g7,g8,g9,Bt,Bp,Bo,BC,BE,By,BF,g17,Bx,Bv,w0,w1,w2,w3,w4,w5,w6,w7,w8,w9,Bn,Bm,Br,BG,Bz,BB,BA,BD,Bw,Bu,Mk,Nat.reduceAdd,Nat.reduceSub,Nat.reduceMul,Nat.reduceMod,Nat.reduceDiv,Q0,U,en1,com_u]
  rw [←Kp, CH]
  unfold Dd
  simp (disch := omega) only [qa,g0,g1,g2,g3,g4,g5,g6,g7,g8,g9,Bt,Bp,Bo,BC,BE,By,BF,g17,Bx,Bv,w0,w1,w2,w3,w4,w5,w6,w7,w8,w9,Bn,Bm,Br,BG,Bz,BB,BA,BD,Bw,Bu,Mk,Nat.reduceAdd,Nat.reduceSub,Nat.reduceMul,Nat.reduceMod,Nat.reduceDiv,Q0,U,com_u]; rfl
theorem sum_sl {m:Nat} {h:Heap} {n p:K4} {off len cap:Nat} {ex sup:Bool} {prev:Option K4} {L l:List UInt8} (hp:A9 p h=some (.c (cb L) sup prev)) (hl:off+len≤L.length) (he:(L.drop off).take len=l) (hL:len≤900000000) :
    Al tab (m+2) ⟨.d0, .d4, .d6⟩ [.sl p off len cap ex 1] h n = .rv (.int .u32 (crcM 0 l)) h n := by
  rw [call2_at, show B5 ⟨.d0, .d4, .d6⟩ tab=some x70 from rfl, x70]
  simp (disch := omega) only [qa,g0,g1,g2,g3,g4,g5,g6,g7,g8,g9,Bt,Bp,Bo,BC,BE,By,BF,g17,Bx,Bv,w0,w1,w2,w3,w4,w5,w6,w7,w8,w9,Bn,Bm,Br,BG,Bz,BB,BA,BD,Bw,Bu,Mk,Nat.reduceAdd,Nat.reduceSub,Nat.reduceMul,Nat.reduceMod,Nat.reduceDiv,Q0,U,en3]
  rw [show iW 0 = .int .u32 0 from rfl, more_sl hp hl he hL (by omega)]
  simp (disch := omega) only [qa,g0,g1,g2,g3,g4,g5,g6,g7,g8,g9,Bt,Bp,Bo,BC,BE,By,BF,g17,Bx,Bv,w0,w1,w2,w3,w4,w5,w6,w7,w8,w9,Bn,Bm,Br,BG,Bz,BB,BA,BD,Bw,Bu,Mk,Nat.reduceAdd,Nat.reduceSub,Nat.reduceMul,Nat.reduceMod,Nat.reduceDiv,Q0,U]
theorem get_sl {m:Nat} {h:Heap} {n p:K4} {off len cap:Nat} {ex sup:Bool} {prev:Option K4} {L l:List UInt8} (hp:A9 p h=some (.c (cb L) sup prev)) (hl:off+len≤L.length) (he:(L.drop off).take len=l) (hL:len≤900000000) :
    Al tab (m+1) ⟨.d0, .d5, .d5⟩ [.sl p off len cap ex 1] h n = .rv (.int .u64 (G0 l.length (Ar l) 0)) h n := by
  have hll:l.length=len := by rw [←he]; exact Ep hl
  rw [call2_at, show B5 ⟨.d0, .d5, .d5⟩ tab=some x85 from rfl, x85, y85]
  simp (disch := omega) only [qa,g0,g1,g2,g3,g4,g5,g6,g7,g8,g9,Bt,Bp,Bo,BC,BE,By,BF,g17,Bx,Bv,w0,w1,w2,w3,w4,w5,w6,w7,w8,w9,Bn,Bm,Br,BG,Bz,BB,BA,BD,Bw,Bu,Mk,Nat.reduceAdd,Nat.reduceSub,Nat.reduceMul,Nat.reduceMod,Nat.reduceDiv,Q0,U,en3]
  rw [←Rm, CH, ←Dh]
  have e := Hj (d0 := .sl p off len cap ex 1) (d1 := iL 0) (d6 := B4) (d7 := B4) (c2 := Q0) (c3 := Q0) (c4 := Q0) (c5 := Q0) (c6 := Q0) (c7 := Q0) (n := n) (cap := cap) (ex := ex) hp (Nat.le_refl len) hl (by omega) len 0 0 (by omega) (999999999 - len+1)
  rw [show len+(999999999 - len+1)=999999999+1 by omega] at e
  simp only [Q0] at e
  rw [show iL 0 = .int .u64 0 from rfl] at *
  rw [e, Dh]
  unfold FZ
  simp (disch := omega) only [qa,g0,g1,g2,g3,g4,g5,g6,g7,g8,g9,Bt,Bp,Bo,BC,BE,By,BF,g17,Bx,Bv,w0,w1,w2,w3,w4,w5,w6,w7,w8,w9,Bn,Bm,Br,BG,Bz,BB,BA,BD,Bw,Bu,Mk,Nat.reduceAdd,Nat.reduceSub,Nat.reduceMul,Nat.reduceMod,Nat.reduceDiv,Q0,U]
  rw [←LW, Er, show off+0=off from rfl, he, hll]
noncomputable def putB (c:Fz):S->Heap->K4->R := fun t h n=>g4 t fun z7=>Cv z7 (iI 0) fun z8=>BM z8 (Ao 1 (g3 t fun z9=>g0 t fun za=>EG (iI 8) z7 fun zb=>F3 za zb fun zc=>B2 .u8 zc fun zd=>AF 0 zd [(iB 0)] fun ze=>Cp true 1 1 ze h n fun zf h n=>C3 1 1 z9 zf h n fun zg h n=>w3 t zg fun t=>nR t h n) fun t h n=>g4 t fun zh=>B9 zh (iI 1) fun zi=>w4 t zi fun t=>nR t h n)<|.ok (.exit 0) t h n
noncomputable def x85L:Ent := .code en1 (fun c t h n=>g1 t fun z1=>Ba z1 (iI 0) fun z2=>Cc false z2 h n (fun k=>k z1 h n) fun z3 h n=>Cc false z2 h n (fun k=>DT z3 (iI 8) fun v=>k v h n) fun z4 h n=>AI z2 (.bool true) z4 fun z5=>BM z5 (w2 t (.nil .sl) fun t=>rT t h n)<|B9 z1 (iI 1) fun z6=>Ao 0 (w2 t (.nil .sl) fun t=>w3 t (.nil .sl) fun t=>w4 t z6 fun t=>C0 (putB c) t h n) fun t h n=>g3 t fun zj=>w2 t zj fun t=>rT t h n) (fun t h n=>g2 t fun a0=>.rv a0 h n)
theorem x68_L:x68=x85L := rfl
def putL (v:Nat):Nat->List UInt8
  | 0 => []
  | k+1 => UInt8.ofNat ((v >>> (8*k)) % 256)::putL v k
theorem putL_len (v:Nat):∀ k, (putL v k).length=k
  | 0 => rfl
  | k+1 => by rw [putL, List.length_cons, putL_len]
theorem putB_in {m v j:Nat} (hv:v<18446744073709551616) (hj:j<8) {lo:Nat} {n:K4} {h:Heap} {c d1 d2:V} {l:List UInt8} (H:Fx lo n h c l) (hlo:lo≤n.toN) (hl:l.length≤100) (hn:n.toN<64000) :
    ∃ c' h' n', putB (Al tab m) (.mk (.mk (.int .u64 v) d1 d2 c) (.mk (.int .i64 (Io .i64 (j+1) 1)) B4 B4 B4) Q0 Q0 Q0 Q0 Q0 Q0) h n = .ok .nrm (.mk (.mk (.int .u64 v) d1 d2 c') (.mk (.int .i64 (Io .i64 j 1)) B4 B4 B4) Q0 Q0 Q0 Q0 Q0 Q0) h' n' ∧
      Fx lo n' h' c' (l++[UInt8.ofNat ((v >>> (8*j)) % 256)])∧n.toN≤n'.toN∧n'.toN≤n.toN+2∧(∀ q:K4, q.toN<lo->A9 q h'=A9 q h)∧(Ay h n->Ay h' n') := by
  have u1 := K4.up_toN (p := n) (by omega)
  obtain ⟨c', h', n', e, o, b1, b2, f, fr⟩ := LG (n := n.up) (h := Ae n h (some (.c (cb [UInt8.ofNat ((v >>> (8*j)) % 256)]) false none))) (v := .sl n 0 1 1 true 1) (b := [UInt8.ofNat ((v >>> (8*j)) % 256)]) (H.frame (by omega) fun q _ hq => As hq _ _)
    (.inr (.inr ⟨n, 0, 1, true, _, false, none, rfl, A6 _ _ _, by simp, by simp⟩)) (by omega) (by simp; omega) (by omega)
  refine ⟨c', h', n', ?_, o, by omega, by omega, fun q hq => (f q hq).trans (As (by omega) _ _), fun hf => fr fun q hq => (AG (by omega) _ _).trans (hf q (by omega))⟩
  have hs:v >>> (8*j)<18446744073709551616 := Nat.lt_of_le_of_lt (Nat.shiftRight_le _ _) hv
  have hm:(8*j) % Mk .i64=8*j := Nat.mod_eq_of_lt (by show 8*j<18446744073709551616; omega)
  have e1:Io .i64 (j+1) 1=j := by rw [KQ (by omega) (by omega)]; omega
  have e0:(0:Nat)<9223372036854775808 := by omega
  unfold putB
  simp (disch := omega) only [qa,g0,g1,g2,g3,g4,g5,g6,g7,g8,g9,Bt,Bp,Bo,BC,BE,By,BF,g17,Bx,Bv,w0,w1,w2,w3,w4,w5,w6,w7,w8,w9,Bn,Bm,Br,BG,Bz,BB,BA,BD,Bw,Bu,Mk,Nat.reduceAdd,Nat.reduceSub,Nat.reduceMul,Nat.reduceMod,Nat.reduceDiv,Q0,U,e1,X9,Ql,hm,e,Ya]
theorem put_loop {m v:Nat} (hv:v<18446744073709551616) {lo:Nat} {d1 d2:V} :
    ∀ (j:Nat) (n:K4) (h:Heap) (c:V) (l:List UInt8), j≤8->Fx lo n h c l->lo≤n.toN->l.length+j≤100->n.toN+2*j<64000 →
    ∃ c' h' n', (∀ K, DH (putB (Al tab m)) (K+j+1) (.mk (.mk (.int .u64 v) d1 d2 c) (.mk (.int .i64 (Io .i64 j 1)) B4 B4 B4) Q0 Q0 Q0 Q0 Q0 Q0) h n = .ok (.exit 0) (.mk (.mk (.int .u64 v) d1 d2 c') (.mk (.int .i64 18446744073709551615) B4 B4 B4) Q0 Q0 Q0 Q0 Q0 Q0) h' n') ∧
      Fx lo n' h' c' (l++putL v j)∧n.toN≤n'.toN∧n'.toN≤n.toN+2*j∧(∀ q:K4, q.toN<lo->A9 q h'=A9 q h)∧(Ay h n->Ay h' n') := by
  intro j
  induction j with
  | zero =>
    intro n h c l hj H hlo hl hn
    refine ⟨c, h, n, fun K => ?_, by rw [putL, List.append_nil]; exact H, by omega, by omega, fun q _ => rfl, fun h => h⟩
    rw [Dh]
    unfold putB
    simp (disch := omega) only [qa,g0,g1,g2,g3,g4,g5,g6,g7,g8,g9,Bt,Bp,Bo,BC,BE,By,BF,g17,Bx,Bv,w0,w1,w2,w3,w4,w5,w6,w7,w8,w9,Bn,Bm,Br,BG,Bz,BB,BA,BD,Bw,Bu,Mk,Nat.reduceAdd,Nat.reduceSub,Nat.reduceMul,Nat.reduceMod,Nat.reduceDiv,Q0,U]
  | succ j ih =>
    intro n h c l hj H hlo hl hn
    obtain ⟨c1, h1, n1, e1, o1, b1, b2, f1, fr1⟩ := putB_in (m := m) (d1 := d1) (d2 := d2) hv (show j<8 by omega) H hlo (by omega) (by omega)
    obtain ⟨c2, h2, n2, e2, o2, b3, b4, f2, fr2⟩ := ih n1 h1 c1 _ (by omega) o1 (by omega) (by simp; omega) (by omega)
    refine ⟨c2, h2, n2, fun K => ?_, by rw [putL]; simpa using o2, by omega, by omega, fun q hq => (f2 q hq).trans (f1 q hq), fun h => fr2 (fr1 h)⟩
    rw [Dh, e1, Gq]
    exact e2 K
theorem put_ok {m v k:Nat} (hv:v<18446744073709551616) (hk0:0<k) (hk:k≤8) {n:K4} {h:Heap} (hn:n.toN<63000) :
    ∃ c' h' n', Al tab (m+1) ⟨.d0, .d4, .d4⟩ [.int .u64 v, .int .i64 k] h n = .rv c' h' n'∧Fx n.toN n' h' c' (putL v k)∧n.toN≤n'.toN∧n'.toN≤n.toN+2*k∧(∀ q:K4, q.toN<n.toN->A9 q h'=A9 q h)∧(Ay h n->Ay h' n') := by
  obtain ⟨c', h', n', e, o, b1, b2, f, fr⟩ := put_loop (m := m) (d1 := .int .i64 k) (d2 := .nil .sl) hv k n h (.nil .sl) [] hk (.nil (lo := n.toN)) (by omega) (by simp; omega) (by omega)
  refine ⟨c', h', n', ?_, o, b1, b2, f, fr⟩
  have e1 := e (999999999 - k)
  rw [show 999999999 - k+k+1=999999999+1 by omega] at e1
  rw [KQ (by omega) (by omega)] at e1
  simp only [Q0] at e1
  rw [call2_at, show B5 ⟨.d0, .d4, .d4⟩ tab=some x68 from rfl, x68_L, x85L]
  simp (disch := omega) only [qa,g0,g1,g2,g3,g4,g5,g6,g7,g8,g9,Bt,Bp,Bo,BC,BE,By,BF,g17,Bx,Bv,w0,w1,w2,w3,w4,w5,w6,w7,w8,w9,Bn,Bm,Br,BG,Bz,BB,BA,BD,Bw,Bu,Mk,Nat.reduceAdd,Nat.reduceSub,Nat.reduceMul,Nat.reduceMod,Nat.reduceDiv,Q0,U,en1,CH]
  rw [←Dh, e1]
  simp (disch := omega) only [qa,g0,g1,g2,g3,g4,g5,g6,g7,g8,g9,Bt,Bp,Bo,BC,BE,By,BF,g17,Bx,Bv,w0,w1,w2,w3,w4,w5,w6,w7,w8,w9,Bn,Bm,Br,BG,Bz,BB,BA,BD,Bw,Bu,Mk,Nat.reduceAdd,Nat.reduceSub,Nat.reduceMul,Nat.reduceMod,Nat.reduceDiv,Q0,U]
theorem ix_rb {l:List UInt8} {i:Nat} (hi:i<l.length) (h2:l.length<9223372036854775808) (h:Heap) (κ:V->R):AY 1 (Lr l) (.int .i64 i) (fun z => Au z h κ)=κ (.int .u8 (lo (sh (Ar l) i) 1)) := by
  show br (Nat.ble (Nat.succ i) 9223372036854775808) (br (Nat.beq 1 1) (br (Nat.ble (Nat.succ i) l.length) (Aa (Ev.lo (sh (Ar l) i) 1) fun r => κ (.int .u8 r)) (.fail "")) (.fail "")) (.fail "")=_
  rw [show Nat.ble (Nat.succ i) 9223372036854775808=true from Ab.2 (by omega), Ac, Nat.beq_refl, Ac, show Nat.ble (Nat.succ i) l.length=true from Ab.2 hi, Ac, A7]
theorem crcr_round {d0 d1 d2 d7:V} {c2 c3 c4 c5 c6 c7:SQ} {h:Heap} {n:K4} {l:List UInt8} {i x:Nat} (hi:i<l.length) (hb:l.length≤900000000) (hx:x<4294967296) :
    Dd (.mk (.mk d0 d1 d2 (.int .u32 x)) (.mk (Lr l) (.int .i64 l.length) (.int .i64 i) d7) c2 c3 c4 c5 c6 c7) h n
      = .ok .nrm (.mk (.mk d0 d1 d2 (.int .u32 (Jo (Nat.xor x (lo (sh (Ar l) i) 1))))) (.mk (Lr l) (.int .i64 l.length) (.int .i64 (i+1)) (.int .i64 8)) c2 c3 c4 c5 c6 c7) h n := by
  unfold Dd
  show Ba (.int .i64 i) (.int .i64 l.length) _=_
  rw [Q6 hi (by omega)]
  show Ao 1 (AY 1 (Lr l) (.int .i64 i) fun z9 => Au z9 h _) _=_
  rw [ix_rb hi (by omega)]
  show Ao 1 (B2 .u32 (.int .u8 (lo (sh (Ar l) i) 1)) _) _=_
  rw [Qj (JM _) (by decide)]
  have e3:∀ (a b:Nat) (κ:V->R), I9 (.int .u32 a) (.int .u32 b) κ=κ (.int .u32 (Nat.xor a b)) := fun a b κ => by
    have e0:I9 (.int .u32 a) (.int .u32 b) κ=Aa (Nat.xor a b) fun r => κ (.int .u32 r) := rfl
    rw [e0, A7]
  rw [e3]
  have hx2:Nat.xor x (lo (sh (Ar l) i) 1)<4294967296 := Nat.xor_lt_two_pow (n := 32) hx (Nat.lt_trans (JM _) (by decide))
  rw [J3]
  generalize Nat.xor x (lo (sh (Ar l) i) 1)=y at hx2
  show Ao 1 (Ao 2 (C0 Jh (.mk (.mk d0 d1 d2 (.int .u32 y)) (.mk (Lr l) (.int .i64 l.length) (.int .i64 i) (.int .i64 0)) c2 c3 c4 c5 c6 c7) h n) _) _=_
  rw [Ns hx2, JZ, Fg]
  show AM (.int .i64 i) (.int .i64 1) _=_
  rw [Js (by omega)]
theorem crcr_rounds {d0 d1 d2:V} {c2 c3 c4 c5 c6 c7:SQ} {h:Heap} {n:K4} {l:List UInt8} (hb:l.length≤900000000) :
    ∀ (j i x:Nat) (d7:V), i+j=l.length->x<4294967296->∃ d7', ∀ K, DH Dd (K+j+1) (.mk (.mk d0 d1 d2 (.int .u32 x)) (.mk (Lr l) (.int .i64 l.length) (.int .i64 i) d7) c2 c3 c4 c5 c6 c7) h n
      = .ok (.exit 0) (.mk (.mk d0 d1 d2 (.int .u32 (I1 j (sh (Ar l) i) x))) (.mk (Lr l) (.int .i64 l.length) (.int .i64 l.length) d7') c2 c3 c4 c5 c6 c7) h n := by
  intro j
  induction j with
  | zero =>
    intro i x d7 hi hx
    obtain rfl:i=l.length := by omega
    refine ⟨d7, fun K => ?_⟩
    rw [Dh]
    unfold Dd
    simp (disch := omega) only [qa,g0,g1,g2,g3,g4,g5,g6,g7,g8,g9,Bt,Bp,Bo,BC,BE,By,BF,g17,Bx,Bv,w0,w1,w2,w3,w4,w5,w6,w7,w8,w9,Bn,Bm,Br,BG,Bz,BB,BA,BD,Bw,Bu,Mk,Nat.reduceAdd,Nat.reduceSub,Nat.reduceMul,Nat.reduceMod,Nat.reduceDiv,Q0,U]; rfl
  | succ j ih =>
    intro i x d7 hi hx
    obtain ⟨d8, e⟩ := ih (i+1) (Jo (Nat.xor x (lo (sh (Ar l) i) 1))) (.int .i64 8) (by omega) (by rw [J3]; exact Ks 8 (Nat.xor_lt_two_pow (n := 32) hx (Nat.lt_trans (JM _) (by decide))))
    refine ⟨d8, fun K => ?_⟩
    rw [Dh, crcr_round (by omega) hb hx, Gq]
    have e1:I1 (j+1) (sh (Ar l) i) x=I1 j (sh (sh (Ar l) i) 1) (Jo (Nat.xor x (lo (sh (Ar l) i) 1))) := rfl
    rw [e1, Oz]
    exact e K
theorem more_rb {m:Nat} {h:Heap} {n:K4} {s:Nat} {l:List UInt8} (hb:l.length≤900000000) (hs:s<4294967296):Al tab (m+1) ⟨.d0, .d4, .d5⟩ [.int .u32 s, Lr l] h n = .rv (.int .u32 (crcM s l)) h n := by
  rw [call2_at, show B5 ⟨.d0, .d4, .d5⟩ tab=some x69 from rfl, x69, y69]
  have hL:∀ κ:V->R, AJ (Lr l) κ=κ (.int .i64 l.length) := fun κ => Co (by omega) κ
  simp (disch := omega) only [qa,g0,g1,g2,g3,g4,g5,g6,g7,g8,g9,Bt,Bp,Bo,BC,BE,By,BF,g17,Bx,Bv,w0,w1,w2,w3,w4,w5,w6,w7,w8,w9,Bn,Bm,Br,BG,Bz,BB,BA,BD,Bw,Bu,Mk,Nat.reduceAdd,Nat.reduceSub,Nat.reduceMul,Nat.reduceMod,Nat.reduceDiv,Q0,U,en1,com_u,hL]
  obtain ⟨d7, e⟩ := crcr_rounds (d0 := .int .u32 s) (d1 := Lr l) (d2 := .int .u32 0) (c2 := Q0) (c3 := Q0) (c4 := Q0) (c5 := Q0) (c6 := Q0) (c7 := Q0) (h := h) (n := n) hb l.length 0 (com32 s) B4 (by omega) (com_lt hs)
  have e1 := e (999999999 - l.length)
  rw [show 999999999 - l.length+l.length+1=999999999+1 by omega] at e1
  simp only [Q0] at e1
  rw [←Kp, CH, ←Dh, e1]
  simp (disch := omega) only [qa,g0,g1,g2,g3,g4,g5,g6,g7,g8,g9,Bt,Bp,Bo,BC,BE,By,BF,g17,Bx,Bv,w0,w1,w2,w3,w4,w5,w6,w7,w8,w9,Bn,Bm,Br,BG,Bz,BB,BA,BD,Bw,Bu,Mk,Nat.reduceAdd,Nat.reduceSub,Nat.reduceMul,Nat.reduceMod,Nat.reduceDiv,Q0,U,com_u]; rfl
/-- .. over bytes of any kind. -/
theorem more_src {m:Nat} {h:Heap} {n:K4} {s:Nat} {v:V} {l:List UInt8} (H:FD v l h) (hb:l.length≤900000000) (hs:s<4294967296):Al tab (m+1) ⟨.d0, .d4, .d5⟩ [.int .u32 s, v] h n = .rv (.int .u32 (crcM s l)) h n := by
  rcases H with rfl | ⟨rfl, rfl⟩ | ⟨p, off, cap, ex, L, sp, pr, rfl, h1, h2, h3⟩
  · exact more_rb hb hs
  · exact more_nil hs
  · exact more_sl h1 h2 h3 hb hs
theorem sum_src {m:Nat} {h:Heap} {n:K4} {v:V} {l:List UInt8} (H:FD v l h) (hb:l.length≤900000000):Al tab (m+2) ⟨.d0, .d4, .d6⟩ [v] h n = .rv (.int .u32 (crcM 0 l)) h n := by
  rw [call2_at, show B5 ⟨.d0, .d4, .d6⟩ tab=some x70 from rfl, x70]
  simp (disch := omega) only [qa,g0,g1,g2,g3,g4,g5,g6,g7,g8,g9,Bt,Bp,Bo,BC,BE,By,BF,g17,Bx,Bv,w0,w1,w2,w3,w4,w5,w6,w7,w8,w9,Bn,Bm,Br,BG,Bz,BB,BA,BD,Bw,Bu,Mk,Nat.reduceAdd,Nat.reduceSub,Nat.reduceMul,Nat.reduceMod,Nat.reduceDiv,Q0,U,en3]
  rw [show iW 0 = .int .u32 0 from rfl, more_src H hb (by omega)]
  simp (disch := omega) only [qa,g0,g1,g2,g3,g4,g5,g6,g7,g8,g9,Bt,Bp,Bo,BC,BE,By,BF,g17,Bx,Bv,w0,w1,w2,w3,w4,w5,w6,w7,w8,w9,Bn,Bm,Br,BG,Bz,BB,BA,BD,Bw,Bu,Mk,Nat.reduceAdd,Nat.reduceSub,Nat.reduceMul,Nat.reduceMod,Nat.reduceDiv,Q0,U]
theorem cvi_64 {a:Nat} (h:a<9223372036854775808) (κ:V->R):B2 .u64 (.int .i64 a) κ=κ (.int .u64 a) := by
  rw [H3 (k := .u64) (j := .i64) h, Nat.mod_eq_of_lt (by show a<18446744073709551616; omega)]
theorem cvi_32 {a:Nat} (h:a<4294967296) (κ:V->R):B2 .u64 (.int .u32 a) κ=κ (.int .u64 a) := by
  rw [H3 (k := .u64) (j := .u32) h, Nat.mod_eq_of_lt (by show a<18446744073709551616; omega)]
theorem enc_lo1 (b:UInt8) (l:List UInt8):lo (Ar (b::l)) 1=b.toNat := by
  have e := Er (b::l) 0 1
  rw [show sh (Ar (b::l)) 0=Ar (b::l) by rw [Ed, Nat.pow_zero, Nat.div_one]] at e
  rw [e]; rfl
theorem sh_one (b:UInt8) (l:List UInt8):sh (Ar (b::l)) 1=Ar l := by
  rw [Ed, Nat.pow_one]
  show (b.toNat+256*Ar l) / 256=Ar l
  have := b.toNat_lt
  omega
theorem get_put (v:Nat):∀ (k x:Nat), x*256 ^ k+v % 256 ^ k<18446744073709551616->G0 k (Ar (putL v k)) x=x*256 ^ k+v % 256 ^ k
  | 0, x, _ => by show x=x*1+v % 1; omega
  | k+1, x, h => by
    show G0 k (sh (Ar (UInt8.ofNat ((v >>> (8*k)) % 256)::putL v k)) 1) (Ic x (lo (Ar (UInt8.ofNat ((v >>> (8*k)) % 256)::putL v k)) 1))=_
    have hb:((UInt8.ofNat ((v >>> (8*k)) % 256))).toNat=(v / 256 ^ k) % 256 := by
      show ((v >>> (8*k)) % 256) % 256=_
      rw [Nat.mod_mod, Nat.shiftRight_eq_div_pow, show (256:Nat)=2 ^ 8 from rfl, ←Nat.pow_mul]
    rw [enc_lo1, sh_one, hb]
    have hlt:(v / 256 ^ k) % 256<256 := Nat.mod_lt _ (by decide)
    have hm:v % 256 ^ (k+1)=256 ^ k*(v / 256 ^ k % 256)+v % 256 ^ k := by rw [Nat.pow_succ, Nat.mod_mul]; omega
    have hx:x*256 ^ (k+1)=256 ^ k*(x*256) := by rw [Nat.pow_succ, Nat.mul_comm (256 ^ k) 256, ←Nat.mul_assoc, Nat.mul_comm]
    generalize (v / 256 ^ k) % 256=b at *
    have h1:1≤256 ^ k := Nat.one_le_pow _ _ (by decide)
    have h2:x*256+b<18446744073709551616 := by
      rw [hm, hx] at h
      have:256 ^ k*(x*256+b)≤256 ^ k*(x*256)+(256 ^ k*b+v % 256 ^ k) := by rw [Nat.mul_add]; omega
      have h3:x*256+b≤256 ^ k*(x*256+b) := Nat.le_mul_of_pos_left _ h1
      omega
    have hs:Ic x b=x*256+b := by
      show ((Nat.shiftLeft x 8) % 18446744073709551616) ||| b=_
      have e1:Nat.shiftLeft x 8=x*256 := by show x <<< 8=_; rw [Nat.shiftLeft_eq]
      have e2:(x*256) % 18446744073709551616=x*256 := Nat.mod_eq_of_lt (Nat.lt_of_le_of_lt (Nat.le_add_right _ b) h2)
      rw [e1, e2]
      have := Nat.shiftLeft_add_eq_or_of_lt (i := 8) hlt x
      rw [Nat.shiftLeft_eq] at this
      exact this.symm
    rw [hs, get_put v k _ (by rw [Nat.add_mul, Nat.mul_comm (x*256), Nat.mul_comm b]; rw [hm, hx] at h; omega), hm, hx, Nat.add_mul, Nat.mul_comm (x*256), Nat.mul_comm b]
    omega
noncomputable def numL (l:List UInt8):Nat := G0 l.length (Ar l) 0
theorem cvi_i64_u64 {a:Nat} (h:a<9223372036854775808) (κ:V->R):B2 .i64 (.int .u64 a) κ=κ (.int .i64 a) := by
  rw [H3 (k := .i64) (j := .u64) (show a<18446744073709551616 by omega), Nat.mod_eq_of_lt (by show a<18446744073709551616; omega)]
/-- A slot's bytes, ahead of anything, read as what was put. -/
theorem numL_put {v k:Nat} (hv:v<256 ^ k) (h64:256 ^ k≤18446744073709551616):numL (putL v k)=v := by
  show G0 (putL v k).length (Ar (putL v k)) 0=v
  have hm:v % 256 ^ k=v := Nat.mod_eq_of_lt hv
  rw [putL_len, get_put v k 0 (by rw [hm]; omega), hm]; omega
/-- Bytes of one's own somewhere else. -/
def At (h:Heap) (n:K4) (av:List K4) (v:V) (l:List UInt8):Prop := (v = .nil .sl∧l=[]) ∨ ∃ p ex, v = .sl p 0 l.length l.length ex 1∧A9 p h=some (.c (cb l) false none)∧p.toN<n.toN ∧ ∀ q∈av, p≠q
theorem At.frame {h h':Heap} {n n':K4} {av av':List K4} {v:V} {l:List UInt8} (H:At h n av v l) (hn:n.toN≤n'.toN) (e:∀ p:K4, p.toN<n.toN->(∀ q∈av, p≠q)->A9 p h'=A9 p h ∧ ∀ q∈av', p≠q):At h' n' av' v l := by
  rcases H with H | ⟨p, ex, h1, h2, h3, h4⟩
  · exact .inl H
  · exact .inr ⟨p, ex, h1, ((e p h3 h4).1).trans h2, by omega, (e p h3 h4).2⟩
theorem At.src {h:Heap} {n:K4} {av:List K4} {v:V} {l:List UInt8} (H:At h n av v l):FD v l h := by
  rcases H with H | ⟨p, ex, rfl, h2, _⟩
  · exact .inr (.inl H)
  · exact .inr (.inr ⟨p, 0, l.length, ex, l, false, none, rfl, h2, by omega, by rw [List.drop_zero, List.take_length]⟩)
end Go.Ev.YtdgefeadbcbglaaDoor
