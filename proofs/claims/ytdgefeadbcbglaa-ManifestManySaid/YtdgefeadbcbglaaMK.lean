/- What the functions do, as equations over their texts, 0. -/
import Derived.Test.YtdgefeadbcbglaaMT
import Derived.KernelRfl
namespace Go.Ev.Ytdgefeadbcbglaa
open Go Go.Ev
set_option linter.unusedVariables false
set_option linter.unusedSimpArgs false
theorem call2_at {T:FC} {m:Nat} {f:K3} {args:List V} {h:Heap} {n:K4}:Ak T (m+1) f args h n=Ol (Ak T m) (B0 f T) args h n := by
  show X5 f T (fun o => Ol (Ak T m) o args h n)=_
  exact Su _ _ _
/-- What a disk's record holds. -/
abbrev fsC (room rd calls fl:Nat) (d l w:V):List V := [.int .i64 room, d, l, w, .int .i64 fl, .int .i64 calls, .int .i64 rd]
theorem begin_ok {m:Nat} {p:K4} {h:Heap} {n:K4} {room rd calls:Nat} {d l w:V} (hp:A8 p h=some (.c (.l (fsC room rd calls 18446744073709551615 d l w)) false none)) (hc:calls<1000000) :
    Ak tab (m+1) ⟨.d0, .d3, .d2⟩ [.ptr p 0] h n = .rv (.int .i64 0) (Ac p h (some (.c (.l (fsC room rd (calls+1) 18446744073709551615 d l w)) false none))) n := by
  rw [call2_at, show B0 ⟨.d0, .d3, .d2⟩ tab=some x50 from rfl, x50]
  simp (disch := omega) only [qa,g0,g1,g2,g3,g4,g5,g6,g7,g8,g9,Bb,B9,B7,Bd,Bq,Bi,Bt,Bk,Bl,Bp,w0,w1,w2,w3,w4,w5,w6,w7,w8,w9,Bc,Ba,B5,Bo,Be,Bm,Br,Bs,Bj,Bf,Mk,Nat.reduceAdd,Nat.reduceSub,Nat.reduceMul,Nat.reduceMod,Nat.reduceDiv,Q0,U,en3,hp,fsC]
theorem begin_wait {m:Nat} {p:K4} {h:Heap} {n:K4} {room rd calls fl:Nat} {d l w:V} (hp:A8 p h=some (.c (.l (fsC room rd calls fl d l w)) false none)) (hc:calls<1000000) (hf:fl<1000000) (h1:1≤fl) :
    Ak tab (m+1) ⟨.d0, .d3, .d2⟩ [.ptr p 0] h n = .rv (.int .i64 0) (Ac p h (some (.c (.l (fsC room rd (calls+1) (fl - 1) d l w)) false none))) n := by
  rw [call2_at, show B0 ⟨.d0, .d3, .d2⟩ tab=some x50 from rfl, x50]
  simp (disch := omega) only [qa,g0,g1,g2,g3,g4,g5,g6,g7,g8,g9,Bb,B9,B7,Bd,Bq,Bi,Bt,Bk,Bl,Bp,w0,w1,w2,w3,w4,w5,w6,w7,w8,w9,Bc,Ba,B5,Bo,Be,Bm,Br,Bs,Bj,Bf,Mk,Nat.reduceAdd,Nat.reduceSub,Nat.reduceMul,Nat.reduceMod,Nat.reduceDiv,Q0,U,en3,hp,fsC]
theorem room_ok {m:Nat} {p:K4} {h:Heap} {n:K4} {r0 rd calls fl room:Nat} {d l w:V} (hp:A8 p h=some (.c (.l (fsC r0 rd calls fl d l w)) false none)) (hr:room≤4194304) :
    Ak tab (m+1) ⟨.d0, .d3, .d1⟩ [.ptr p 0, .int .i64 room] h n = .rv (.tup []) (Ac p h (some (.c (.l (fsC room rd calls fl d l w)) false none))) n := by
  rw [call2_at, show B0 ⟨.d0, .d3, .d1⟩ tab=some x49 from rfl, x49]
  rcases Nat.lt_or_ge room 4194304 with h1 | h1
  · simp (disch := omega) only [qa,g0,g1,g2,g3,g4,g5,g6,g7,g8,g9,Bb,B9,B7,Bd,Bq,Bi,Bt,Bk,Bl,Bp,w0,w1,w2,w3,w4,w5,w6,w7,w8,w9,Bc,Ba,B5,Bo,Be,Bm,Br,Bs,Bj,Bf,Mk,Nat.reduceAdd,Nat.reduceSub,Nat.reduceMul,Nat.reduceMod,Nat.reduceDiv,Q0,U,en1,hp,fsC]
  · obtain rfl:room=4194304 := by omega
    simp (disch := omega) only [qa,g0,g1,g2,g3,g4,g5,g6,g7,g8,g9,Bb,B9,B7,Bd,Bq,Bi,Bt,Bk,Bl,Bp,w0,w1,w2,w3,w4,w5,w6,w7,w8,w9,Bc,Ba,B5,Bo,Be,Bm,Br,Bs,Bj,Bf,Mk,Nat.reduceAdd,Nat.reduceSub,Nat.reduceMul,Nat.reduceMod,Nat.reduceDiv,Q0,U,en1,hp,fsC]
theorem new_ok {m:Nat} {h:Heap} {n:K4} {room:Nat} (hr:room≤4194304) (hn:n.toN<60000) :
    Ak tab (m+3) ⟨.d0, .d1, .d6⟩ [.int .i64 room] h n = .rv (.ptr n.up.up 0) (Ac n.up.up (Ac n.up (Ac n h (some (.m [] [] 0))) (some (.m [] [] 0))) (some (.c (.l (fsC room 0 0 18446744073709551615 (.map n) (.map n.up) (.nil .sl))) false none))) n.up.up.up := by
  have u1 := K4.up_toN (p := n) (by omega)
  have u2 := K4.up_toN (p := n.up) (by omega)
  have u3 := K4.up_toN (p := n.up.up) (by omega)
  rw [call2_at, show B0 ⟨.d0, .d1, .d6⟩ tab=some x22 from rfl, x22]
  simp (disch := omega) only [qa,g0,g1,g2,g3,g4,g5,g6,g7,g8,g9,Bb,B9,B7,Bd,Bq,Bi,Bt,Bk,Bl,Bp,w0,w1,w2,w3,w4,w5,w6,w7,w8,w9,Bc,Ba,B5,Bo,Be,Bm,Br,Bs,Bj,Bf,Mk,Nat.reduceAdd,Nat.reduceSub,Nat.reduceMul,Nat.reduceMod,Nat.reduceDiv,Q0,U,en3]
  rw [room_ok (A7 _ _ _) hr]
  simp (disch := omega) only [qa,g0,g1,g2,g3,g4,g5,g6,g7,g8,g9,Bb,B9,B7,Bd,Bq,Bi,Bt,Bk,Bl,Bp,w0,w1,w2,w3,w4,w5,w6,w7,w8,w9,Bc,Ba,B5,Bo,Be,Bm,Br,Bs,Bj,Bf,Mk,Nat.reduceAdd,Nat.reduceSub,Nat.reduceMul,Nat.reduceMod,Nat.reduceDiv,Q0,U]
theorem do_mk {m:Nat} {d x:K4} {h:Heap} {n:K4} {a c a0 c0 r:Nat} (hd:A8 d h=some (.m [] [] 0)) (hdn:d.toN<n.toN) (hn:n.toN<60000) :
    Ak tab (m+1) ⟨.d0, .d3, .d9⟩ [.map d, .agg [.str a0 c0, .str a c, .ptr x r]] h n = .rv (.tup []) (Ac d (Ac n h (some (.c (.l [.str a0 c0, .str a c, .ptr x r]) false none))) (some (.m [(.str a c, .ptr x r)] [0] 1))) n.up := by
  rw [call2_at, show B0 ⟨.d0, .d3, .d9⟩ tab=some x57 from rfl, x57]
  simp (disch := omega) only [qa,g0,g1,g2,g3,g4,g5,g6,g7,g8,g9,Bb,B9,B7,Bd,Bq,Bi,Bt,Bk,Bl,Bp,w0,w1,w2,w3,w4,w5,w6,w7,w8,w9,Bc,Ba,B5,Bo,Be,Bm,Br,Bs,Bj,Bf,Mk,Nat.reduceAdd,Nat.reduceSub,Nat.reduceMul,Nat.reduceMod,Nat.reduceDiv,Q0,U,en1,hd]
theorem change_mk {m:Nat} {f d x:K4} {h:Heap} {n:K4} {a c a0 c0 r room rd calls fl:Nat} {l:V} (hf:A8 f h=some (.c (.l (fsC room rd calls fl (.map d) l (.nil .sl))) false none)) (hd:A8 d h=some (.m [] [] 0)) (hfr:Al h n)
    (hfn:f.toN<n.toN) (hdn:d.toN<n.toN) (hdf:d.toN<f.toN) (hn:n.toN<59000) :
    ∃ h' n', Ak tab (m+2) ⟨.d0, .d3, .d4⟩ [.ptr f 0, .agg [.str a0 c0, .str a c, .ptr x r]] h n = .rv (.int .i64 0) h' n'∧n.toN≤n'.toN∧n'.toN≤n.toN+60∧Al h' n'∧(∀ q:K4, q.toN<n.toN->q≠f->q≠d->A8 q h'=A8 q h) ∧
      A8 d h'=some (.m [(.str a c, .ptr x r)] [0] 1) ∧ ∃ pw:K4, n.toN≤pw.toN∧A8 f h'=some (.c (.l (fsC room rd calls fl (.map d) l (.sl pw 0 1 1 false 3))) false none)∧A8 pw h'=some (.c (.l [.str a0 c0, .str a c, .ptr x r]) false none) := by
  have u1 := K4.up_toN (p := n) (by omega)
  have u2 := K4.up_toN (p := n.up) (by omega)
  have v1 := K4.up16_toN (p := n.up.up) (by omega)
  have v2 := K4.up16_toN (p := n.up.up.up16) (by omega)
  have v3 := K4.pl_toN (p := n.up.up) (by omega) .d0
  have u3 := K4.up_toN (p := n.up.up.up16.up16) (by omega)
  have d0:D.d0.toN=0 := rfl
  rw [d0] at v3
  generalize hR:Ak tab (m+2) ⟨.d0, .d3, .d4⟩ [.ptr f 0, .agg [.str a0 c0, .str a c, .ptr x r]] h n=R0
  rw [call2_at, show B0 ⟨.d0, .d3, .d4⟩ tab=some x52 from rfl, x52] at hR
  simp (disch := omega) only [qa,g0,g1,g2,g3,g4,g5,g6,g7,g8,g9,Bb,B9,B7,Bd,Bq,Bi,Bt,Bk,Bl,Bp,w0,w1,w2,w3,w4,w5,w6,w7,w8,w9,Bc,Ba,B5,Bo,Be,Bm,Br,Bs,Bj,Bf,Mk,Nat.reduceAdd,Nat.reduceSub,Nat.reduceMul,Nat.reduceMod,Nat.reduceDiv,Q0,U,en1,hf] at hR
  have e1 := do_mk (m := m) (d := d) (x := x) (h := Ac n h (some (.c (.l [.str a0 c0, .str a c, .ptr x r]) false none))) (n := n.up) (a := a) (c := c) (a0 := a0) (c0 := c0) (r := r) ((Aj hdn _ _).trans hd) (by omega) (by omega)
  rw [e1] at hR
  have h1:∀ y z:Option Ob, A8 (n.up.up.up16.pl .d0) (Ac d (Ac n.up (Ac n h y) z) (some (.m [(.str a c, .ptr x r)] [0] 1)))=none := fun y z => by
    simp (disch := omega) only [Aq]; exact hfr _ (by omega)
  simp (disch := omega) only [qa,g0,g1,g2,g3,g4,g5,g6,g7,g8,g9,Bb,B9,B7,Bd,Bq,Bi,Bt,Bk,Bl,Bp,w0,w1,w2,w3,w4,w5,w6,w7,w8,w9,Bc,Ba,B5,Bo,Be,Bm,Br,Bs,Bj,Bf,Mk,Nat.reduceAdd,Nat.reduceSub,Nat.reduceMul,Nat.reduceMod,Nat.reduceDiv,Q0,U,hf,h1] at hR
  subst hR
  have hq:∀ q:K4, n.toN≤q.toN->A8 q h=none := hfr
  refine ⟨_, _, rfl, by omega, by omega, fun q hqn => ?_, fun q hqn h1 h2 => ?_, ?_, n.up.up.up16.up16, by omega, ?_, ?_⟩
  · simp (disch := omega) only [Aq]; exact hfr q (by omega)
  · simp (disch := omega) only [Aj,A6 _ _ (Ne.symm h1),A6 _ _ (Ne.symm h2)]
  · simp (disch := omega) only [Aj,Aq,A7]
  · simp (disch := omega) only [Aj,Aq,A7]
  · simp (disch := omega) only [Aj,Aq,A7]
theorem sort_1 {m:Nat} {p:K4} {ex:Bool} {h:Heap} {n:K4}:Ak tab (m+6) ⟨.d0, .d5, .d0⟩ [.sl p 0 1 1 ex 1] h n = .rv (.tup []) h n := by kernel_rfl
theorem its_ok:∀ (its:List Nat) (g:Nat) (κ:R), g∈its->HU g its κ=κ
  | [], _, _, h => by cases h
  | x::l, g, κ, h => by
    show br (Nat.beq x g) κ (HU g l κ)=κ
    rw [CH]
    by_cases e:x=g
    · rw [decide_eq_true e]; rfl
    · rw [decide_eq_false e]
      exact its_ok l g κ (by rcases List.mem_cons.1 h with h | h; exact absurd h.symm e; exact h)
theorem sorted_1 {m:Nat} {pm z:K4} {h:Heap} {n:K4} {a c b k:Nat} {v:V} (hz:A8 z h=some (.c (.l [.map pm]) false none)) (hm:A8 pm h=some (.m [(.str a c, v)] [b] k)) (hb:b<k) (hzn:z.toN<n.toN) (hmn:pm.toN<n.toN) (hn:n.toN<59000) :
    ∃ h' n' q, Ak tab (m+8) ⟨.d0, .d3, .d10⟩ [.fn 81 [.ptr z 0]] h n = .rv (.sl q 0 1 1 false 1) h' n'∧n.toN≤n'.toN∧n'.toN≤n.toN+10∧(∀ q:K4, q.toN<n.toN->A8 q h'=A8 q h)∧(Al h n->Al h' n')∧n.toN≤q.toN∧q.toN<n'.toN∧A8 q h'=some (.c (.l [.str a c]) false none) := by
  have u1 := K4.up_toN (p := n) (by omega)
  have u2 := K4.up_toN (p := n.up) (by omega)
  have u3 := K4.up_toN (p := n.up.up) (by omega)
  have u4 := K4.up_toN (p := n.up.up.up) (by omega)
  have u5 := K4.up_toN (p := n.up.up.up.up) (by omega)
  generalize hR:Ak tab (m+8) ⟨.d0, .d3, .d10⟩ [.fn 81 [.ptr z 0]] h n=R0
  rw [call2_at, show B0 ⟨.d0, .d3, .d10⟩ tab=some x58 from rfl, x58] at hR
  simp (disch := omega) only [qa,g0,g1,g2,g3,g4,g5,g6,g7,g8,g9,Bb,B9,B7,Bd,Bq,Bi,Bt,Bk,Bl,Bp,w0,w1,w2,w3,w4,w5,w6,w7,w8,w9,Bc,Ba,B5,Bo,Be,Bm,Br,Bs,Bj,Bf,Mk,Nat.reduceAdd,Nat.reduceSub,Nat.reduceMul,Nat.reduceMod,Nat.reduceDiv,Q0,U,en3] at hR
  rw [call2_at, show B0 ⟨.d0, .d4, .d15⟩ tab=some x79 from rfl, x79] at hR
  simp (disch := omega) only [qa,g0,g1,g2,g3,g4,g5,g6,g7,g8,g9,Bb,B9,B7,Bd,Bq,Bi,Bt,Bk,Bl,Bp,w0,w1,w2,w3,w4,w5,w6,w7,w8,w9,Bc,Ba,B5,Bo,Be,Bm,Br,Bs,Bj,Bf,Mk,Nat.reduceAdd,Nat.reduceSub,Nat.reduceMul,Nat.reduceMod,Nat.reduceDiv,Q0,U,en3] at hR
  rw [call2_at, show B0 ⟨.d0, .d6, .d3⟩ tab=some x99 from rfl, x99, Af6 _ _ _ _ _ _ _ (its_ok _) 81 [.ptr z 0] rfl (by decide) (by omega)] at hR
  rw [call2_at, show B0 (B2 81) tab=some x81 from rfl, x81] at hR
  simp (disch := omega) only [qa,g0,g1,g2,g3,g4,g5,g6,g7,g8,g9,Bb,B9,B7,Bd,Bq,Bi,Bt,Bk,Bl,Bp,w0,w1,w2,w3,w4,w5,w6,w7,w8,w9,Bc,Ba,B5,Bo,Be,Bm,Br,Bs,Bj,Bf,Mk,Nat.reduceAdd,Nat.reduceSub,Nat.reduceMul,Nat.reduceMod,Nat.reduceDiv,Q0,U,en1,hz,hm,UQ] at hR
  rw [call2_at, show B0 (B2 99) tab=some x99 from rfl, x99, Zc] at hR
  simp (disch := omega) only [qa,g0,g1,g2,g3,g4,g5,g6,g7,g8,g9,Bb,B9,B7,Bd,Bq,Bi,Bt,Bk,Bl,Bp,w0,w1,w2,w3,w4,w5,w6,w7,w8,w9,Bc,Ba,B5,Bo,Be,Bm,Br,Bs,Bj,Bf,Mk,Nat.reduceAdd,Nat.reduceSub,Nat.reduceMul,Nat.reduceMod,Nat.reduceDiv,Q0,U,en3,rd99,hm,hb] at hR
  rw [sort_1] at hR
  simp (disch := omega) only [qa,g0,g1,g2,g3,g4,g5,g6,g7,g8,g9,Bb,B9,B7,Bd,Bq,Bi,Bt,Bk,Bl,Bp,w0,w1,w2,w3,w4,w5,w6,w7,w8,w9,Bc,Ba,B5,Bo,Be,Bm,Br,Bs,Bj,Bf,Mk,Nat.reduceAdd,Nat.reduceSub,Nat.reduceMul,Nat.reduceMod,Nat.reduceDiv,Q0,U,en3] at hR
  subst hR
  refine ⟨_, _, _, rfl, by omega, by omega, fun q hq => ?_, fun hf q hq => ?_, ?_, ?_, ?_⟩
  · simp (disch := omega) only [Aj]
  · simp (disch := omega) only [Aq]; exact hf q (by omega)
  · omega
  · omega
  · simp (disch := omega) only [Aj,Aq,A7]
/-- A disk that does not fail yet. -/
def Bg (fl fl':Nat):Prop := (fl=18446744073709551615∧fl'=fl)∨(1≤fl∧fl<1000000∧fl'=fl - 1)
theorem begin_bg {m:Nat} {p:K4} {h:Heap} {n:K4} {room rd calls fl fl':Nat} {d l w:V} (hb:Bg fl fl') (hp:A8 p h=some (.c (.l (fsC room rd calls fl d l w)) false none)) (hc:calls<1000000) :
    Ak tab (m+1) ⟨.d0, .d3, .d2⟩ [.ptr p 0] h n = .rv (.int .i64 0) (Ac p h (some (.c (.l (fsC room rd (calls+1) fl' d l w)) false none))) n := by
  rcases hb with ⟨rfl, rfl⟩ | ⟨h1, h2, rfl⟩
  · exact begin_ok hp hc
  · exact begin_wait hp hc h2 h1
theorem create_ok {m:Nat} {f d:K4} {h:Heap} {n:K4} {a c room rd calls fl fl':Nat} {l:V} (hb:Bg fl fl') (hc:calls<1000000) (hmay:∀ h n, Ak tab (m+3) ⟨.d0, .d3, .d3⟩ [.str a c] h n = .rv (.bool true) h n)
    (hf:A8 f h=some (.c (.l (fsC room rd calls fl (.map d) l (.nil .sl))) false none)) (hd:A8 d h=some (.m [] [] 0)) (hfr:Al h n)
    (hfn:f.toN<n.toN) (hdf:d.toN<f.toN) (hn:n.toN<58000) :
    ∃ h' n', Ak tab (m+4) ⟨.d0, .d1, .d7⟩ [.ptr f 0, .str a c] h n = .rv (.int .i64 0) h' n'∧n.toN≤n'.toN∧n'.toN≤n.toN+70∧Al h' n'∧(∀ q:K4, q.toN<n.toN->q≠f->q≠d->A8 q h'=A8 q h) ∧
      A8 d h'=some (.m [(.str a c, .ptr n.up 0)] [0] 1)∧n.up.toN=n.toN+1∧n.toN+1<n'.toN∧A8 n.up h'=some (.c (.l [.nil .sl, .nil .sl, .map n]) false none)∧A8 n h'=some (.m [] [] 0) ∧
      ∃ pw:K4, A8 f h'=some (.c (.l (fsC room rd (calls+1) fl' (.map d) l (.sl pw 0 1 1 false 3))) false none)∧n.toN+2≤pw.toN∧pw.toN<n'.toN∧A8 pw h'=some (.c (.l [.str 0 0, .str a c, .ptr n.up 0]) false none) := by
  have u1 := K4.up_toN (p := n) (by omega)
  have u2 := K4.up_toN (p := n.up) (by omega)
  generalize hR:Ak tab (m+4) ⟨.d0, .d1, .d7⟩ [.ptr f 0, .str a c] h n=R0
  rw [call2_at, show B0 ⟨.d0, .d1, .d7⟩ tab=some x23 from rfl, x23] at hR
  simp (disch := omega) only [qa,g0,g1,g2,g3,g4,g5,g6,g7,g8,g9,Bb,B9,B7,Bd,Bq,Bi,Bt,Bk,Bl,Bp,w0,w1,w2,w3,w4,w5,w6,w7,w8,w9,Bc,Ba,B5,Bo,Be,Bm,Br,Bs,Bj,Bf,Mk,Nat.reduceAdd,Nat.reduceSub,Nat.reduceMul,Nat.reduceMod,Nat.reduceDiv,Q0,U,en1] at hR
  rw [begin_bg hb hf hc] at hR
  simp (disch := omega) only [qa,g0,g1,g2,g3,g4,g5,g6,g7,g8,g9,Bb,B9,B7,Bd,Bq,Bi,Bt,Bk,Bl,Bp,w0,w1,w2,w3,w4,w5,w6,w7,w8,w9,Bc,Ba,B5,Bo,Be,Bm,Br,Bs,Bj,Bf,Mk,Nat.reduceAdd,Nat.reduceSub,Nat.reduceMul,Nat.reduceMod,Nat.reduceDiv,Q0,U] at hR
  rw [hmay] at hR
  simp (disch := omega) only [qa,g0,g1,g2,g3,g4,g5,g6,g7,g8,g9,Bb,B9,B7,Bd,Bq,Bi,Bt,Bk,Bl,Bp,w0,w1,w2,w3,w4,w5,w6,w7,w8,w9,Bc,Ba,B5,Bo,Be,Bm,Br,Bs,Bj,Bf,Mk,Nat.reduceAdd,Nat.reduceSub,Nat.reduceMul,Nat.reduceMod,Nat.reduceDiv,Q0,U,hd] at hR
  have hf1:A8 f (Ac n.up (Ac n (Ac f h (some (.c (.l (fsC room rd (calls+1) fl' (.map d) l (.nil .sl))) false none))) (some (.m [] [] 0))) (some (.c (.l [.nil .sl, .nil .sl, .map n]) false none)))=some (.c (.l (fsC room rd (calls+1) fl' (.map d) l (.nil .sl))) false none) := by simp (disch := omega) only [Aj,A7]
  have hd1:A8 d (Ac n.up (Ac n (Ac f h (some (.c (.l (fsC room rd (calls+1) fl' (.map d) l (.nil .sl))) false none))) (some (.m [] [] 0))) (some (.c (.l [.nil .sl, .nil .sl, .map n]) false none)))=some (.m [] [] 0) := by simp (disch := omega) only [Aj,hd]
  have hfr1:Al (Ac n.up (Ac n (Ac f h (some (.c (.l (fsC room rd (calls+1) fl' (.map d) l (.nil .sl))) false none))) (some (.m [] [] 0))) (some (.c (.l [.nil .sl, .nil .sl, .map n]) false none))) n.up.up := fun q hq => by simp (disch := omega) only [Aq]; exact hfr q (by omega)
  obtain ⟨h', n', e1, b1, b2, f1, o1, d1, pw, p1, yg1, yg2⟩ := change_mk (m := m+1) (f := f) (d := d) (x := n.up) (a := a) (c := c) (a0 := 0) (c0 := 0) (r := 0) hf1 hd1 hfr1 (by omega) (by omega) hdf (by omega)
  rw [show m+1+2=m+3 from rfl] at e1
  rw [e1] at hR
  simp (disch := omega) only [qa,g0,g1,g2,g3,g4,g5,g6,g7,g8,g9,Bb,B9,B7,Bd,Bq,Bi,Bt,Bk,Bl,Bp,w0,w1,w2,w3,w4,w5,w6,w7,w8,w9,Bc,Ba,B5,Bo,Be,Bm,Br,Bs,Bj,Bf,Mk,Nat.reduceAdd,Nat.reduceSub,Nat.reduceMul,Nat.reduceMod,Nat.reduceDiv,Q0,U] at hR
  subst hR
  refine ⟨_, _, rfl, by omega, by omega, f1, fun q hq h1 h2 => ?_, d1, u1, by omega, ?_, ?_, pw, yg1, by omega, Nat.lt_of_not_le fun hle => (by have := f1 pw hle; rw [yg2] at this; cases this), yg2⟩
  · rw [o1 q (by omega) h1 h2]
    simp (disch := omega) only [Aj,A6 _ _ (Ne.symm h1)]
  · rw [o1 n.up (by omega) (K4.ne_of_lt (by omega)).symm (K4.ne_of_lt (by omega)).symm]
    simp (disch := omega) only [A7]
  · rw [o1 n (by omega) (K4.ne_of_lt (by omega)).symm (K4.ne_of_lt (by omega)).symm]
    simp (disch := omega) only [Aj,A7]
theorem clone_m {m:Nat} {d:K4} {h:Heap} {n:K4} {es:List (V×V)} {bs:List Nat} {k:Nat} (hd:A8 d h=some (.m es bs k)) (hn:n.toN<65000) :
    Ak tab (m+1) ⟨.d0, .d3, .d5⟩ [.map d] h n = .rv (.map n) (Ac n h (some (.m es bs k))) n.up := by
  rw [call2_at, show B0 ⟨.d0, .d3, .d5⟩ tab=some (.prim Ly) from rfl]
  show Mo (RZ d h fun es bs c => DQ h n (.m es bs c) fun h n' => .rv (.map n) h n')=_
  rw [Fi, JZ, hd, VM, DH (by omega)]; rfl
theorem syncdir_ok {m:Nat} {f d:K4} {h:Heap} {n:K4} {room rd calls fl fl':Nat} {l w:V} {es:List (V×V)} {bs:List Nat} {k:Nat} (hb:Bg fl fl') (hc:calls<1000000)
    (hf:A8 f h=some (.c (.l (fsC room rd calls fl (.map d) l w)) false none)) (hd:A8 d h=some (.m es bs k)) (hfn:f.toN<n.toN) (hdf:d.toN<f.toN) (hn:n.toN<58000) :
    ∃ h', Ak tab (m+3) ⟨.d0, .d1, .d8⟩ [.ptr f 0] h n = .rv (.int .i64 0) h' n.up∧(∀ q:K4, q.toN<n.toN->q≠f->A8 q h'=A8 q h)∧(Al h n->Al h' n.up)∧A8 n h'=some (.m es bs k) ∧
      A8 f h'=some (.c (.l (fsC room rd (calls+1) fl' (.map d) (.map n) (.nil .sl))) false none) := by
  have u1 := K4.up_toN (p := n) (by omega)
  generalize hR:Ak tab (m+3) ⟨.d0, .d1, .d8⟩ [.ptr f 0] h n=R0
  rw [call2_at, show B0 ⟨.d0, .d1, .d8⟩ tab=some x24 from rfl, x24] at hR
  simp (disch := omega) only [qa,g0,g1,g2,g3,g4,g5,g6,g7,g8,g9,Bb,B9,B7,Bd,Bq,Bi,Bt,Bk,Bl,Bp,w0,w1,w2,w3,w4,w5,w6,w7,w8,w9,Bc,Ba,B5,Bo,Be,Bm,Br,Bs,Bj,Bf,Mk,Nat.reduceAdd,Nat.reduceSub,Nat.reduceMul,Nat.reduceMod,Nat.reduceDiv,Q0,U,en3] at hR
  rw [begin_bg hb hf hc] at hR
  simp (disch := omega) only [qa,g0,g1,g2,g3,g4,g5,g6,g7,g8,g9,Bb,B9,B7,Bd,Bq,Bi,Bt,Bk,Bl,Bp,w0,w1,w2,w3,w4,w5,w6,w7,w8,w9,Bc,Ba,B5,Bo,Be,Bm,Br,Bs,Bj,Bf,Mk,Nat.reduceAdd,Nat.reduceSub,Nat.reduceMul,Nat.reduceMod,Nat.reduceDiv,Q0,U] at hR
  rw [clone_m (d := d) (es := es) (bs := bs) (k := k) (by rw [A6 _ _ (K4.ne_of_lt (by omega)).symm]; exact hd) (by omega)] at hR
  simp (disch := omega) only [qa,g0,g1,g2,g3,g4,g5,g6,g7,g8,g9,Bb,B9,B7,Bd,Bq,Bi,Bt,Bk,Bl,Bp,w0,w1,w2,w3,w4,w5,w6,w7,w8,w9,Bc,Ba,B5,Bo,Be,Bm,Br,Bs,Bj,Bf,Mk,Nat.reduceAdd,Nat.reduceSub,Nat.reduceMul,Nat.reduceMod,Nat.reduceDiv,Q0,U] at hR
  subst hR
  refine ⟨_, rfl, fun q hq h1 => ?_, fun hfr q hq => ?_, ?_, ?_⟩
  · simp (disch := omega) only [Aj,A6 _ _ (Ne.symm h1)]
  · simp (disch := omega) only [Aq]; exact hfr q (by omega)
  · simp (disch := omega) only [Aj,Aq,A7]
  · simp (disch := omega) only [Aj,Aq,A7]
theorem names_1 {m:Nat} {f d:K4} {h:Heap} {n:K4} {a c b k room rd calls fl:Nat} {l w v:V} (hf:A8 f h=some (.c (.l (fsC room rd calls fl (.map d) l w)) false none)) (hd:A8 d h=some (.m [(.str a c, v)] [b] k)) (hb:b<k)
    (hfn:f.toN<n.toN) (hdf:d.toN<n.toN) (hn:n.toN<58000) :
    ∃ h' n' q, Ak tab (m+9) ⟨.d0, .d3, .d8⟩ [.ptr f 0] h n = .rv (.sl q 0 1 1 false 1) h' n'∧n.toN≤n'.toN∧n'.toN≤n.toN+12∧(∀ q:K4, q.toN<n.toN->A8 q h'=A8 q h)∧(Al h n->Al h' n')∧n.toN≤q.toN∧q.toN<n'.toN∧A8 q h'=some (.c (.l [.str a c]) false none) := by
  have u1 := K4.up_toN (p := n) (by omega)
  generalize hR:Ak tab (m+9) ⟨.d0, .d3, .d8⟩ [.ptr f 0] h n=R0
  rw [call2_at, show B0 ⟨.d0, .d3, .d8⟩ tab=some x56 from rfl, x56] at hR
  simp (disch := omega) only [qa,g0,g1,g2,g3,g4,g5,g6,g7,g8,g9,Bb,B9,B7,Bd,Bq,Bi,Bt,Bk,Bl,Bp,w0,w1,w2,w3,w4,w5,w6,w7,w8,w9,Bc,Ba,B5,Bo,Be,Bm,Br,Bs,Bj,Bf,Mk,Nat.reduceAdd,Nat.reduceSub,Nat.reduceMul,Nat.reduceMod,Nat.reduceDiv,Q0,U,en3,hf] at hR
  rw [call2_at, show B0 ⟨.d0, .d3, .d11⟩ tab=some x59 from rfl, x59] at hR
  simp (disch := omega) only [qa,g0,g1,g2,g3,g4,g5,g6,g7,g8,g9,Bb,B9,B7,Bd,Bq,Bi,Bt,Bk,Bl,Bp,w0,w1,w2,w3,w4,w5,w6,w7,w8,w9,Bc,Ba,B5,Bo,Be,Bm,Br,Bs,Bj,Bf,Mk,Nat.reduceAdd,Nat.reduceSub,Nat.reduceMul,Nat.reduceMod,Nat.reduceDiv,Q0,U,en3,QS] at hR
  obtain ⟨h', n', q, e1, b1, b2, o1, f1, q1, q2, yg1⟩ := sorted_1 (m := m) (pm := d) (z := n) (h := Ac n h (some (.c (.l [.map d]) false none))) (n := n.up) (a := a) (c := c) (b := b) (k := k) (v := v) (A7 _ _ _) ((Aj (by omega) _ _).trans hd) hb (by omega) (by omega) (by omega)
  rw [e1] at hR
  simp (disch := omega) only [qa,g0,g1,g2,g3,g4,g5,g6,g7,g8,g9,Bb,B9,B7,Bd,Bq,Bi,Bt,Bk,Bl,Bp,w0,w1,w2,w3,w4,w5,w6,w7,w8,w9,Bc,Ba,B5,Bo,Be,Bm,Br,Bs,Bj,Bf,Mk,Nat.reduceAdd,Nat.reduceSub,Nat.reduceMul,Nat.reduceMod,Nat.reduceDiv,Q0,U] at hR
  subst hR
  refine ⟨_, _, _, rfl, by omega, by omega, fun q hq => ?_, fun hfr => f1 fun q hq => ?_, by omega, q2, yg1⟩
  · rw [o1 q (by omega)]; simp (disch := omega) only [Aj]
  · simp (disch := omega) only [Aq]; exact hfr q (by omega)
theorem used_1 {m:Nat} {f d x:K4} {h:Heap} {n:K4} {a c b k room rd calls fl L:Nat} {l w cv sv dv:V} (hf:A8 f h=some (.c (.l (fsC room rd calls fl (.map d) l w)) false none)) (hd:A8 d h=some (.m [(.str a c, .ptr x 0)] [b] k)) (hb:b<k)
    (hx:A8 x h=some (.c (.l [cv, sv, dv]) false none)) (hL:∀ κ, AJ cv κ=κ (.int .i64 L)) (hL2:L<1000000000)
    (hfn:f.toN<n.toN) (hdf:d.toN<n.toN) (hxn:x.toN<n.toN) (hn:n.toN<58000) :
    ∃ h' n', Ak tab (m+10) ⟨.d0, .d3, .d6⟩ [.ptr f 0] h n = .rv (.int .i64 L) h' n'∧n.toN≤n'.toN∧n'.toN≤n.toN+12∧(∀ q:K4, q.toN<n.toN->A8 q h'=A8 q h)∧(Al h n->Al h' n') := by
  obtain ⟨h', n', q, e1, b1, b2, o1, f1, q1, q2, yg1⟩ := names_1 (m := m) (n := n) hf hd hb hfn hdf hn
  have hf' := (o1 f hfn).trans hf
  have hd' := (o1 d (by omega)).trans hd
  have hx' := (o1 x hxn).trans hx
  generalize hR:Ak tab (m+10) ⟨.d0, .d3, .d6⟩ [.ptr f 0] h n=R0
  rw [call2_at, show B0 ⟨.d0, .d3, .d6⟩ tab=some x54 from rfl, x54] at hR
  simp (disch := omega) only [qa,g0,g1,g2,g3,g4,g5,g6,g7,g8,g9,Bb,B9,B7,Bd,Bq,Bi,Bt,Bk,Bl,Bp,w0,w1,w2,w3,w4,w5,w6,w7,w8,w9,Bc,Ba,B5,Bo,Be,Bm,Br,Bs,Bj,Bf,Mk,Nat.reduceAdd,Nat.reduceSub,Nat.reduceMul,Nat.reduceMod,Nat.reduceDiv,Q0,U,en3] at hR
  rw [e1] at hR
  simp (disch := omega) only [qa,g0,g1,g2,g3,g4,g5,g6,g7,g8,g9,Bb,B9,B7,Bd,Bq,Bi,Bt,Bk,Bl,Bp,w0,w1,w2,w3,w4,w5,w6,w7,w8,w9,Bc,Ba,B5,Bo,Be,Bm,Br,Bs,Bj,Bf,Mk,Nat.reduceAdd,Nat.reduceSub,Nat.reduceMul,Nat.reduceMod,Nat.reduceDiv,Q0,U,UQ,hf',hd',hx',yg1,hL] at hR
  subst hR
  exact ⟨_, _, rfl, b1, b2, o1, f1⟩
theorem dirty_run {d0 d1 d3 d4 cv sv:V} {c2 c3 c4 c5 c6 c7:SQ} {n p q:K4} {a0 m0:Nat} (hm:m0≤900000000) (ha:a0≤1000000000) (hpq:p≠q) :
    ∀ (j i0:Nat) (h:Heap) (es:List (V×V)) (bs:List Nat) (c:Nat), i0+j=m0->A8 p h=some (.c (.l [cv, sv, .map q]) false none)->A8 q h=some (.m es bs c)->IK es →
    ∃ h', (∀ K, Cr CU (K+j+1) (.mk (.mk d0 d1 (.int .i64 a0) d3) (.mk d4 (.ptr p 0) (.int .i64 m0) (.int .i64 i0)) c2 c3 c4 c5 c6 c7) h n = .ok (.exit 1) (.mk (.mk d0 d1 (.int .i64 a0) d3) (.mk d4 (.ptr p 0) (.int .i64 m0) (.int .i64 m0)) c2 c3 c4 c5 c6 c7) h' n) ∧
      (∀ r, r≠q->A8 r h'=A8 r h) ∧ ∃ es' bs' c', A8 q h'=some (.m es' bs' c')∧IK es'
  | 0, i0, h, es, bs, c, hi, hp, hq, hk => by
    obtain rfl:i0=m0 := by omega
    refine ⟨h, fun K => ?_, fun r _ => rfl, es, bs, c, hq, hk⟩
    rw [BN]
    unfold CU
    simp (disch := omega) only [qa,g0,g1,g2,g3,g4,g5,g6,g7,g8,g9,Bb,B9,B7,Bd,Bq,Bi,Bt,Bk,Bl,Bp,w0,w1,w2,w3,w4,w5,w6,w7,w8,w9,Bc,Ba,B5,Bo,Be,Bm,Br,Bs,Bj,Bf,Mk,Nat.reduceAdd,Nat.reduceSub,Nat.reduceMul,Nat.reduceMod,Nat.reduceDiv,Q0,U]
  | j+1, i0, h, es, bs, c, hi, hp, hq, hk => by
    obtain ⟨es1, bs1, c1, e1, k1⟩ := Ago hq hk ((a0+i0) / 64) (.bool true)
    have hp1:A8 p (Ac q h (some (.m es1 bs1 c1)))=some (.c (.l [cv, sv, .map q]) false none) := by rw [A6 _ _ (Ne.symm hpq)]; exact hp
    obtain ⟨h', e2, o2, es2, bs2, c2', q2, k2⟩ := dirty_run (d0 := d0) (d1 := d1) (d3 := d3) (d4 := d4) (cv := cv) (sv := sv) (c2 := c2) (c3 := c3) (c4 := c4) (c5 := c5) (c6 := c6) (c7 := c7) (n := n) hm ha hpq j (i0+1) (Ac q h (some (.m es1 bs1 c1))) es1 bs1 c1 (by omega) hp1 (A7 _ _ _) k1
    refine ⟨h', fun K => ?_, fun r hr => (o2 r hr).trans (A6 _ _ (Ne.symm hr)), es2, bs2, c2', q2, k2⟩
    rw [BN]
    have e3 := e2 K
    generalize hN:K+(j+1)=N at *
    rw [←e3]
    unfold CU
    simp (disch := omega) only [qa,g0,g1,g2,g3,g4,g5,g6,g7,g8,g9,Bb,B9,B7,Bd,Bq,Bi,Bt,Bk,Bl,Bp,w0,w1,w2,w3,w4,w5,w6,w7,w8,w9,Bc,Ba,B5,Bo,Be,Bm,Br,Bs,Bj,Bf,Mk,Nat.reduceAdd,Nat.reduceSub,Nat.reduceMul,Nat.reduceMod,Nat.reduceDiv,Q0,U,U4,hp,e1]
theorem dirty_loop {d0 d1 d3 d4 cv sv:V} {c2 c3 c4 c5 c6 c7:SQ} {n p q:K4} {a0 m0:Nat} (hm:m0≤900000000) (ha:a0≤1000000000) (hpq:p≠q)
    (h:Heap) (es:List (V×V)) (bs:List Nat) (c:Nat) (hp:A8 p h=some (.c (.l [cv, sv, .map q]) false none)) (hq:A8 q h=some (.m es bs c)) (hk:IK es) :
    ∃ h', IA CU Ok (.mk (.mk d0 d1 (.int .i64 a0) d3) (.mk d4 (.ptr p 0) (.int .i64 m0) (.int .i64 0)) c2 c3 c4 c5 c6 c7) h n = .ok (.exit 1) (.mk (.mk d0 d1 (.int .i64 a0) d3) (.mk d4 (.ptr p 0) (.int .i64 m0) (.int .i64 m0)) c2 c3 c4 c5 c6 c7) h' n ∧
      (∀ r, r≠q->A8 r h'=A8 r h) ∧ ∃ es' bs' c', A8 q h'=some (.m es' bs' c')∧IK es' := by
  obtain ⟨h', e, o, es', bs', c', q', k'⟩ := dirty_run (d0 := d0) (d1 := d1) (d3 := d3) (d4 := d4) (cv := cv) (sv := sv) (c2 := c2) (c3 := c3) (c4 := c4) (c5 := c5) (c6 := c6) (c7 := c7) (n := n) hm ha hpq m0 0 h es bs c (by omega) hp hq hk
  refine ⟨h', ?_, o, es', bs', c', q', k'⟩
  rw [←PH, Cg, ←BN]
  have e1 := e (999999999 - m0)
  rw [show 999999999 - m0+m0+1=999999999+1 by omega] at e1
  exact e1
theorem write_in {m:Nat} {f d x dm pc:K4} {h:Heap} {n:K4} {a c b k room rd calls fl fl' off:Nat} {lw w cv sv v:V} {bs l:List UInt8} {es:List (V×V)} {ds:List Nat} {dk:Nat} (hbg:Bg fl fl') (hc:calls<1000000)
    (hf:A8 f h=some (.c (.l (fsC room rd calls fl (.map d) lw w)) false none)) (hd:A8 d h=some (.m [(.str a c, .ptr x 0)] [b] k)) (hb:b<k)
    (hx:A8 x h=some (.c (.l [cv, sv, .map dm]) false none)) (hdm:A8 dm h=some (.m es ds dk)) (hik:IK es) (ho:Lf pc h cv bs) (hs:E1 v l h)
    (hroom:room≤4194304) (hroom2:bs.length≤room) (hoff:off+l.length≤bs.length)
    (hfn:f.toN<n.toN) (hdf:d.toN<n.toN) (ndf:d≠f) (hxn:x.toN<n.toN) (nfx:f≠x) (hdn:dm.toN<n.toN) (ndx:dm≠x) (nfd:f≠dm) (hpn:pc.toN<n.toN) (npf:pc≠f) (npx:pc≠x) (npm:pc≠dm) (hn:n.toN<57000)
    (hsp:∀ p:K4, (∃ off cap ex, v = .sl p off l.length cap ex 1)->p.toN<n.toN∧p≠f∧p≠x∧p≠dm∧p≠pc) :
    ∃ h' n', Ak tab (m+11) ⟨.d0, .d1, .d10⟩ [.ptr f 0, .str a c, .int .i64 off, v] h n = .rv (.int .i64 0) h' n'∧n.toN≤n'.toN∧n'.toN≤n.toN+14∧(Al h n->Al h' n')∧(∀ q:K4, q.toN<n.toN->q≠f->q≠dm->q≠pc->A8 q h'=A8 q h) ∧
      A8 f h'=some (.c (.l (fsC room rd (calls+1) fl' (.map d) lw w)) false none)∧(∃ es ds dk, A8 dm h'=some (.m es ds dk)∧IK es)∧Lf pc h' cv (bs.take off++(l++bs.drop (off+l.length))) := by
  generalize hR:Ak tab (m+11) ⟨.d0, .d1, .d10⟩ [.ptr f 0, .str a c, .int .i64 off, v] h n=R0
  rw [call2_at, show B0 ⟨.d0, .d1, .d10⟩ tab=some x26 from rfl, x26, y26] at hR
  simp (disch := omega) only [qa,g0,g1,g2,g3,g4,g5,g6,g7,g8,g9,Bb,B9,B7,Bd,Bq,Bi,Bt,Bk,Bl,Bp,w0,w1,w2,w3,w4,w5,w6,w7,w8,w9,Bc,Ba,B5,Bo,Be,Bm,Br,Bs,Bj,Bf,Mk,Nat.reduceAdd,Nat.reduceSub,Nat.reduceMul,Nat.reduceMod,Nat.reduceDiv,Q0,U,en4] at hR
  rw [begin_bg hbg hf hc] at hR
  have hd1:A8 d (Ac f h (some (.c (.l (fsC room rd (calls+1) fl' (.map d) lw w)) false none)))=some (.m [(.str a c, .ptr x 0)] [b] k) := (A6 _ _ ndf.symm).trans hd
  have hx1:A8 x (Ac f h (some (.c (.l (fsC room rd (calls+1) fl' (.map d) lw w)) false none)))=some (.c (.l [cv, sv, .map dm]) false none) := (A6 _ _ nfx).trans hx
  have hL := ho.len (by omega)
  have hl := hs.len (by omega)
  simp (disch := omega) only [qa,g0,g1,g2,g3,g4,g5,g6,g7,g8,g9,Bb,B9,B7,Bd,Bq,Bi,Bt,Bk,Bl,Bp,w0,w1,w2,w3,w4,w5,w6,w7,w8,w9,Bc,Ba,B5,Bo,Be,Bm,Br,Bs,Bj,Bf,Mk,Nat.reduceAdd,Nat.reduceSub,Nat.reduceMul,Nat.reduceMod,Nat.reduceDiv,Q0,U,hd1,hx1,hL,hl,NT,NV,EN,EO] at hR
  obtain ⟨h1, n1, e1, b1, b2, o1, f1⟩ := used_1 (m := m) (n := n) (A7 f h (some (.c (.l (fsC room rd (calls+1) fl' (.map d) lw w)) false none))) hd1 hb hx1 hL (by omega) hfn hdf hxn (by omega)
  rw [e1] at hR
  have hf2 := (o1 f hfn).trans (A7 f h _)
  have hx2 := (o1 x hxn).trans hx1
  have hd2 := (o1 d (by omega)).trans hd1
  have hdm2 := (o1 dm (by omega)).trans ((A6 _ _ nfd).trans hdm)
  have ho2:Lf pc h1 cv bs := ho.frame ((o1 pc hpn).trans (A6 _ _ npf.symm))
  have hsm := ho.same
  simp (disch := omega) only [qa,g0,g1,g2,g3,g4,g5,g6,g7,g8,g9,Bb,B9,B7,Bd,Bq,Bi,Bt,Bk,Bl,Bp,w0,w1,w2,w3,w4,w5,w6,w7,w8,w9,Bc,Ba,B5,Bo,Be,Bm,Br,Bs,Bj,Bf,Mk,Nat.reduceAdd,Nat.reduceSub,Nat.reduceMul,Nat.reduceMod,Nat.reduceDiv,Q0,U,hx2,hf2,hd2,hL,hl,NT,NV,EN,EO,hsm,QI] at hR
  obtain ⟨h3, e3, ho3, o3⟩ := Xj ho2 (hs.frame (h' := h1) fun p hp => by obtain ⟨q1, q2, q3, q4, q5⟩ := hsp p hp; exact (o1 p q1).trans (A6 _ _ (Ne.symm q2))) hoff (by omega)
  rw [e3] at hR
  have nxp := npx.symm
  have ndp:dm≠pc := npm.symm
  obtain ⟨h4, e4, o4, es', bs', c', q4, k4⟩ := dirty_loop (d0 := .ptr f 0) (d1 := .str a c) (d3 := v) (d4 := .int .i64 0) (a0 := off) (m0 := l.length) (by omega) (by omega) ndx.symm h3 es ds dk ((o3 x nxp).trans hx2) ((o3 dm ndp).trans hdm2) hik
  rw [e4] at hR
  simp (disch := omega) only [qa,g0,g1,g2,g3,g4,g5,g6,g7,g8,g9,Bb,B9,B7,Bd,Bq,Bi,Bt,Bk,Bl,Bp,w0,w1,w2,w3,w4,w5,w6,w7,w8,w9,Bc,Ba,B5,Bo,Be,Bm,Br,Bs,Bj,Bf,Mk,Nat.reduceAdd,Nat.reduceSub,Nat.reduceMul,Nat.reduceMod,Nat.reduceDiv,Q0,U] at hR
  subst hR
  refine ⟨_, _, rfl, b1, by omega, fun hfr q hq => ?_, fun q hq h5 h6 h7 => ?_, ?_, ⟨es', bs', c', q4, k4⟩, ho3.frame (o4 pc ndp.symm)⟩
  · rw [o4 q (K4.ne_of_lt (by omega)).symm, o3 q (K4.ne_of_lt (by omega)).symm]
    exact f1 (fun r hr => (A6 _ _ (K4.ne_of_lt (by omega))).trans (hfr r hr)) q hq
  · rw [o4 q h6, o3 q h7, o1 q hq, A6 _ _ (Ne.symm h5)]
  · rw [o4 f nfd, o3 f npf.symm]; exact hf2
theorem write_app {m:Nat} {f d x dm pc:K4} {h:Heap} {n:K4} {a c b k room rd calls fl fl':Nat} {lw w cv sv v:V} {bs l:List UInt8} {es:List (V×V)} {ds:List Nat} {dk:Nat} (hbg:Bg fl fl') (hc:calls<1000000)
    (hf:A8 f h=some (.c (.l (fsC room rd calls fl (.map d) lw w)) false none)) (hd:A8 d h=some (.m [(.str a c, .ptr x 0)] [b] k)) (hb:b<k)
    (hx:A8 x h=some (.c (.l [cv, sv, .map dm]) false none)) (hdm:A8 dm h=some (.m es ds dk)) (hik:IK es) (ho:Lf pc h cv bs) (hs:E1 v l h)
    (hroom:room≤4194304) (hroom2:bs.length+l.length≤room) (h0:0<l.length)
    (hfn:f.toN<n.toN) (hdf:d.toN<n.toN) (ndf:d≠f) (hxn:x.toN<n.toN) (nfx:f≠x) (hdn:dm.toN<n.toN) (ndx:dm≠x) (nfd:f≠dm) (hpn:pc.toN<n.toN) (npf:pc≠f) (npx:pc≠x) (npm:pc≠dm) (hn:n.toN<57000)
    (hsp:∀ p:K4, (∃ off cap ex, v = .sl p off l.length cap ex 1)->p.toN<n.toN∧p≠f∧p≠x∧p≠dm∧p≠pc) :
    ∃ h' n' p', Ak tab (m+11) ⟨.d0, .d1, .d10⟩ [.ptr f 0, .str a c, .int .i64 bs.length, v] h n = .rv (.int .i64 0) h' n'∧n.toN≤n'.toN∧n'.toN≤n.toN+14∧(Al h n->Al h' n')∧(∀ q:K4, q.toN<n.toN->q≠f->q≠dm->q≠pc->q≠x->A8 q h'=A8 q h) ∧
      A8 f h'=some (.c (.l (fsC room rd (calls+1) fl' (.map d) lw w)) false none)∧(∃ es ds dk, A8 dm h'=some (.m es ds dk)∧IK es)∧n.toN≤p'.toN∧p'.toN<n'.toN ∧ ∃ cv', A8 x h'=some (.c (.l [cv', sv, .map dm]) false none)∧Lf p' h' cv' (bs++l) := by
  generalize hR:Ak tab (m+11) ⟨.d0, .d1, .d10⟩ [.ptr f 0, .str a c, .int .i64 bs.length, v] h n=R0
  rw [call2_at, show B0 ⟨.d0, .d1, .d10⟩ tab=some x26 from rfl, x26, y26] at hR
  simp (disch := omega) only [qa,g0,g1,g2,g3,g4,g5,g6,g7,g8,g9,Bb,B9,B7,Bd,Bq,Bi,Bt,Bk,Bl,Bp,w0,w1,w2,w3,w4,w5,w6,w7,w8,w9,Bc,Ba,B5,Bo,Be,Bm,Br,Bs,Bj,Bf,Mk,Nat.reduceAdd,Nat.reduceSub,Nat.reduceMul,Nat.reduceMod,Nat.reduceDiv,Q0,U,en4] at hR
  rw [begin_bg hbg hf hc] at hR
  have hd1:A8 d (Ac f h (some (.c (.l (fsC room rd (calls+1) fl' (.map d) lw w)) false none)))=some (.m [(.str a c, .ptr x 0)] [b] k) := (A6 _ _ ndf.symm).trans hd
  have hx1:A8 x (Ac f h (some (.c (.l (fsC room rd (calls+1) fl' (.map d) lw w)) false none)))=some (.c (.l [cv, sv, .map dm]) false none) := (A6 _ _ nfx).trans hx
  have hL := ho.len (by omega)
  have hl := hs.len (by omega)
  simp (disch := omega) only [qa,g0,g1,g2,g3,g4,g5,g6,g7,g8,g9,Bb,B9,B7,Bd,Bq,Bi,Bt,Bk,Bl,Bp,w0,w1,w2,w3,w4,w5,w6,w7,w8,w9,Bc,Ba,B5,Bo,Be,Bm,Br,Bs,Bj,Bf,Mk,Nat.reduceAdd,Nat.reduceSub,Nat.reduceMul,Nat.reduceMod,Nat.reduceDiv,Q0,U,hd1,hx1,hL,hl,NT,NV,EN,EO] at hR
  obtain ⟨h1, n1, e1, b1, b2, o1, f1⟩ := used_1 (m := m) (n := n) (A7 f h (some (.c (.l (fsC room rd (calls+1) fl' (.map d) lw w)) false none))) hd1 hb hx1 hL (by omega) hfn hdf hxn (by omega)
  rw [e1] at hR
  have hf2 := (o1 f hfn).trans (A7 f h _)
  have hx2 := (o1 x hxn).trans hx1
  have hd2 := (o1 d (by omega)).trans hd1
  have hdm2 := (o1 dm (by omega)).trans ((A6 _ _ nfd).trans hdm)
  have ho2:Lf pc h1 cv bs := ho.frame ((o1 pc hpn).trans (A6 _ _ npf.symm))
  have hsm := ho.same
  simp (disch := omega) only [qa,g0,g1,g2,g3,g4,g5,g6,g7,g8,g9,Bb,B9,B7,Bd,Bq,Bi,Bt,Bk,Bl,Bp,w0,w1,w2,w3,w4,w5,w6,w7,w8,w9,Bc,Ba,B5,Bo,Be,Bm,Br,Bs,Bj,Bf,Mk,Nat.reduceAdd,Nat.reduceSub,Nat.reduceMul,Nat.reduceMod,Nat.reduceDiv,Q0,U,hx2,hf2,hd2,hL,hl,NT,NV,EN,EO,hsm,QI,Xz,Nat.add_sub_cancel_left] at hR
  obtain ⟨h2, pr, e2, hp2, hpr, o2⟩ := UW ho2 (m := l.length) h0 (by omega) (n := n1) (by omega) (by omega)
  have hll:(bs++List.replicate l.length (0:UInt8)).length=bs.length+l.length := by rw [List.length_append, List.length_replicate]
  rw [hll] at e2
  have u1 := K4.up_toN (p := n1) (by omega)
  have nx1:x≠n1 := K4.ne_of_lt (by omega)
  have nf1:f≠n1 := K4.ne_of_lt (by omega)
  have nm1:dm≠n1 := K4.ne_of_lt (by omega)
  have nxm:x≠dm := ndx.symm
  have hx3 := (o2 x nx1 npx.symm).trans hx2
  rw [show If 1 1 true [iB 0]=If 1 1 true [.int .u8 0] from rfl, e2] at hR
  simp (disch := omega) only [qa,g0,g1,g2,g3,g4,g5,g6,g7,g8,g9,Bb,B9,B7,Bd,Bq,Bi,Bt,Bk,Bl,Bp,w0,w1,w2,w3,w4,w5,w6,w7,w8,w9,Bc,Ba,B5,Bo,Be,Bm,Br,Bs,Bj,Bf,Mk,Nat.reduceAdd,Nat.reduceSub,Nat.reduceMul,Nat.reduceMod,Nat.reduceDiv,Q0,U,hx3,hl,Uh,Nat.add_sub_cancel_left] at hR
  have hs2:E1 v l (Ac x h2 (some (.c (.l [.sl n1 0 (bs.length+l.length) (bs.length+l.length) false 1, sv, .map dm]) false none))) := hs.frame fun p hp => by
    obtain ⟨q1, q2, q3, q4, q5⟩ := hsp p hp
    rw [A6 _ _ (Ne.symm q3), o2 p (K4.ne_of_lt (by omega)) q5, o1 p q1, A6 _ _ (Ne.symm q2)]
  obtain ⟨h3, e3, hp3, o3⟩ := WK (p := pc) (n := n1) (bs := bs) ((A6 _ _ nx1).trans hp2) hpr hs2 h0 (by omega)
  rw [e3] at hR
  have hx4:A8 x h3=some (.c (.l [.sl n1 0 (bs.length+l.length) (bs.length+l.length) false 1, sv, .map dm]) false none) := (o3 x nx1 npx.symm).trans (A7 _ _ _)
  have hdm4:A8 dm h3=some (.m es ds dk) := by rw [o3 dm nm1 npm.symm, A6 _ _ nxm, o2 dm nm1 npm.symm, hdm2]
  obtain ⟨h4, e4, o4, es', bs', c', q4, k4⟩ := dirty_loop (d0 := .ptr f 0) (d1 := .str a c) (d3 := v) (d4 := .int .i64 0) (a0 := bs.length) (m0 := l.length) (by omega) (by omega) nxm h3 es ds dk hx4 hdm4 hik
  rw [e4] at hR
  simp (disch := omega) only [qa,g0,g1,g2,g3,g4,g5,g6,g7,g8,g9,Bb,B9,B7,Bd,Bq,Bi,Bt,Bk,Bl,Bp,w0,w1,w2,w3,w4,w5,w6,w7,w8,w9,Bc,Ba,B5,Bo,Be,Bm,Br,Bs,Bj,Bf,Mk,Nat.reduceAdd,Nat.reduceSub,Nat.reduceMul,Nat.reduceMod,Nat.reduceDiv,Q0,U] at hR
  subst hR
  refine ⟨_, _, n1, rfl, by omega, by omega, fun hfr q hq => ?_, fun q hq h5 h6 h7 h8 => ?_, ?_, ⟨es', bs', c', q4, k4⟩, b1, by omega, _, (o4 x nxm).trans hx4, .inr ⟨false, ?_, ?_⟩⟩
  · rw [o4 q (K4.ne_of_lt (by omega)).symm, o3 q (K4.ne_of_lt (by omega)).symm (K4.ne_of_lt (by omega)).symm, A6 _ _ (K4.ne_of_lt (by omega)), o2 q (K4.ne_of_lt (by omega)).symm (K4.ne_of_lt (by omega)).symm]
    exact f1 (fun r hr => (A6 _ _ (K4.ne_of_lt (by omega))).trans (hfr r hr)) q (by omega)
  · rw [o4 q h6, o3 q (K4.ne_of_lt (by omega)) h7, A6 _ _ (Ne.symm h8), o2 q (K4.ne_of_lt (by omega)) h7, o1 q hq, A6 _ _ (Ne.symm h5)]
  · rw [o4 f nfd, o3 f nf1 npf.symm, A6 _ _ nfx.symm, o2 f nf1 npf.symm]; exact hf2
  · rw [List.length_append]
  · rw [o4 n1 nm1.symm]; exact hp3
theorem q_appS (u v:V) (h:Heap) (n:K4) (κ:KV):CA 1 1 u v h n κ=Gp 1 v h fun m y => BK 1 1 u m y h n κ := id rfl
theorem app_empty {l:List UInt8} {n:K4} {h:Heap} (hn:n.toN<64000) (hl:l.length≤1000000000) (hg:A8 n h=some (.c (.b 0 0) false none)) :
    ∃ h' n' v p', (∀ κ:KV, BK 1 1 (.sl n 0 0 0 true 1) l.length (cb l) h n.up κ=κ v h' n')∧n.toN<n'.toN∧n'.toN≤n.toN+2∧Lf p' h' v l∧n.toN≤p'.toN∧p'.toN<n'.toN∧(∀ q:K4, q.toN≤n.toN->A8 q h'=A8 q h)∧(∀ q:K4, n'.toN≤q.toN->A8 q h'=A8 q h)∧v = .sl p' 0 l.length l.length (decide (l.length=0)) 1 := by
  have u1 := K4.up_toN (p := n) (by omega)
  have u2 := K4.up_toN (p := n.up) (by omega)
  cases l with
  | nil => exact ⟨h, n.up, .sl n 0 0 0 true 1, n, fun κ => KK (.inr ⟨n, 0, 0, 0, true, rfl⟩) _ _ _ _, by omega, by omega, .inr ⟨true, rfl, hg⟩, by omega, by omega, fun q _ => rfl, fun q _ => rfl, rfl⟩
  | cons u l =>
    refine ⟨Ac n.up h (some (.c (cb (u::l)) false none)), n.up.up, .sl n.up 0 (u::l).length (u::l).length false 1, n.up, fun κ => ?_, by omega, by omega, .inr ⟨false, rfl, A7 _ _ _⟩, by omega, by omega, fun q hq => Aj (by omega) _ _, fun q hq => Aq (by omega) _ _, ?_⟩
    · have e := Fs (a := []) (b := u::l) (ex := true) (h := h) (p := n) (pr := none) hg (by rw [List.length_cons]; omega) (by rw [List.length_nil]; omega) (n := n.up) (by omega) κ
      rw [if_pos rfl] at e
      exact e
    · rw [decide_eq_false (by rw [List.length_cons]; omega)]
theorem clone_nil {m:Nat} {h:Heap} {n:K4}:Ak tab (m+1) ⟨.d0, .d3, .d7⟩ [.nil .sl] h n = .rv (.nil .sl) h n := by
  rw [call2_at, show B0 ⟨.d0, .d3, .d7⟩ tab=some x55 from rfl, x55]
  simp (disch := omega) only [qa,g0,g1,g2,g3,g4,g5,g6,g7,g8,g9,Bb,B9,B7,Bd,Bq,Bi,Bt,Bk,Bl,Bp,w0,w1,w2,w3,w4,w5,w6,w7,w8,w9,Bc,Ba,B5,Bo,Be,Bm,Br,Bs,Bj,Bf,Mk,Nat.reduceAdd,Nat.reduceSub,Nat.reduceMul,Nat.reduceMod,Nat.reduceDiv,Q0,U,en3]
theorem clone_sl {m:Nat} {p:K4} {h:Heap} {n:K4} {off len cap:Nat} {ex:Bool} {L l:List UInt8} {s:Bool} {pr:Option K4} (hp:A8 p h=some (.c (cb L) s pr)) (hl:off+len≤L.length) (hL:L.length≤1000000000) (he:(L.drop off).take len=l) (hpn:p.toN<n.toN) (hn:n.toN<63000) :
    ∃ h' n' v p', Ak tab (m+1) ⟨.d0, .d3, .d7⟩ [.sl p off len cap ex 1] h n = .rv v h' n'∧n.toN<n'.toN∧n'.toN≤n.toN+2∧Lf p' h' v l∧n.toN≤p'.toN∧p'.toN<n'.toN∧(∀ q:K4, q.toN<n.toN->A8 q h'=A8 q h)∧(Al h n->Al h' n')∧v = .sl p' 0 l.length l.length (decide (l.length=0)) 1 := by
  have u1 := K4.up_toN (p := n) (by omega)
  have hll:l.length=len := by rw [←he]; exact Jp hl
  obtain ⟨h', n', v, p', e1, b1, b2, o1, c1, c2, yg1, yg2, yw1⟩ := app_empty (l := l) (n := n) (h := Ac n h (some (.c (.b 0 0) false none))) (by omega) (by omega) (A7 _ _ _)
  generalize hR:Ak tab (m+1) ⟨.d0, .d3, .d7⟩ [.sl p off len cap ex 1] h n=R0
  rw [call2_at, show B0 ⟨.d0, .d3, .d7⟩ tab=some x55 from rfl, x55] at hR
  simp (disch := omega) only [qa,g0,g1,g2,g3,g4,g5,g6,g7,g8,g9,Bb,B9,B7,Bd,Bq,Bi,Bt,Bk,Bl,Bp,w0,w1,w2,w3,w4,w5,w6,w7,w8,w9,Bc,Ba,B5,Bo,Be,Bm,Br,Bs,Bj,Bf,Mk,Nat.reduceAdd,Nat.reduceSub,Nat.reduceMul,Nat.reduceMod,Nat.reduceDiv,Q0,U,en3,q_appS] at hR
  rw [YA ((Aj hpn _ _).trans hp) hl, he] at hR
  rw [←hll, e1] at hR
  simp (disch := omega) only [qa,g0,g1,g2,g3,g4,g5,g6,g7,g8,g9,Bb,B9,B7,Bd,Bq,Bi,Bt,Bk,Bl,Bp,w0,w1,w2,w3,w4,w5,w6,w7,w8,w9,Bc,Ba,B5,Bo,Be,Bm,Br,Bs,Bj,Bf,Mk,Nat.reduceAdd,Nat.reduceSub,Nat.reduceMul,Nat.reduceMod,Nat.reduceDiv,Q0,U] at hR
  subst hR
  refine ⟨h', n', v, p', rfl, b1, b2, o1, c1, c2, fun q hq => ?_, fun hfr q hq => ?_, yw1⟩
  · rw [yg1 q (by omega)]; exact Aj hq _ _
  · rw [yg2 q hq]; exact (Aq (by omega) _ _).trans (hfr q (by omega))
/-- The clone of bytes of one's own. -/
theorem clone_own {m:Nat} {p:K4} {h:Heap} {n:K4} {c:V} {l:List UInt8} (ho:Lf p h c l) (hL:l.length≤1000000000) (hpn:p.toN<n.toN) (hn:n.toN<63000) :
    ∃ h' n' v p', Ak tab (m+1) ⟨.d0, .d3, .d7⟩ [c] h n = .rv v h' n'∧n.toN≤n'.toN∧n'.toN≤n.toN+2∧Lf p' h' v l∧(p'=p∨n.toN≤p'.toN∧p'.toN<n'.toN)∧(∀ q:K4, q.toN<n.toN->A8 q h'=A8 q h)∧(Al h n->Al h' n')∧(v = .nil .sl ∨ ∃ a ex, v = .sl p' 0 a a ex 1∧n.toN≤p'.toN) := by
  rcases ho with ⟨rfl, rfl⟩ | ⟨ex, rfl, h2⟩
  · exact ⟨h, n, .nil .sl, p, clone_nil, by omega, by omega, .inl ⟨rfl, rfl⟩, .inl rfl, fun q _ => rfl, fun h => h, .inl rfl⟩
  · obtain ⟨h', n', v, p', e, b1, b2, o, c1, c2, g, f, w⟩ := clone_sl (m := m) (n := n) (l := l) (len := l.length) (cap := l.length) (ex := ex) (off := 0) h2 (by omega) hL (by rw [List.drop_zero, List.take_length]) hpn hn
    exact ⟨h', n', v, p', e, by omega, b2, o, .inr ⟨c1, c2⟩, g, f, .inr ⟨_, _, w, c1⟩⟩
theorem sync_ok {m:Nat} {f d x dm pc:K4} {h:Heap} {n:K4} {a c b k room rd calls fl fl':Nat} {lw w cv sv:V} {bs:List UInt8} (hbg:Bg fl fl') (hc:calls<1000000)
    (hf:A8 f h=some (.c (.l (fsC room rd calls fl (.map d) lw w)) false none)) (hd:A8 d h=some (.m [(.str a c, .ptr x 0)] [b] k))
    (hx:A8 x h=some (.c (.l [cv, sv, .map dm]) false none)) (ho:Lf pc h cv bs) (hbs:bs.length≤1000000000)
    (hfn:f.toN<n.toN) (hdf:d.toN<n.toN) (ndf:d≠f) (hxn:x.toN<n.toN) (nfx:f≠x) (hpn:pc.toN<n.toN) (npf:pc≠f) (npx:pc≠x) (hn:n.toN<57000) :
    ∃ h' n' dm' sv' ps, Ak tab (m+3) ⟨.d0, .d1, .d11⟩ [.ptr f 0, .str a c] h n = .rv (.int .i64 0) h' n'∧n.toN≤n'.toN∧n'.toN≤n.toN+3∧(Al h n->Al h' n')∧(∀ q:K4, q.toN<n.toN->q≠f->q≠x->A8 q h'=A8 q h) ∧
      A8 f h'=some (.c (.l (fsC room rd (calls+1) fl' (.map d) lw w)) false none)∧A8 x h'=some (.c (.l [cv, sv', .map dm']) false none)∧n.toN≤dm'.toN∧dm'.toN<n'.toN∧A8 dm' h'=some (.m [] [] 0) ∧
      Lf ps h' sv' bs∧(ps=pc∨n.toN≤ps.toN∧ps.toN<n'.toN)∧ps≠dm'∧(sv' = .nil .sl∨n.toN≤ps.toN∧ps.toN<n'.toN) := by
  generalize hR:Ak tab (m+3) ⟨.d0, .d1, .d11⟩ [.ptr f 0, .str a c] h n=R0
  rw [call2_at, show B0 ⟨.d0, .d1, .d11⟩ tab=some x27 from rfl, x27] at hR
  simp (disch := omega) only [qa,g0,g1,g2,g3,g4,g5,g6,g7,g8,g9,Bb,B9,B7,Bd,Bq,Bi,Bt,Bk,Bl,Bp,w0,w1,w2,w3,w4,w5,w6,w7,w8,w9,Bc,Ba,B5,Bo,Be,Bm,Br,Bs,Bj,Bf,Mk,Nat.reduceAdd,Nat.reduceSub,Nat.reduceMul,Nat.reduceMod,Nat.reduceDiv,Q0,U,en1] at hR
  rw [begin_bg hbg hf hc] at hR
  have hd1:A8 d (Ac f h (some (.c (.l (fsC room rd (calls+1) fl' (.map d) lw w)) false none)))=some (.m [(.str a c, .ptr x 0)] [b] k) := (A6 _ _ ndf.symm).trans hd
  have hx1:A8 x (Ac f h (some (.c (.l (fsC room rd (calls+1) fl' (.map d) lw w)) false none)))=some (.c (.l [cv, sv, .map dm]) false none) := (A6 _ _ nfx).trans hx
  simp (disch := omega) only [qa,g0,g1,g2,g3,g4,g5,g6,g7,g8,g9,Bb,B9,B7,Bd,Bq,Bi,Bt,Bk,Bl,Bp,w0,w1,w2,w3,w4,w5,w6,w7,w8,w9,Bc,Ba,B5,Bo,Be,Bm,Br,Bs,Bj,Bf,Mk,Nat.reduceAdd,Nat.reduceSub,Nat.reduceMul,Nat.reduceMod,Nat.reduceDiv,Q0,U,hd1,hx1] at hR
  obtain ⟨h1, n1, sv', ps, e1, b1, b2, o1, c1, yg1, f1, yw1⟩ := clone_own (m := m+1) (n := n) (ho.frame (h' := Ac f h (some (.c (.l (fsC room rd (calls+1) fl' (.map d) lw w)) false none))) (A6 _ _ npf.symm)) hbs hpn (by omega)
  rw [e1] at hR
  have u1 := K4.up_toN (p := n1) (by omega)
  have hx2 := (yg1 x hxn).trans hx1
  have nps:ps≠n1 := by rcases c1 with rfl | ⟨_, c⟩; exact K4.ne_of_lt (by omega); exact K4.ne_of_lt c
  have npx2:ps≠x := by rcases c1 with rfl | ⟨c, _⟩; exact npx; exact (K4.ne_of_lt (by omega)).symm
  have hR2:.rv (.int .i64 0) (Ac x (Ac n1 h1 (some (.m [] [] 0))) (some (.c (.l [cv, sv', .map n1]) false none))) n1.up=R0 := by
    rcases yw1 with rfl | ⟨aa, ex, rfl, _⟩
    · simp (disch := omega) only [qa,g0,g1,g2,g3,g4,g5,g6,g7,g8,g9,Bb,B9,B7,Bd,Bq,Bi,Bt,Bk,Bl,Bp,w0,w1,w2,w3,w4,w5,w6,w7,w8,w9,Bc,Ba,B5,Bo,Be,Bm,Br,Bs,Bj,Bf,Mk,Nat.reduceAdd,Nat.reduceSub,Nat.reduceMul,Nat.reduceMod,Nat.reduceDiv,Q0,U,hx2] at hR; exact hR
    · simp (disch := omega) only [qa,g0,g1,g2,g3,g4,g5,g6,g7,g8,g9,Bb,B9,B7,Bd,Bq,Bi,Bt,Bk,Bl,Bp,w0,w1,w2,w3,w4,w5,w6,w7,w8,w9,Bc,Ba,B5,Bo,Be,Bm,Br,Bs,Bj,Bf,Mk,Nat.reduceAdd,Nat.reduceSub,Nat.reduceMul,Nat.reduceMod,Nat.reduceDiv,Q0,U,hx2] at hR; exact hR
  subst hR2
  refine ⟨_, _, n1, sv', ps, rfl, by omega, by omega, fun hfr q hq => ?_, fun q hq h5 h6 => ?_, ?_, A7 _ _ _, b1, by omega, ?_, o1.frame ?_, ?_, nps, ?_⟩
  · rw [Aq (by omega), Aq (by omega)]
    exact f1 (fun r hr => (A6 _ _ (K4.ne_of_lt (by omega))).trans (hfr r hr)) q (by omega)
  · rw [A6 _ _ (Ne.symm h6), Aj (by omega), yg1 q hq, A6 _ _ (Ne.symm h5)]
  · rw [A6 _ _ nfx.symm, Aj (by omega), yg1 f hfn, A7]
  · rw [A6 _ _ (K4.ne_of_lt (by omega)), A7]
  · rw [A6 _ _ npx2.symm, A6 _ _ nps.symm]
  · rcases c1 with c1 | ⟨c1, c2⟩
    · exact .inl c1
    · exact .inr ⟨c1, by omega⟩
  · rcases yw1 with yw1 | ⟨_, _, _, c2⟩
    · exact .inl yw1
    · refine .inr ⟨c2, ?_⟩
      rcases c1 with rfl | ⟨_, c1⟩ <;> omega
def com32 (x:Nat):Nat := Nat.xor 4294967295 x
theorem com_u (r:Nat) (κ:V->R):Rq (.int .u32 r) κ=κ (.int .u32 (com32 r)) := by
  show Aa (Nat.xor (Nat.sub (Mk .u32) 1) r) (fun r => κ (.int .u32 r))=_
  rw [A9]; rfl
theorem com_lt {x:Nat} (h:x<4294967296):com32 x<4294967296 := Nat.xor_lt_two_pow (n := 32) (by decide) h
noncomputable def crcM (s:Nat) (l:List UInt8):Nat := com32 (HO l.length (AH l) (com32 s))
theorem crcQ_lt:∀ (j d x:Nat), x<4294967296->HO j d x<4294967296
  | 0, _, _, h => h
  | j+1, d, x, h => by
    show HO j (sh d 1) (JB (Nat.xor x (lo d 1)))<4294967296
    exact crcQ_lt j _ _ (by rw [J7]; exact Kt 8 (Nat.xor_lt_two_pow (n := 32) h (Nat.lt_trans (JK _) (by decide))))
theorem crcM_lt {s:Nat} {l:List UInt8} (h:s<4294967296):crcM s l<4294967296 := com_lt (crcQ_lt _ _ _ (com_lt h))
theorem crc_loop {d0 d1 d2 d7:V} {c2 c3 c4 c5 c6 c7:SQ} {h:Heap} {n p:K4} {off len cap x:Nat} {ex sup:Bool} {prev:Option K4} {L l:List UInt8} (hp:A8 p h=some (.c (cb L) sup prev)) (hl:off+len≤L.length) (he:(L.drop off).take len=l) (hL:len≤900000000) (hx:x<4294967296) :
    ∃ d7', IA Dq S0 (.mk (.mk d0 d1 d2 (.int .u32 x)) (.mk (.sl p off len cap ex 1) (.int .i64 len) (.int .i64 0) d7) c2 c3 c4 c5 c6 c7) h n = .ok (.exit 0) (.mk (.mk d0 d1 d2 (.int .u32 (HO l.length (AH l) x))) (.mk (.sl p off len cap ex 1) (.int .i64 len) (.int .i64 len) d7') c2 c3 c4 c5 c6 c7) h n := by
  have hll:l.length=len := by rw [←he]; exact Jp hl
  have out:∀ (x:Nat) (d7:V) (K:Nat), Cr Dq (K+1) (.mk (.mk d0 d1 d2 (.int .u32 x)) (.mk (.sl p off len cap ex 1) (.int .i64 len) (.int .i64 len) d7) c2 c3 c4 c5 c6 c7) h n = .ok (.exit 0) (.mk (.mk d0 d1 d2 (.int .u32 x)) (.mk (.sl p off len cap ex 1) (.int .i64 len) (.int .i64 len) d7) c2 c3 c4 c5 c6 c7) h n := fun x d7 K => by
    rw [BN]
    unfold Dq
    simp (disch := omega) only [qa,g0,g1,g2,g3,g4,g5,g6,g7,g8,g9,Bb,B9,B7,Bd,Bq,Bi,Bt,Bk,Bl,Bp,w0,w1,w2,w3,w4,w5,w6,w7,w8,w9,Bc,Ba,B5,Bo,Be,Bm,Br,Bs,Bj,Bf,Mk,Nat.reduceAdd,Nat.reduceSub,Nat.reduceMul,Nat.reduceMod,Nat.reduceDiv,Q0,U]
  rw [←Kn, Cg, ←BN]
  cases hn:len with
  | zero =>
    obtain rfl:l=[] := List.length_eq_zero_iff.1 (hll.trans hn)
    have := out x d7 999999999
    rw [hn] at this
    exact ⟨d7, this⟩
  | succ j =>
    have e := Hf (d0 := d0) (d1 := d1) (d2 := d2) (c2 := c2) (c3 := c3) (c4 := c4) (c5 := c5) (c6 := c6) (c7 := c7) (n := n) (cap := cap) (ex := ex) hp (Nat.le_refl len) hl (by omega) j 0 x d7 (by omega) hx (999999998 - j+1)
    rw [show j+1+(999999998 - j+1)=999999999+1 by omega, show 0+(j+1)=len by omega, out] at e
    rw [←hn, e, show j+1=len by omega, ←NP, My, show off+0=off from rfl, he, hll]
    exact ⟨_, rfl⟩
theorem more_sl {m:Nat} {h:Heap} {n p:K4} {off len cap s:Nat} {ex sup:Bool} {prev:Option K4} {L l:List UInt8} (hp:A8 p h=some (.c (cb L) sup prev)) (hl:off+len≤L.length) (he:(L.drop off).take len=l) (hL:len≤900000000) (hs:s<4294967296) :
    Ak tab (m+1) ⟨.d0, .d5, .d6⟩ [.int .u32 s, .sl p off len cap ex 1] h n = .rv (.int .u32 (crcM s l)) h n := by
  rw [call2_at, show B0 ⟨.d0, .d5, .d6⟩ tab=some x86 from rfl, x86, y86]
  simp (disch := omega) only [qa,g0,g1,g2,g3,g4,g5,g6,g7,g8,g9,Bb,B9,B7,Bd,Bq,Bi,Bt,Bk,Bl,Bp,w0,w1,w2,w3,w4,w5,w6,w7,w8,w9,Bc,Ba,B5,Bo,Be,Bm,Br,Bs,Bj,Bf,Mk,Nat.reduceAdd,Nat.reduceSub,Nat.reduceMul,Nat.reduceMod,Nat.reduceDiv,Q0,U,en1,com_u]
  obtain ⟨d7, e⟩ := crc_loop (d0 := .int .u32 s) (d1 := .sl p off len cap ex 1) (d2 := .int .u32 0) (d7 := Ar) (c2 := Q0) (c3 := Q0) (c4 := Q0) (c5 := Q0) (c6 := Q0) (c7 := Q0) (n := n) (cap := cap) (ex := ex) hp hl he hL (com_lt hs)
  simp only [Q0] at e
  rw [e]
  simp (disch := omega) only [qa,g0,g1,g2,g3,g4,g5,g6,g7,g8,g9,Bb,B9,B7,Bd,Bq,Bi,Bt,Bk,Bl,Bp,w0,w1,w2,w3,w4,w5,w6,w7,w8,w9,Bc,Ba,B5,Bo,Be,Bm,Br,Bs,Bj,Bf,Mk,Nat.reduceAdd,Nat.reduceSub,Nat.reduceMul,Nat.reduceMod,Nat.reduceDiv,Q0,U,com_u]; rfl
theorem more_nil {m:Nat} {h:Heap} {n:K4} {s:Nat} (hs:s<4294967296):Ak tab (m+1) ⟨.d0, .d5, .d6⟩ [.int .u32 s, .nil .sl] h n = .rv (.int .u32 (crcM s [])) h n := by
  rw [call2_at, show B0 ⟨.d0, .d5, .d6⟩ tab=some x86 from rfl, x86, y86]
  simp (disch := omega) only [qa,g0,g1,g2,g3,g4,g5,g6,g7,g8,g9,Bb,B9,B7,Bd,Bq,Bi,Bt,Bk,Bl,Bp,w0,w1,w2,w3,w4,w5,w6,w7,w8,w9,Bc,Ba,B5,Bo,Be,Bm,Br,Bs,Bj,Bf,Mk,Nat.reduceAdd,Nat.reduceSub,Nat.reduceMul,Nat.reduceMod,Nat.reduceDiv,Q0,U,en1,com_u]
  rw [←Kn, Cg]
  unfold Dq
  simp (disch := omega) only [qa,g0,g1,g2,g3,g4,g5,g6,g7,g8,g9,Bb,B9,B7,Bd,Bq,Bi,Bt,Bk,Bl,Bp,w0,w1,w2,w3,w4,w5,w6,w7,w8,w9,Bc,Ba,B5,Bo,Be,Bm,Br,Bs,Bj,Bf,Mk,Nat.reduceAdd,Nat.reduceSub,Nat.reduceMul,Nat.reduceMod,Nat.reduceDiv,Q0,U,com_u]; rfl
noncomputable def putB (c:Ei):S->Heap->K4->R := fun t h n=>g4 t fun z7=>CC z7 (iI 0) fun z8=>AZ z8 (Ah 1 (g3 t fun z9=>g0 t fun za=>ML (iI 8) z7 fun zb=>G9 za zb fun zc=>Bw .u8 zc fun zd=>Ax 0 zd [(iB 0)] fun ze=>Cx true 1 1 ze h n fun zf h n=>CA 1 1 z9 zf h n fun zg h n=>w3 t zg fun t=>nR t h n) fun t h n=>g4 t fun zh=>B3 zh (iI 1) fun zi=>w4 t zi fun t=>nR t h n)<|.ok (.exit 0) t h n
noncomputable def x85L:Ent := .code en1 (fun c t h n=>g1 t fun z1=>AO z1 (iI 0) fun z2=>Bu false z2 h n (fun k=>k z1 h n) fun z3 h n=>Bu false z2 h n (fun k=>Cb z3 (iI 8) fun v=>k v h n) fun z4 h n=>AF z2 (.bool true) z4 fun z5=>AZ z5 (w2 t (.nil .sl) fun t=>rT t h n)<|B3 z1 (iI 1) fun z6=>Ah 0 (w2 t (.nil .sl) fun t=>w3 t (.nil .sl) fun t=>w4 t z6 fun t=>B8 (putB c) t h n) fun t h n=>g3 t fun zj=>w2 t zj fun t=>rT t h n) (fun t h n=>g2 t fun a0=>.rv a0 h n)
theorem x85_L:x85=x85L := rfl
def putL (v:Nat):Nat->List UInt8
  | 0 => []
  | k+1 => UInt8.ofNat ((v >>> (8*k)) % 256)::putL v k
theorem putL_len (v:Nat):∀ k, (putL v k).length=k
  | 0 => rfl
  | k+1 => by rw [putL, List.length_cons, putL_len]
theorem putB_in {m v j:Nat} (hv:v<18446744073709551616) (hj:j<8) {lo:Nat} {n:K4} {h:Heap} {c d1 d2:V} {l:List UInt8} (H:FE lo n h c l) (hlo:lo≤n.toN) (hl:l.length≤100) (hn:n.toN<64000) :
    ∃ c' h' n', putB (Ak tab m) (.mk (.mk (.int .u64 v) d1 d2 c) (.mk (.int .i64 (Ih .i64 (j+1) 1)) Ar Ar Ar) Q0 Q0 Q0 Q0 Q0 Q0) h n = .ok .nrm (.mk (.mk (.int .u64 v) d1 d2 c') (.mk (.int .i64 (Ih .i64 j 1)) Ar Ar Ar) Q0 Q0 Q0 Q0 Q0 Q0) h' n' ∧
      FE lo n' h' c' (l++[UInt8.ofNat ((v >>> (8*j)) % 256)])∧n.toN≤n'.toN∧n'.toN≤n.toN+2∧(∀ q:K4, q.toN<lo->A8 q h'=A8 q h)∧(Al h n->Al h' n') := by
  have u1 := K4.up_toN (p := n) (by omega)
  obtain ⟨c', h', n', e, o, b1, b2, f, fr⟩ := IU (n := n.up) (h := Ac n h (some (.c (cb [UInt8.ofNat ((v >>> (8*j)) % 256)]) false none))) (v := .sl n 0 1 1 true 1) (b := [UInt8.ofNat ((v >>> (8*j)) % 256)]) (H.frame (by omega) fun q _ hq => Aj hq _ _)
    (.inr (.inr ⟨n, 0, 1, true, _, false, none, rfl, A7 _ _ _, by simp, by simp⟩)) (by omega) (by simp; omega) (by omega)
  refine ⟨c', h', n', ?_, o, by omega, by omega, fun q hq => (f q hq).trans (Aj (by omega) _ _), fun hf => fr fun q hq => (Aq (by omega) _ _).trans (hf q (by omega))⟩
  have hs:v >>> (8*j)<18446744073709551616 := Nat.lt_of_le_of_lt (Nat.shiftRight_le _ _) hv
  have hm:(8*j) % Mk .i64=8*j := Nat.mod_eq_of_lt (by show 8*j<18446744073709551616; omega)
  have e1:Ih .i64 (j+1) 1=j := by rw [HS (by omega) (by omega)]; omega
  have e0:(0:Nat)<9223372036854775808 := by omega
  unfold putB
  simp (disch := omega) only [qa,g0,g1,g2,g3,g4,g5,g6,g7,g8,g9,Bb,B9,B7,Bd,Bq,Bi,Bt,Bk,Bl,Bp,w0,w1,w2,w3,w4,w5,w6,w7,w8,w9,Bc,Ba,B5,Bo,Be,Bm,Br,Bs,Bj,Bf,Mk,Nat.reduceAdd,Nat.reduceSub,Nat.reduceMul,Nat.reduceMod,Nat.reduceDiv,Q0,U,e1,Wv,R9,hm,e,Ua]
theorem put_loop {m v:Nat} (hv:v<18446744073709551616) {lo:Nat} {d1 d2:V} :
    ∀ (j:Nat) (n:K4) (h:Heap) (c:V) (l:List UInt8), j≤8->FE lo n h c l->lo≤n.toN->l.length+j≤100->n.toN+2*j<64000 →
    ∃ c' h' n', (∀ K, Cr (putB (Ak tab m)) (K+j+1) (.mk (.mk (.int .u64 v) d1 d2 c) (.mk (.int .i64 (Ih .i64 j 1)) Ar Ar Ar) Q0 Q0 Q0 Q0 Q0 Q0) h n = .ok (.exit 0) (.mk (.mk (.int .u64 v) d1 d2 c') (.mk (.int .i64 18446744073709551615) Ar Ar Ar) Q0 Q0 Q0 Q0 Q0 Q0) h' n') ∧
      FE lo n' h' c' (l++putL v j)∧n.toN≤n'.toN∧n'.toN≤n.toN+2*j∧(∀ q:K4, q.toN<lo->A8 q h'=A8 q h)∧(Al h n->Al h' n') := by
  intro j
  induction j with
  | zero =>
    intro n h c l hj H hlo hl hn
    refine ⟨c, h, n, fun K => ?_, by rw [putL, List.append_nil]; exact H, by omega, by omega, fun q _ => rfl, fun h => h⟩
    rw [BN]
    unfold putB
    simp (disch := omega) only [qa,g0,g1,g2,g3,g4,g5,g6,g7,g8,g9,Bb,B9,B7,Bd,Bq,Bi,Bt,Bk,Bl,Bp,w0,w1,w2,w3,w4,w5,w6,w7,w8,w9,Bc,Ba,B5,Bo,Be,Bm,Br,Bs,Bj,Bf,Mk,Nat.reduceAdd,Nat.reduceSub,Nat.reduceMul,Nat.reduceMod,Nat.reduceDiv,Q0,U]
  | succ j ih =>
    intro n h c l hj H hlo hl hn
    obtain ⟨c1, h1, n1, e1, o1, b1, b2, f1, fr1⟩ := putB_in (m := m) (d1 := d1) (d2 := d2) hv (show j<8 by omega) H hlo (by omega) (by omega)
    obtain ⟨c2, h2, n2, e2, o2, b3, b4, f2, fr2⟩ := ih n1 h1 c1 _ (by omega) o1 (by omega) (by simp; omega) (by omega)
    refine ⟨c2, h2, n2, fun K => ?_, by rw [putL]; simpa using o2, by omega, by omega, fun q hq => (f2 q hq).trans (f1 q hq), fun h => fr2 (fr1 h)⟩
    rw [BN, e1, N1]
    exact e2 K
theorem put_ok {m v k:Nat} (hv:v<18446744073709551616) (hk0:0<k) (hk:k≤8) {n:K4} {h:Heap} (hn:n.toN<63000) :
    ∃ c' h' n', Ak tab (m+1) ⟨.d0, .d5, .d5⟩ [.int .u64 v, .int .i64 k] h n = .rv c' h' n'∧FE n.toN n' h' c' (putL v k)∧n.toN≤n'.toN∧n'.toN≤n.toN+2*k∧(∀ q:K4, q.toN<n.toN->A8 q h'=A8 q h)∧(Al h n->Al h' n') := by
  obtain ⟨c', h', n', e, o, b1, b2, f, fr⟩ := put_loop (m := m) (d1 := .int .i64 k) (d2 := .nil .sl) hv k n h (.nil .sl) [] hk (.nil (lo := n.toN)) (by omega) (by simp; omega) (by omega)
  refine ⟨c', h', n', ?_, o, b1, b2, f, fr⟩
  have e1 := e (999999999 - k)
  rw [show 999999999 - k+k+1=999999999+1 by omega] at e1
  rw [HS (by omega) (by omega)] at e1
  simp only [Q0] at e1
  rw [call2_at, show B0 ⟨.d0, .d5, .d5⟩ tab=some x85 from rfl, x85_L, x85L]
  simp (disch := omega) only [qa,g0,g1,g2,g3,g4,g5,g6,g7,g8,g9,Bb,B9,B7,Bd,Bq,Bi,Bt,Bk,Bl,Bp,w0,w1,w2,w3,w4,w5,w6,w7,w8,w9,Bc,Ba,B5,Bo,Be,Bm,Br,Bs,Bj,Bf,Mk,Nat.reduceAdd,Nat.reduceSub,Nat.reduceMul,Nat.reduceMod,Nat.reduceDiv,Q0,U,en1,Cg]
  rw [←BN, e1]
  simp (disch := omega) only [qa,g0,g1,g2,g3,g4,g5,g6,g7,g8,g9,Bb,B9,B7,Bd,Bq,Bi,Bt,Bk,Bl,Bp,w0,w1,w2,w3,w4,w5,w6,w7,w8,w9,Bc,Ba,B5,Bo,Be,Bm,Br,Bs,Bj,Bf,Mk,Nat.reduceAdd,Nat.reduceSub,Nat.reduceMul,Nat.reduceMod,Nat.reduceDiv,Q0,U]
theorem ix_rb {l:List UInt8} {i:Nat} (hi:i<l.length) (h2:l.length<9223372036854775808) (h:Heap) (κ:V->R):AG 1 (L2 l) (.int .i64 i) (fun z => Av z h κ)=κ (.int .u8 (lo (sh (AH l) i) 1)) := by
  show br (Nat.ble (Nat.succ i) 9223372036854775808) (br (Nat.beq 1 1) (br (Nat.ble (Nat.succ i) l.length) (Aa (Ev.lo (sh (AH l) i) 1) fun r => κ (.int .u8 r)) (.fail "")) (.fail "")) (.fail "")=_
  rw [show Nat.ble (Nat.succ i) 9223372036854775808=true from Ab.2 (by omega), Ad, Nat.beq_refl, Ad, show Nat.ble (Nat.succ i) l.length=true from Ab.2 hi, Ad, A9]
theorem crcr_round {d0 d1 d2 d7:V} {c2 c3 c4 c5 c6 c7:SQ} {h:Heap} {n:K4} {l:List UInt8} {i x:Nat} (hi:i<l.length) (hb:l.length≤900000000) (hx:x<4294967296) :
    Dq (.mk (.mk d0 d1 d2 (.int .u32 x)) (.mk (L2 l) (.int .i64 l.length) (.int .i64 i) d7) c2 c3 c4 c5 c6 c7) h n
      = .ok .nrm (.mk (.mk d0 d1 d2 (.int .u32 (JB (Nat.xor x (lo (sh (AH l) i) 1))))) (.mk (L2 l) (.int .i64 l.length) (.int .i64 (i+1)) (.int .i64 8)) c2 c3 c4 c5 c6 c7) h n := by
  unfold Dq
  show AO (.int .i64 i) (.int .i64 l.length) _=_
  rw [Pg hi (by omega)]
  show Ah 1 (AG 1 (L2 l) (.int .i64 i) fun z9 => Av z9 h _) _=_
  rw [ix_rb hi (by omega)]
  show Ah 1 (Bw .u32 (.int .u8 (lo (sh (AH l) i) 1)) _) _=_
  rw [QL (JK _) (by decide)]
  have e3:∀ (a b:Nat) (κ:V->R), I0 (.int .u32 a) (.int .u32 b) κ=κ (.int .u32 (Nat.xor a b)) := fun a b κ => by
    have e0:I0 (.int .u32 a) (.int .u32 b) κ=Aa (Nat.xor a b) fun r => κ (.int .u32 r) := rfl
    rw [e0, A9]
  rw [e3]
  have hx2:Nat.xor x (lo (sh (AH l) i) 1)<4294967296 := Nat.xor_lt_two_pow (n := 32) hx (Nat.lt_trans (JK _) (by decide))
  rw [J7]
  generalize Nat.xor x (lo (sh (AH l) i) 1)=y at hx2
  show Ah 1 (Ah 2 (B8 Iz (.mk (.mk d0 d1 d2 (.int .u32 y)) (.mk (L2 l) (.int .i64 l.length) (.int .i64 i) (.int .i64 0)) c2 c3 c4 c5 c6 c7) h n) _) _=_
  rw [N4 hx2, JJ, Fw]
  show AM (.int .i64 i) (.int .i64 1) _=_
  rw [Jz (by omega)]
theorem crcr_rounds {d0 d1 d2:V} {c2 c3 c4 c5 c6 c7:SQ} {h:Heap} {n:K4} {l:List UInt8} (hb:l.length≤900000000) :
    ∀ (j i x:Nat) (d7:V), i+j=l.length->x<4294967296->∃ d7', ∀ K, Cr Dq (K+j+1) (.mk (.mk d0 d1 d2 (.int .u32 x)) (.mk (L2 l) (.int .i64 l.length) (.int .i64 i) d7) c2 c3 c4 c5 c6 c7) h n
      = .ok (.exit 0) (.mk (.mk d0 d1 d2 (.int .u32 (HO j (sh (AH l) i) x))) (.mk (L2 l) (.int .i64 l.length) (.int .i64 l.length) d7') c2 c3 c4 c5 c6 c7) h n := by
  intro j
  induction j with
  | zero =>
    intro i x d7 hi hx
    obtain rfl:i=l.length := by omega
    refine ⟨d7, fun K => ?_⟩
    rw [BN]
    unfold Dq
    simp (disch := omega) only [qa,g0,g1,g2,g3,g4,g5,g6,g7,g8,g9,Bb,B9,B7,Bd,Bq,Bi,Bt,Bk,Bl,Bp,w0,w1,w2,w3,w4,w5,w6,w7,w8,w9,Bc,Ba,B5,Bo,Be,Bm,Br,Bs,Bj,Bf,Mk,Nat.reduceAdd,Nat.reduceSub,Nat.reduceMul,Nat.reduceMod,Nat.reduceDiv,Q0,U]; rfl
  | succ j ih =>
    intro i x d7 hi hx
    obtain ⟨d8, e⟩ := ih (i+1) (JB (Nat.xor x (lo (sh (AH l) i) 1))) (.int .i64 8) (by omega) (by rw [J7]; exact Kt 8 (Nat.xor_lt_two_pow (n := 32) hx (Nat.lt_trans (JK _) (by decide))))
    refine ⟨d8, fun K => ?_⟩
    rw [BN, crcr_round (by omega) hb hx, N1]
    have e1:HO (j+1) (sh (AH l) i) x=HO j (sh (sh (AH l) i) 1) (JB (Nat.xor x (lo (sh (AH l) i) 1))) := rfl
    rw [e1, Oa]
    exact e K
theorem more_rb {m:Nat} {h:Heap} {n:K4} {s:Nat} {l:List UInt8} (hb:l.length≤900000000) (hs:s<4294967296):Ak tab (m+1) ⟨.d0, .d5, .d6⟩ [.int .u32 s, L2 l] h n = .rv (.int .u32 (crcM s l)) h n := by
  rw [call2_at, show B0 ⟨.d0, .d5, .d6⟩ tab=some x86 from rfl, x86, y86]
  have hL:∀ κ:V->R, AJ (L2 l) κ=κ (.int .i64 l.length) := fun κ => CD (by omega) κ
  simp (disch := omega) only [qa,g0,g1,g2,g3,g4,g5,g6,g7,g8,g9,Bb,B9,B7,Bd,Bq,Bi,Bt,Bk,Bl,Bp,w0,w1,w2,w3,w4,w5,w6,w7,w8,w9,Bc,Ba,B5,Bo,Be,Bm,Br,Bs,Bj,Bf,Mk,Nat.reduceAdd,Nat.reduceSub,Nat.reduceMul,Nat.reduceMod,Nat.reduceDiv,Q0,U,en1,com_u,hL]
  obtain ⟨d7, e⟩ := crcr_rounds (d0 := .int .u32 s) (d1 := L2 l) (d2 := .int .u32 0) (c2 := Q0) (c3 := Q0) (c4 := Q0) (c5 := Q0) (c6 := Q0) (c7 := Q0) (h := h) (n := n) hb l.length 0 (com32 s) Ar (by omega) (com_lt hs)
  have e1 := e (999999999 - l.length)
  rw [show 999999999 - l.length+l.length+1=999999999+1 by omega] at e1
  simp only [Q0] at e1
  rw [←Kn, Cg, ←BN, e1]
  simp (disch := omega) only [qa,g0,g1,g2,g3,g4,g5,g6,g7,g8,g9,Bb,B9,B7,Bd,Bq,Bi,Bt,Bk,Bl,Bp,w0,w1,w2,w3,w4,w5,w6,w7,w8,w9,Bc,Ba,B5,Bo,Be,Bm,Br,Bs,Bj,Bf,Mk,Nat.reduceAdd,Nat.reduceSub,Nat.reduceMul,Nat.reduceMod,Nat.reduceDiv,Q0,U,com_u]; rfl
/-- .. over bytes of any kind. -/
theorem more_src {m:Nat} {h:Heap} {n:K4} {s:Nat} {v:V} {l:List UInt8} (H:E1 v l h) (hb:l.length≤900000000) (hs:s<4294967296):Ak tab (m+1) ⟨.d0, .d5, .d6⟩ [.int .u32 s, v] h n = .rv (.int .u32 (crcM s l)) h n := by
  rcases H with rfl | ⟨rfl, rfl⟩ | ⟨p, off, cap, ex, L, sp, pr, rfl, h1, h2, h3⟩
  · exact more_rb hb hs
  · exact more_nil hs
  · exact more_sl h1 h2 h3 hb hs
theorem sum_src {m:Nat} {h:Heap} {n:K4} {v:V} {l:List UInt8} (H:E1 v l h) (hb:l.length≤900000000):Ak tab (m+2) ⟨.d0, .d5, .d7⟩ [v] h n = .rv (.int .u32 (crcM 0 l)) h n := by
  rw [call2_at, show B0 ⟨.d0, .d5, .d7⟩ tab=some x87 from rfl, x87]
  simp (disch := omega) only [qa,g0,g1,g2,g3,g4,g5,g6,g7,g8,g9,Bb,B9,B7,Bd,Bq,Bi,Bt,Bk,Bl,Bp,w0,w1,w2,w3,w4,w5,w6,w7,w8,w9,Bc,Ba,B5,Bo,Be,Bm,Br,Bs,Bj,Bf,Mk,Nat.reduceAdd,Nat.reduceSub,Nat.reduceMul,Nat.reduceMod,Nat.reduceDiv,Q0,U,en3]
  rw [show iW 0 = .int .u32 0 from rfl, more_src H hb (by omega)]
  simp (disch := omega) only [qa,g0,g1,g2,g3,g4,g5,g6,g7,g8,g9,Bb,B9,B7,Bd,Bq,Bi,Bt,Bk,Bl,Bp,w0,w1,w2,w3,w4,w5,w6,w7,w8,w9,Bc,Ba,B5,Bo,Be,Bm,Br,Bs,Bj,Bf,Mk,Nat.reduceAdd,Nat.reduceSub,Nat.reduceMul,Nat.reduceMod,Nat.reduceDiv,Q0,U]
theorem cvi_64 {a:Nat} (h:a<9223372036854775808) (κ:V->R):Bw .u64 (.int .i64 a) κ=κ (.int .u64 a) := by
  rw [JE (k := .u64) (j := .i64) h, Nat.mod_eq_of_lt (by show a<18446744073709551616; omega)]
theorem cvi_32 {a:Nat} (h:a<4294967296) (κ:V->R):Bw .u64 (.int .u32 a) κ=κ (.int .u64 a) := by
  rw [JE (k := .u64) (j := .u32) h, Nat.mod_eq_of_lt (by show a<18446744073709551616; omega)]
def headL (turn:Nat) (l:List UInt8):List UInt8 := putL turn 8++putL l.length 4
noncomputable def slotL (turn:Nat) (l:List UInt8):List UInt8 := headL turn l++putL (crcM (crcM 0 (headL turn l)) l) 4++l
theorem headL_len (turn:Nat) (l:List UInt8):(headL turn l).length=12 := by rw [headL, List.length_append, putL_len, putL_len]
theorem slotL_len (turn:Nat) (l:List UInt8):(slotL turn l).length=16+l.length := by rw [slotL, List.length_append, List.length_append, headL_len, putL_len]
theorem slot_ok {m turn:Nat} {h:Heap} {n:K4} {v:V} {l:List UInt8} (ht:turn<18446744073709551616) (H:E1 v l h) (hp:∀ p:K4, (∃ off cap ex, v = .sl p off l.length cap ex 1)->p.toN<n.toN) (hb:l.length≤10000) (hn:n.toN<62000) :
    ∃ c' h' n', Ak tab (m+3) ⟨.d0, .d3, .d15⟩ [.int .u64 turn, v] h n = .rv c' h' n'∧FE n.toN n' h' c' (slotL turn l)∧n.toN≤n'.toN∧n'.toN≤n.toN+40∧(∀ q:K4, q.toN<n.toN->A8 q h'=A8 q h)∧(Al h n->Al h' n') := by
  obtain ⟨c1, h1, n1, e1, o1, a1, b1, f1, r1⟩ := put_ok (m := m+1) (v := turn) (k := 8) (n := n) (h := h) ht (by omega) (by omega) (by omega)
  obtain ⟨c2, h2, n2, e2, o2, a2, b2, f2, r2⟩ := put_ok (m := m+1) (v := l.length) (k := 4) (n := n1) (h := h1) (by omega) (by omega) (by omega) (by omega)
  have o1':FE n.toN n2 h2 c1 (putL turn 8) := o1.frame (by omega) fun q _ hq => f2 q hq
  obtain ⟨c3, h3, n3, e3, o3, a3, b3, f3, r3⟩ := IU o1' o2.src (by omega) (by rw [putL_len, putL_len]; omega) (by omega)
  have o3:FE n.toN n3 h3 c3 (headL turn l) := o3
  have g3:∀ q:K4, q.toN<n.toN->A8 q h3=A8 q h := fun q hq => (f3 q hq).trans ((f2 q (by omega)).trans (f1 q hq))
  have s3:E1 v l h3 := H.frame fun p hv => g3 p (hp p hv)
  have k1 := crcM_lt (s := crcM 0 (headL turn l)) (l := l) (crcM_lt (by omega))
  obtain ⟨c4, h4, n4, e4, o4, a4, b4, f4, r4⟩ := put_ok (m := m+1) (v := crcM (crcM 0 (headL turn l)) l) (k := 4) (n := n3) (h := h3) (by omega) (by omega) (by omega) (by omega)
  have o3':FE n.toN n4 h4 c3 (headL turn l) := o3.frame (by omega) fun q _ hq => f4 q hq
  obtain ⟨c5, h5, n5, e5, o5, a5, b5, f5, r5⟩ := IU o3' o4.src (by omega) (by rw [putL_len, headL_len]; omega) (by omega)
  have g5:∀ q:K4, q.toN<n.toN->A8 q h5=A8 q h := fun q hq => (f5 q hq).trans ((f4 q (by omega)).trans (g3 q hq))
  obtain ⟨c6, h6, n6, e6, o6, a6, b6, f6, r6⟩ := IU o5 (H.frame (h' := h5) fun p hv => g5 p (hp p hv)) (by omega) (by rw [List.length_append, putL_len, headL_len]; omega) (by omega)
  refine ⟨c6, h6, n6, ?_, o6, by omega, by omega, fun q hq => (f6 q hq).trans (g5 q hq), fun hf => r6 (r5 (r4 (r3 (r2 (r1 hf)))))⟩
  have el := H.len (by omega)
  have es := sum_src (m := m) (n := n3) o3.src (by rw [headL_len]; omega)
  have em := more_src (m := m+1) (n := n3) (s := crcM 0 (headL turn l)) s3 (by omega) (crcM_lt (by omega))
  clear g3 g5
  rw [call2_at, show B0 ⟨.d0, .d3, .d15⟩ tab=some x63 from rfl, x63]
  rw [show m+1+1=m+2 from rfl] at *
  simp (disch := omega) only [qa,g0,g1,g2,g3,g4,g5,g6,g7,g8,g9,Bb,B9,B7,Bd,Bq,Bi,Bt,Bk,Bl,Bp,w0,w1,w2,w3,w4,w5,w6,w7,w8,w9,Bc,Ba,B5,Bo,Be,Bm,Br,Bs,Bj,Bf,Mk,Nat.reduceAdd,Nat.reduceSub,Nat.reduceMul,Nat.reduceMod,Nat.reduceDiv,Q0,U,en1,e1,e2,e3,e4,e5,e6,el,es,em,cvi_64,cvi_32]
theorem cvi_i64_u64 {a:Nat} (h:a<9223372036854775808) (κ:V->R):Bw .i64 (.int .u64 a) κ=κ (.int .i64 a) := by
  rw [JE (k := .i64) (j := .u64) (show a<18446744073709551616 by omega), Nat.mod_eq_of_lt (by show a<18446744073709551616; omega)]
end Go.Ev.Ytdgefeadbcbglaa
