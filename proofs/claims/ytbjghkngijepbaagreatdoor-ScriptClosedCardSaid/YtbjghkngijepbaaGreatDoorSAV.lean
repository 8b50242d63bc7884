/- The laws whose loops' rounds begin under new names. -/
import Derived.Test.YtbjghkngijepbaaGreatDoorSAT
import Derived.KernelRfl
namespace Go.Ev.YtbjghkngijepbaaGreatDoor
open Go Go.Ev
noncomputable section
set_option linter.unusedVariables false
set_option maxRecDepth 100000
def yN5:S := (.mk (.mk (.bool true) (.bool false) (.bool true) (.bool true)) (.mk (.bool false) (.bool false) (.bool false) (.bool false)) (.mk (.bool false) (.bool false) (.bool false) (.bool false)) (.mk (.bool false) (.bool false) (.bool false) (.bool false)) (.mk (.bool false) (.bool false) (.bool false) (.bool false)) (.mk (.bool false) (.bool false) (.bool false) (.bool false)) (.mk (.bool false) (.bool false) (.bool false) (.bool false)) (.mk (.bool false) (.bool false) (.bool false) (.bool false)))
abbrev canA5:Ii := MR (XJ 1000000 yN5) (US ⟨.d0, .d0⟩ 9223372036854775807)
abbrev canB5:Ii := MR (UF ⟨.d0, .d0⟩ ⟨.d0, .d3⟩) (UK ⟨.d0, .d0⟩ ⟨.d0, .d3⟩ 16)
abbrev canN5:Nat->Ii := Ti (MR canA5 canB5) 7
theorem canN5_ok (b:Nat):Eu (canN5 b) := RA (In (In (TA _ _) (Sx _ _)) (In (Tr _ _) (Sa _ _ (by decide) (by decide)))) _ b
abbrev canO5:Ii := canN5 7
abbrev bd5 (c:FK):S->Heap->K4->R := fun t h n=>g3 t fun z4=>g0 t fun z5=>Ay z5 fun z6=>Ap z4 z6 fun z7=>gK z7 z4 h n fun z8 h n=>gO z7 h n (fun k=>Ap z8 (iI 30) k) fun z9 h n=>At z7 z9 (.bool false) fun za=>Ao za (Ad 1 (Ar 1 z5 z4 fun zb=>Aa zb h fun zc=>DY zc (iI 16) fun zd=>Ag zd (iI 16) fun ze=>DY ze (iI 16) fun zf=>Aw zf (iI 1) fun zg=>AP false zg h n (fun k=>k zf h n) fun zh h n=>AP false zg h n (fun k=>Aw zh (iI 4) fun v=>k v h n) fun zi h n=>At zg (.bool true) zi fun zj=>Ao zj (.ok (.exit 1) t h n)<|g2 t fun zk=>A8 0 zf [(iI 0),(iI 0),(iI 0),(.str 0 0),(iI 0),(.str 0 0),(.str 0 0),(iI 0),(iI 0),(iI 0),(.nil .sl),(iI 0)] fun zl=>A6 (c ⟨.d0,.d1,.d2⟩ [zk,(.agg zl)] h n) fun zm h n=>AX zm fun zn=>AP false zn h n (fun k=>k zk h n) fun zo h n=>AP false zn h n (fun k=>A7 zo fun v=>k v h n) fun zp h n=>AP false zn h n (fun k=>A9 0 zp fun v=>k v h n) fun zq h n=>AP false zn h n (fun k=>Aa zq h fun v=>k v h n) fun zr h n=>AP false zn h n (fun k=>A6 (c ⟨.d0,.d1,.d3⟩ [zr] h n) k) fun zs h n=>AP false zn h n (fun k=>Bm true (.rf .ptr) zs (.nil .ptr) fun v=>k v h n) fun zt h n=>At zn (.bool true) zt fun zu=>Ao zu (w1 t (.bool false) fun t=>rT t h n)<|nR t h n) fun t h n=>g3 t fun zv=>Ag zv (iI 1) fun zw=>w3 t zw fun t=>nR t h n)<|.ok (.exit 0) t h n
abbrev xcL5 (L:FK->S->Heap->K4->R):Ent := .code ((fun l k=>Ij l fun a0 l=>PD l<|k (.mk (.mk a0 U U U) Q0 Q0 Q0 Q0 Q0 Q0 Q0))) (fun c t h n=>A6 (c ⟨.d0,.d1,.d0⟩ [] h n) fun z1 h n=>AX z1 fun z2=>Ao z2 (w1 t (.bool false) fun t=>rT t h n)<|A6 (c ⟨.d0,.d1,.d1⟩ [] h n) fun z3 h n=>Ad 0 (w1 t (.bool false) fun t=>w2 t z3 fun t=>w3 t (iI 0) fun t=>L c t h n) fun t h n=>w1 t (.bool true) fun t=>rT t h n) (fun t h n=>g1 t fun a0=>.rv a0 h n)
abbrev rs5 (c:FK):S->Heap->K4->R := fun t h n=>w1 t (.bool true) fun t=>rT t h n
abbrev re5:S->Heap->K4->R := (fun t h n=>g1 t fun a0=>.rv a0 h n)
abbrev id5:Nat := 0
def xc5:Ent := xcL5 fun c => RX (canN5 7) (bd5 c)
theorem ec5:JN canN5 PP 5 xc5 := .mk (mS [0,2,4,5]) (by kernel_rfl) (by kernel_rfl)
end
end Go.Ev.YtbjghkngijepbaaGreatDoor
