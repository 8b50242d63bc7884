/- Proved: stillroomlaw28.ScriptClosed returns true, as its tied card says it. Conditions: the three tables that the row lists hold what the program lays, which the card ties to the program's text; none else. -/
import Derived.Test.YtbjghkngijepbaaGreatDoorCards
import Derived.Test.YtbjghkngijepbaaGreatDoorMt
import Derived.WalkKit
import Derived.ProofKit
import Derived.OpenShut
import Derived.Deep.DeepHandedRow
import Derived.KernelRfl
import Derived.Test.YtbjghkngijepbaaGreatDoorSAT
import Derived.Carry
import Derived.Test.YtbjghkngijepbaaGreatDoorSAV
import Derived.Test.YtbjghkngijepbaaGreatDoorSAY
import Derived.Test.YtbjghkngijepbaaGreatDoorSAW
import Derived.Test.YtbjghkngijepbaaGreatDoorSAY0
import Derived.Test.YtbjghkngijepbaaGreatDoorSAY1
import Derived.Test.YtbjghkngijepbaaGreatDoorSAY2
import Derived.Test.YtbjghkngijepbaaGreatDoorSAY3
import Derived.Test.YtbjghkngijepbaaGreatDoorScriptClosedC
namespace Go.Proofs.YtbjghkngijepbaaGreatDoor.scriptClosed
open Go.Ev Go.Ev.YtbjghkngijepbaaGreatDoor Go.ChangeShapes Go.WideShapes Go.ChangeAt Go.RowKit
set_option maxRecDepth 100000
set_option linter.unusedVariables false
theorem own:ownKnob Tryz.prog.godebug=none := by kernel_rfl
theorem mixed:Tryz.prog.follows .mixedOrders=true := by kernel_rfl
theorem br_and {a b:Bool} (ha:a=true) (hb:b=true):br a b false=true := by subst ha hb; rfl
theorem go_1 (m:Nat):goG (m+1)=goT (goG m) := goG_eq m
theorem go_2 (m:Nat):goG (m+2)=goT (goT (goG m)) := by
  rw [show m+2=(m+1)+1 from rfl, goG_eq, go_1]
theorem go_3 (m:Nat):goG (m+3)=goT (goT (goT (goG m))) := by
  rw [show m+3=(m+2)+1 from rfl, goG_eq, go_2]
theorem go_4 (m:Nat):goG (m+4)=goT (goT (goT (goT (goG m)))) := by
  rw [show m+4=(m+3)+1 from rfl, goG_eq, go_3]
theorem go_5 (m:Nat):goG (m+5)=goT (goT (goT (goT (goT (goG m))))) := by
  rw [show m+5=(m+4)+1 from rfl, goG_eq, go_4]
theorem go_6 (m:Nat):goG (m+6)=goT (goT (goT (goT (goT (goT (goG m)))))) := by
  rw [show m+6=(m+5)+1 from rfl, goG_eq, go_5]
theorem go_7 (m:Nat):goG (m+7)=goT (goT (goT (goT (goT (goT (goT (goG m))))))) := by
  rw [show m+7=(m+6)+1 from rfl, goG_eq, go_6]
theorem go_8 (m:Nat):goG (m+8)=goT (goT (goT (goT (goT (goT (goT (goT (goG m)))))))) := by
  rw [show m+8=(m+7)+1 from rfl, goG_eq, go_7]
theorem k86:Al (goB (goG 999999970 gS86 gH86 gN86))=true := by
  rw [show (999999970:Nat)=999999969+1 from rfl, go_1]
  exact (congrFun t86 (goG 999999969)).trans (br_and rfl (br_and k89 (br_and k89 (br_and k89 (br_and k89 (br_and k89 (br_and k89 (br_and k89 (br_and k89 (br_and k89 (br_and k89 (br_and k89 (br_and k89 (br_and k90 (br_and k91 (br_and k89 (br_and k89 (br_and k89 (br_and k89 (br_and k89 (br_and k89 (br_and k89 (br_and k89 (br_and k89 (br_and k89 (br_and k89 (br_and k89 (br_and k89 (br_and k89 (br_and k90 (br_and k91 k89)))))))))))))))))))))))))))))))
theorem k87:Al (goB (goG 999999970 gS87 gH87 gN87))=true := by
  rw [show (999999970:Nat)=999999969+1 from rfl, go_1]
  exact (congrFun t87 (goG 999999969)).trans (br_and rfl (br_and k90 (br_and k90 (br_and k90 (br_and k90 (br_and k90 (br_and k90 (br_and k90 (br_and k90 (br_and k90 (br_and k90 (br_and k90 (br_and k90 (br_and k90 (br_and k91 (br_and k90 (br_and k90 (br_and k90 (br_and k90 (br_and k90 (br_and k90 (br_and k90 (br_and k90 (br_and k90 (br_and k90 (br_and k90 (br_and k90 (br_and k90 (br_and k90 (br_and k90 (br_and k91 k90)))))))))))))))))))))))))))))))
theorem k88:Al (goB (goG 999999970 gS88 gH88 gN88))=true := by
  rw [show (999999970:Nat)=999999969+1 from rfl, go_1]
  exact (congrFun t88 (goG 999999969)).trans (br_and rfl (br_and k91 (br_and k91 (br_and k91 (br_and k91 (br_and k91 (br_and k91 (br_and k91 (br_and k91 (br_and k91 (br_and k91 (br_and k91 (br_and k91 (br_and k90 (br_and k91 (br_and k91 (br_and k91 (br_and k91 (br_and k91 (br_and k91 (br_and k91 (br_and k91 (br_and k91 (br_and k91 (br_and k91 (br_and k91 (br_and k91 (br_and k91 (br_and k91 (br_and k90 (br_and k91 k91)))))))))))))))))))))))))))))))
theorem k83:Al (goB (goG 999999971 gS83 gH83 gN83))=true := by
  rw [show (999999971:Nat)=999999970+1 from rfl, go_1]
  exact (congrFun t83 (goG 999999970)).trans (br_and rfl (br_and k86 (br_and k86 (br_and k86 (br_and k86 (br_and k86 (br_and k86 (br_and k86 (br_and k86 (br_and k86 (br_and k86 (br_and k86 (br_and k86 (br_and k87 (br_and k88 (br_and k86 (br_and k86 (br_and k86 (br_and k86 (br_and k86 (br_and k86 (br_and k86 (br_and k86 (br_and k86 (br_and k86 (br_and k86 (br_and k86 (br_and k86 (br_and k86 (br_and k87 (br_and k88 k86)))))))))))))))))))))))))))))))
theorem k84:Al (goB (goG 999999971 gS84 gH84 gN84))=true := by
  rw [show (999999971:Nat)=999999970+1 from rfl, go_1]
  exact (congrFun t84 (goG 999999970)).trans (br_and rfl (br_and k87 (br_and k87 (br_and k87 (br_and k87 (br_and k87 (br_and k87 (br_and k87 (br_and k87 (br_and k87 (br_and k87 (br_and k87 (br_and k87 (br_and k87 (br_and k88 (br_and k87 (br_and k87 (br_and k87 (br_and k87 (br_and k87 (br_and k87 (br_and k87 (br_and k87 (br_and k87 (br_and k87 (br_and k87 (br_and k87 (br_and k87 (br_and k87 (br_and k87 (br_and k88 k87)))))))))))))))))))))))))))))))
theorem k85:Al (goB (goG 999999971 gS85 gH85 gN85))=true := by
  rw [show (999999971:Nat)=999999970+1 from rfl, go_1]
  exact (congrFun t85 (goG 999999970)).trans (br_and rfl (br_and k88 (br_and k88 (br_and k88 (br_and k88 (br_and k88 (br_and k88 (br_and k88 (br_and k88 (br_and k88 (br_and k88 (br_and k88 (br_and k88 (br_and k87 (br_and k88 (br_and k88 (br_and k88 (br_and k88 (br_and k88 (br_and k88 (br_and k88 (br_and k88 (br_and k88 (br_and k88 (br_and k88 (br_and k88 (br_and k88 (br_and k88 (br_and k88 (br_and k87 (br_and k88 k88)))))))))))))))))))))))))))))))
theorem k80:Al (goB (goG 999999972 gS80 gH80 gN80))=true := by
  rw [show (999999972:Nat)=999999971+1 from rfl, go_1]
  exact (congrFun t80 (goG 999999971)).trans (br_and rfl (br_and k83 (br_and k83 (br_and k83 (br_and k83 (br_and k83 (br_and k83 (br_and k83 (br_and k83 (br_and k83 (br_and k83 (br_and k83 (br_and k83 (br_and k84 (br_and k85 (br_and k83 (br_and k83 (br_and k83 (br_and k83 (br_and k83 (br_and k83 (br_and k83 (br_and k83 (br_and k83 (br_and k83 (br_and k83 (br_and k83 (br_and k83 (br_and k83 (br_and k84 (br_and k85 k83)))))))))))))))))))))))))))))))
theorem k81:Al (goB (goG 999999972 gS81 gH81 gN81))=true := by
  rw [show (999999972:Nat)=999999971+1 from rfl, go_1]
  exact (congrFun t81 (goG 999999971)).trans (br_and rfl (br_and k84 (br_and k84 (br_and k84 (br_and k84 (br_and k84 (br_and k84 (br_and k84 (br_and k84 (br_and k84 (br_and k84 (br_and k84 (br_and k84 (br_and k84 (br_and k85 (br_and k84 (br_and k84 (br_and k84 (br_and k84 (br_and k84 (br_and k84 (br_and k84 (br_and k84 (br_and k84 (br_and k84 (br_and k84 (br_and k84 (br_and k84 (br_and k84 (br_and k84 (br_and k85 k84)))))))))))))))))))))))))))))))
theorem k82:Al (goB (goG 999999972 gS82 gH82 gN82))=true := by
  rw [show (999999972:Nat)=999999971+1 from rfl, go_1]
  exact (congrFun t82 (goG 999999971)).trans (br_and rfl (br_and k85 (br_and k85 (br_and k85 (br_and k85 (br_and k85 (br_and k85 (br_and k85 (br_and k85 (br_and k85 (br_and k85 (br_and k85 (br_and k85 (br_and k84 (br_and k85 (br_and k85 (br_and k85 (br_and k85 (br_and k85 (br_and k85 (br_and k85 (br_and k85 (br_and k85 (br_and k85 (br_and k85 (br_and k85 (br_and k85 (br_and k85 (br_and k85 (br_and k84 (br_and k85 k85)))))))))))))))))))))))))))))))
theorem k77:Al (goB (goG 999999973 gS77 gH77 gN77))=true := by
  rw [show (999999973:Nat)=999999972+1 from rfl, go_1]
  exact (congrFun t77 (goG 999999972)).trans (br_and rfl (br_and k80 (br_and k80 (br_and k80 (br_and k80 (br_and k80 (br_and k80 (br_and k80 (br_and k80 (br_and k80 (br_and k80 (br_and k80 (br_and k80 (br_and k81 (br_and k82 (br_and k80 (br_and k80 (br_and k80 (br_and k80 (br_and k80 (br_and k80 (br_and k80 (br_and k80 (br_and k80 (br_and k80 (br_and k80 (br_and k80 (br_and k80 (br_and k80 (br_and k81 (br_and k82 k80)))))))))))))))))))))))))))))))
theorem k78:Al (goB (goG 999999973 gS78 gH78 gN78))=true := by
  rw [show (999999973:Nat)=999999972+1 from rfl, go_1]
  exact (congrFun t78 (goG 999999972)).trans (br_and rfl (br_and k81 (br_and k81 (br_and k81 (br_and k81 (br_and k81 (br_and k81 (br_and k81 (br_and k81 (br_and k81 (br_and k81 (br_and k81 (br_and k81 (br_and k81 (br_and k82 (br_and k81 (br_and k81 (br_and k81 (br_and k81 (br_and k81 (br_and k81 (br_and k81 (br_and k81 (br_and k81 (br_and k81 (br_and k81 (br_and k81 (br_and k81 (br_and k81 (br_and k81 (br_and k82 k81)))))))))))))))))))))))))))))))
theorem k79:Al (goB (goG 999999973 gS79 gH79 gN79))=true := by
  rw [show (999999973:Nat)=999999972+1 from rfl, go_1]
  exact (congrFun t79 (goG 999999972)).trans (br_and rfl (br_and k82 (br_and k82 (br_and k82 (br_and k82 (br_and k82 (br_and k82 (br_and k82 (br_and k82 (br_and k82 (br_and k82 (br_and k82 (br_and k82 (br_and k81 (br_and k82 (br_and k82 (br_and k82 (br_and k82 (br_and k82 (br_and k82 (br_and k82 (br_and k82 (br_and k82 (br_and k82 (br_and k82 (br_and k82 (br_and k82 (br_and k82 (br_and k82 (br_and k81 (br_and k82 k82)))))))))))))))))))))))))))))))
theorem k74:Al (goB (goG 999999974 gS74 gH74 gN74))=true := by
  rw [show (999999974:Nat)=999999973+1 from rfl, go_1]
  exact (congrFun t74 (goG 999999973)).trans (br_and rfl (br_and k77 (br_and k77 (br_and k77 (br_and k77 (br_and k77 (br_and k77 (br_and k77 (br_and k77 (br_and k77 (br_and k77 (br_and k77 (br_and k77 (br_and k78 (br_and k79 (br_and k77 (br_and k77 (br_and k77 (br_and k77 (br_and k77 (br_and k77 (br_and k77 (br_and k77 (br_and k77 (br_and k77 (br_and k77 (br_and k77 (br_and k77 (br_and k77 (br_and k78 (br_and k79 k77)))))))))))))))))))))))))))))))
theorem k75:Al (goB (goG 999999974 gS75 gH75 gN75))=true := by
  rw [show (999999974:Nat)=999999973+1 from rfl, go_1]
  exact (congrFun t75 (goG 999999973)).trans (br_and rfl (br_and k78 (br_and k78 (br_and k78 (br_and k78 (br_and k78 (br_and k78 (br_and k78 (br_and k78 (br_and k78 (br_and k78 (br_and k78 (br_and k78 (br_and k78 (br_and k79 (br_and k78 (br_and k78 (br_and k78 (br_and k78 (br_and k78 (br_and k78 (br_and k78 (br_and k78 (br_and k78 (br_and k78 (br_and k78 (br_and k78 (br_and k78 (br_and k78 (br_and k78 (br_and k79 k78)))))))))))))))))))))))))))))))
theorem k76:Al (goB (goG 999999974 gS76 gH76 gN76))=true := by
  rw [show (999999974:Nat)=999999973+1 from rfl, go_1]
  exact (congrFun t76 (goG 999999973)).trans (br_and rfl (br_and k79 (br_and k79 (br_and k79 (br_and k79 (br_and k79 (br_and k79 (br_and k79 (br_and k79 (br_and k79 (br_and k79 (br_and k79 (br_and k79 (br_and k78 (br_and k79 (br_and k79 (br_and k79 (br_and k79 (br_and k79 (br_and k79 (br_and k79 (br_and k79 (br_and k79 (br_and k79 (br_and k79 (br_and k79 (br_and k79 (br_and k79 (br_and k79 (br_and k78 (br_and k79 k79)))))))))))))))))))))))))))))))
theorem k71:Al (goB (goG 999999975 gS71 gH71 gN71))=true := by
  rw [show (999999975:Nat)=999999974+1 from rfl, go_1]
  exact (congrFun t71 (goG 999999974)).trans (br_and rfl (br_and k74 (br_and k74 (br_and k74 (br_and k74 (br_and k74 (br_and k74 (br_and k74 (br_and k74 (br_and k74 (br_and k74 (br_and k74 (br_and k74 (br_and k75 (br_and k76 (br_and k74 (br_and k74 (br_and k74 (br_and k74 (br_and k74 (br_and k74 (br_and k74 (br_and k74 (br_and k74 (br_and k74 (br_and k74 (br_and k74 (br_and k74 (br_and k74 (br_and k75 (br_and k76 k74)))))))))))))))))))))))))))))))
theorem k72:Al (goB (goG 999999975 gS72 gH72 gN72))=true := by
  rw [show (999999975:Nat)=999999974+1 from rfl, go_1]
  exact (congrFun t72 (goG 999999974)).trans (br_and rfl (br_and k75 (br_and k75 (br_and k75 (br_and k75 (br_and k75 (br_and k75 (br_and k75 (br_and k75 (br_and k75 (br_and k75 (br_and k75 (br_and k75 (br_and k75 (br_and k76 (br_and k75 (br_and k75 (br_and k75 (br_and k75 (br_and k75 (br_and k75 (br_and k75 (br_and k75 (br_and k75 (br_and k75 (br_and k75 (br_and k75 (br_and k75 (br_and k75 (br_and k75 (br_and k76 k75)))))))))))))))))))))))))))))))
theorem k73:Al (goB (goG 999999975 gS73 gH73 gN73))=true := by
  rw [show (999999975:Nat)=999999974+1 from rfl, go_1]
  exact (congrFun t73 (goG 999999974)).trans (br_and rfl (br_and k76 (br_and k76 (br_and k76 (br_and k76 (br_and k76 (br_and k76 (br_and k76 (br_and k76 (br_and k76 (br_and k76 (br_and k76 (br_and k76 (br_and k75 (br_and k76 (br_and k76 (br_and k76 (br_and k76 (br_and k76 (br_and k76 (br_and k76 (br_and k76 (br_and k76 (br_and k76 (br_and k76 (br_and k76 (br_and k76 (br_and k76 (br_and k76 (br_and k75 (br_and k76 k76)))))))))))))))))))))))))))))))
theorem k68:Al (goB (goG 999999976 gS68 gH68 gN68))=true := by
  rw [show (999999976:Nat)=999999975+1 from rfl, go_1]
  exact (congrFun t68 (goG 999999975)).trans (br_and rfl (br_and k71 (br_and k71 (br_and k71 (br_and k71 (br_and k71 (br_and k71 (br_and k71 (br_and k71 (br_and k71 (br_and k71 (br_and k71 (br_and k71 (br_and k72 (br_and k73 (br_and k71 (br_and k71 (br_and k71 (br_and k71 (br_and k71 (br_and k71 (br_and k71 (br_and k71 (br_and k71 (br_and k71 (br_and k71 (br_and k71 (br_and k71 (br_and k71 (br_and k72 (br_and k73 k71)))))))))))))))))))))))))))))))
theorem k69:Al (goB (goG 999999976 gS69 gH69 gN69))=true := by
  rw [show (999999976:Nat)=999999975+1 from rfl, go_1]
  exact (congrFun t69 (goG 999999975)).trans (br_and rfl (br_and k72 (br_and k72 (br_and k72 (br_and k72 (br_and k72 (br_and k72 (br_and k72 (br_and k72 (br_and k72 (br_and k72 (br_and k72 (br_and k72 (br_and k72 (br_and k73 (br_and k72 (br_and k72 (br_and k72 (br_and k72 (br_and k72 (br_and k72 (br_and k72 (br_and k72 (br_and k72 (br_and k72 (br_and k72 (br_and k72 (br_and k72 (br_and k72 (br_and k72 (br_and k73 k72)))))))))))))))))))))))))))))))
theorem k70:Al (goB (goG 999999976 gS70 gH70 gN70))=true := by
  rw [show (999999976:Nat)=999999975+1 from rfl, go_1]
  exact (congrFun t70 (goG 999999975)).trans (br_and rfl (br_and k73 (br_and k73 (br_and k73 (br_and k73 (br_and k73 (br_and k73 (br_and k73 (br_and k73 (br_and k73 (br_and k73 (br_and k73 (br_and k73 (br_and k72 (br_and k73 (br_and k73 (br_and k73 (br_and k73 (br_and k73 (br_and k73 (br_and k73 (br_and k73 (br_and k73 (br_and k73 (br_and k73 (br_and k73 (br_and k73 (br_and k73 (br_and k73 (br_and k72 (br_and k73 k73)))))))))))))))))))))))))))))))
theorem k65:Al (goB (goG 999999977 gS65 gH65 gN65))=true := by
  rw [show (999999977:Nat)=999999976+1 from rfl, go_1]
  exact (congrFun t65 (goG 999999976)).trans (br_and rfl (br_and k68 (br_and k68 (br_and k68 (br_and k68 (br_and k68 (br_and k68 (br_and k68 (br_and k68 (br_and k68 (br_and k68 (br_and k68 (br_and k68 (br_and k69 (br_and k70 (br_and k68 (br_and k68 (br_and k68 (br_and k68 (br_and k68 (br_and k68 (br_and k68 (br_and k68 (br_and k68 (br_and k68 (br_and k68 (br_and k68 (br_and k68 (br_and k68 (br_and k69 (br_and k70 k68)))))))))))))))))))))))))))))))
theorem k66:Al (goB (goG 999999977 gS66 gH66 gN66))=true := by
  rw [show (999999977:Nat)=999999976+1 from rfl, go_1]
  exact (congrFun t66 (goG 999999976)).trans (br_and rfl (br_and k69 (br_and k69 (br_and k69 (br_and k69 (br_and k69 (br_and k69 (br_and k69 (br_and k69 (br_and k69 (br_and k69 (br_and k69 (br_and k69 (br_and k69 (br_and k70 (br_and k69 (br_and k69 (br_and k69 (br_and k69 (br_and k69 (br_and k69 (br_and k69 (br_and k69 (br_and k69 (br_and k69 (br_and k69 (br_and k69 (br_and k69 (br_and k69 (br_and k69 (br_and k70 k69)))))))))))))))))))))))))))))))
theorem k67:Al (goB (goG 999999977 gS67 gH67 gN67))=true := by
  rw [show (999999977:Nat)=999999976+1 from rfl, go_1]
  exact (congrFun t67 (goG 999999976)).trans (br_and rfl (br_and k70 (br_and k70 (br_and k70 (br_and k70 (br_and k70 (br_and k70 (br_and k70 (br_and k70 (br_and k70 (br_and k70 (br_and k70 (br_and k70 (br_and k69 (br_and k70 (br_and k70 (br_and k70 (br_and k70 (br_and k70 (br_and k70 (br_and k70 (br_and k70 (br_and k70 (br_and k70 (br_and k70 (br_and k70 (br_and k70 (br_and k70 (br_and k70 (br_and k69 (br_and k70 k70)))))))))))))))))))))))))))))))
theorem k62:Al (goB (goG 999999978 gS62 gH62 gN62))=true := by
  rw [show (999999978:Nat)=999999977+1 from rfl, go_1]
  exact (congrFun t62 (goG 999999977)).trans (br_and rfl (br_and k65 (br_and k65 (br_and k65 (br_and k65 (br_and k65 (br_and k65 (br_and k65 (br_and k65 (br_and k65 (br_and k65 (br_and k65 (br_and k65 (br_and k66 (br_and k67 (br_and k65 (br_and k65 (br_and k65 (br_and k65 (br_and k65 (br_and k65 (br_and k65 (br_and k65 (br_and k65 (br_and k65 (br_and k65 (br_and k65 (br_and k65 (br_and k65 (br_and k66 (br_and k67 k65)))))))))))))))))))))))))))))))
theorem k63:Al (goB (goG 999999978 gS63 gH63 gN63))=true := by
  rw [show (999999978:Nat)=999999977+1 from rfl, go_1]
  exact (congrFun t63 (goG 999999977)).trans (br_and rfl (br_and k66 (br_and k66 (br_and k66 (br_and k66 (br_and k66 (br_and k66 (br_and k66 (br_and k66 (br_and k66 (br_and k66 (br_and k66 (br_and k66 (br_and k66 (br_and k67 (br_and k66 (br_and k66 (br_and k66 (br_and k66 (br_and k66 (br_and k66 (br_and k66 (br_and k66 (br_and k66 (br_and k66 (br_and k66 (br_and k66 (br_and k66 (br_and k66 (br_and k66 (br_and k67 k66)))))))))))))))))))))))))))))))
theorem k64:Al (goB (goG 999999978 gS64 gH64 gN64))=true := by
  rw [show (999999978:Nat)=999999977+1 from rfl, go_1]
  exact (congrFun t64 (goG 999999977)).trans (br_and rfl (br_and k67 (br_and k67 (br_and k67 (br_and k67 (br_and k67 (br_and k67 (br_and k67 (br_and k67 (br_and k67 (br_and k67 (br_and k67 (br_and k67 (br_and k66 (br_and k67 (br_and k67 (br_and k67 (br_and k67 (br_and k67 (br_and k67 (br_and k67 (br_and k67 (br_and k67 (br_and k67 (br_and k67 (br_and k67 (br_and k67 (br_and k67 (br_and k67 (br_and k66 (br_and k67 k67)))))))))))))))))))))))))))))))
theorem k59:Al (goB (goG 999999979 gS59 gH59 gN59))=true := by
  rw [show (999999979:Nat)=999999978+1 from rfl, go_1]
  exact (congrFun t59 (goG 999999978)).trans (br_and rfl (br_and k62 (br_and k62 (br_and k62 (br_and k62 (br_and k62 (br_and k62 (br_and k62 (br_and k62 (br_and k62 (br_and k62 (br_and k62 (br_and k62 (br_and k63 (br_and k64 (br_and k62 (br_and k62 (br_and k62 (br_and k62 (br_and k62 (br_and k62 (br_and k62 (br_and k62 (br_and k62 (br_and k62 (br_and k62 (br_and k62 (br_and k62 (br_and k62 (br_and k63 (br_and k64 k62)))))))))))))))))))))))))))))))
theorem k60:Al (goB (goG 999999979 gS60 gH60 gN60))=true := by
  rw [show (999999979:Nat)=999999978+1 from rfl, go_1]
  exact (congrFun t60 (goG 999999978)).trans (br_and rfl (br_and k63 (br_and k63 (br_and k63 (br_and k63 (br_and k63 (br_and k63 (br_and k63 (br_and k63 (br_and k63 (br_and k63 (br_and k63 (br_and k63 (br_and k63 (br_and k64 (br_and k63 (br_and k63 (br_and k63 (br_and k63 (br_and k63 (br_and k63 (br_and k63 (br_and k63 (br_and k63 (br_and k63 (br_and k63 (br_and k63 (br_and k63 (br_and k63 (br_and k63 (br_and k64 k63)))))))))))))))))))))))))))))))
theorem k61:Al (goB (goG 999999979 gS61 gH61 gN61))=true := by
  rw [show (999999979:Nat)=999999978+1 from rfl, go_1]
  exact (congrFun t61 (goG 999999978)).trans (br_and rfl (br_and k64 (br_and k64 (br_and k64 (br_and k64 (br_and k64 (br_and k64 (br_and k64 (br_and k64 (br_and k64 (br_and k64 (br_and k64 (br_and k64 (br_and k63 (br_and k64 (br_and k64 (br_and k64 (br_and k64 (br_and k64 (br_and k64 (br_and k64 (br_and k64 (br_and k64 (br_and k64 (br_and k64 (br_and k64 (br_and k64 (br_and k64 (br_and k64 (br_and k63 (br_and k64 k64)))))))))))))))))))))))))))))))
theorem k56:Al (goB (goG 999999980 gS56 gH56 gN56))=true := by
  rw [show (999999980:Nat)=999999979+1 from rfl, go_1]
  exact (congrFun t56 (goG 999999979)).trans (br_and rfl (br_and k59 (br_and k59 (br_and k59 (br_and k59 (br_and k59 (br_and k59 (br_and k59 (br_and k59 (br_and k59 (br_and k59 (br_and k59 (br_and k59 (br_and k60 (br_and k61 (br_and k59 (br_and k59 (br_and k59 (br_and k59 (br_and k59 (br_and k59 (br_and k59 (br_and k59 (br_and k59 (br_and k59 (br_and k59 (br_and k59 (br_and k59 (br_and k59 (br_and k60 (br_and k61 k59)))))))))))))))))))))))))))))))
theorem k57:Al (goB (goG 999999980 gS57 gH57 gN57))=true := by
  rw [show (999999980:Nat)=999999979+1 from rfl, go_1]
  exact (congrFun t57 (goG 999999979)).trans (br_and rfl (br_and k60 (br_and k60 (br_and k60 (br_and k60 (br_and k60 (br_and k60 (br_and k60 (br_and k60 (br_and k60 (br_and k60 (br_and k60 (br_and k60 (br_and k60 (br_and k61 (br_and k60 (br_and k60 (br_and k60 (br_and k60 (br_and k60 (br_and k60 (br_and k60 (br_and k60 (br_and k60 (br_and k60 (br_and k60 (br_and k60 (br_and k60 (br_and k60 (br_and k60 (br_and k61 k60)))))))))))))))))))))))))))))))
theorem k58:Al (goB (goG 999999980 gS58 gH58 gN58))=true := by
  rw [show (999999980:Nat)=999999979+1 from rfl, go_1]
  exact (congrFun t58 (goG 999999979)).trans (br_and rfl (br_and k61 (br_and k61 (br_and k61 (br_and k61 (br_and k61 (br_and k61 (br_and k61 (br_and k61 (br_and k61 (br_and k61 (br_and k61 (br_and k61 (br_and k60 (br_and k61 (br_and k61 (br_and k61 (br_and k61 (br_and k61 (br_and k61 (br_and k61 (br_and k61 (br_and k61 (br_and k61 (br_and k61 (br_and k61 (br_and k61 (br_and k61 (br_and k61 (br_and k60 (br_and k61 k61)))))))))))))))))))))))))))))))
theorem k53:Al (goB (goG 999999981 gS53 gH53 gN53))=true := by
  rw [show (999999981:Nat)=999999980+1 from rfl, go_1]
  exact (congrFun t53 (goG 999999980)).trans (br_and rfl (br_and k56 (br_and k56 (br_and k56 (br_and k56 (br_and k56 (br_and k56 (br_and k56 (br_and k56 (br_and k56 (br_and k56 (br_and k56 (br_and k56 (br_and k57 (br_and k58 (br_and k56 (br_and k56 (br_and k56 (br_and k56 (br_and k56 (br_and k56 (br_and k56 (br_and k56 (br_and k56 (br_and k56 (br_and k56 (br_and k56 (br_and k56 (br_and k56 (br_and k57 (br_and k58 k56)))))))))))))))))))))))))))))))
theorem k54:Al (goB (goG 999999981 gS54 gH54 gN54))=true := by
  rw [show (999999981:Nat)=999999980+1 from rfl, go_1]
  exact (congrFun t54 (goG 999999980)).trans (br_and rfl (br_and k57 (br_and k57 (br_and k57 (br_and k57 (br_and k57 (br_and k57 (br_and k57 (br_and k57 (br_and k57 (br_and k57 (br_and k57 (br_and k57 (br_and k57 (br_and k58 (br_and k57 (br_and k57 (br_and k57 (br_and k57 (br_and k57 (br_and k57 (br_and k57 (br_and k57 (br_and k57 (br_and k57 (br_and k57 (br_and k57 (br_and k57 (br_and k57 (br_and k57 (br_and k58 k57)))))))))))))))))))))))))))))))
theorem k55:Al (goB (goG 999999981 gS55 gH55 gN55))=true := by
  rw [show (999999981:Nat)=999999980+1 from rfl, go_1]
  exact (congrFun t55 (goG 999999980)).trans (br_and rfl (br_and k58 (br_and k58 (br_and k58 (br_and k58 (br_and k58 (br_and k58 (br_and k58 (br_and k58 (br_and k58 (br_and k58 (br_and k58 (br_and k58 (br_and k57 (br_and k58 (br_and k58 (br_and k58 (br_and k58 (br_and k58 (br_and k58 (br_and k58 (br_and k58 (br_and k58 (br_and k58 (br_and k58 (br_and k58 (br_and k58 (br_and k58 (br_and k58 (br_and k57 (br_and k58 k58)))))))))))))))))))))))))))))))
theorem k50:Al (goB (goG 999999982 gS50 gH50 gN50))=true := by
  rw [show (999999982:Nat)=999999981+1 from rfl, go_1]
  exact (congrFun t50 (goG 999999981)).trans (br_and rfl (br_and k53 (br_and k53 (br_and k53 (br_and k53 (br_and k53 (br_and k53 (br_and k53 (br_and k53 (br_and k53 (br_and k53 (br_and k53 (br_and k53 (br_and k54 (br_and k55 (br_and k53 (br_and k53 (br_and k53 (br_and k53 (br_and k53 (br_and k53 (br_and k53 (br_and k53 (br_and k53 (br_and k53 (br_and k53 (br_and k53 (br_and k53 (br_and k53 (br_and k54 (br_and k55 k53)))))))))))))))))))))))))))))))
theorem k51:Al (goB (goG 999999982 gS51 gH51 gN51))=true := by
  rw [show (999999982:Nat)=999999981+1 from rfl, go_1]
  exact (congrFun t51 (goG 999999981)).trans (br_and rfl (br_and k54 (br_and k54 (br_and k54 (br_and k54 (br_and k54 (br_and k54 (br_and k54 (br_and k54 (br_and k54 (br_and k54 (br_and k54 (br_and k54 (br_and k54 (br_and k55 (br_and k54 (br_and k54 (br_and k54 (br_and k54 (br_and k54 (br_and k54 (br_and k54 (br_and k54 (br_and k54 (br_and k54 (br_and k54 (br_and k54 (br_and k54 (br_and k54 (br_and k54 (br_and k55 k54)))))))))))))))))))))))))))))))
theorem k52:Al (goB (goG 999999982 gS52 gH52 gN52))=true := by
  rw [show (999999982:Nat)=999999981+1 from rfl, go_1]
  exact (congrFun t52 (goG 999999981)).trans (br_and rfl (br_and k55 (br_and k55 (br_and k55 (br_and k55 (br_and k55 (br_and k55 (br_and k55 (br_and k55 (br_and k55 (br_and k55 (br_and k55 (br_and k55 (br_and k54 (br_and k55 (br_and k55 (br_and k55 (br_and k55 (br_and k55 (br_and k55 (br_and k55 (br_and k55 (br_and k55 (br_and k55 (br_and k55 (br_and k55 (br_and k55 (br_and k55 (br_and k55 (br_and k54 (br_and k55 k55)))))))))))))))))))))))))))))))
theorem k47:Al (goB (goG 999999983 gS47 gH47 gN47))=true := by
  rw [show (999999983:Nat)=999999982+1 from rfl, go_1]
  exact (congrFun t47 (goG 999999982)).trans (br_and rfl (br_and k50 (br_and k50 (br_and k50 (br_and k50 (br_and k50 (br_and k50 (br_and k50 (br_and k50 (br_and k50 (br_and k50 (br_and k50 (br_and k50 (br_and k51 (br_and k52 (br_and k50 (br_and k50 (br_and k50 (br_and k50 (br_and k50 (br_and k50 (br_and k50 (br_and k50 (br_and k50 (br_and k50 (br_and k50 (br_and k50 (br_and k50 (br_and k50 (br_and k51 (br_and k52 k50)))))))))))))))))))))))))))))))
theorem k48:Al (goB (goG 999999983 gS48 gH48 gN48))=true := by
  rw [show (999999983:Nat)=999999982+1 from rfl, go_1]
  exact (congrFun t48 (goG 999999982)).trans (br_and rfl (br_and k51 (br_and k51 (br_and k51 (br_and k51 (br_and k51 (br_and k51 (br_and k51 (br_and k51 (br_and k51 (br_and k51 (br_and k51 (br_and k51 (br_and k51 (br_and k52 (br_and k51 (br_and k51 (br_and k51 (br_and k51 (br_and k51 (br_and k51 (br_and k51 (br_and k51 (br_and k51 (br_and k51 (br_and k51 (br_and k51 (br_and k51 (br_and k51 (br_and k51 (br_and k52 k51)))))))))))))))))))))))))))))))
theorem k49:Al (goB (goG 999999983 gS49 gH49 gN49))=true := by
  rw [show (999999983:Nat)=999999982+1 from rfl, go_1]
  exact (congrFun t49 (goG 999999982)).trans (br_and rfl (br_and k52 (br_and k52 (br_and k52 (br_and k52 (br_and k52 (br_and k52 (br_and k52 (br_and k52 (br_and k52 (br_and k52 (br_and k52 (br_and k52 (br_and k51 (br_and k52 (br_and k52 (br_and k52 (br_and k52 (br_and k52 (br_and k52 (br_and k52 (br_and k52 (br_and k52 (br_and k52 (br_and k52 (br_and k52 (br_and k52 (br_and k52 (br_and k52 (br_and k51 (br_and k52 k52)))))))))))))))))))))))))))))))
theorem k44:Al (goB (goG 999999984 gS44 gH44 gN44))=true := by
  rw [show (999999984:Nat)=999999983+1 from rfl, go_1]
  exact (congrFun t44 (goG 999999983)).trans (br_and rfl (br_and k47 (br_and k47 (br_and k47 (br_and k47 (br_and k47 (br_and k47 (br_and k47 (br_and k47 (br_and k47 (br_and k47 (br_and k47 (br_and k47 (br_and k48 (br_and k49 (br_and k47 (br_and k47 (br_and k47 (br_and k47 (br_and k47 (br_and k47 (br_and k47 (br_and k47 (br_and k47 (br_and k47 (br_and k47 (br_and k47 (br_and k47 (br_and k47 (br_and k48 (br_and k49 k47)))))))))))))))))))))))))))))))
theorem k45:Al (goB (goG 999999984 gS45 gH45 gN45))=true := by
  rw [show (999999984:Nat)=999999983+1 from rfl, go_1]
  exact (congrFun t45 (goG 999999983)).trans (br_and rfl (br_and k48 (br_and k48 (br_and k48 (br_and k48 (br_and k48 (br_and k48 (br_and k48 (br_and k48 (br_and k48 (br_and k48 (br_and k48 (br_and k48 (br_and k48 (br_and k49 (br_and k48 (br_and k48 (br_and k48 (br_and k48 (br_and k48 (br_and k48 (br_and k48 (br_and k48 (br_and k48 (br_and k48 (br_and k48 (br_and k48 (br_and k48 (br_and k48 (br_and k48 (br_and k49 k48)))))))))))))))))))))))))))))))
theorem k46:Al (goB (goG 999999984 gS46 gH46 gN46))=true := by
  rw [show (999999984:Nat)=999999983+1 from rfl, go_1]
  exact (congrFun t46 (goG 999999983)).trans (br_and rfl (br_and k49 (br_and k49 (br_and k49 (br_and k49 (br_and k49 (br_and k49 (br_and k49 (br_and k49 (br_and k49 (br_and k49 (br_and k49 (br_and k49 (br_and k48 (br_and k49 (br_and k49 (br_and k49 (br_and k49 (br_and k49 (br_and k49 (br_and k49 (br_and k49 (br_and k49 (br_and k49 (br_and k49 (br_and k49 (br_and k49 (br_and k49 (br_and k49 (br_and k48 (br_and k49 k49)))))))))))))))))))))))))))))))
theorem k41:Al (goB (goG 999999985 gS41 gH41 gN41))=true := by
  rw [show (999999985:Nat)=999999984+1 from rfl, go_1]
  exact (congrFun t41 (goG 999999984)).trans (br_and rfl (br_and k44 (br_and k44 (br_and k44 (br_and k44 (br_and k44 (br_and k44 (br_and k44 (br_and k44 (br_and k44 (br_and k44 (br_and k44 (br_and k44 (br_and k45 (br_and k46 (br_and k44 (br_and k44 (br_and k44 (br_and k44 (br_and k44 (br_and k44 (br_and k44 (br_and k44 (br_and k44 (br_and k44 (br_and k44 (br_and k44 (br_and k44 (br_and k44 (br_and k45 (br_and k46 k44)))))))))))))))))))))))))))))))
theorem k42:Al (goB (goG 999999985 gS42 gH42 gN42))=true := by
  rw [show (999999985:Nat)=999999984+1 from rfl, go_1]
  exact (congrFun t42 (goG 999999984)).trans (br_and rfl (br_and k45 (br_and k45 (br_and k45 (br_and k45 (br_and k45 (br_and k45 (br_and k45 (br_and k45 (br_and k45 (br_and k45 (br_and k45 (br_and k45 (br_and k45 (br_and k46 (br_and k45 (br_and k45 (br_and k45 (br_and k45 (br_and k45 (br_and k45 (br_and k45 (br_and k45 (br_and k45 (br_and k45 (br_and k45 (br_and k45 (br_and k45 (br_and k45 (br_and k45 (br_and k46 k45)))))))))))))))))))))))))))))))
theorem k43:Al (goB (goG 999999985 gS43 gH43 gN43))=true := by
  rw [show (999999985:Nat)=999999984+1 from rfl, go_1]
  exact (congrFun t43 (goG 999999984)).trans (br_and rfl (br_and k46 (br_and k46 (br_and k46 (br_and k46 (br_and k46 (br_and k46 (br_and k46 (br_and k46 (br_and k46 (br_and k46 (br_and k46 (br_and k46 (br_and k45 (br_and k46 (br_and k46 (br_and k46 (br_and k46 (br_and k46 (br_and k46 (br_and k46 (br_and k46 (br_and k46 (br_and k46 (br_and k46 (br_and k46 (br_and k46 (br_and k46 (br_and k46 (br_and k45 (br_and k46 k46)))))))))))))))))))))))))))))))
theorem k38:Al (goB (goG 999999986 gS38 gH38 gN38))=true := by
  rw [show (999999986:Nat)=999999985+1 from rfl, go_1]
  exact (congrFun t38 (goG 999999985)).trans (br_and rfl (br_and k41 (br_and k41 (br_and k41 (br_and k41 (br_and k41 (br_and k41 (br_and k41 (br_and k41 (br_and k41 (br_and k41 (br_and k41 (br_and k41 (br_and k42 (br_and k43 (br_and k41 (br_and k41 (br_and k41 (br_and k41 (br_and k41 (br_and k41 (br_and k41 (br_and k41 (br_and k41 (br_and k41 (br_and k41 (br_and k41 (br_and k41 (br_and k41 (br_and k42 (br_and k43 k41)))))))))))))))))))))))))))))))
theorem k39:Al (goB (goG 999999986 gS39 gH39 gN39))=true := by
  rw [show (999999986:Nat)=999999985+1 from rfl, go_1]
  exact (congrFun t39 (goG 999999985)).trans (br_and rfl (br_and k42 (br_and k42 (br_and k42 (br_and k42 (br_and k42 (br_and k42 (br_and k42 (br_and k42 (br_and k42 (br_and k42 (br_and k42 (br_and k42 (br_and k42 (br_and k43 (br_and k42 (br_and k42 (br_and k42 (br_and k42 (br_and k42 (br_and k42 (br_and k42 (br_and k42 (br_and k42 (br_and k42 (br_and k42 (br_and k42 (br_and k42 (br_and k42 (br_and k42 (br_and k43 k42)))))))))))))))))))))))))))))))
theorem k40:Al (goB (goG 999999986 gS40 gH40 gN40))=true := by
  rw [show (999999986:Nat)=999999985+1 from rfl, go_1]
  exact (congrFun t40 (goG 999999985)).trans (br_and rfl (br_and k43 (br_and k43 (br_and k43 (br_and k43 (br_and k43 (br_and k43 (br_and k43 (br_and k43 (br_and k43 (br_and k43 (br_and k43 (br_and k43 (br_and k42 (br_and k43 (br_and k43 (br_and k43 (br_and k43 (br_and k43 (br_and k43 (br_and k43 (br_and k43 (br_and k43 (br_and k43 (br_and k43 (br_and k43 (br_and k43 (br_and k43 (br_and k43 (br_and k42 (br_and k43 k43)))))))))))))))))))))))))))))))
theorem k35:Al (goB (goG 999999987 gS35 gH35 gN35))=true := by
  rw [show (999999987:Nat)=999999986+1 from rfl, go_1]
  exact (congrFun t35 (goG 999999986)).trans (br_and rfl (br_and k38 (br_and k38 (br_and k38 (br_and k38 (br_and k38 (br_and k38 (br_and k38 (br_and k38 (br_and k38 (br_and k38 (br_and k38 (br_and k38 (br_and k39 (br_and k40 (br_and k38 (br_and k38 (br_and k38 (br_and k38 (br_and k38 (br_and k38 (br_and k38 (br_and k38 (br_and k38 (br_and k38 (br_and k38 (br_and k38 (br_and k38 (br_and k38 (br_and k39 (br_and k40 k38)))))))))))))))))))))))))))))))
theorem k36:Al (goB (goG 999999987 gS36 gH36 gN36))=true := by
  rw [show (999999987:Nat)=999999986+1 from rfl, go_1]
  exact (congrFun t36 (goG 999999986)).trans (br_and rfl (br_and k39 (br_and k39 (br_and k39 (br_and k39 (br_and k39 (br_and k39 (br_and k39 (br_and k39 (br_and k39 (br_and k39 (br_and k39 (br_and k39 (br_and k39 (br_and k40 (br_and k39 (br_and k39 (br_and k39 (br_and k39 (br_and k39 (br_and k39 (br_and k39 (br_and k39 (br_and k39 (br_and k39 (br_and k39 (br_and k39 (br_and k39 (br_and k39 (br_and k39 (br_and k40 k39)))))))))))))))))))))))))))))))
theorem k37:Al (goB (goG 999999987 gS37 gH37 gN37))=true := by
  rw [show (999999987:Nat)=999999986+1 from rfl, go_1]
  exact (congrFun t37 (goG 999999986)).trans (br_and rfl (br_and k40 (br_and k40 (br_and k40 (br_and k40 (br_and k40 (br_and k40 (br_and k40 (br_and k40 (br_and k40 (br_and k40 (br_and k40 (br_and k40 (br_and k39 (br_and k40 (br_and k40 (br_and k40 (br_and k40 (br_and k40 (br_and k40 (br_and k40 (br_and k40 (br_and k40 (br_and k40 (br_and k40 (br_and k40 (br_and k40 (br_and k40 (br_and k40 (br_and k39 (br_and k40 k40)))))))))))))))))))))))))))))))
theorem k32:Al (goB (goG 999999988 gS32 gH32 gN32))=true := by
  rw [show (999999988:Nat)=999999987+1 from rfl, go_1]
  exact (congrFun t32 (goG 999999987)).trans (br_and rfl (br_and k35 (br_and k35 (br_and k35 (br_and k35 (br_and k35 (br_and k35 (br_and k35 (br_and k35 (br_and k35 (br_and k35 (br_and k35 (br_and k35 (br_and k36 (br_and k37 (br_and k35 (br_and k35 (br_and k35 (br_and k35 (br_and k35 (br_and k35 (br_and k35 (br_and k35 (br_and k35 (br_and k35 (br_and k35 (br_and k35 (br_and k35 (br_and k35 (br_and k36 (br_and k37 k35)))))))))))))))))))))))))))))))
theorem k33:Al (goB (goG 999999988 gS33 gH33 gN33))=true := by
  rw [show (999999988:Nat)=999999987+1 from rfl, go_1]
  exact (congrFun t33 (goG 999999987)).trans (br_and rfl (br_and k36 (br_and k36 (br_and k36 (br_and k36 (br_and k36 (br_and k36 (br_and k36 (br_and k36 (br_and k36 (br_and k36 (br_and k36 (br_and k36 (br_and k36 (br_and k37 (br_and k36 (br_and k36 (br_and k36 (br_and k36 (br_and k36 (br_and k36 (br_and k36 (br_and k36 (br_and k36 (br_and k36 (br_and k36 (br_and k36 (br_and k36 (br_and k36 (br_and k36 (br_and k37 k36)))))))))))))))))))))))))))))))
theorem k34:Al (goB (goG 999999988 gS34 gH34 gN34))=true := by
  rw [show (999999988:Nat)=999999987+1 from rfl, go_1]
  exact (congrFun t34 (goG 999999987)).trans (br_and rfl (br_and k37 (br_and k37 (br_and k37 (br_and k37 (br_and k37 (br_and k37 (br_and k37 (br_and k37 (br_and k37 (br_and k37 (br_and k37 (br_and k37 (br_and k36 (br_and k37 (br_and k37 (br_and k37 (br_and k37 (br_and k37 (br_and k37 (br_and k37 (br_and k37 (br_and k37 (br_and k37 (br_and k37 (br_and k37 (br_and k37 (br_and k37 (br_and k37 (br_and k36 (br_and k37 k37)))))))))))))))))))))))))))))))
theorem k29:Al (goB (goG 999999989 gS29 gH29 gN29))=true := by
  rw [show (999999989:Nat)=999999988+1 from rfl, go_1]
  exact (congrFun t29 (goG 999999988)).trans (br_and rfl (br_and k32 (br_and k32 (br_and k32 (br_and k32 (br_and k32 (br_and k32 (br_and k32 (br_and k32 (br_and k32 (br_and k32 (br_and k32 (br_and k32 (br_and k33 (br_and k34 (br_and k32 (br_and k32 (br_and k32 (br_and k32 (br_and k32 (br_and k32 (br_and k32 (br_and k32 (br_and k32 (br_and k32 (br_and k32 (br_and k32 (br_and k32 (br_and k32 (br_and k33 (br_and k34 k32)))))))))))))))))))))))))))))))
theorem k30:Al (goB (goG 999999989 gS30 gH30 gN30))=true := by
  rw [show (999999989:Nat)=999999988+1 from rfl, go_1]
  exact (congrFun t30 (goG 999999988)).trans (br_and rfl (br_and k33 (br_and k33 (br_and k33 (br_and k33 (br_and k33 (br_and k33 (br_and k33 (br_and k33 (br_and k33 (br_and k33 (br_and k33 (br_and k33 (br_and k33 (br_and k34 (br_and k33 (br_and k33 (br_and k33 (br_and k33 (br_and k33 (br_and k33 (br_and k33 (br_and k33 (br_and k33 (br_and k33 (br_and k33 (br_and k33 (br_and k33 (br_and k33 (br_and k33 (br_and k34 k33)))))))))))))))))))))))))))))))
theorem k31:Al (goB (goG 999999989 gS31 gH31 gN31))=true := by
  rw [show (999999989:Nat)=999999988+1 from rfl, go_1]
  exact (congrFun t31 (goG 999999988)).trans (br_and rfl (br_and k34 (br_and k34 (br_and k34 (br_and k34 (br_and k34 (br_and k34 (br_and k34 (br_and k34 (br_and k34 (br_and k34 (br_and k34 (br_and k34 (br_and k33 (br_and k34 (br_and k34 (br_and k34 (br_and k34 (br_and k34 (br_and k34 (br_and k34 (br_and k34 (br_and k34 (br_and k34 (br_and k34 (br_and k34 (br_and k34 (br_and k34 (br_and k34 (br_and k33 (br_and k34 k34)))))))))))))))))))))))))))))))
theorem k26:Al (goB (goG 999999990 gS26 gH26 gN26))=true := by
  rw [show (999999990:Nat)=999999989+1 from rfl, go_1]
  exact (congrFun t26 (goG 999999989)).trans (br_and rfl (br_and k29 (br_and k29 (br_and k29 (br_and k29 (br_and k29 (br_and k29 (br_and k29 (br_and k29 (br_and k29 (br_and k29 (br_and k29 (br_and k29 (br_and k30 (br_and k31 (br_and k29 (br_and k29 (br_and k29 (br_and k29 (br_and k29 (br_and k29 (br_and k29 (br_and k29 (br_and k29 (br_and k29 (br_and k29 (br_and k29 (br_and k29 (br_and k29 (br_and k30 (br_and k31 k29)))))))))))))))))))))))))))))))
theorem k27:Al (goB (goG 999999990 gS27 gH27 gN27))=true := by
  rw [show (999999990:Nat)=999999989+1 from rfl, go_1]
  exact (congrFun t27 (goG 999999989)).trans (br_and rfl (br_and k30 (br_and k30 (br_and k30 (br_and k30 (br_and k30 (br_and k30 (br_and k30 (br_and k30 (br_and k30 (br_and k30 (br_and k30 (br_and k30 (br_and k30 (br_and k31 (br_and k30 (br_and k30 (br_and k30 (br_and k30 (br_and k30 (br_and k30 (br_and k30 (br_and k30 (br_and k30 (br_and k30 (br_and k30 (br_and k30 (br_and k30 (br_and k30 (br_and k30 (br_and k31 k30)))))))))))))))))))))))))))))))
theorem k28:Al (goB (goG 999999990 gS28 gH28 gN28))=true := by
  rw [show (999999990:Nat)=999999989+1 from rfl, go_1]
  exact (congrFun t28 (goG 999999989)).trans (br_and rfl (br_and k31 (br_and k31 (br_and k31 (br_and k31 (br_and k31 (br_and k31 (br_and k31 (br_and k31 (br_and k31 (br_and k31 (br_and k31 (br_and k31 (br_and k30 (br_and k31 (br_and k31 (br_and k31 (br_and k31 (br_and k31 (br_and k31 (br_and k31 (br_and k31 (br_and k31 (br_and k31 (br_and k31 (br_and k31 (br_and k31 (br_and k31 (br_and k31 (br_and k30 (br_and k31 k31)))))))))))))))))))))))))))))))
theorem k23:Al (goB (goG 999999991 gS23 gH23 gN23))=true := by
  rw [show (999999991:Nat)=999999990+1 from rfl, go_1]
  exact (congrFun t23 (goG 999999990)).trans (br_and rfl (br_and k26 (br_and k26 (br_and k26 (br_and k26 (br_and k26 (br_and k26 (br_and k26 (br_and k26 (br_and k26 (br_and k26 (br_and k26 (br_and k26 (br_and k27 (br_and k28 (br_and k26 (br_and k26 (br_and k26 (br_and k26 (br_and k26 (br_and k26 (br_and k26 (br_and k26 (br_and k26 (br_and k26 (br_and k26 (br_and k26 (br_and k26 (br_and k26 (br_and k27 (br_and k28 k26)))))))))))))))))))))))))))))))
theorem k24:Al (goB (goG 999999991 gS24 gH24 gN24))=true := by
  rw [show (999999991:Nat)=999999990+1 from rfl, go_1]
  exact (congrFun t24 (goG 999999990)).trans (br_and rfl (br_and k27 (br_and k27 (br_and k27 (br_and k27 (br_and k27 (br_and k27 (br_and k27 (br_and k27 (br_and k27 (br_and k27 (br_and k27 (br_and k27 (br_and k27 (br_and k28 (br_and k27 (br_and k27 (br_and k27 (br_and k27 (br_and k27 (br_and k27 (br_and k27 (br_and k27 (br_and k27 (br_and k27 (br_and k27 (br_and k27 (br_and k27 (br_and k27 (br_and k27 (br_and k28 k27)))))))))))))))))))))))))))))))
theorem k25:Al (goB (goG 999999991 gS25 gH25 gN25))=true := by
  rw [show (999999991:Nat)=999999990+1 from rfl, go_1]
  exact (congrFun t25 (goG 999999990)).trans (br_and rfl (br_and k28 (br_and k28 (br_and k28 (br_and k28 (br_and k28 (br_and k28 (br_and k28 (br_and k28 (br_and k28 (br_and k28 (br_and k28 (br_and k28 (br_and k27 (br_and k28 (br_and k28 (br_and k28 (br_and k28 (br_and k28 (br_and k28 (br_and k28 (br_and k28 (br_and k28 (br_and k28 (br_and k28 (br_and k28 (br_and k28 (br_and k28 (br_and k28 (br_and k27 (br_and k28 k28)))))))))))))))))))))))))))))))
theorem k20:Al (goB (goG 999999992 gS20 gH20 gN20))=true := by
  rw [show (999999992:Nat)=999999991+1 from rfl, go_1]
  exact (congrFun t20 (goG 999999991)).trans (br_and rfl (br_and k23 (br_and k23 (br_and k23 (br_and k23 (br_and k23 (br_and k23 (br_and k23 (br_and k23 (br_and k23 (br_and k23 (br_and k23 (br_and k23 (br_and k24 (br_and k25 (br_and k23 (br_and k23 (br_and k23 (br_and k23 (br_and k23 (br_and k23 (br_and k23 (br_and k23 (br_and k23 (br_and k23 (br_and k23 (br_and k23 (br_and k23 (br_and k23 (br_and k24 (br_and k25 k23)))))))))))))))))))))))))))))))
theorem k21:Al (goB (goG 999999992 gS21 gH21 gN21))=true := by
  rw [show (999999992:Nat)=999999991+1 from rfl, go_1]
  exact (congrFun t21 (goG 999999991)).trans (br_and rfl (br_and k24 (br_and k24 (br_and k24 (br_and k24 (br_and k24 (br_and k24 (br_and k24 (br_and k24 (br_and k24 (br_and k24 (br_and k24 (br_and k24 (br_and k24 (br_and k25 (br_and k24 (br_and k24 (br_and k24 (br_and k24 (br_and k24 (br_and k24 (br_and k24 (br_and k24 (br_and k24 (br_and k24 (br_and k24 (br_and k24 (br_and k24 (br_and k24 (br_and k24 (br_and k25 k24)))))))))))))))))))))))))))))))
theorem k22:Al (goB (goG 999999992 gS22 gH22 gN22))=true := by
  rw [show (999999992:Nat)=999999991+1 from rfl, go_1]
  exact (congrFun t22 (goG 999999991)).trans (br_and rfl (br_and k25 (br_and k25 (br_and k25 (br_and k25 (br_and k25 (br_and k25 (br_and k25 (br_and k25 (br_and k25 (br_and k25 (br_and k25 (br_and k25 (br_and k24 (br_and k25 (br_and k25 (br_and k25 (br_and k25 (br_and k25 (br_and k25 (br_and k25 (br_and k25 (br_and k25 (br_and k25 (br_and k25 (br_and k25 (br_and k25 (br_and k25 (br_and k25 (br_and k24 (br_and k25 k25)))))))))))))))))))))))))))))))
theorem k17:Al (goB (goG 999999993 gS17 gH17 gN17))=true := by
  rw [show (999999993:Nat)=999999992+1 from rfl, go_1]
  exact (congrFun t17 (goG 999999992)).trans (br_and rfl (br_and k20 (br_and k20 (br_and k20 (br_and k20 (br_and k20 (br_and k20 (br_and k20 (br_and k20 (br_and k20 (br_and k20 (br_and k20 (br_and k20 (br_and k21 (br_and k22 (br_and k20 (br_and k20 (br_and k20 (br_and k20 (br_and k20 (br_and k20 (br_and k20 (br_and k20 (br_and k20 (br_and k20 (br_and k20 (br_and k20 (br_and k20 (br_and k20 (br_and k21 (br_and k22 k20)))))))))))))))))))))))))))))))
theorem k18:Al (goB (goG 999999993 gS18 gH18 gN18))=true := by
  rw [show (999999993:Nat)=999999992+1 from rfl, go_1]
  exact (congrFun t18 (goG 999999992)).trans (br_and rfl (br_and k21 (br_and k21 (br_and k21 (br_and k21 (br_and k21 (br_and k21 (br_and k21 (br_and k21 (br_and k21 (br_and k21 (br_and k21 (br_and k21 (br_and k21 (br_and k22 (br_and k21 (br_and k21 (br_and k21 (br_and k21 (br_and k21 (br_and k21 (br_and k21 (br_and k21 (br_and k21 (br_and k21 (br_and k21 (br_and k21 (br_and k21 (br_and k21 (br_and k21 (br_and k22 k21)))))))))))))))))))))))))))))))
theorem k19:Al (goB (goG 999999993 gS19 gH19 gN19))=true := by
  rw [show (999999993:Nat)=999999992+1 from rfl, go_1]
  exact (congrFun t19 (goG 999999992)).trans (br_and rfl (br_and k22 (br_and k22 (br_and k22 (br_and k22 (br_and k22 (br_and k22 (br_and k22 (br_and k22 (br_and k22 (br_and k22 (br_and k22 (br_and k22 (br_and k21 (br_and k22 (br_and k22 (br_and k22 (br_and k22 (br_and k22 (br_and k22 (br_and k22 (br_and k22 (br_and k22 (br_and k22 (br_and k22 (br_and k22 (br_and k22 (br_and k22 (br_and k22 (br_and k21 (br_and k22 k22)))))))))))))))))))))))))))))))
theorem k14:Al (goB (goG 999999994 gS14 gH14 gN14))=true := by
  rw [show (999999994:Nat)=999999993+1 from rfl, go_1]
  exact (congrFun t14 (goG 999999993)).trans (br_and rfl (br_and k17 (br_and k17 (br_and k17 (br_and k17 (br_and k17 (br_and k17 (br_and k17 (br_and k17 (br_and k17 (br_and k17 (br_and k17 (br_and k17 (br_and k18 (br_and k19 (br_and k17 (br_and k17 (br_and k17 (br_and k17 (br_and k17 (br_and k17 (br_and k17 (br_and k17 (br_and k17 (br_and k17 (br_and k17 (br_and k17 (br_and k17 (br_and k17 (br_and k18 (br_and k19 k17)))))))))))))))))))))))))))))))
theorem k15:Al (goB (goG 999999994 gS15 gH15 gN15))=true := by
  rw [show (999999994:Nat)=999999993+1 from rfl, go_1]
  exact (congrFun t15 (goG 999999993)).trans (br_and rfl (br_and k18 (br_and k18 (br_and k18 (br_and k18 (br_and k18 (br_and k18 (br_and k18 (br_and k18 (br_and k18 (br_and k18 (br_and k18 (br_and k18 (br_and k18 (br_and k19 (br_and k18 (br_and k18 (br_and k18 (br_and k18 (br_and k18 (br_and k18 (br_and k18 (br_and k18 (br_and k18 (br_and k18 (br_and k18 (br_and k18 (br_and k18 (br_and k18 (br_and k18 (br_and k19 k18)))))))))))))))))))))))))))))))
theorem k16:Al (goB (goG 999999994 gS16 gH16 gN16))=true := by
  rw [show (999999994:Nat)=999999993+1 from rfl, go_1]
  exact (congrFun t16 (goG 999999993)).trans (br_and rfl (br_and k19 (br_and k19 (br_and k19 (br_and k19 (br_and k19 (br_and k19 (br_and k19 (br_and k19 (br_and k19 (br_and k19 (br_and k19 (br_and k19 (br_and k18 (br_and k19 (br_and k19 (br_and k19 (br_and k19 (br_and k19 (br_and k19 (br_and k19 (br_and k19 (br_and k19 (br_and k19 (br_and k19 (br_and k19 (br_and k19 (br_and k19 (br_and k19 (br_and k18 (br_and k19 k19)))))))))))))))))))))))))))))))
theorem k11:Al (goB (goG 999999995 gS11 gH11 gN11))=true := by
  rw [show (999999995:Nat)=999999994+1 from rfl, go_1]
  exact (congrFun t11 (goG 999999994)).trans (br_and rfl (br_and k14 (br_and k14 (br_and k14 (br_and k14 (br_and k14 (br_and k14 (br_and k14 (br_and k14 (br_and k14 (br_and k14 (br_and k14 (br_and k14 (br_and k15 (br_and k16 (br_and k14 (br_and k14 (br_and k14 (br_and k14 (br_and k14 (br_and k14 (br_and k14 (br_and k14 (br_and k14 (br_and k14 (br_and k14 (br_and k14 (br_and k14 (br_and k14 (br_and k15 (br_and k16 k14)))))))))))))))))))))))))))))))
theorem k12:Al (goB (goG 999999995 gS12 gH12 gN12))=true := by
  rw [show (999999995:Nat)=999999994+1 from rfl, go_1]
  exact (congrFun t12 (goG 999999994)).trans (br_and rfl (br_and k15 (br_and k15 (br_and k15 (br_and k15 (br_and k15 (br_and k15 (br_and k15 (br_and k15 (br_and k15 (br_and k15 (br_and k15 (br_and k15 (br_and k15 (br_and k16 (br_and k15 (br_and k15 (br_and k15 (br_and k15 (br_and k15 (br_and k15 (br_and k15 (br_and k15 (br_and k15 (br_and k15 (br_and k15 (br_and k15 (br_and k15 (br_and k15 (br_and k15 (br_and k16 k15)))))))))))))))))))))))))))))))
theorem k13:Al (goB (goG 999999995 gS13 gH13 gN13))=true := by
  rw [show (999999995:Nat)=999999994+1 from rfl, go_1]
  exact (congrFun t13 (goG 999999994)).trans (br_and rfl (br_and k16 (br_and k16 (br_and k16 (br_and k16 (br_and k16 (br_and k16 (br_and k16 (br_and k16 (br_and k16 (br_and k16 (br_and k16 (br_and k16 (br_and k15 (br_and k16 (br_and k16 (br_and k16 (br_and k16 (br_and k16 (br_and k16 (br_and k16 (br_and k16 (br_and k16 (br_and k16 (br_and k16 (br_and k16 (br_and k16 (br_and k16 (br_and k16 (br_and k15 (br_and k16 k16)))))))))))))))))))))))))))))))
theorem k8:Al (goB (goG 999999996 gS8 gH8 gN8))=true := by
  rw [show (999999996:Nat)=999999995+1 from rfl, go_1]
  exact (congrFun t8 (goG 999999995)).trans (br_and rfl (br_and k11 (br_and k11 (br_and k11 (br_and k11 (br_and k11 (br_and k11 (br_and k11 (br_and k11 (br_and k11 (br_and k11 (br_and k11 (br_and k11 (br_and k12 (br_and k13 (br_and k11 (br_and k11 (br_and k11 (br_and k11 (br_and k11 (br_and k11 (br_and k11 (br_and k11 (br_and k11 (br_and k11 (br_and k11 (br_and k11 (br_and k11 (br_and k11 (br_and k12 (br_and k13 k11)))))))))))))))))))))))))))))))
theorem k9:Al (goB (goG 999999996 gS9 gH9 gN9))=true := by
  rw [show (999999996:Nat)=999999995+1 from rfl, go_1]
  exact (congrFun t9 (goG 999999995)).trans (br_and rfl (br_and k12 (br_and k12 (br_and k12 (br_and k12 (br_and k12 (br_and k12 (br_and k12 (br_and k12 (br_and k12 (br_and k12 (br_and k12 (br_and k12 (br_and k12 (br_and k13 (br_and k12 (br_and k12 (br_and k12 (br_and k12 (br_and k12 (br_and k12 (br_and k12 (br_and k12 (br_and k12 (br_and k12 (br_and k12 (br_and k12 (br_and k12 (br_and k12 (br_and k12 (br_and k13 k12)))))))))))))))))))))))))))))))
theorem k10:Al (goB (goG 999999996 gS10 gH10 gN10))=true := by
  rw [show (999999996:Nat)=999999995+1 from rfl, go_1]
  exact (congrFun t10 (goG 999999995)).trans (br_and rfl (br_and k13 (br_and k13 (br_and k13 (br_and k13 (br_and k13 (br_and k13 (br_and k13 (br_and k13 (br_and k13 (br_and k13 (br_and k13 (br_and k13 (br_and k12 (br_and k13 (br_and k13 (br_and k13 (br_and k13 (br_and k13 (br_and k13 (br_and k13 (br_and k13 (br_and k13 (br_and k13 (br_and k13 (br_and k13 (br_and k13 (br_and k13 (br_and k13 (br_and k12 (br_and k13 k13)))))))))))))))))))))))))))))))
theorem k5:Al (goB (goG 999999997 gS5 gH5 gN5))=true := by
  rw [show (999999997:Nat)=999999996+1 from rfl, go_1]
  exact (congrFun t5 (goG 999999996)).trans (br_and rfl (br_and k8 (br_and k8 (br_and k8 (br_and k8 (br_and k8 (br_and k8 (br_and k8 (br_and k8 (br_and k8 (br_and k8 (br_and k8 (br_and k8 (br_and k9 (br_and k10 (br_and k8 (br_and k8 (br_and k8 (br_and k8 (br_and k8 (br_and k8 (br_and k8 (br_and k8 (br_and k8 (br_and k8 (br_and k8 (br_and k8 (br_and k8 (br_and k8 (br_and k9 (br_and k10 k8)))))))))))))))))))))))))))))))
theorem k6:Al (goB (goG 999999997 gS6 gH6 gN6))=true := by
  rw [show (999999997:Nat)=999999996+1 from rfl, go_1]
  exact (congrFun t6 (goG 999999996)).trans (br_and rfl (br_and k9 (br_and k9 (br_and k9 (br_and k9 (br_and k9 (br_and k9 (br_and k9 (br_and k9 (br_and k9 (br_and k9 (br_and k9 (br_and k9 (br_and k9 (br_and k10 (br_and k9 (br_and k9 (br_and k9 (br_and k9 (br_and k9 (br_and k9 (br_and k9 (br_and k9 (br_and k9 (br_and k9 (br_and k9 (br_and k9 (br_and k9 (br_and k9 (br_and k9 (br_and k10 k9)))))))))))))))))))))))))))))))
theorem k7:Al (goB (goG 999999997 gS7 gH7 gN7))=true := by
  rw [show (999999997:Nat)=999999996+1 from rfl, go_1]
  exact (congrFun t7 (goG 999999996)).trans (br_and rfl (br_and k10 (br_and k10 (br_and k10 (br_and k10 (br_and k10 (br_and k10 (br_and k10 (br_and k10 (br_and k10 (br_and k10 (br_and k10 (br_and k10 (br_and k9 (br_and k10 (br_and k10 (br_and k10 (br_and k10 (br_and k10 (br_and k10 (br_and k10 (br_and k10 (br_and k10 (br_and k10 (br_and k10 (br_and k10 (br_and k10 (br_and k10 (br_and k10 (br_and k9 (br_and k10 k10)))))))))))))))))))))))))))))))
theorem k2:Al (goB (goG 999999998 gS2 gH2 gN2))=true := by
  rw [show (999999998:Nat)=999999997+1 from rfl, go_1]
  exact (congrFun t2 (goG 999999997)).trans (br_and rfl (br_and k5 (br_and k5 (br_and k5 (br_and k5 (br_and k5 (br_and k5 (br_and k5 (br_and k5 (br_and k5 (br_and k5 (br_and k5 (br_and k5 (br_and k6 (br_and k7 (br_and k5 (br_and k5 (br_and k5 (br_and k5 (br_and k5 (br_and k5 (br_and k5 (br_and k5 (br_and k5 (br_and k5 (br_and k5 (br_and k5 (br_and k5 (br_and k5 (br_and k6 (br_and k7 k5)))))))))))))))))))))))))))))))
theorem k3:Al (goB (goG 999999998 gS3 gH3 gN3))=true := by
  rw [show (999999998:Nat)=999999997+1 from rfl, go_1]
  exact (congrFun t3 (goG 999999997)).trans (br_and rfl (br_and k6 (br_and k6 (br_and k6 (br_and k6 (br_and k6 (br_and k6 (br_and k6 (br_and k6 (br_and k6 (br_and k6 (br_and k6 (br_and k6 (br_and k6 (br_and k7 (br_and k6 (br_and k6 (br_and k6 (br_and k6 (br_and k6 (br_and k6 (br_and k6 (br_and k6 (br_and k6 (br_and k6 (br_and k6 (br_and k6 (br_and k6 (br_and k6 (br_and k6 (br_and k7 k6)))))))))))))))))))))))))))))))
theorem k4:Al (goB (goG 999999998 gS4 gH4 gN4))=true := by
  rw [show (999999998:Nat)=999999997+1 from rfl, go_1]
  exact (congrFun t4 (goG 999999997)).trans (br_and rfl (br_and k7 (br_and k7 (br_and k7 (br_and k7 (br_and k7 (br_and k7 (br_and k7 (br_and k7 (br_and k7 (br_and k7 (br_and k7 (br_and k7 (br_and k6 (br_and k7 (br_and k7 (br_and k7 (br_and k7 (br_and k7 (br_and k7 (br_and k7 (br_and k7 (br_and k7 (br_and k7 (br_and k7 (br_and k7 (br_and k7 (br_and k7 (br_and k7 (br_and k6 (br_and k7 k7)))))))))))))))))))))))))))))))
theorem k0:Al (goB (goG 999999999 gS0 gH0 gN0))=true := by
  rw [show (999999999:Nat)=999999998+1 from rfl, go_1]
  exact (congrFun t0 (goG 999999998)).trans (br_and rfl (br_and k2 (br_and k2 (br_and k2 (br_and k2 (br_and k2 (br_and k2 (br_and k2 (br_and k2 (br_and k2 (br_and k2 (br_and k2 (br_and k2 (br_and k3 (br_and k4 (br_and k2 (br_and k2 (br_and k2 (br_and k2 (br_and k2 (br_and k2 (br_and k2 (br_and k2 (br_and k2 (br_and k2 (br_and k2 (br_and k2 (br_and k2 (br_and k2 (br_and k3 (br_and k4 k2)))))))))))))))))))))))))))))))
theorem run_A:Al (Lc cfR (some xc5) [.oth (.ro 36893488147419103232 0 9223372036854775807 1)] AL IL)=true := run_of 999999999 rfl (congrFun s_A fun c => goC c 999999999) k0
theorem run_B:Al (Lc cfR (some xc5) [.oth (.os 0 0)] AL IL)=true := run_of 999999999 rfl (congrFun s_B fun c => goC c 999999999) k1
theorem rel_os {ρ:Env} {φ:AY} {p:Option Addr} {len cap lo hi:Nat} (h1:lo≤len) (h2:len≤hi) (h3:len≤cap):AD ρ φ (.oth (.os lo hi)) (.slice p len cap) := by
  simp only [AD]; exact ⟨p, len, cap, rfl, h1, h2, h3⟩
theorem walk {w:World} (hT:∀ l, 1∈l->HT (Nh w l)) (sa:Option Addr) (sl sc:Nat) (hs:sl≤sc) (hm:sc≤maxLen)
    (hop:1≤sl->∃ b o c e' fr, sa=some ⟨b, o, none⟩∧w.heap[b]? = some (.cells c e' fr) ∧ ∀ j, j<sl->∃ r, r<Mk .i64∧c[o+j]? = some (.int .i64 (BE .i64 r))) :
    Calls Tryz.prog 5 #[.slice sa sl sc] w fun e w' => e = .returned (.bool true)∧Below w.heap.size w w' := by
  have hmx:sc≤9223372036854775807 := hm
  by_cases hz:sl=0
  · exact LL canN5_ok oneS mixed (tab_ok (hT [1] (by simp))) ec5 Tryz.func5 (by kernel_rfl) (by kernel_rfl) run_B (AF.2 ⟨_, _, rfl, rel_os (Nat.zero_le _) (by omega) hs, AN.2 rfl⟩) w Nd
  obtain ⟨b, o, c, e, fr, rfl, hw, hc⟩ := hop (by omega)
  have hg:∀ l, b∈l->Nh w l b=some (c, e, fr) := fun l hl => QH hl hw
  exact LL canN5_ok oneS mixed (tab_ok (hT [1, b] (by simp))) ec5 Tryz.func5 (by kernel_rfl) (by kernel_rfl) run_A (AF.2 ⟨_, _, rfl, TZ (hg _ (by simp)) hc (Nat.zero_le _) (by omega) hs, AN.2 rfl⟩) w Nd
theorem gTab:Tryz.prog.globalNamed "internal/strconv.uint64pow10" = some 1 := by kernel_rfl
theorem gType:(Tryz.prog.globals[1]?).map (·.type)=some 433 := by kernel_rfl
theorem cellsA:Tryz.prog.cellsOf 433=20 := by kernel_rfl
theorem cellsE:Tryz.prog.cellsOf 158=1 := by kernel_rfl
theorem tabData_eq:(Rows.laid_internal_strconv_uint64pow10:DataW Unit)=Lib.tabData .u64 Lib.pow10Tab := by kernel_rfl
theorem table {W:World} (h:laidMetH Tryz.prog Rows.scriptClosedRow.laid W):Lib.TabIs Tryz.prog W "internal/strconv.uint64pow10" .u64 Lib.pow10Tab :=
  Ih (l := Rows.scriptClosedRow.laid) gTab gType Tryz.underlying433 Tryz.underlying158 cellsE cellsA (by rw [←tabData_eq]; exact .head _) h
theorem contract (H:Type) (enc:TypeId×Value->H) (W:World) (base:Nat) (args:Array Value) (ds gs:List (DataW H)) (before:List MemPlace)
    (hval:∀ (j:Nat) t v, Tryz.f5.params[j]? = some t->args[j]? = some v->Value.okWide Tryz.prog W .any base t v)
    (hW:DataW.Whole enc Tryz.prog Tryz.f5.params.toList Rows.scriptClosedSpec.vars false W args.toList ds gs before) (hL:laidMetH Tryz.prog Rows.scriptClosedRow.laid W) :
    Calls Tryz.prog 5 args W fun e W' => ∃ v, e = .returned v∧Rows.scriptClosedSpec.post enc Tryz.prog Tryz.f5 false true false false W args v W' := by
  have hW' := hW
  have hlt := fun p (hp:p∈before) => hW.lt p hp
  obtain ⟨p, q, hA0, hV, rfl, hfz, hnd⟩ := hW
  have hA:DataW.TrodAll enc Tryz.prog W 0 (fun _ => true) true Tryz.f5.params.toList args.toList ds p := hA0
  rw [Tryz.params5] at hA hval
  obtain ⟨v0, vs0, d0, ds0, p0, q0, hargs, rfl, rfl, h0, r0⟩ := trodAll_cons hA
  obtain ⟨rfl, rfl, rfl⟩ := trodAll_nil r0
  obtain rfl:args = #[v0] := by cases args; simp_all
  obtain ⟨rfl, rfl⟩ := trodVars_none hV
  obtain ⟨sa0, sl0, sc0, rfl⟩ := okWide_slice Tryz.underlying44 (hval 0 44 v0 rfl rfl)
  have hs0:sl0≤sc0∧sc0≤maxLen := by
    obtain ⟨fuel, hf⟩ := h0
    rcases DataW.trod_slice Tryz.underlying44 hf with hz | ⟨a, len, cap, elems, rest, n, _, hc, _, _, hl, hm, _⟩
    · have := hz.1
      simp [Value.cells] at this
      obtain ⟨_, rfl, rfl⟩ := this
      exact ⟨Nat.le_refl _, Nat.zero_le _⟩
    · simp [Value.cells] at hc
      obtain ⟨_, rfl, rfl⟩ := hc
      exact ⟨hl, hm⟩
  have hop0:1≤sl0->∃ b o c e' fr, sa0=some ⟨b, o, none⟩∧W.heap[b]? = some (.cells c e' fr) ∧ ∀ j, j<sl0->∃ r, r<Mk .i64∧c[o+j]? = some (.int .i64 (BE .i64 r)) := by
    intro hpos
    obtain ⟨fuel, hf⟩ := h0
    rcases JL Tryz.underlying44 Tryz.underlying3 (by kernel_rfl) hf with hz | ⟨a, len, cap, hc, _, _, hx⟩
    · simp [Value.cells] at hz
      obtain ⟨_, rfl, _⟩ := hz
      omega
    · simp [Value.cells] at hc
      obtain ⟨rfl, rfl, rfl⟩ := hc
      obtain ⟨b, o, c, e', fr, e1, e2, e3⟩ := hx hpos
      exact ⟨b, o, c, e', fr, by rw [e1], e2, e3⟩
  clear hA0
  simp only [List.append_nil] at hW' hlt
  refine (walk (fun l hl => Np.of (l := l) gTab hl (table hL)) sa0 sl0 sc0 hs0.1 hs0.2 hop0).mono fun e W' ⟨he, hg⟩ => ?_
  subst he
  exact ⟨_, rfl, H6 (pa := p0++([])) (pv := []) hW' (fun _ _ _ => (trodAll_cons_mk (shut_bool Tryz.underlying4 _) trodAll_mk0)) (fun sp hsp => (trodAll_cons_mk (Go.WideElems.Trod_stays (by kernel_rfl) (by kernel_rfl) (of_decide_eq_true (by kernel_rfl)) h0 (fun x hx => hg.same (hlt x hx)) hsp) trodAll_mk0)) (fun _ _ => rfl) (by simp) hg (ok_one (by kernel_rfl) rfl (okWide_bool_mk Tryz.underlying4 _))⟩
noncomputable def laidWorld (os:Os):World :=
  { World.holding Tryz.prog os ⟨#[], #[], []⟩ with heap := ((((((World.holding Tryz.prog os ⟨#[], #[], []⟩).heap.modify 1 fun
      | .cells _ t frozen => .cells #[.int .u64 1, .int .u64 10, .int .u64 100, .int .u64 1000, .int .u64 10000, .int .u64 100000, .int .u64 1000000, .int .u64 10000000, .int .u64 100000000, .int .u64 1000000000, .int .u64 10000000000, .int .u64 100000000000, .int .u64 1000000000000, .int .u64 10000000000000, .int .u64 100000000000000, .int .u64 1000000000000000, .int .u64 10000000000000000, .int .u64 100000000000000000, .int .u64 1000000000000000000, .int .u64 10000000000000000000] t frozen
      | o => o).modify 2 fun
      | .cells _ t frozen => .cells #[.int .u8 0, .int .u8 1, .int .u8 28, .int .u8 2, .int .u8 29, .int .u8 14, .int .u8 24, .int .u8 3, .int .u8 30, .int .u8 22, .int .u8 20, .int .u8 15, .int .u8 25, .int .u8 17, .int .u8 4, .int .u8 8, .int .u8 31, .int .u8 27, .int .u8 13, .int .u8 23, .int .u8 21, .int .u8 19, .int .u8 16, .int .u8 7, .int .u8 26, .int .u8 12, .int .u8 18, .int .u8 6, .int .u8 11, .int .u8 5, .int .u8 10, .int .u8 9] t frozen
      | o => o).modify 3 fun
      | .cells _ t frozen => .cells #[.int .u8 0, .int .u8 1, .int .u8 56, .int .u8 2, .int .u8 57, .int .u8 49, .int .u8 28, .int .u8 3, .int .u8 61, .int .u8 58, .int .u8 42, .int .u8 50, .int .u8 38, .int .u8 29, .int .u8 17, .int .u8 4, .int .u8 62, .int .u8 47, .int .u8 59, .int .u8 36, .int .u8 45, .int .u8 43, .int .u8 51, .int .u8 22, .int .u8 53, .int .u8 39, .int .u8 33, .int .u8 30, .int .u8 24, .int .u8 18, .int .u8 12, .int .u8 5, .int .u8 63, .int .u8 55, .int .u8 48, .int .u8 27, .int .u8 60, .int .u8 41, .int .u8 37, .int .u8 16, .int .u8 46, .int .u8 35, .int .u8 44, .int .u8 21, .int .u8 52, .int .u8 32, .int .u8 23, .int .u8 11, .int .u8 54, .int .u8 26, .int .u8 40, .int .u8 15, .int .u8 34, .int .u8 20, .int .u8 31, .int .u8 10, .int .u8 25, .int .u8 14, .int .u8 19, .int .u8 9, .int .u8 13, .int .u8 8, .int .u8 7, .int .u8 6] t frozen
      | o => o).modify 4 fun
      | .cells _ t frozen => .cells (Pinned.utf8FirstZ.map fun (n:Nat) => Value.int .u8 (n:Int)).toArray t frozen
      | o => o).modify 5 fun
      | .cells _ t frozen => .cells #[.int .u8 128, .int .u8 191, .int .u8 160, .int .u8 191, .int .u8 128, .int .u8 159, .int .u8 144, .int .u8 191, .int .u8 128, .int .u8 143, .int .u8 0, .int .u8 0, .int .u8 0, .int .u8 0, .int .u8 0, .int .u8 0, .int .u8 0, .int .u8 0, .int .u8 0, .int .u8 0, .int .u8 0, .int .u8 0, .int .u8 0, .int .u8 0, .int .u8 0, .int .u8 0, .int .u8 0, .int .u8 0, .int .u8 0, .int .u8 0, .int .u8 0, .int .u8 0] t frozen
      | o => o) }
theorem laid_met (os:Os):laidMet Tryz.prog Rows.scriptClosedRow.laid ((laidWorld os).forCall (fun _ _ => 0) ⟨#[], #[.slice none 0 0], []⟩).memory :=
  laidMet_of_run' 8 (by kernel_rfl) (by kernel_rfl)
theorem reads (os:Os) {H:Type} (enc:TypeId×Value->H):∃ places, DataW.whole enc Tryz.prog ((laidWorld os).forCall (fun _ _ => 0) ⟨#[], #[.slice none 0 0], []⟩).memory Tryz.f5.params.toList Rows.scriptClosedSpec.vars false (#[.slice none 0 0]:Array Value).toList 8=some ([.nil], [], places) :=
  ⟨[], by kernel_rfl⟩
theorem lifted (os:Os) (started:os.Started) (H:Type) (enc:TypeId×Value->H) (F:Stop.Interp) :
    ReturnsInHanded {} Tryz.checked os 5 .any ((OpenSpec.ofChange Rows.scriptClosedSpec).preRow enc Tryz.prog Tryz.f5 Rows.scriptClosedRow.domain false Rows.scriptClosedRow.laid) (((OpenSpec.ofChange Rows.scriptClosedSpec).at F).post enc Tryz.prog Tryz.f5 false true false false) := by
  obtain ⟨places, hx⟩ := reads os enc
  refine returnsInHanded_of_row (C := Tryz.checked) (s := OpenSpec.ofChange Rows.scriptClosedSpec) own started (by kernel_rfl) Tryz.func5
    (witness_row_at (enc := enc) (C := Tryz.checked) false (laidWorld os) #[.slice none 0 0] rfl (by kernel_rfl) (by kernel_rfl) (by kernel_rfl)
      (OpenSpec.preRow_of_cond 8 hx (by kernel_rfl) (fun k hk => by cases hk) (by kernel_rfl) (laid_met os))) ?_
  intro W base args ds gs before hval hW _ _ _ hL hsh _
  exact contract H enc W base args ds gs before hval hW hL
theorem said:Rows.ScriptClosedSaid :=
  OpenClaim.holds_of_cond 5 Tryz.f5 rfl rfl rfl rfl rfl rfl rfl ⟨rfl, rfl, rfl, rfl, rfl⟩ rfl rfl rfl rfl rfl (by kernel_rfl) Tryz.func5 closed
    (of_decide_eq_true (by kernel_rfl)) (by unfold Func.isWrapper; first | (rw [if_pos (by decide +kernel)]; kernel_rfl) | (rw [if_neg (by decide +kernel)]; exact ⟨rfl, rfl⟩))
    (fun os started H enc _ F => by rw [OpenClaim.pre_eq_preRow]; exact lifted os started H enc F)
theorem plain (f:FuncId) (fn:Func) (hf:Tryz.pinned.checked.prog.funcNamed "stillroom/stillroomlaw28.ScriptClosed" = some f) (hfn:Tryz.pinned.checked.prog.funcs[f]? = some fn) :
    true=Tryz.pinned.checked.prog.looks [] ∧ ∀ (j:Nat) t, fn.params[j]? = some t->Tryz.pinned.checked.prog.wantsStandIn t=false := by
  obtain rfl:f=5 := Option.some.inj ((show Tryz.prog.funcNamed "stillroom/stillroomlaw28.ScriptClosed" = some 5 by kernel_rfl).symm.trans hf) |>.symm
  obtain rfl:fn=Tryz.f5 := (Option.some.inj (Tryz.func5.symm.trans hfn)).symm
  refine ⟨by kernel_rfl, fun j t ht => ?_⟩
  rw [Tryz.params5] at ht
  rcases j with _ | j
  · obtain rfl := (Option.some.inj ht:44=t)
    exact (show Tryz.pinned.checked.prog.wantsStandIn 44=false by kernel_rfl)
  · simp at ht
theorem g0:((Tryz.prog.funcs.toList.take 140).all fun fn => !fn.goes)=true := by kernel_rfl
theorem g1:(((Tryz.prog.funcs.toList.drop 140).take 140).all fun fn => !fn.goes)=true := by kernel_rfl
theorem g2:(((Tryz.prog.funcs.toList.drop 280).take 140).all fun fn => !fn.goes)=true := by kernel_rfl
theorem g3:(((Tryz.prog.funcs.toList.drop 420).take 140).all fun fn => !fn.goes)=true := by kernel_rfl
theorem g4:(((Tryz.prog.funcs.toList.drop 560)).all fun fn => !fn.goes)=true := by kernel_rfl
theorem goes:false=Rows.scriptClosedRow.goesBy Tryz.pinned.checked.prog :=
  (PW (P := Tryz.pinned.checked.prog) (GB 140 g0 (GB 140 g1 (GB 140 (by rw [List.drop_drop]; exact g2) (GB 140 (by rw [List.drop_drop, List.drop_drop]; exact g3) ((by rw [List.drop_drop, List.drop_drop, List.drop_drop]; exact g4)))))) _).symm
/-- ████ THE CARD ████ -/
theorem proved:Rows.ScriptClosedCardSaid :=
  Claim7.holds_tied_plain_at .later [] _ _ _ _ said (fun _ h => by cases h) (by kernel_rfl) (fun _ h => by cases h) scriptClosed_row_tie rfl ⟨rfl, rfl⟩ (by kernel_rfl) rfl plain goes
#print axioms proved
end Go.Proofs.YtbjghkngijepbaaGreatDoor.scriptClosed
