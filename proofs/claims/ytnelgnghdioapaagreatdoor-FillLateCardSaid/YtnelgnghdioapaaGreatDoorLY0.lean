/- What is run of FillLate, 0. -/
import Derived.Test.YtnelgnghdioapaaGreatDoorLY30
import Derived.Test.YtnelgnghdioapaaGreatDoorLY31
import Derived.Test.YtnelgnghdioapaaGreatDoorLY32
import Derived.KernelRfl
namespace Go.Ev.YtnelgnghdioapaaGreatDoor
open Go Go.Ev
set_option maxRecDepth 100000
theorem hi0 (n:Nat) (q1:1≤n) (q2:n<35):latQ (.int .i64 n) (.oth (.iv .i64 n 9223372036854775807))=true := by
  by_cases e1:n=1
  · subst e1; exact h1
  by_cases e2:n=2
  · subst e2; exact h2
  by_cases e3:n=3
  · subst e3; exact h3
  by_cases e4:n=4
  · subst e4; exact h4
  by_cases e5:n=5
  · subst e5; exact h5
  by_cases e6:n=6
  · subst e6; exact h6
  by_cases e7:n=7
  · subst e7; exact h7
  by_cases e8:n=8
  · subst e8; exact h8
  by_cases e9:n=9
  · subst e9; exact h9
  by_cases e10:n=10
  · subst e10; exact h10
  by_cases e11:n=11
  · subst e11; exact h11
  by_cases e12:n=12
  · subst e12; exact h12
  by_cases e13:n=13
  · subst e13; exact h13
  by_cases e14:n=14
  · subst e14; exact h14
  by_cases e15:n=15
  · subst e15; exact h15
  by_cases e16:n=16
  · subst e16; exact h16
  by_cases e17:n=17
  · subst e17; exact h17
  by_cases e18:n=18
  · subst e18; exact h18
  by_cases e19:n=19
  · subst e19; exact h19
  by_cases e20:n=20
  · subst e20; exact h20
  by_cases e21:n=21
  · subst e21; exact h21
  by_cases e22:n=22
  · subst e22; exact h22
  by_cases e23:n=23
  · subst e23; exact h23
  by_cases e24:n=24
  · subst e24; exact h24
  by_cases e25:n=25
  · subst e25; exact h25
  by_cases e26:n=26
  · subst e26; exact h26
  by_cases e27:n=27
  · subst e27; exact h27
  by_cases e28:n=28
  · subst e28; exact h28
  by_cases e29:n=29
  · subst e29; exact h29
  by_cases e30:n=30
  · subst e30; exact h30
  by_cases e31:n=31
  · subst e31; exact h31
  by_cases e32:n=32
  · subst e32; exact h32
  by_cases e33:n=33
  · subst e33; exact h33
  by_cases e34:n=34
  · subst e34; exact h34
  exact absurd q2 (by omega)
theorem late0 (n p:Nat) (h1:1≤n) (h2:n<35) (h:p<n):LatOK n p := by
  by_cases e1:n=1
  · subst e1
    exact ⟨_, _, by omega, by omega, by decide, l1_0⟩
  by_cases e2:n=2
  · subst e2
    exact ⟨_, _, by omega, by omega, by decide, l2_0⟩
  by_cases e3:n=3
  · subst e3
    exact ⟨_, _, by omega, by omega, by decide, l3_0⟩
  by_cases e4:n=4
  · subst e4
    exact ⟨_, _, by omega, by omega, by decide, l4_0⟩
  by_cases e5:n=5
  · subst e5
    exact ⟨_, _, by omega, by omega, by decide, l5_0⟩
  by_cases e6:n=6
  · subst e6
    exact ⟨_, _, by omega, by omega, by decide, l6_0⟩
  by_cases e7:n=7
  · subst e7
    exact ⟨_, _, by omega, by omega, by decide, l7_0⟩
  by_cases e8:n=8
  · subst e8
    exact ⟨_, _, by omega, by omega, by decide, l8_0⟩
  by_cases e9:n=9
  · subst e9
    exact ⟨_, _, by omega, by omega, by decide, l9_0⟩
  by_cases e10:n=10
  · subst e10
    exact ⟨_, _, by omega, by omega, by decide, l10_0⟩
  by_cases e11:n=11
  · subst e11
    exact ⟨_, _, by omega, by omega, by decide, l11_0⟩
  by_cases e12:n=12
  · subst e12
    exact ⟨_, _, by omega, by omega, by decide, l12_0⟩
  by_cases e13:n=13
  · subst e13
    exact ⟨_, _, by omega, by omega, by decide, l13_0⟩
  by_cases e14:n=14
  · subst e14
    exact ⟨_, _, by omega, by omega, by decide, l14_0⟩
  by_cases e15:n=15
  · subst e15
    exact ⟨_, _, by omega, by omega, by decide, l15_0⟩
  by_cases e16:n=16
  · subst e16
    exact ⟨_, _, by omega, by omega, by decide, l16_0⟩
  by_cases e17:n=17
  · subst e17
    exact ⟨_, _, by omega, by omega, by decide, l17_0⟩
  by_cases e18:n=18
  · subst e18
    exact ⟨_, _, by omega, by omega, by decide, l18_0⟩
  by_cases e19:n=19
  · subst e19
    exact ⟨_, _, by omega, by omega, by decide, l19_0⟩
  by_cases e20:n=20
  · subst e20
    exact ⟨_, _, by omega, by omega, by decide, l20_0⟩
  by_cases e21:n=21
  · subst e21
    exact ⟨_, _, by omega, by omega, by decide, l21_0⟩
  by_cases e22:n=22
  · subst e22
    exact ⟨_, _, by omega, by omega, by decide, l22_0⟩
  by_cases e23:n=23
  · subst e23
    exact ⟨_, _, by omega, by omega, by decide, l23_0⟩
  by_cases e24:n=24
  · subst e24
    exact ⟨_, _, by omega, by omega, by decide, l24_0⟩
  by_cases e25:n=25
  · subst e25
    exact ⟨_, _, by omega, by omega, by decide, l25_0⟩
  by_cases e26:n=26
  · subst e26
    exact ⟨_, _, by omega, by omega, by decide, l26_0⟩
  by_cases e27:n=27
  · subst e27
    exact ⟨_, _, by omega, by omega, by decide, l27_0⟩
  by_cases e28:n=28
  · subst e28
    exact ⟨_, _, by omega, by omega, by decide, l28_0⟩
  by_cases e29:n=29
  · subst e29
    exact ⟨_, _, by omega, by omega, by decide, l29_0⟩
  by_cases e30:n=30
  · subst e30
    exact ⟨_, _, by omega, by omega, by decide, l30_0⟩
  by_cases e31:n=31
  · subst e31
    exact ⟨_, _, by omega, by omega, by decide, l31_0⟩
  by_cases e32:n=32
  · subst e32
    exact ⟨_, _, by omega, by omega, by decide, l32_0⟩
  by_cases e33:n=33
  · subst e33
    exact ⟨_, _, by omega, by omega, by decide, l33_0⟩
  by_cases e34:n=34
  · subst e34
    exact ⟨_, _, by omega, by omega, by decide, l34_0⟩
  exact absurd h2 (by omega)
end Go.Ev.YtnelgnghdioapaaGreatDoor
