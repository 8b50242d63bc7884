/- What is run of AnswerByte: a place, all bytes. -/
import Derived.Test.YtljckklenkcnnaaDoorT
import Derived.KernelRfl
namespace Go.Ev.YtljckklenkcnnaaDoor
open Go Go.Ev
set_option maxRecDepth 100000
noncomputable def bytV (j : Nat) : V := .oth (.rs 18446744073709551696 j)
noncomputable def bytQ (v : V) (x : Nat) : Bool := rTrue (call2 tab 100 (fnKey 4) [v, .int .u8 x] hempty n00)
noncomputable def bytN (j x k : Nat) : Bool := allN (fun i => forceN (Nat.add x i) fun x => bytQ (bytV j) x) k
theorem bytN_at {j x k : Nat} (h : bytN j x k = true) (y : Nat) (h1 : x ≤ y) (h2 : y < x + k) : bytQ (bytV j) y = true := by
  have := allN_at h (y - x) (by omega)
  rw [forceN_eq] at this
  rw [show y = Nat.add x (y - x) by show y = x + (y - x); omega]
  exact this
theorem byt_all {j : Nat} (h0 : bytN j 0 4 = true) (h4 : bytN j 4 4 = true) (h8 : bytN j 8 4 = true) (h12 : bytN j 12 4 = true) (h16 : bytN j 16 4 = true) (h20 : bytN j 20 4 = true) (h24 : bytN j 24 4 = true) (h28 : bytN j 28 4 = true) (h32 : bytN j 32 4 = true) (h36 : bytN j 36 4 = true) (h40 : bytN j 40 4 = true) (h44 : bytN j 44 4 = true) (h48 : bytN j 48 4 = true) (h52 : bytN j 52 4 = true) (h56 : bytN j 56 4 = true) (h60 : bytN j 60 4 = true) (h64 : bytN j 64 4 = true) (h68 : bytN j 68 4 = true) (h72 : bytN j 72 4 = true) (h76 : bytN j 76 4 = true) (h80 : bytN j 80 4 = true) (h84 : bytN j 84 4 = true) (h88 : bytN j 88 4 = true) (h92 : bytN j 92 4 = true) (h96 : bytN j 96 4 = true) (h100 : bytN j 100 4 = true) (h104 : bytN j 104 4 = true) (h108 : bytN j 108 4 = true) (h112 : bytN j 112 4 = true) (h116 : bytN j 116 4 = true) (h120 : bytN j 120 4 = true) (h124 : bytN j 124 4 = true) (h128 : bytN j 128 4 = true) (h132 : bytN j 132 4 = true) (h136 : bytN j 136 4 = true) (h140 : bytN j 140 4 = true) (h144 : bytN j 144 4 = true) (h148 : bytN j 148 4 = true) (h152 : bytN j 152 4 = true) (h156 : bytN j 156 4 = true) (h160 : bytN j 160 4 = true) (h164 : bytN j 164 4 = true) (h168 : bytN j 168 4 = true) (h172 : bytN j 172 4 = true) (h176 : bytN j 176 4 = true) (h180 : bytN j 180 4 = true) (h184 : bytN j 184 4 = true) (h188 : bytN j 188 4 = true) (h192 : bytN j 192 4 = true) (h196 : bytN j 196 4 = true) (h200 : bytN j 200 4 = true) (h204 : bytN j 204 4 = true) (h208 : bytN j 208 4 = true) (h212 : bytN j 212 4 = true) (h216 : bytN j 216 4 = true) (h220 : bytN j 220 4 = true) (h224 : bytN j 224 4 = true) (h228 : bytN j 228 4 = true) (h232 : bytN j 232 4 = true) (h236 : bytN j 236 4 = true) (h240 : bytN j 240 4 = true) (h244 : bytN j 244 4 = true) (h248 : bytN j 248 4 = true) (h252 : bytN j 252 4 = true) (y : Nat) (h : y < 256) : bytQ (bytV j) y = true := by
  by_cases c0 : y < 4
  · exact bytN_at h0 y (by omega) (by omega)
  by_cases c4 : y < 8
  · exact bytN_at h4 y (by omega) (by omega)
  by_cases c8 : y < 12
  · exact bytN_at h8 y (by omega) (by omega)
  by_cases c12 : y < 16
  · exact bytN_at h12 y (by omega) (by omega)
  by_cases c16 : y < 20
  · exact bytN_at h16 y (by omega) (by omega)
  by_cases c20 : y < 24
  · exact bytN_at h20 y (by omega) (by omega)
  by_cases c24 : y < 28
  · exact bytN_at h24 y (by omega) (by omega)
  by_cases c28 : y < 32
  · exact bytN_at h28 y (by omega) (by omega)
  by_cases c32 : y < 36
  · exact bytN_at h32 y (by omega) (by omega)
  by_cases c36 : y < 40
  · exact bytN_at h36 y (by omega) (by omega)
  by_cases c40 : y < 44
  · exact bytN_at h40 y (by omega) (by omega)
  by_cases c44 : y < 48
  · exact bytN_at h44 y (by omega) (by omega)
  by_cases c48 : y < 52
  · exact bytN_at h48 y (by omega) (by omega)
  by_cases c52 : y < 56
  · exact bytN_at h52 y (by omega) (by omega)
  by_cases c56 : y < 60
  · exact bytN_at h56 y (by omega) (by omega)
  by_cases c60 : y < 64
  · exact bytN_at h60 y (by omega) (by omega)
  by_cases c64 : y < 68
  · exact bytN_at h64 y (by omega) (by omega)
  by_cases c68 : y < 72
  · exact bytN_at h68 y (by omega) (by omega)
  by_cases c72 : y < 76
  · exact bytN_at h72 y (by omega) (by omega)
  by_cases c76 : y < 80
  · exact bytN_at h76 y (by omega) (by omega)
  by_cases c80 : y < 84
  · exact bytN_at h80 y (by omega) (by omega)
  by_cases c84 : y < 88
  · exact bytN_at h84 y (by omega) (by omega)
  by_cases c88 : y < 92
  · exact bytN_at h88 y (by omega) (by omega)
  by_cases c92 : y < 96
  · exact bytN_at h92 y (by omega) (by omega)
  by_cases c96 : y < 100
  · exact bytN_at h96 y (by omega) (by omega)
  by_cases c100 : y < 104
  · exact bytN_at h100 y (by omega) (by omega)
  by_cases c104 : y < 108
  · exact bytN_at h104 y (by omega) (by omega)
  by_cases c108 : y < 112
  · exact bytN_at h108 y (by omega) (by omega)
  by_cases c112 : y < 116
  · exact bytN_at h112 y (by omega) (by omega)
  by_cases c116 : y < 120
  · exact bytN_at h116 y (by omega) (by omega)
  by_cases c120 : y < 124
  · exact bytN_at h120 y (by omega) (by omega)
  by_cases c124 : y < 128
  · exact bytN_at h124 y (by omega) (by omega)
  by_cases c128 : y < 132
  · exact bytN_at h128 y (by omega) (by omega)
  by_cases c132 : y < 136
  · exact bytN_at h132 y (by omega) (by omega)
  by_cases c136 : y < 140
  · exact bytN_at h136 y (by omega) (by omega)
  by_cases c140 : y < 144
  · exact bytN_at h140 y (by omega) (by omega)
  by_cases c144 : y < 148
  · exact bytN_at h144 y (by omega) (by omega)
  by_cases c148 : y < 152
  · exact bytN_at h148 y (by omega) (by omega)
  by_cases c152 : y < 156
  · exact bytN_at h152 y (by omega) (by omega)
  by_cases c156 : y < 160
  · exact bytN_at h156 y (by omega) (by omega)
  by_cases c160 : y < 164
  · exact bytN_at h160 y (by omega) (by omega)
  by_cases c164 : y < 168
  · exact bytN_at h164 y (by omega) (by omega)
  by_cases c168 : y < 172
  · exact bytN_at h168 y (by omega) (by omega)
  by_cases c172 : y < 176
  · exact bytN_at h172 y (by omega) (by omega)
  by_cases c176 : y < 180
  · exact bytN_at h176 y (by omega) (by omega)
  by_cases c180 : y < 184
  · exact bytN_at h180 y (by omega) (by omega)
  by_cases c184 : y < 188
  · exact bytN_at h184 y (by omega) (by omega)
  by_cases c188 : y < 192
  · exact bytN_at h188 y (by omega) (by omega)
  by_cases c192 : y < 196
  · exact bytN_at h192 y (by omega) (by omega)
  by_cases c196 : y < 200
  · exact bytN_at h196 y (by omega) (by omega)
  by_cases c200 : y < 204
  · exact bytN_at h200 y (by omega) (by omega)
  by_cases c204 : y < 208
  · exact bytN_at h204 y (by omega) (by omega)
  by_cases c208 : y < 212
  · exact bytN_at h208 y (by omega) (by omega)
  by_cases c212 : y < 216
  · exact bytN_at h212 y (by omega) (by omega)
  by_cases c216 : y < 220
  · exact bytN_at h216 y (by omega) (by omega)
  by_cases c220 : y < 224
  · exact bytN_at h220 y (by omega) (by omega)
  by_cases c224 : y < 228
  · exact bytN_at h224 y (by omega) (by omega)
  by_cases c228 : y < 232
  · exact bytN_at h228 y (by omega) (by omega)
  by_cases c232 : y < 236
  · exact bytN_at h232 y (by omega) (by omega)
  by_cases c236 : y < 240
  · exact bytN_at h236 y (by omega) (by omega)
  by_cases c240 : y < 244
  · exact bytN_at h240 y (by omega) (by omega)
  by_cases c244 : y < 248
  · exact bytN_at h244 y (by omega) (by omega)
  by_cases c248 : y < 252
  · exact bytN_at h248 y (by omega) (by omega)
  by_cases c252 : y < 256
  · exact bytN_at h252 y (by omega) (by omega)
  exact absurd h (by omega)
end Go.Ev.YtljckklenkcnnaaDoor
