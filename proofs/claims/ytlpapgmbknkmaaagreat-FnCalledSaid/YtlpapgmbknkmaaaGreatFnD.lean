/-
  Contracts of functions of the program, its reference and the laws: what each returns; the conditions stand in each contract.
-/
import Derived.Test.YtlpapgmbknkmaaaGreatFnC
set_option linter.unusedSimpArgs false
set_option linter.unusedVariables false
set_option maxRecDepth 100000
set_option maxHeartbeats 2000000
namespace Go.Eng
open Go Go.Proofs
structure RpV where
  Router : Int
  Call : CallV
  Code : Int
  Points : List Pt
  Legs : List LegV
  Begun : Int
  Ended : Int
theorem rows_dt (l : List TodoV) : List.drop 1 (List.take l.length (rows l)) = rows (l.drop 1) := by
  rw [List.take_of_length_le (by simp [rows]), rows, rows, List.map_drop]
theorem rows_app (l m : List TodoV) : rows l ++ rows m = rows (l ++ m) := by simp [rows]
theorem jQ_done {id : Int} {ser : List Int} (h1 : 1 ≤ id ∧ id ≤ 4) (h2 : ser.length = 3) (h3 : serB ser = true) : jQ ⟨id, ser, false, CallV.zero, 0, [], []⟩ :=
  ⟨h1, h2, h3, fun e he => by simp at he, fun e he => by simp at he, ⟨Nat.zero_le _, Nat.zero_le _⟩, fun _ => ⟨rfl, rfl, rfl, rfl⟩, fun hb => by simp at hb⟩
theorem serB_set {l : List Int} {n : Nat} {v : Int} (h : serB l = true) (hv : 0 ≤ v ∧ v ≤ 1000000) : serB (l.set n v) = true := by
  unfold serB at h ⊢
  rw [List.all_eq_true] at h ⊢
  intro x hx
  rcases List.mem_or_eq_of_mem_set hx with hx | rfl
  · exact h x hx
  · rw [Bool.and_eq_true, decide_eq_true_eq, decide_eq_true_eq]; omega
theorem jQ_go {id : Int} {ser : List Int} {c : CallV} {b : Int} {legs : List LegV} {todo todo2 : List TodoV} {leg : LegV} {n : Nat} {v : Int} (h : jQ ⟨id, ser, true, c, b, legs, todo⟩) (hl : leg.fit) (hv : 0 ≤ v ∧ v ≤ 1000000) (ht : ∀ e ∈ todo2, tdP e) (hn : todo2 ≠ []) :
    jQ ⟨id, ser.set n v, true, c, b, legs ++ [leg], todo2⟩ := by
  obtain ⟨h1, h2, h3, h4, _, h6, _, h8⟩ := h
  refine ⟨h1, by rw [List.length_set]; exact h2, serB_set h3 hv, fun e he => ?_, ht, h6, fun hb => by simp at hb, fun _ => ⟨(h8 rfl).1, hn⟩⟩
  rcases List.mem_append.1 he with he | he
  · exact h4 e he
  · rw [List.mem_singleton] at he; subst he; exact hl
theorem td_drop {l : List TodoV} (h : ∀ e ∈ l, tdP e) : ∀ e ∈ l.drop 1, tdP e := fun e he => h e (List.mem_of_mem_drop he)
theorem td_app {l m : List TodoV} (h : ∀ e ∈ l, tdP e) (hm : ∀ e ∈ m, plP e) : ∀ e ∈ l.drop 1 ++ m, tdP e := fun e he => by
  rcases List.mem_append.1 he with he | he
  · exact h e (List.mem_of_mem_drop he)
  · have := hm e he
    exact ⟨⟨by have := this.1.1; omega, this.1.2⟩, this.2⟩
theorem rans_d (s : ByteArray) : (rans s).1.d.size ≤ 900 := by
  rcases rans_cases s with ⟨o, h, e⟩ | ⟨_, e⟩
  · rw [e]; have := ansB_rng h.1; dsimp only; omega
  · rw [e]; exact Nat.zero_le _
abbrev yr131_0:=O [0,0,2,2,10,10]<|o 4 (Bx 0)<|o 6 (Bx 2)<|o 8 (.alloc [ij 0, oj 1, bj false, ij 0, sj, ij 0, ij 0, sj, ij 0, oj 11, oj 6])<|o 9 (.alloc [ij 0, ij 0, sj, ij 0, ij 0, sj, ij 0, oj 2, oj 11, ij 0, ij 0])<|ac 10 (kb false)<|z
abbrev yr131_1v:List XD:=[dv 16 (Fa 2 4) [] [], dv 17 (Ld 16) [0] [], dv 18 (No 17) [0,1] [], dv 19 (Mv 18) [0,1,2] [], dg 19 false 20 (Mv 1) [0,1,2,3] [], dg 19 false 21 (Fa 10 4) [0,1,2,3] [20], dg 19 false 22 (Ld 21) [0,1,2,3,5] [20], dg 19 false 23 (.iad 6 (.s 22) (k 0)) [0,1,2,3,5,6] [20], dg 19 false 24 (Fa 0 23) [0,1,2,3,5,6,7] [20], dg 19 false 25 (Ld 24) [0,1,2,3,5,6,7,8] [20], dg 19 false 26 (Bi .neq 20 25) [0,1,2,3,4,5,6,7,8,9] [], dv 27 (.pick (.s 19) (kb true) (.s 26)) [0,1,2,3,4,5,6,7,8,9,10] [], dv 28 (Mv 27) [0,1,2,3,4,5,6,7,8,9,10,11] [], dg 28 false 29 (La 10 6) [0,1,2,3,4,5,6,7,8,9,10,11,12] [], dg 28 false 30 (Ca 17 [v 29]) [0,1,2,3,4,5,6,7,8,9,10,11,12,13] [], dg 28 false 31 (No 30) [0,1,2,3,4,5,6,7,8,9,10,11,12,13,14] [], dv 32 (.pick (.s 28) (kb true) (.s 31)) [0,1,2,3,4,5,6,7,8,9,10,11,12,13,14,15] [], dv 33 (Mv 32) [0,1,2,3,4,5,6,7,8,9,10,11,12,13,14,15,16] [], dg 33 false 34 (Fa 0 6) [0,1,2,3,4,5,6,7,8,9,10,11,12,13,14,15,16,17] [], dg 33 false 35 (Ld 34) [0,1,2,3,4,5,6,7,8,9,10,11,12,13,14,15,16,17,18] [], dg 33 false 36 (Bk .neq 35 7) [0,1,2,3,4,5,6,7,8,9,10,11,12,13,14,15,16,17,18,19] [], dv 37 (.pick (.s 33) (kb true) (.s 36)) [0,1,2,3,4,5,6,7,8,9,10,11,12,13,14,15,16,17,18,19,20] [], dv 38 (Mv 37) [0,1,2,3,4,5,6,7,8,9,10,11,12,13,14,15,16,17,18,19,20,21] [], dg 38 false 39 (Fa 2 6) [0,1,2,3,4,5,6,7,8,9,10,11,12,13,14,15,16,17,18,19,20,21,22] [], dg 38 false 40 (Ld 39) [0,1,2,3,4,5,6,7,8,9,10,11,12,13,14,15,16,17,18,19,20,21,22,23] [], dg 38 false 41 (Fa 0 4) [0,1,2,3,4,5,6,7,8,9,10,11,12,13,14,15,16,17,18,19,20,21,22] [39,40], dg 38 false 42 (Ld 41) [0,1,2,3,4,5,6,7,8,9,10,11,12,13,14,15,16,17,18,19,20,21,22,25] [39,40], dg 38 false 43 (.bin .add (k 10) (.s 42)) [0,1,2,3,4,5,6,7,8,9,10,11,12,13,14,15,16,17,18,19,20,21,22,25,26] [39,40], dg 38 false 44 (Bi .neq 40 43) [0,1,2,3,4,5,6,7,8,9,10,11,12,13,14,15,16,17,18,19,20,21,22,23,24,25,26,27] [], dv 45 (.pick (.s 38) (kb true) (.s 44)) [0,1,2,3,4,5,6,7,8,9,10,11,12,13,14,15,16,17,18,19,20,21,22,23,24,25,26,27,28] [], dv 46 (Mv 45) [0,1,2,3,4,5,6,7,8,9,10,11,12,13,14,15,16,17,18,19,20,21,22,23,24,25,26,27,28,29] [], dg 46 false 47 (Fa 4 6) [0,1,2,3,4,5,6,7,8,9,10,11,12,13,14,15,16,17,18,19,20,21,22,23,24,25,26,27,28,29,30] [], dg 46 false 48 (Ld 47) [0,1,2,3,4,5,6,7,8,9,10,11,12,13,14,15,16,17,18,19,20,21,22,23,24,25,26,27,28,29,30,31] [], dg 46 false 49 (Fa 1 4) [0,1,2,3,4,5,6,7,8,9,10,11,12,13,14,15,16,17,18,19,20,21,22,23,24,25,26,27,28,29,30] [47,48], dg 46 false 50 (Ld 49) [0,1,2,3,4,5,6,7,8,9,10,11,12,13,14,15,16,17,18,19,20,21,22,23,24,25,26,27,28,29,30,33] [47,48], dg 46 false 51 (Mv 1) [0,1,2,3,4,5,6,7,8,9,10,11,12,13,14,15,16,17,18,19,20,21,22,23,24,25,26,27,28,29,30] [47,48,49,50], dg 46 false 52 (Ia 1 50 51) [0,1,2,3,4,5,6,7,8,9,10,11,12,13,14,15,16,17,18,19,20,21,22,23,24,25,26,27,28,29,30,33,34,35] [47,48], dg 46 false 53 (Ld 52) [0,1,2,3,4,5,6,7,8,9,10,11,12,13,14,15,16,17,18,19,20,21,22,23,24,25,26,27,28,29,30,33,34,35,36] [47,48], dg 46 false 54 (Bi .neq 48 53) [0,1,2,3,4,5,6,7,8,9,10,11,12,13,14,15,16,17,18,19,20,21,22,23,24,25,26,27,28,29,30,31,32,33,34,35,36,37] [], dv 55 (.pick (.s 46) (kb true) (.s 54)) [0,1,2,3,4,5,6,7,8,9,10,11,12,13,14,15,16,17,18,19,20,21,22,23,24,25,26,27,28,29,30,31,32,33,34,35,36,37,38] [], dv 56 (Mv 55) [0,1,2,3,4,5,6,7,8,9,10,11,12,13,14,15,16,17,18,19,20,21,22,23,24,25,26,27,28,29,30,31,32,33,34,35,36,37,38,39] [], dg 56 false 57 (Mv 3) [0,1,2,3,4,5,6,7,8,9,10,11,12,13,14,15,16,17,18,19,20,21,22,23,24,25,26,27,28,29,30,31,32,33,34,35,36,37,38,39,40] [], dg 56 false 58 (Ca 68 [v 57, kv 0, kv 1000000]) [0,1,2,3,4,5,6,7,8,9,10,11,12,13,14,15,16,17,18,19,20,21,22,23,24,25,26,27,28,29,30,31,32,33,34,35,36,37,38,39,40,41] [], dg 56 false 59 (No 58) [0,1,2,3,4,5,6,7,8,9,10,11,12,13,14,15,16,17,18,19,20,21,22,23,24,25,26,27,28,29,30,31,32,33,34,35,36,37,38,39,40,41,42] []]
abbrev yr131_1t:List XD:=[dk 60 (.pick (.s 56) (kb true) (.s 59)) [16,59] [0,1,2,3,4,5,6,7,8,9,10,11,12,13,14,15,16,17,18,19,20,21,22,23,24,25,26,27,28,29,30,31,32,33,34,35,36,37,38,39,40,41,42,43] []]
abbrev yr131_2:=O [62,62]<|la 61 11 4<|o 62 (.build [ij 0, ij 0, sj, ij 0, ij 0, sj, ij 0, oj 2, oj 11, ij 0, ij 0] [])<|.op ⟨none, none, So 11 8 61, [1, 6, 60, 61]⟩<|on (So 11 9 62)<|ac 10 (kb false)<|z
abbrev yr131_3:=O [12,68]<|fa 64 9 6<|ld 65 64<|ca 66 71 [v 65]<|mv 63 66<|o 67 (Ex 0 63)<|.op ⟨(some 68), none, Ex 1 63, [10, 66]⟩<|o 11 (.alloc [ij 0, ij 0, ij 0, sj])<|on (.store 4 (.s 11) (.s 67) true)<|o 12 (.asg (.s 68) true)<|z
abbrev yr131_4v:List XD:=[dv 69 (Fa 9 4) [] [], dv 70 (Ld 69) [0] [], dv 71 (Mv 1) [] [69,70], dv 72 (Fa 4 6) [] [69,70,71], dv 73 (Ld 72) [3] [69,70,71], dv 74 (Fa 10 4) [] [69,70,71,72,73], dv 75 (Ld 74) [5] [69,70,71,72,73], dv 76 (.iad 6 (.s 75) (k 0)) [5,6] [69,70,71,72,73], dv 77 (Fa 1 76) [5,6,7] [69,70,71,72,73], dv 78 (La 5 77) [5,6,7,8] [69,70,71,72,73], dv 79 (La 4 11) [] [69,70,71,72,73,74,75,76,77,78], dv 80 (.build [ij 0, ij 0, ij 0, sj, ij 0, ij 0, sj, ij 0, ij 0, ij 0, sj] [(0, 1, .s 71), (1, 1, .s 73), (2, 5, .s 78), (7, 4, .s 79)]) [2,3,4,5,6,7,8,9,10] [69,70], dv 81 (.bslice 11 [.s 80]) [2,3,4,5,6,7,8,9,10,11] [69,70]]
abbrev yr131_4t:List XD:=[dv 82 (.app 11 112 (.s 70) (.s 81) false) [0,1,2,3,4,5,6,7,8,9,10,11,12] [], dv 83 (Fa 9 4) [0,1,2,3,4,5,6,7,8,9,10,11,12,13] [], ⟨⟨none, none, So 1 83 82, [6, 6, 69, 83]⟩, [0,1,2,3,4,5,6,7,8,9,10,11,12,13,14], [], [], none⟩]
abbrev yr131_5:=O [84,87]<|fa 84 10 4<|ld 85 84<|o 86 (.slcO 6 (.s 85) (some (k 1)) none)<|fa 87 10 4<|on (So 1 87 86)<|z
abbrev yr131_6:=O [88,89]<|fa 88 0 11<|ld 89 88<|bk 90 .neq 89 0<|z
abbrev yr131_7:=O [95,98]<|la 91 11 4<|fa 92 0 11<|ld 93 92<|mv 94 3<|.op ⟨(some 95), none, Ca 195 [(true, .s 91), v 93, v 94], [1, 4, 11, 94]⟩<|o 96 (Ex 0 95)<|o 97 (Ex 1 95)<|o 98 (Ex 2 95)<|on (.store 11 (.s 8) (.s 96) true)<|on (.store 11 (.s 9) (.s 97) true)<|o 10 (.asg (.s 98) true)<|z
abbrev yr131_8:=O [1,1,10,10,90,99]<|mv 99 1<|bk 100 .eql 99 0<|z
abbrev yr131_9:=O [107,107]<|fa 102 3 4<|la 103 5 102<|la 104 4 11<|ca 105 196 [v 103, v 104]<|mv 101 105<|o 106 (Ex 0 101)<|o 107 (Ex 1 101)<|.op ⟨(some 13), none, .asg (.s 106) true, [11, 11, 100, 106]⟩<|o 14 (.asg (.s 107) true)<|z
abbrev yr131_10:=O [108,108]<|mv 108 14<|bk 109 .neq 108 0<|z
abbrev yr131_11:=O [113,116]<|la 110 11 4<|mv 111 14<|mv 112 3<|.op ⟨(some 113), none, Ca 195 [(true, .s 110), v 111, v 112], [3, 4, 13, 112]⟩<|o 114 (Ex 0 113)<|o 115 (Ex 1 113)<|o 116 (Ex 2 113)<|on (.store 11 (.s 8) (.s 114) true)<|on (.store 11 (.s 9) (.s 115) true)<|o 10 (.asg (.s 116) true)<|z
abbrev yr131_12:=O [120,121]<|fa 117 10 4<|ld 118 117<|mv 119 13<|.op ⟨(some 120), none, .app 6 64 (.s 118) (.s 119) false, [10, 119]⟩<|fa 121 10 4<|on (So 1 121 120)<|z
abbrev yr131_13:=O [11,124]<|fa 122 10 4<|ld 123 122<|o 124 (Ln 123)<|bk 125 .eql 124 0<|z
abbrev yr131_14:=O [128,131]<|la 126 11 4<|mv 127 3<|ca 128 195 [(true, .s 126), kv 0, v 127]<|o 129 (Ex 0 128)<|o 130 (Ex 1 128)<|o 131 (Ex 2 128)<|.op ⟨none, none, .store 11 (.s 8) (.s 129) true, [3, 4, 125, 127, 129, 129]⟩<|on (.store 11 (.s 9) (.s 130) true)<|o 10 (.asg (.s 131) true)<|z
abbrev yr131_15:=O [136,136]<|fa 132 10 4<|ld 133 132<|o 134 (.iad 6 (.s 133) (k 0))<|fa 135 0 134<|.op ⟨(some 136), none, Ld 135, [10, 135]⟩<|sg 15 136<|z
abbrev yr131_16:=O [137,141]<|fa 137 1 4<|ld 138 137<|mv 139 15<|o 140 (Ia 1 138 139)<|ld 141 140<|bk 142 .geq 141 1000000<|z
abbrev yr131_17:=O [145,148]<|la 143 11 4<|mv 144 3<|.op ⟨(some 145), none, Ca 195 [(true, .s 143), kv 3, v 144], [3, 4, 15, 144]⟩<|o 146 (Ex 0 145)<|o 147 (Ex 1 145)<|o 148 (Ex 2 145)<|on (.store 11 (.s 8) (.s 146) true)<|on (.store 11 (.s 9) (.s 147) true)<|o 10 (.asg (.s 148) true)<|z
abbrev yr131_18v:List XD:=[dv 149 (Fa 1 4) [] [], dv 150 (Ld 149) [0] [], dv 151 (Mv 15) [] [149,150], dv 152 (Fa 1 4) [] [149,150,151], dv 153 (Ld 152) [3] [149,150,151], dv 154 (Mv 15) [] [149,150,151,152,153], dv 155 (Ia 1 153 154) [3,4,5] [149,150,151], dv 156 (Ld 155) [3,4,5,6] [149,150,151], dv 157 (Bk .add 156 1) [3,4,5,6,7] [149,150,151]]
abbrev yr131_18t:List XD:=[dv 158 (Ia 1 150 151) [0,1,2,3,4,5,6,7,8] [], ⟨⟨none, none, So 1 158 157, [3, 3, 10, 158]⟩, [0,1,2,3,4,5,6,7,8,9], [], [], none⟩]
abbrev yr131_19:=O [4,4,159,160]<|la 159 11 4<|o 160 (.build [ij 0, ij 0, sj, ij 0, ij 0, sj, ij 0, oj 2, oj 11, ij 0, ij 0] [])<|on (So 11 8 159)<|on (So 11 9 160)<|ac 10 (kb false)<|z
abbrev y131:=Sq yr131_0<|Sq (Sq (An yr131_1v yr131_1t)<|If 60 (Sq yr131_2<|.ret) .skip)<|Sq yr131_3<|Sq (An yr131_4v yr131_4t)<|Sq yr131_5<|Sq (Sq yr131_6<|If 90 (Sq yr131_7<|.ret) .skip)<|Sq (Sq yr131_8<|If 100 (Sq yr131_9<|Sq (Sq yr131_10<|If 109 (Sq yr131_11<|.ret) .skip)<|yr131_12) .skip)<|Sq (Sq yr131_13<|If 125 (Sq yr131_14<|.ret) .skip)<|Sq yr131_15<|Sq (Sq yr131_16<|If 142 (Sq yr131_17<|.ret) .skip)<|Sq (An yr131_18v yr131_18t)<|Sq yr131_19<|.ret
theorem my131:fnOk Tryz.prog 131 y131 [.cell 8 11 true, .cell 9 11 true, .tmp 10] 4=true:=by kernel_rfl
attribute [push_cast] List.length_drop
instance g131 (a0 : Int) (a1 : List Int) (a2 : Bool) (a3 : Int) (a4 : ByteArray) (a5 a6 : Int) (a7 : ByteArray) (a8 : Int) (a9 : List LegV) (a10 : List TodoV) (g : Int) (k0 fr to tm ix it cm : Int) (y : Bool) (e : List EV) (d : ByteArray) (t : Int) : FcR Tryz.prog 131 [⟨.agg, [.int .i64 a0, .own 1 (rowsI a1), .bool a2, .int .i64 a3, .str a4, .int .i64 a5, .int .i64 a6, .str a7, .int .i64 a8, .own 11 (rows a9), .own 6 (rows a10)]⟩, i64 g, ⟨.agg, [.int .i64 k0, .int .i64 fr, .int .i64 to, .int .i64 tm, .int .i64 ix, .int .i64 it, .int .i64 cm, .bool y, .ro 2 (rowsE e), .str d]⟩, i64 t] [] (jQ ⟨a0, a1, a2, ⟨a3, a4, a5, a6, a7⟩, a8, a9, a10⟩ ∧ a2 = true ∧ g = (a10.getD 0 default).Group ∧ a9.length ≤ 100 ∧ a10.length ≤ 100 ∧ (-1000 ≤ fr ∧ fr ≤ 1000) ∧ (-1000 ≤ to ∧ to ≤ 1000) ∧ e.length ≤ 100 ∧ d.size ≤ 5000 ∧ (∀ q ∈ e, q.2.size ≤ 8)) (RouterV × RpV × Bool) (fun p => jQ p.1 ∧ p.1.Legs.length ≤ a9.length + 1 ∧ p.1.Todo.length ≤ a10.length + 1) (fun p => ⟨.tup [(true, 11), (true, 11), (false, 1)], [.int .i64 p.1.Id, .own 1 (rowsI p.1.Serials), .bool p.1.Busy, .int .i64 p.1.Call.Kind, .str p.1.Call.Key, .int .i64 p.1.Call.From, .int .i64 p.1.Call.To, .str p.1.Call.Data, .int .i64 p.1.Begun, .own 11 (rows p.1.Legs), .own 6 (rows p.1.Todo), .int .i64 p.2.1.Router, .int .i64 p.2.1.Call.Kind, .str p.2.1.Call.Key, .int .i64 p.2.1.Call.From, .int .i64 p.2.1.Call.To, .str p.2.1.Call.Data, .int .i64 p.2.1.Code, .own 2 (rowsP p.2.1.Points), .own 11 (rows p.2.1.Legs), .int .i64 p.2.1.Begun, .int .i64 p.2.1.Ended, .bool p.2.2]⟩) (fun p => [⟨.agg, [.int .i64 a0, .undef, .bool a2, .int .i64 a3, .str a4, .int .i64 a5, .int .i64 a6, .str a7, .int .i64 a8, .undef, .undef]⟩, i64 g, ⟨.agg, [.int .i64 k0, .int .i64 fr, .int .i64 to, .int .i64 tm, .int .i64 ix, .int .i64 it, .int .i64 cm, .bool y, .ro 2 (rowsE e), .str d]⟩, i64 t]) (fun p => []) := by
  refine FR_of my131 rfl fun hyp => ?_
  obtain ⟨y0, y1, y2, y3, y4, y5, y6, y7, y8, y9⟩ := id hyp
  subst y1
  subst y2
  obtain ⟨j1, j2, j3, j4, j5, ⟨j6, j7⟩, _, j8⟩ := id y0
  obtain ⟨jc, jn⟩ := j8 rfl
  dsimp only at j1 j2 j3 j4 j5 j6 j7 jc jn
  have hp : 0 < a10.length := List.length_pos_iff.2 jn
  have jt := j5 _ (getD_mem default hp)
  have jg := jt.1
  have js := serB_mem j3 (i := (a10.getD 0 default).Group.toNat) (by omega)
  have hm : ∀ p ∈ e, p.2.size ≤ 9223372036854775807 := fun p hp => Nat.le_trans (y9 p hp) (by decide)
  have hr := rans_d d
  have hl : LegV.fit ⟨(a10.getD 0 default).Group, ix, (a10.getD 0 default).Op, (rans d).1⟩ := ⟨by have := jt.2.1; dsimp only; omega, by have := jt.2.2; dsimp only; omega, by dsimp only; omega⟩
  have hf : ∀ x ∈ a9 ++ [(⟨(a10.getD 0 default).Group, ix, (a10.getD 0 default).Op, (rans d).1⟩ : LegV)], x.fit := fun x hx => by
    rcases List.mem_append.1 hx with hx | hx
    · exact j4 x hx
    · rw [List.mem_singleton] at hx; subst hx; exact hl
  repeat' (first | (with_reducible intro h; (try simp only [h]); (try simp only [HS] at h)) | ((with_reducible apply scEnd_of); exact rfl; exact rfl) | ((with_reducible apply ScW_of); rfl; rfl; trivial) | with_reducible first | apply Br_of | refine O1 ?_ | refine O2 ?_ | refine O3 ?_ | refine O4 ?_ | refine O5 ?_ | refine CI ?_ | refine CJ ?_ | refine CQ_op ?_ | refine CQ_ans ?_ | refine CQ_msg ?_ | refine CQp ?_ | refine CQ ?_ | simp (maxSteps := 1000000) (disch := omega) only [go_sem, rows_dt, rows_app])
  all_goals (try (exfalso; omega))
  all_goals first | (apply FinR_p (x := (⟨_, _, _, ⟨_, _, _, _, _⟩, _, _, _⟩ : RouterV)) (y := ((⟨_, ⟨_, _, _, _, _⟩, _, [], [], _, _⟩ : RpV), _)); (first | with_reducible rfl | rfl); rfl; rfl; exact ⟨y0, by dsimp only; omega, by dsimp only; omega⟩) | (apply FinR_p (x := (⟨_, _, _, CallV.zero, _, [], []⟩ : RouterV)) (y := ((⟨_, ⟨_, _, _, _, _⟩, _, _, _, _, _⟩ : RpV), _)); (first | with_reducible rfl | rfl); rfl; rfl; exact ⟨jQ_done j1 j2 j3, Nat.zero_le _, Nat.zero_le _⟩) | skip
  · rename_i more code hm1 hc
    have jl : 0 < (a10.drop 1 ++ more).length := by omega
    have jt2 := td_app j5 hm1.2 _ (getD_mem default jl)
    have jg2 := jt2.1
    have js2 := serB_mem j3 (i := ((a10.drop 1 ++ more).getD 0 default).Group.toNat) (by omega)
    repeat' (first | (with_reducible intro h; (try simp only [h]); (try simp only [HS] at h)) | ((with_reducible apply scEnd_of); exact rfl; exact rfl) | ((with_reducible apply ScW_of); rfl; rfl; trivial) | with_reducible first | apply Br_of | refine O1 ?_ | refine O2 ?_ | refine O3 ?_ | refine O4 ?_ | refine O5 ?_ | refine CI ?_ | refine CJ ?_ | refine CQ_op ?_ | refine CQ_ans ?_ | refine CQ_msg ?_ | refine CQp ?_ | refine CQ ?_ | simp (maxSteps := 1000000) (disch := omega) only [go_sem, rows_dt, rows_app])
    all_goals (try (exfalso; omega))
    all_goals first | (apply FinR_p (x := (⟨_, _, _, ⟨_, _, _, _, _⟩, _, _, _⟩ : RouterV)) (y := ((⟨_, ⟨_, _, _, _, _⟩, _, [], [], _, _⟩ : RpV), _)); (first | with_reducible rfl | rfl); rfl; rfl; exact ⟨y0, by dsimp only; omega, by dsimp only; omega⟩) | (apply FinR_p (x := (⟨_, _, _, CallV.zero, _, [], []⟩ : RouterV)) (y := ((⟨_, ⟨_, _, _, _, _⟩, _, _, _, _, _⟩ : RpV), _)); (first | with_reducible rfl | rfl); rfl; rfl; exact ⟨jQ_done j1 j2 j3, Nat.zero_le _, Nat.zero_le _⟩)  | (apply FinR_p (x := (⟨_, _, _, ⟨_, _, _, _, _⟩, _, _, _⟩ : RouterV)) (y := ((⟨_, ⟨_, _, _, _, _⟩, _, [], [], _, _⟩ : RpV), _)); (first | with_reducible rfl | rfl); rfl; rfl; exact ⟨jQ_go y0 hl ⟨by omega, by omega⟩ (td_app j5 hm1.2) (fun e => by rw [e] at jl; simp at jl), by dsimp only; rw [List.length_append]; simp only [List.length_cons, List.length_nil]; omega, by dsimp only; rw [List.length_append, List.length_drop]; omega⟩)
  · have jl : 0 < (a10.drop 1).length := by omega
    have jt2 := td_drop j5 _ (getD_mem default jl)
    have jg2 := jt2.1
    have js2 := serB_mem j3 (i := ((a10.drop 1).getD 0 default).Group.toNat) (by omega)
    repeat' (first | (with_reducible intro h; (try simp only [h]); (try simp only [HS] at h)) | ((with_reducible apply scEnd_of); exact rfl; exact rfl) | ((with_reducible apply ScW_of); rfl; rfl; trivial) | with_reducible first | apply Br_of | refine O1 ?_ | refine O2 ?_ | refine O3 ?_ | refine O4 ?_ | refine O5 ?_ | refine CI ?_ | refine CJ ?_ | refine CQ_op ?_ | refine CQ_ans ?_ | refine CQ_msg ?_ | refine CQp ?_ | refine CQ ?_ | simp (maxSteps := 1000000) (disch := omega) only [go_sem, rows_dt, rows_app])
    all_goals (try (exfalso; omega))
    all_goals first | (apply FinR_p (x := (⟨_, _, _, ⟨_, _, _, _, _⟩, _, _, _⟩ : RouterV)) (y := ((⟨_, ⟨_, _, _, _, _⟩, _, [], [], _, _⟩ : RpV), _)); (first | with_reducible rfl | rfl); rfl; rfl; exact ⟨y0, by dsimp only; omega, by dsimp only; omega⟩) | (apply FinR_p (x := (⟨_, _, _, CallV.zero, _, [], []⟩ : RouterV)) (y := ((⟨_, ⟨_, _, _, _, _⟩, _, _, _, _, _⟩ : RpV), _)); (first | with_reducible rfl | rfl); rfl; rfl; exact ⟨jQ_done j1 j2 j3, Nat.zero_le _, Nat.zero_le _⟩)  | (apply FinR_p (x := (⟨_, _, _, ⟨_, _, _, _, _⟩, _, _, _⟩ : RouterV)) (y := ((⟨_, ⟨_, _, _, _, _⟩, _, [], [], _, _⟩ : RpV), _)); (first | with_reducible rfl | rfl); rfl; rfl; exact ⟨jQ_go y0 hl ⟨by omega, by omega⟩ (td_drop j5) (fun e => by rw [e] at jl; simp at jl), by dsimp only; rw [List.length_append]; simp only [List.length_cons, List.length_nil]; omega, by dsimp only; rw [List.length_drop]; omega⟩)
theorem LoopQ_j {n : Nat} {sl rf : List Nat} {S : RouterV × Int × Cu n → St} {mm : RouterV × Int × Cu n → Nat} {k : Nat} {s : St} {r : RouterV} {i : Int} {w : Cu n} {l1 l2 : Nat} (hj : jQ r ∧ r.Legs.length ≤ l1 ∧ r.Todo.length ≤ l2) (hs : keepF sl rf s = S (r, i, w))
    (hi : 0 ≤ i) (h1 : l1 + i ≤ 30) (h2 : l2 + i ≤ 30) (hm : mm (r, i, w) < k) : LoopQ sl rf S (fun p => jQ p.1 ∧ 0 ≤ p.2.1 ∧ p.1.Legs.length + p.2.1 ≤ 30 ∧ p.1.Todo.length + p.2.1 ≤ 30) mm k s :=
  LoopQ_of (r, i, w) hs ⟨hj.1, hi, by dsimp only; omega, by dsimp only; omega⟩ hm
theorem msgE2 {A B C D E F : Prop} {e : List EV} (h : (A ∧ B) ∧ (C ∧ D) ∧ E ∧ (∀ q ∈ e, q.2.size ≤ 8) ∧ F) : ∀ q ∈ e, q.2.size ≤ 8 := h.2.2.2.1
theorem td_fit {l : List TodoV} (h : ∀ e ∈ l, tdP e) : ∀ e ∈ l, e.fit := fun e he => by
  have := (h e he).2
  exact ⟨by omega, by omega⟩
theorem jQ_call2 {r : RouterV} {k : Int} {key : ByteArray} {f t2 : Int} {d : ByteArray} {t : Int} (h : jQ r) (hb : r.Busy = false) (hc : key.size ≤ 100 ∧ d.size ≤ 1001) :
    jQ (callM r.Id r.Serials r.Busy r.Call r.Begun r.Legs r.Todo ⟨k, key, f, t2, d⟩ t).1 ∧ (callM r.Id r.Serials r.Busy r.Call r.Begun r.Legs r.Todo ⟨k, key, f, t2, d⟩ t).1.Legs.length ≤ r.Legs.length ∧ (callM r.Id r.Serials r.Busy r.Call r.Begun r.Legs r.Todo ⟨k, key, f, t2, d⟩ t).1.Todo.length ≤ r.Todo.length + 1 := jQ_call h hb ⟨hc.1, by dsimp only; omega⟩
def dQ (r : RouterV) : Prop := r.Serials.length ≤ 1000 ∧ (r.Call.Key.size ≤ 1000 ∧ r.Call.Data.size ≤ 2000) ∧ r.Legs.length ≤ 1000 ∧ r.Todo.length ≤ 1000 ∧ (∀ e ∈ r.Legs, e.fit) ∧ (∀ e ∈ r.Todo, e.Op.key.size ≤ 1000 ∧ e.Op.d.size ≤ 2000)
abbrev yr121_1t:List XD:=[⟨⟨none, none, .store 11 (.s 5) (.s 11) true, [7, 11]⟩, [0,1,2,3,4,5], [], [], none⟩]
abbrev y121:=Sq r121_0<|SqC 1 (.any [0,3,5,1,2,4,6] r121_1v [] [] [] yr121_1t)<|Kp [0,1,4,5] [4,5]<|Sq (Sq r121_2<|.block 0 (.loop l121_0))<|Sq (Sq r121_8<|If 46 (Sq r121_9<|.block 2 (Sq r121_11<|If 54 r121_12 (Sq r121_13<|If 60 (.any [0,1,2,3,4,5,7,8,6,9,10,11] r121_14v [] [] [] r121_14t) (Sq r121_15<|If 73 r121_16 (Sq r121_17<|If 79 r121_18 (Sq r121_19<|If 85 (.any [0,1,2,5,3,4,6,7,8,9,10,11] r121_20v [] [] [] r121_20t) r121_10)))))) .skip)<|Sq r121_21<|.ret
theorem my121:fnOk Tryz.prog 121 y121 [.cell 4 11 true] 2=true:=by kernel_rfl
instance g121 (b : List Int) (u : Value) (c : Cu b.length) (m : Int) : FcR Tryz.prog 121 [⟨.one, [.ptr 1000000 0]⟩, i64 m] [(1000000, [.rov u 1 (rowsB b), .int .i64 c.i, .int .i64 c.h])] (b.length ≤ 1048576 ∧ m ≤ 20) (RouterV × Cu b.length) (fun p => dQ p.1) (fun p => ⟨.agg, [.int .i64 p.1.Id, .own 1 (rowsI p.1.Serials), .bool p.1.Busy, .int .i64 p.1.Call.Kind, .str p.1.Call.Key, .int .i64 p.1.Call.From, .int .i64 p.1.Call.To, .str p.1.Call.Data, .int .i64 p.1.Begun, .own 11 (rows p.1.Legs), .own 6 (rows p.1.Todo)]⟩) (fun p => [⟨.one, [.ptr 1000000 0]⟩, i64 m]) (fun p => [(1000000, [.rov u 1 (rowsB b), .int .i64 p.2.i, .int .i64 p.2.h])]) := by
  refine FR_of my121 rfl fun hyp => ?_
  repeat' (first | (with_reducible intro h; (try simp only [h]); (try simp only [HS] at h)) | ((with_reducible apply scEnd_of); exact rfl; exact rfl) | ((with_reducible apply ScW_of); rfl; rfl; trivial) | with_reducible first | apply Br_of | refine O1 ?_ | refine O2 ?_ | refine O3 ?_ | refine O4 ?_ | refine O5 ?_ | refine CI ?_ | refine CJ ?_ | refine CQ_op ?_ | refine CQ_ans ?_ | refine CQ_msg ?_ | refine CutK_p (α := Int) (β := Cu b.length) 1 (fun p => ⟨[(5, ⟨.one, [.ptr 5 0]⟩), (4, ⟨.one, [.ptr 4 0]⟩), (1, i64 m), (0, ⟨.one, [.ptr 1000000 0]⟩)], [(1000000, [.rov u 1 (rowsB b), .int .i64 p.2.i, .int .i64 p.2.h]), (5, [.int .i64 p.1, .own 1 (rowsI [0, 0, 0]), .bool false, .int .i64 0, .str ⟨#[]⟩, .int .i64 0, .int .i64 0, .str ⟨#[]⟩, .int .i64 0, .own 11 [], .own 6 []]), (4, [ij 0, oj 1, bj false, ij 0, sj, ij 0, ij 0, sj, ij 0, oj 11, oj 6])], [(0, ⟨.one, [.ptr 1000000 0]⟩), (1, i64 m)]⟩) (fun p => 1 ≤ p.1 ∧ p.1 ≤ 4) ?_ ?_ | refine CQ_call ?_ | refine CQp ?_ | refine CQ ?_ | simp (maxSteps := 1000000) (disch := omega) only [go_sem])
  all_goals (try (exfalso; omega))
  · first | (apply CutQ_p; (first | with_reducible rfl | rfl); exact ⟨by dsimp only; omega, by dsimp only; omega⟩)
  refine LoopK_of (α := RouterV × Int × Cu b.length) (fun p => ⟨[(6, i64 p.2.1), (5, ⟨.one, [.ptr 5 0]⟩), (4, ⟨.one, [.ptr 4 0]⟩), (0, ⟨.one, [.ptr 1000000 0]⟩)], [(1000000, [.rov u 1 (rowsB b), .int .i64 p.2.2.i, .int .i64 p.2.2.h]), (5, [.int .i64 p.1.Id, .own 1 (rowsI p.1.Serials), .bool p.1.Busy, .int .i64 p.1.Call.Kind, .str p.1.Call.Key, .int .i64 p.1.Call.From, .int .i64 p.1.Call.To, .str p.1.Call.Data, .int .i64 p.1.Begun, .own 11 (rows p.1.Legs), .own 6 (rows p.1.Todo)]), (4, [ij 0, oj 1, bj false, ij 0, sj, ij 0, ij 0, sj, ij 0, oj 11, oj 6])], [(0, ⟨.one, [.ptr 1000000 0]⟩), (1, i64 m)]⟩) (fun p => jQ p.1 ∧ 0 ≤ p.2.1 ∧ p.1.Legs.length + p.2.1 ≤ 30 ∧ p.1.Todo.length + p.2.1 ≤ 30) (fun p => p.2.1.toNat) (⟨_, [0, 0, 0], false, CallV.zero, 0, [], []⟩, _, _) rfl ?hI0 ?_
  case hI0 => exact ⟨jQ_done (by omega) rfl rfl, by dsimp only; omega, by dsimp only [List.length_nil]; omega, by dsimp only [List.length_nil]; omega⟩
  obtain ⟨z0, z2⟩ := id hyp
  rintro ⟨⟨a0, a1, a2, ⟨a3, a4, a5, a6, a7⟩, a8, a9, a10⟩, n, c2⟩ ⟨hj, h1, h2, h3⟩
  simp only at h1 h2 h3
  replace hj : jQ ⟨a0, a1, a2, ⟨a3, a4, a5, a6, a7⟩, a8, a9, a10⟩ := hj
  obtain ⟨j1, j2, j3, j4, j5, ⟨j6, j7⟩, _, j8⟩ := id hj
  dsimp only at j1 j2 j3 j4 j5 j6 j7 j8
  have jf := td_fit j5
  have jb : a2 = true → 0 < a10.length := fun h => List.length_pos_iff.2 (j8 h).2
  have jt : a2 = true → tdP (a10.getD 0 default) := fun h => j5 _ (getD_mem default (jb h))
  have jg : a2 = true → 0 ≤ (a10.getD 0 default).Group ∧ (a10.getD 0 default).Group ≤ 2 := fun h => (jt h).1
  have js : a2 = true → 0 ≤ a1.getD (a10.getD 0 default).Group.toNat 0 ∧ a1.getD (a10.getD 0 default).Group.toNat 0 ≤ 1000000 := fun h => serB_mem j3 (by have := jg h; omega)
  by_cases hb : a2 = true
  · subst hb
    have jb := jb rfl
    have jg := jg rfl
    have js := js rfl
    repeat' (first | (with_reducible intro h; (try simp only [h]); (try simp only [HS] at h)) | ((with_reducible apply scEnd_of); exact rfl; exact rfl) | ((with_reducible apply ScW_of); rfl; rfl; trivial) | with_reducible first | apply Br_of | refine O1 ?_ | refine O2 ?_ | refine O3 ?_ | refine O4 ?_ | refine O5 ?_ | refine CI ?_ | refine CJ ?_ | refine CQp (f := 131) ?_ ⟨hj, rfl, rfl, by omega, by omega, by omega, by omega, by omega, by omega, msgE2 (by assumption)⟩ | refine CQ_op ?_ | refine CQ_ans ?_ | refine CQ_msg ?_ | refine CutK_p (α := Int) (β := Cu b.length) 1 (fun p => ⟨[(5, ⟨.one, [.ptr 5 0]⟩), (4, ⟨.one, [.ptr 4 0]⟩), (1, i64 m), (0, ⟨.one, [.ptr 1000000 0]⟩)], [(1000000, [.rov u 1 (rowsB b), .int .i64 p.2.i, .int .i64 p.2.h]), (5, [.int .i64 p.1, .own 1 (rowsI [0, 0, 0]), .bool false, .int .i64 0, .str ⟨#[]⟩, .int .i64 0, .int .i64 0, .str ⟨#[]⟩, .int .i64 0, .own 11 [], .own 6 []]), (4, [ij 0, oj 1, bj false, ij 0, sj, ij 0, ij 0, sj, ij 0, oj 11, oj 6])], [(0, ⟨.one, [.ptr 1000000 0]⟩), (1, i64 m)]⟩) (fun p => 1 ≤ p.1 ∧ p.1 ≤ 4) ?_ ?_ | refine CQ_call ?_ | refine CQp ?_ | refine CQ ?_ | simp (maxSteps := 1000000) (disch := omega) only [go_sem])
    all_goals (try (exfalso; omega))
    all_goals first | (refine LoopQ_j (by assumption) rfl ?_ ?_ ?_ ?_ <;> first | omega | (dsimp only; omega)) | (apply FinR_p (x := (⟨_, _, _, ⟨_, _, _, _, _⟩, _, _, _⟩ : RouterV)); (first | with_reducible rfl | rfl); rfl; rfl; refine ⟨?_, ⟨?_, ?_⟩, ?_, ?_, j4, ?_⟩ <;> first | (dsimp only; omega) | (dsimp only; rw [List.length_set]; omega) | (dsimp only; rw [List.length_append]; simp only [List.length_cons, List.length_nil]; omega) | exact (fun e he => ⟨by have := (j5 e he).2.1; omega, (j5 e he).2.2⟩) | exact (fun e he => by rcases List.mem_append.1 he with he | he; exact ⟨by have := (j5 e he).2.1; omega, (j5 e he).2.2⟩; rw [List.mem_singleton] at he; subst he; dsimp only; omega))
  · have hb : a2 = false := by simpa using hb
    subst hb
    repeat' (first | (with_reducible intro h; (try simp only [h]); (try simp only [HS] at h)) | ((with_reducible apply scEnd_of); exact rfl; exact rfl) | ((with_reducible apply ScW_of); rfl; rfl; trivial) | with_reducible first | apply Br_of | refine O1 ?_ | refine O2 ?_ | refine O3 ?_ | refine O4 ?_ | refine O5 ?_ | refine CI ?_ | refine CJ ?_ | refine CQ_op ?_ | refine CQ_ans ?_ | refine CQ_msg ?_ | refine CutK_p (α := Int) (β := Cu b.length) 1 (fun p => ⟨[(5, ⟨.one, [.ptr 5 0]⟩), (4, ⟨.one, [.ptr 4 0]⟩), (1, i64 m), (0, ⟨.one, [.ptr 1000000 0]⟩)], [(1000000, [.rov u 1 (rowsB b), .int .i64 p.2.i, .int .i64 p.2.h]), (5, [.int .i64 p.1, .own 1 (rowsI [0, 0, 0]), .bool false, .int .i64 0, .str ⟨#[]⟩, .int .i64 0, .int .i64 0, .str ⟨#[]⟩, .int .i64 0, .own 11 [], .own 6 []]), (4, [ij 0, oj 1, bj false, ij 0, sj, ij 0, ij 0, sj, ij 0, oj 11, oj 6])], [(0, ⟨.one, [.ptr 1000000 0]⟩), (1, i64 m)]⟩) (fun p => 1 ≤ p.1 ∧ p.1 ≤ 4) ?_ ?_ | refine CQ_call ?_ | refine CQp ?_ | refine CQ ?_ | simp (maxSteps := 1000000) (disch := omega) only [go_sem])
    all_goals (try (exfalso; omega))
    all_goals first | (refine LoopQ_j (jQ_call2 hj rfl (by assumption)) rfl ?_ ?_ ?_ ?_ <;> first | omega | (dsimp only; omega)) | (apply FinR_p (x := (⟨_, _, _, ⟨_, _, _, _, _⟩, _, _, _⟩ : RouterV)); (first | with_reducible rfl | rfl); rfl; rfl; refine ⟨?_, ⟨?_, ?_⟩, ?_, ?_, j4, ?_⟩ <;> first | (dsimp only; omega) | (dsimp only; rw [List.length_set]; omega) | (dsimp only; rw [List.length_append]; simp only [List.length_cons, List.length_nil]; omega) | exact (fun e he => ⟨by have := (j5 e he).2.1; omega, (j5 e he).2.2⟩) | exact (fun e he => by rcases List.mem_append.1 he with he | he; exact ⟨by have := (j5 e he).2.1; omega, (j5 e he).2.2⟩; rw [List.mem_singleton] at he; subst he; dsimp only; omega))
abbrev yr42_0:=O [4,4]<|o 2 (.alloc [ij 0, oj 1, bj false, ij 0, sj, ij 0, ij 0, sj, ij 0, oj 11, oj 6])<|o 3 (.alloc [ij 0, sj, ij 0, ij 0, sj])<|ac 4 (k 0)<|z
abbrev yr42_1:=O [9,10]<|mv 9 0<|o 10 (.cnew 59 (.s 9))<|sg 5 10<|z
abbrev yr42_2:=O [11,12]<|mv 11 5<|o 12 (.call 119 [v 11] [10])<|sg 6 12<|z
abbrev yr42_3:=O [13,14]<|mv 13 5<|o 14 (.call 120 [v 13] [10])<|o 7 (.alloc [ij 0, sj, ij 0, ij 0, sj])<|on (So 5 7 14)<|z
abbrev yr42_4:=O [0,0,15,18]<|mv 15 5<|mv 16 0<|ca 17 122 [v 16, kv 10]<|o 18 (.call 121 [v 15, v 17] [10])<|o 8 (.alloc [ij 0, oj 1, bj false, ij 0, sj, ij 0, ij 0, sj, ij 0, oj 11, oj 6])<|on (.store 11 (.s 8) (.s 18) true)<|z
abbrev yr42_5:=O [19,19]<|mv 19 5<|o 20 (.call 104 [v 19, kv 2] [10])<|z
abbrev yr42_6:=O [27,28]<|mv 21 5<|o 22 (.call 123 [v 21, kv 3] [10])<|mv 23 5<|o 24 (.call 123 [v 23, kv 3] [10])<|mv 25 5<|o 26 (.call 123 [v 25, kv 3] [10])<|.op ⟨(some 27), none, .bslice 1 [.s 22, .s 24, .s 26], [5, 5, 20, 26]⟩<|o 28 (.build [ij 0, oj 1, bj false, ij 0, sj, ij 0, ij 0, sj, ij 0, oj 11, oj 6] [(0, 1, k 1), (1, 1, .s 27)])<|on (.store 11 (.s 8) (.s 28) true)<|z
abbrev yr42_7v:List XD:=[]
abbrev yr42_7t:List XD:=[dk 4 (.asg (.s 31) true) [5,31] [0,1,2,3,4] []]
abbrev yr42_7u:List XD:=[dv 29 (La 11 8) [] [], dv 30 (La 5 7) [] [], dv 31 (Mv 6) [] [], ⟨⟨none, none, So 11 2 29, []⟩, [0], [], [], none⟩, ⟨⟨none, none, So 5 3 30, []⟩, [0,1,3], [], [], none⟩]
abbrev y42:=Sq yr42_0<|Sq yr42_1<|Sq yr42_2<|Sq yr42_3<|Sq yr42_4<|Sq (Sq yr42_5<|If 20 yr42_6 .skip)<|Sq (.any [] yr42_7v [] yr42_7u [[0,1,2,3,4],[0,1,3,2,4],[0,1,3,4,2],[0,2,1,3,4],[0,2,3,1,4],[0,3,1,2,4],[0,3,1,4,2],[0,3,2,1,4],[1,0,2,3,4],[1,0,3,2,4],[1,0,3,4,2],[1,2,0,3,4],[2,0,1,3,4],[2,0,3,1,4],[2,1,0,3,4]] yr42_7t)<|.ret
theorem my42:fnOk Tryz.prog 42 y42 [.cell 2 11 true, .cell 3 5 true, .tmp 4] 1=true:=by kernel_rfl
instance g42 (b : List Int) : FcR Tryz.prog 42 [⟨.one, [.ro 1 (rowsB b)]⟩] [] (b.length ≤ 1048576) (RouterV × CallV × Int) (fun p => dQ p.1 ∧ p.2.1.Key.size ≤ 100 ∧ p.2.1.Data.size ≤ 1001) (fun p => ⟨.tup [(true, 11), (true, 5), (false, 1)], [.int .i64 p.1.Id, .own 1 (rowsI p.1.Serials), .bool p.1.Busy, .int .i64 p.1.Call.Kind, .str p.1.Call.Key, .int .i64 p.1.Call.From, .int .i64 p.1.Call.To, .str p.1.Call.Data, .int .i64 p.1.Begun, .own 11 (rows p.1.Legs), .own 6 (rows p.1.Todo), .int .i64 p.2.1.Kind, .str p.2.1.Key, .int .i64 p.2.1.From, .int .i64 p.2.1.To, .str p.2.1.Data, .int .i64 p.2.2]⟩) (fun p => [⟨.one, [.ro 1 (rowsB b)]⟩]) (fun p => []) := by
  refine FR_of my42 rfl fun hyp => ?_
  repeat' (first | (with_reducible intro h; (try simp only [h]); (try simp only [HS] at h)) | ((with_reducible apply scEnd_of); exact rfl; exact rfl) | ((with_reducible apply ScW_of); rfl; rfl; trivial) | with_reducible first | apply Br_of | refine O1 ?_ | refine O2 ?_ | refine O3 ?_ | refine O4 ?_ | refine O5 ?_ | refine CI ?_ | refine CJ ?_ | refine CQ_op ?_ | refine CQ_ans ?_ | refine CQ_msg ?_ | refine CQ_call ?_ | refine CQp ?_ | refine CQ ?_ | refine CN ?_ | simp (maxSteps := 1000000) (disch := omega) only [go_sem])
  all_goals (try (exfalso; omega))
  all_goals first | (apply FinR_p (x := (⟨1, [_, _, _], false, CallV.zero, 0, [], []⟩ : RouterV)) (y := ((⟨_, _, _, _, _⟩ : CallV), _)); (first | with_reducible rfl | rfl); rfl; rfl; refine ⟨⟨by simp, ⟨Nat.zero_le _, Nat.zero_le _⟩, Nat.zero_le _, Nat.zero_le _, fun e he => by simp at he, fun e he => by simp at he⟩, ?_, ?_⟩ <;> (dsimp only; omega)) | (apply FinR_p (y := ((⟨_, _, _, _, _⟩ : CallV), _)); (first | with_reducible rfl | rfl); rfl; rfl; exact ⟨by assumption, by dsimp only; omega, by dsimp only; omega⟩)
def atF (b : List Int) (i : Int) : Int := if i < b.length then IntKind.i64.wrap (b.getD i.toNat 0) else (i * 37 + b.length * 11).tmod 256
theorem atF_rng {b : List Int} {i : Int} (hb : isB b) (h0 : 0 ≤ i) : 0 ≤ atF b i ∧ atF b i ≤ 255 := by
  unfold atF
  split
  · have h := hb _ (getDm 0 (show i.toNat < b.length by omega))
    rw [wI (by omega) (by omega)]; exact h
  · rw [Int.tmod_eq_emod_of_nonneg (by omega)]; omega
instance g13_x (b : List Int) (i : Int) : Fs 13 [⟨.one, [.ro 1 (rowsB b)]⟩, i64 i] (b.length ≤ 1048576 ∧ 0 ≤ i ∧ i ≤ 1000) (i64 (atF b i)) := by
  refine F_of m13 rfl fun hyp => ?_
  repeat' (first | (with_reducible intro h; (try simp only [h]); (try simp only [HS] at h)) | ((with_reducible apply scEnd_of); exact rfl; exact rfl) | ((with_reducible apply ScW_of); rfl; rfl; trivial) | with_reducible first | apply Br_of | refine O1 ?_ | refine O2 ?_ | refine O3 ?_ | refine O4 ?_ | refine O5 ?_ | refine CI ?_ | refine CJ ?_ | refine CQp ?_ | refine CQ ?_ | simp (maxSteps := 1000000) (disch := omega) only [go_sem])
  · rw [atF, if_pos h]
  · rw [atF, if_neg (by omega)]
theorem CR_rc {P : Program} {f0 : FuncId} {args : List SV} {rf : Refs} {pre : Prop} {k0 : SV → List SV → Refs → Prop} {I : RouterV × CallV × Int → Prop} {res : RouterV × CallV × Int → SV} {args' : RouterV × CallV × Int → List SV} {rf' : RouterV × CallV × Int → Refs} [i0 : FcR P f0 args rf pre (RouterV × CallV × Int) I res args' rf'] (h : ∀ r0 r1 r2 r3 r4 r5 r6 r7 r8 r9 r10 c0 c1 c2 c3 c4 t, I (⟨r0, r1, r2, ⟨r3, r4, r5, r6, r7⟩, r8, r9, r10⟩, ⟨c0, c1, c2, c3, c4⟩, t) → k0 (res (⟨r0, r1, r2, ⟨r3, r4, r5, r6, r7⟩, r8, r9, r10⟩, ⟨c0, c1, c2, c3, c4⟩, t)) (args' (⟨r0, r1, r2, ⟨r3, r4, r5, r6, r7⟩, r8, r9, r10⟩, ⟨c0, c1, c2, c3, c4⟩, t)) (rf' (⟨r0, r1, r2, ⟨r3, r4, r5, r6, r7⟩, r8, r9, r10⟩, ⟨c0, c1, c2, c3, c4⟩, t)))
    (hc : pre := by first | omega | trivial | assumption | (push_cast; omega) | ((repeat' apply And.intro) <;> first | assumption | omega | (push_cast; omega))) : CallR P f0 args rf k0 := i0.of hc fun x => h x.1.Id x.1.Serials x.1.Busy x.1.Call.Kind x.1.Call.Key x.1.Call.From x.1.Call.To x.1.Call.Data x.1.Begun x.1.Legs x.1.Todo x.2.1.Kind x.2.1.Key x.2.1.From x.2.1.To x.2.1.Data x.2.2
instance g7 (b : List Int) : Fs 7 [⟨.one, [.ro 1 (rowsB b)]⟩] (b.length ≤ 9223372036854775807 ∧ isB b) (bl true) := by
  refine F_of m7 rfl fun hyp => ?_
  obtain ⟨hb0, hbb⟩ := id hyp
  have q0 := atF_rng (i := 0) hbb (by omega)
  have qt := tmod_rng (x := atF b 0) (n := 5) (by omega) (by omega)
  by_cases hz : (b.length : Int) ≤ 1048576
  · repeat' (first | (with_reducible intro h; (try simp only [h]); (try simp only [HS] at h)) | ((with_reducible apply scEnd_of); exact rfl; exact rfl) | ((with_reducible apply ScW_of); rfl; rfl; trivial) | with_reducible first | apply Br_of | refine O1 ?_ | refine O2 ?_ | refine O3 ?_ | refine O4 ?_ | refine O5 ?_ | refine CI ?_ | refine CJ ?_ | refine CR_rc ?_ | refine CR_op ?_ | refine CR_ans ?_ | refine CR_msg ?_ | refine CQ_op ?_ | refine CQ_ans ?_ | refine CQ_msg ?_ | refine CQp ?_ | refine CQ ?_ | simp (maxSteps := 1000000) (disch := omega) only [go_sem])
    all_goals (try (exfalso; omega))
    rename_i r0 r1 r2 r3 r4 r5 r6 r7 r8 r9 r10 c0 c1 c2 c3 c4 t
    obtain ⟨⟨d1, ⟨d2, d3⟩, d4, d5, d6, d7⟩, d8, d9⟩ := h
    simp only at d1 d2 d3 d4 d5 d6 d7 d8 d9
    have d10 : ∀ e ∈ r10, e.fit := fun e he => by have := d7 e he; unfold TodoV.fit; omega
    have j1 := g40 r0 r1 r2 r3 r4 r5 r6 r7 r8 r9 r10 c0 c1 c2 c3 c4 t
    have j2 := g38 r0 r1 r2 r3 r4 r5 r6 r7 r8 r9 r10 c0 c1 c2 c3 c4 t
    rcases callM_three (id := r0) (ser := r1) (busy := r2) (c := ⟨r3, r4, r5, r6, r7⟩) (b := r8) (legs := r9) (todo := r10) (c2 := ⟨c0, c1, c2, c3, c4⟩) (t := t) with ⟨h1, h2, h3, h4, h5, h6, e⟩ | ⟨h1, e⟩ | ⟨h1, e⟩
    · subst h2
      subst h3
      have hn := rtP_called (c2 := ⟨c0, c1, c2, c3, c4⟩) h1 rfl h4 h5 h6
      have ho := ask_ok h4
      have hb := okB_rng ho.1
      have hd : (askC ⟨c0, c1, c2, c3, c4⟩).d = ⟨#[]⟩ := by unfold askC askM; (repeat' split) <;> rfl
      have s0 := serB_mem h1.2.2.2.1 (i := 0) (by have := h1.2.1; omega)
      have s1 := h1.2.1
      have sid := h1.1
      obtain ⟨⟨o0, o1, o2, o3, o4⟩, hob⟩ : ∃ o, askC ⟨c0, c1, c2, c3, c4⟩ = o := ⟨_, rfl⟩
      simp only [hob] at e hn ho hb hd
      subst hd
      have hsl : (r1.set 0 (r1.getD 0 0 + 1)).length = 3 := by rw [List.length_set]; exact s1
      have hsg : (r1.set 0 (r1.getD 0 0 + 1)).getD 0 0 = r1.getD 0 0 + 1 := by rw [List.getD, List.getElem?_set, if_pos rfl, if_pos (by omega)]; rfl
      obtain ⟨sn, hsn⟩ : ∃ l, r1.set 0 (r1.getD 0 0 + 1) = l := ⟨_, rfl⟩
      rw [hsn] at e hn hsl hsg
      have s2 := serB_mem hn.2.2.2.1 (i := 0) (by omega)
      have z0 : (⟨#[]⟩ : ByteArray).size = 0 := rfl
      have hs := sayM_asked (k := (atF b 0).tmod 5) hn ⟨by omega, by omega⟩
      have e2 := callM_same (c2 := ⟨c0, c1, c2, c3, c4⟩) (t := t) hn (.inl rfl)
      have hi := ifB_t hn
      have hro := rop_show ho.1
      rw [hsg] at hs
      have hmb := msgB_call (id := r0) (k := (atF b 0).tmod 5) (ix := r1.getD 0 0 + 1) (d := opS ⟨o0, o1, o2, o3, ⟨#[]⟩⟩) sid ⟨by omega, by omega⟩ ⟨by omega, by omega⟩ (by rw [hro])
      have hoz := opS_le ⟨o0, o1, o2, o3, ⟨#[]⟩⟩
      have f0 : ∀ e ∈ ([] : List LegV), e.fit := fun e he => absurd he (List.not_mem_nil)
      have f1 : ∀ e ∈ [(⟨0, ⟨o0, o1, o2, o3, ⟨#[]⟩⟩⟩ : TodoV)], e.fit := fun e he => by rw [List.mem_singleton] at he; subst he; unfold TodoV.fit; dsimp only; omega
      have f2 : ∀ e ∈ [(⟨0, ⟨o0, o1, o2, o3, ⟨#[]⟩⟩⟩ : TodoV)], e.mz ≤ 1048576 := fun e he => by rw [List.mem_singleton] at he; subst he; unfold TodoV.mz; dsimp only; omega
      have f3 : ([(⟨0, ⟨o0, o1, o2, o3, ⟨#[]⟩⟩⟩ : TodoV)]).length ≤ 1048576 := by simp
      have f4 : ([] : List EV).length ≤ 1048576 := by simp
      have f5 : ∀ p ∈ ([] : List EV), p.2.size ≤ 9223372036854775807 := fun p hp => absurd hp (List.not_mem_nil)
      have j3 := g22 r0 sn true c0 c1 c2 c3 c4 t [] [(⟨0, ⟨o0, o1, o2, o3, ⟨#[]⟩⟩⟩ : TodoV)] ((atF b 0).tmod 5)
      have j4 := g40 r0 sn true c0 c1 c2 c3 c4 t [] [(⟨0, ⟨o0, o1, o2, o3, ⟨#[]⟩⟩⟩ : TodoV)] c0 c1 c2 c3 c4 t
      simp only [e] at j1 j2
      simp only [hs] at j3
      simp only [e2] at j4
      rw [hsg] at s2
      dsimp only at ho hoz
      have hok := ho.2
      repeat' (first | (with_reducible intro h; (try simp only [h]); (try simp only [HS] at h)) | ((with_reducible apply scEnd_of); exact rfl; exact rfl) | ((with_reducible apply ScW_of); rfl; rfl; trivial) | with_reducible first | apply Br_of | refine O1 ?_ | refine O2 ?_ | refine O3 ?_ | refine O4 ?_ | refine O5 ?_ | refine CI ?_ | refine CJ ?_ | refine CR_op ?_ | refine CR_ans ?_ | refine CR_msg ?_ | refine CQ_op ?_ | refine CQ_ans ?_ | refine CQ_msg ?_ | refine CQp ?_ | refine CQ ?_ | simp (maxSteps := 1000000) (disch := omega) only [go_sem, hi, hs, hro, hmb, bne_self_eq_false, beq_self_eq_true, eq_self])
      all_goals (try (exfalso; omega))
    · simp only [e] at j1 j2
      have hi := ifB_f h1
      repeat' (first | (with_reducible intro h; (try simp only [h]); (try simp only [HS] at h)) | ((with_reducible apply scEnd_of); exact rfl; exact rfl) | ((with_reducible apply ScW_of); rfl; rfl; trivial) | with_reducible first | apply Br_of | refine O1 ?_ | refine O2 ?_ | refine O3 ?_ | refine O4 ?_ | refine O5 ?_ | refine CI ?_ | refine CJ ?_ | refine CR_op ?_ | refine CR_ans ?_ | refine CR_msg ?_ | refine CQ_op ?_ | refine CQ_ans ?_ | refine CQ_msg ?_ | refine CQp ?_ | refine CQ ?_ | simp (maxSteps := 1000000) (disch := omega) only [go_sem, hi, bne_self_eq_false, beq_self_eq_true, decide_true])
      all_goals (try (exfalso; omega))
    · simp only [e] at j1 j2
      have hi := ifB_t h1
      repeat' (first | (with_reducible intro h; (try simp only [h]); (try simp only [HS] at h)) | ((with_reducible apply scEnd_of); exact rfl; exact rfl) | ((with_reducible apply ScW_of); rfl; rfl; trivial) | with_reducible first | apply Br_of | refine O1 ?_ | refine O2 ?_ | refine O3 ?_ | refine O4 ?_ | refine O5 ?_ | refine CI ?_ | refine CJ ?_ | refine CR_op ?_ | refine CR_ans ?_ | refine CR_msg ?_ | refine CQ_op ?_ | refine CQ_ans ?_ | refine CQ_msg ?_ | refine CQp ?_ | refine CQ ?_ | simp (maxSteps := 1000000) (disch := omega) only [go_sem, hi, bne_self_eq_false, beq_self_eq_true, decide_true])
      all_goals (try (exfalso; omega))
  · repeat' (first | (with_reducible intro h; (try simp only [h]); (try simp only [HS] at h)) | ((with_reducible apply scEnd_of); exact rfl; exact rfl) | ((with_reducible apply ScW_of); rfl; rfl; trivial) | with_reducible first | apply Br_of | refine O1 ?_ | refine O2 ?_ | refine O3 ?_ | refine O4 ?_ | refine O5 ?_ | refine CI ?_ | refine CJ ?_ | refine CR_op ?_ | refine CR_ans ?_ | refine CR_msg ?_ | refine CQp ?_ | refine CQ ?_ | simp (maxSteps := 1000000) (disch := omega) only [go_sem])
    all_goals (try (exfalso; omega))
end Go.Eng
