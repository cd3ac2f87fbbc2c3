/- Tables of calls, and a run that uses them. -/
import Derived.Test.YteajpblmbmncdaaGreatDoorLn
namespace Go.Proofs.YteajpblmbmncdaaGreatDoor
open Go Go.RowKit Ev
set_option maxRecDepth 100000
set_option linter.unusedVariables false
private noncomputable abbrev i (n : Nat) : CV := .int .i64 (.ofNat n)
private noncomputable abbrev o (b a n : Nat) : CV := .slice b a n (.opn 0)
private noncomputable abbrev f (b a n : Nat) : CV := .slice b a n (.fix n)
private noncomputable abbrev e (k t : Nat) : Nat × BK := (k, ⟨[.snil], t, 0, none⟩)
private noncomputable abbrev l0 : Bls := [(1, ⟨[i 0, i 0, i 0, i 0, i 1, i 0], 69, 0, none⟩),
(2, ⟨[f 1 0 3], 47, 0, none⟩),
(4, ⟨[i 1, i 0], 69, 0, none⟩),
(5, ⟨[i 0, i 0], 69, 0, none⟩),
(7, ⟨[i 1, i 0], 69, 0, none⟩),
(9, ⟨[.snil, i 0, i 0, f 4 0 1, i 0, i 0, f 5 0 1, i 0, i 0, f 7 0 1, i 1, i 0], 72, 0, none⟩),
(10, ⟨[i 0], 3, 0, none⟩),
(11, ⟨[f 10 0 1], 74, 0, none⟩),
(12, ⟨[f 2 0 1, f 9 0 4, f 11 0 1, .snil, o 61 0 4, i 0], 57, 0, none⟩),
(19, ⟨[i 0, i 0, i 0, i 0], 69, 2, none⟩),
(20, ⟨[o 29 0 3, i 3, i 0, i 0, i 0], 46, 0, none⟩),
(25, ⟨[i 0], 3, 0, none⟩),
(29, ⟨[i 3, i 0, i 0, i 0, i 0, .snil, i 12, i 1, i 0, i 0, i 1, f 25 0 1, i 15, i 0, i 1, i 0, i 0, .snil], 29, 6, none⟩),
(34, ⟨[i 0, i 0, i 0, i 0], 69, 2, none⟩),
(35, ⟨[o 41 0 1, i 3, i 0, i 0, i 0], 46, 0, none⟩),
(38, ⟨[i 0], 3, 0, none⟩),
(41, ⟨[i 12, i 0, i 0, i 0, i 2, f 38 0 1], 29, 6, none⟩),
(46, ⟨[i 0, i 0, i 0, i 0], 69, 2, none⟩),
(47, ⟨[o 53 0 1, i 3, i 0, i 0, i 0], 46, 0, none⟩),
(50, ⟨[i 0], 3, 0, none⟩),
(53, ⟨[i 12, i 0, i 0, i 0, i 3, f 50 0 1], 29, 6, none⟩),
(58, ⟨[i 0, i 0, i 0, i 0], 69, 2, none⟩),
(59, ⟨[.snil, i 3, i 0, i 0, i 0], 46, 0, none⟩),
(61, ⟨[i 0, o 19 0 2, f 20 0 1, i 2, o 34 0 2, f 35 0 1, i 2, o 46 0 2, f 47 0 1, i 2, o 58 0 2, f 59 0 1], 50, 3, none⟩)]
private noncomputable abbrev l1 : Bls := [(12, ⟨[f 2 0 1, f 9 0 4, f 11 0 1, .snil, o 61 0 4, i 0], 57, 0, none⟩),
(20, ⟨[o 29 0 3, i 3, i 0, i 0, i 0], 46, 0, none⟩),
(35, ⟨[o 41 0 1, i 3, i 0, i 0, i 0], 46, 0, none⟩),
(47, ⟨[o 53 0 1, i 3, i 0, i 0, i 0], 46, 0, none⟩),
(59, ⟨[.snil, i 3, i 0, i 0, i 0], 46, 0, none⟩),
(61, ⟨[i 0, o 19 0 2, f 20 0 1, i 2, o 34 0 2, f 35 0 1, i 2, o 46 0 2, f 47 0 1, i 2, o 58 0 2, f 59 0 1], 50, 3, none⟩)]
private noncomputable abbrev l2 : Bls := [(63, ⟨[o 107 0 4, o 111 0 4, .snil, .snil, .snil, i 12], 230, 0, none⟩),
(69, ⟨[i 0, i 1], 3, 1, none⟩),
(81, ⟨[i 3, i 4], 3, 1, none⟩),
(93, ⟨[i 6, i 7], 3, 1, none⟩),
(105, ⟨[i 9, i 10], 3, 1, none⟩),
(107, ⟨[o 69 0 2, o 81 0 2, o 93 0 2, o 105 0 2], 27, 1, none⟩),
(111, ⟨[i 2, i 5, i 8, i 11], 3, 1, none⟩),
(175, ⟨[o 199 0 12], 233, 0, none⟩),
(199, ⟨[i 0, i 1, i 2, i 3, i 4, i 5, i 6, i 7, i 8, i 9, i 10, i 11], 3, 1, none⟩),
(200, ⟨[.snil, .snil, .snil, .snil, .snil, .snil, .snil, .snil, .snil, .snil, .snil, .snil], 238, 0, none⟩),
(201, ⟨[o 315 0 1], 139, 0, none⟩),
(202, ⟨[], 0, 0, some (.map [(0, .agg [i 1, i 1], .c (.bool true)), (1, .agg [i 4, i 2], .c (.bool true)), (2, .agg [i 6, i 3], .c (.bool true))] 3)⟩),
(203, ⟨[], 0, 0, some (.map [] 0)⟩),
(204, ⟨[.snil, .snil, .map 203, i 0], 237, 0, none⟩),
(205, ⟨[.ptr 12 0, .ptr 63 0, .ptr 175 0, o 307 0 12, o 310 0 12, o 313 0 12, f 200 0 12, .ptr 201 0, .map 202, .ptr 204 0], 145, 0, none⟩),
e 206 139,
e 209 139,
e 212 139,
e 215 139,
e 218 139,
e 221 139,
e 224 139,
e 227 139,
e 230 139,
e 233 139,
e 236 139,
e 239 139,
e 242 139,
e 245 139,
e 248 139,
e 251 139,
e 254 139,
e 257 139,
e 260 139,
e 263 139,
e 266 139,
e 269 139,
e 272 139,
e 275 139,
e 278 139,
e 281 139,
e 284 139,
e 287 139,
e 290 139,
e 293 139,
e 296 139,
e 299 139,
e 302 139,
e 305 139,
(307, ⟨[.ptr 206 0, .ptr 215 0, .ptr 224 0, .ptr 233 0, .ptr 242 0, .ptr 251 0, .ptr 260 0, .ptr 269 0, .ptr 278 0, .ptr 287 0, .ptr 296 0, .ptr 305 0], 136, 1, none⟩),
e 308 139,
(310, ⟨[.ptr 209 0, .ptr 218 0, .ptr 227 0, .ptr 236 0, .ptr 245 0, .ptr 254 0, .ptr 263 0, .ptr 272 0, .ptr 281 0, .ptr 290 0, .ptr 299 0, .ptr 308 0], 136, 1, none⟩),
e 311 139,
(313, ⟨[.ptr 212 0, .ptr 221 0, .ptr 230 0, .ptr 239 0, .ptr 248 0, .ptr 257 0, .ptr 266 0, .ptr 275 0, .ptr 284 0, .ptr 293 0, .ptr 302 0, .ptr 311 0], 136, 1, none⟩),
(315, ⟨[.int .u64 (.ofNat 15)], 224, 1, none⟩)]
private noncomputable abbrev l3 : Bls := [(1, ⟨[i 0, i 0, i 0, i 0, i 1, i 0], 69, 0, none⟩),
(2, ⟨[f 1 0 3], 47, 0, none⟩),
(4, ⟨[i 1, i 0], 69, 0, none⟩),
(5, ⟨[i 0, i 0], 69, 0, none⟩),
(7, ⟨[i 1, i 0], 69, 0, none⟩),
(9, ⟨[.snil, i 0, i 0, f 4 0 1, i 0, i 0, f 5 0 1, i 0, i 0, f 7 0 1, i 1, i 0], 72, 0, none⟩),
(10, ⟨[i 0], 3, 0, none⟩),
(11, ⟨[f 10 0 1], 74, 0, none⟩),
(12, ⟨[f 2 0 1, f 9 0 4, f 11 0 1, .snil, o 61 0 4, i 0], 57, 0, none⟩),
(19, ⟨[i 0, i 0, i 0, i 0], 69, 2, none⟩),
(20, ⟨[o 29 0 3, i 3, i 0, i 0, i 0], 46, 0, none⟩),
(25, ⟨[i 0], 3, 0, none⟩),
(29, ⟨[i 3, i 0, i 0, i 0, i 0, .snil, i 12, i 1, i 0, i 0, i 1, f 25 0 1, i 15, i 0, i 1, i 0, i 0, .snil], 29, 6, none⟩),
(34, ⟨[i 0, i 0, i 0, i 0], 69, 2, none⟩),
(35, ⟨[o 41 0 1, i 3, i 0, i 0, i 0], 46, 0, none⟩),
(38, ⟨[i 0], 3, 0, none⟩),
(41, ⟨[i 12, i 0, i 0, i 0, i 2, f 38 0 1], 29, 6, none⟩),
(46, ⟨[i 0, i 0, i 0, i 0], 69, 2, none⟩),
(47, ⟨[o 53 0 1, i 3, i 0, i 0, i 0], 46, 0, none⟩),
(50, ⟨[i 0], 3, 0, none⟩),
(53, ⟨[i 12, i 0, i 0, i 0, i 3, f 50 0 1], 29, 6, none⟩),
(58, ⟨[i 0, i 0, i 0, i 0], 69, 2, none⟩),
(59, ⟨[.snil, i 3, i 0, i 0, i 0], 46, 0, none⟩),
(61, ⟨[i 0, o 19 0 2, f 20 0 1, i 2, o 34 0 2, f 35 0 1, i 2, o 46 0 2, f 47 0 1, i 2, o 58 0 2, f 59 0 1], 50, 3, none⟩),
(63, ⟨[o 107 0 4, o 111 0 4, .snil, .snil, .snil, i 12], 230, 0, none⟩),
(69, ⟨[i 0, i 1], 3, 1, none⟩),
(81, ⟨[i 3, i 4], 3, 1, none⟩),
(93, ⟨[i 6, i 7], 3, 1, none⟩),
(105, ⟨[i 9, i 10], 3, 1, none⟩),
(107, ⟨[o 69 0 2, o 81 0 2, o 93 0 2, o 105 0 2], 27, 1, none⟩),
(111, ⟨[i 2, i 5, i 8, i 11], 3, 1, none⟩),
(175, ⟨[o 199 0 12], 233, 0, none⟩),
(199, ⟨[i 0, i 1, i 2, i 3, i 4, i 5, i 6, i 7, i 8, i 9, i 10, i 11], 3, 1, none⟩),
(200, ⟨[.snil, .snil, .snil, .snil, .snil, .snil, .snil, .snil, .snil, .snil, .snil, .snil], 238, 0, none⟩),
(201, ⟨[o 315 0 1], 139, 0, none⟩),
(202, ⟨[], 0, 0, some (.map [(0, .agg [i 1, i 1], .c (.bool true)), (1, .agg [i 4, i 2], .c (.bool true)), (2, .agg [i 6, i 3], .c (.bool true))] 3)⟩),
(203, ⟨[], 0, 0, some (.map [] 0)⟩),
(204, ⟨[.snil, .snil, .map 203, i 0], 237, 0, none⟩),
(205, ⟨[.ptr 12 0, .ptr 63 0, .ptr 175 0, o 307 0 12, o 310 0 12, o 313 0 12, f 200 0 12, .ptr 201 0, .map 202, .ptr 204 0], 145, 0, none⟩),
e 206 139,
e 209 139,
e 212 139,
e 215 139,
e 218 139,
e 221 139,
e 224 139,
e 227 139,
e 230 139,
e 233 139,
e 236 139,
e 239 139,
e 242 139,
e 245 139,
e 248 139,
e 251 139,
e 254 139,
e 257 139,
e 260 139,
e 263 139,
e 266 139,
e 269 139,
e 272 139,
e 275 139,
e 278 139,
e 281 139,
e 284 139,
e 287 139,
e 290 139,
e 293 139,
e 296 139,
e 299 139,
e 302 139,
e 305 139,
(307, ⟨[.ptr 206 0, .ptr 215 0, .ptr 224 0, .ptr 233 0, .ptr 242 0, .ptr 251 0, .ptr 260 0, .ptr 269 0, .ptr 278 0, .ptr 287 0, .ptr 296 0, .ptr 305 0], 136, 1, none⟩),
e 308 139,
(310, ⟨[.ptr 209 0, .ptr 218 0, .ptr 227 0, .ptr 236 0, .ptr 245 0, .ptr 254 0, .ptr 263 0, .ptr 272 0, .ptr 281 0, .ptr 290 0, .ptr 299 0, .ptr 308 0], 136, 1, none⟩),
e 311 139,
(313, ⟨[.ptr 212 0, .ptr 221 0, .ptr 230 0, .ptr 239 0, .ptr 248 0, .ptr 257 0, .ptr 266 0, .ptr 275 0, .ptr 284 0, .ptr 293 0, .ptr 302 0, .ptr 311 0], 136, 1, none⟩),
(315, ⟨[.int .u64 (.ofNat 15)], 224, 1, none⟩)]
private noncomputable abbrev l4 : Bls := [(1984, ⟨[], 0, 0, some (.map [(0, .agg [i 1, i 0, i 0, i 0, i 0], .c (o 3028 0 2)), (1, .agg [i 5, i 1, i 0, i 0, i 0], .c (o 2982 0 1)), (2, .agg [i 2, i 1, i 0, i 0, i 0], .c (o 3053 0 1)), (3, .agg [i 5, i 2, i 0, i 0, i 0], .c (o 3058 0 1)), (4, .agg [i 1, i 4, i 0, i 0, i 0], .c (o 3083 0 1)), (5, .agg [i 2, i 2, i 0, i 0, i 0], .c (o 3108 0 1)), (6, .agg [i 5, i 3, i 0, i 0, i 0], .c (o 3113 0 1)), (7, .agg [i 1, i 6, i 0, i 0, i 0], .c (o 3138 0 1)), (8, .agg [i 2, i 3, i 0, i 0, i 0], .c (o 3155 0 1))] 9)⟩),
(1985, ⟨[.map 1984, .md 1 (.ofNat 0) true], 155, 0, none⟩),
(2982, ⟨[i 1, i 1, i 0, i 0, i 0], 116, 5, none⟩),
(3028, ⟨[i 2, i 1, i 0, i 0, i 0, i 5, i 0, i 0, i 0, i 0], 116, 5, none⟩),
(3053, ⟨[i 2, i 2, i 0, i 0, i 0], 116, 5, none⟩),
(3058, ⟨[i 1, i 4, i 0, i 0, i 0], 116, 5, none⟩),
(3083, ⟨[i 5, i 1, i 0, i 0, i 0], 116, 5, none⟩),
(3108, ⟨[i 2, i 3, i 0, i 0, i 0], 116, 5, none⟩),
(3113, ⟨[i 1, i 6, i 0, i 0, i 0], 116, 5, none⟩),
(3138, ⟨[i 5, i 2, i 0, i 0, i 0], 116, 5, none⟩),
(3155, ⟨[i 5, i 3, i 0, i 0, i 0], 116, 5, none⟩)]
private noncomputable def m0 : MM := ⟨[48], l0, 63, [⟨48, 0, [.v (.c (.ptr 12 0))], .v (.c (.nili))⟩]⟩
private theorem m0_k : H0.tbl m0 = true := by kernel_rfl
private noncomputable def h1 : HK := H0.memo m0 m0_k
private noncomputable def m1 : MM := ⟨[155], l1, 132, [⟨155, 0, [.v (.c (.ptr 12 0)), .v (.c (i 0))], .tup [.agg [i 0, i 0, i 0], .c (.bool true)]⟩,
⟨155, 1, [.v (.c (.ptr 12 0)), .v (.c (i 1))], .tup [.agg [i 0, i 0, i 1], .c (.bool true)]⟩,
⟨155, 2, [.v (.c (.ptr 12 0)), .v (.c (i 2))], .tup [.agg [i 0, i 0, i 2], .c (.bool true)]⟩,
⟨155, 3, [.v (.c (.ptr 12 0)), .v (.c (i 3))], .tup [.agg [i 0, i 0, i 3], .c (.bool true)]⟩,
⟨155, 4, [.v (.c (.ptr 12 0)), .v (.c (i 4))], .tup [.agg [i 1, i 0, i 0], .c (.bool true)]⟩,
⟨155, 5, [.v (.c (.ptr 12 0)), .v (.c (i 5))], .tup [.agg [i 1, i 0, i 1], .c (.bool true)]⟩,
⟨155, 6, [.v (.c (.ptr 12 0)), .v (.c (i 6))], .tup [.agg [i 2, i 0, i 0], .c (.bool true)]⟩,
⟨155, 7, [.v (.c (.ptr 12 0)), .v (.c (i 7))], .tup [.agg [i 2, i 0, i 1], .c (.bool true)]⟩,
⟨155, 8, [.v (.c (.ptr 12 0)), .v (.c (i 8))], .tup [.agg [i 3, i 0, i 0], .c (.bool true)]⟩]⟩
private theorem m1_k : h1.tbl m1 = true := by kernel_rfl
private noncomputable def h2 : HK := h1.memo m1 m1_k
private noncomputable def s1 : RE := ⟨76, [.v (.c (.ptr 12 0))], 63, .v (.c (.ptr 63 0)), [(63, ⟨[o 107 0 4, o 111 0 4, .snil, .snil, .snil, i 12], 230, 0, none⟩),
(69, ⟨[i 0, i 1], 3, 1, none⟩),
(81, ⟨[i 3, i 4], 3, 1, none⟩),
(93, ⟨[i 6, i 7], 3, 1, none⟩),
(105, ⟨[i 9, i 10], 3, 1, none⟩),
(107, ⟨[o 69 0 2, o 81 0 2, o 93 0 2, o 105 0 2], 27, 1, none⟩),
(111, ⟨[i 2, i 5, i 8, i 11], 3, 1, none⟩)], 175⟩
private theorem s1_k : h2.srp l0 s1 = true := by kernel_rfl
private noncomputable def h3 : HK := h2.srep _ s1 s1_k
private noncomputable def s2 : RE := ⟨49, [.v (.c (.ptr 12 0)), .v (.c (.snil))], 63, .v (.c (.ptr 205 0)), l2, 1566⟩
private theorem s2_k : h3.rep l0 s2 = true := by kernel_rfl
private noncomputable def h4 : HK := h3.repl _ s2 s2_k
private noncomputable def s3 : RE := ⟨151, [.v (.c (.ptr 12 0)), .v (.c (.ptr 205 0)), .v (.c (i 1))], 1670, .v (.c (.snil)), [], 1760⟩
private theorem s3_k : h4.srp l3 s3 = true := by kernel_rfl
private noncomputable def h5 : HK := h4.srep _ s3 s3_k
private noncomputable def s4 : RE := ⟨151, [.v (.c (.ptr 12 0)), .v (.c (.ptr 205 0)), .v (.c (i 4))], 1789, .v (.c (.snil)), [], 1870⟩
private theorem s4_k : h5.srp l3 s4 = true := by kernel_rfl
private noncomputable def h6 : HK := h5.srep _ s4 s4_k
private noncomputable def s5 : RE := ⟨151, [.v (.c (.ptr 12 0)), .v (.c (.ptr 205 0)), .v (.c (i 6))], 1886, .v (.c (.snil)), [], 1958⟩
private theorem s5_k : h6.srp l3 s5 = true := by kernel_rfl
private noncomputable def h7 : HK := h6.srep _ s5 s5_k
private noncomputable def s6 : RE := ⟨85, [.v (.c (.ptr 12 0)), .v (.c (.ptr 205 0)), .v (.c (i 0))], 1987, .v (.c (.snil)), [], 2179⟩
private theorem s6_k : h7.srp l3 s6 = true := by kernel_rfl
private noncomputable def h8 : HK := h7.srep _ s6 s6_k
private noncomputable def s7 : RE := ⟨86, [.v (.c (.ptr 12 0)), .v (.c (.ptr 205 0)), .v (.c (i 0))], 2181, .v (.c (.snil)), [], 2277⟩
private theorem s7_k : h8.srp l3 s7 = true := by kernel_rfl
private noncomputable def h9 : HK := h8.srep _ s7 s7_k
private noncomputable def s8 : RE := ⟨85, [.v (.c (.ptr 12 0)), .v (.c (.ptr 205 0)), .v (.c (i 1))], 2279, .v (.c (.snil)), [], 2437⟩
private theorem s8_k : h9.srp l3 s8 = true := by kernel_rfl
private noncomputable def h10 : HK := h9.srep _ s8 s8_k
private noncomputable def s9 : RE := ⟨86, [.v (.c (.ptr 12 0)), .v (.c (.ptr 205 0)), .v (.c (i 1))], 2439, .v (.c (.snil)), [], 2518⟩
private theorem s9_k : h10.srp l3 s9 = true := by kernel_rfl
private noncomputable def h11 : HK := h10.srep _ s9 s9_k
private noncomputable def s10 : RE := ⟨85, [.v (.c (.ptr 12 0)), .v (.c (.ptr 205 0)), .v (.c (i 2))], 2520, .v (.c (.snil)), [], 2660⟩
private theorem s10_k : h11.srp l3 s10 = true := by kernel_rfl
private noncomputable def h12 : HK := h11.srep _ s10 s10_k
private noncomputable def s11 : RE := ⟨86, [.v (.c (.ptr 12 0)), .v (.c (.ptr 205 0)), .v (.c (i 2))], 2662, .v (.c (.snil)), [], 2732⟩
private theorem s11_k : h12.srp l3 s11 = true := by kernel_rfl
private noncomputable def h13 : HK := h12.srep _ s11 s11_k
private noncomputable def s12 : RE := ⟨85, [.v (.c (.ptr 12 0)), .v (.c (.ptr 205 0)), .v (.c (i 3))], 2734, .v (.c (.snil)), [], 2856⟩
private theorem s12_k : h13.srp l3 s12 = true := by kernel_rfl
private noncomputable def h14 : HK := h13.srep _ s12 s12_k
private noncomputable def s13 : RE := ⟨86, [.v (.c (.ptr 12 0)), .v (.c (.ptr 205 0)), .v (.c (i 3))], 2858, .v (.c (.snil)), [], 2919⟩
private theorem s13_k : h14.srp l3 s13 = true := by kernel_rfl
private noncomputable def h15 : HK := h14.srep _ s13 s13_k
private noncomputable def s14 : RE := ⟨50, [.v (.c (.ptr 12 0)), .v (.c (.ptr 205 0))], 1566, .v (.c (.ptr 1985 0)), l4, 3157⟩
private theorem s14_k : h15.rep l3 s14 = true := by kernel_rfl
private noncomputable def h16 : HK := h15.repl _ s14 s14_k
theorem TopTaintCalls_2_f_run : isBool true (runW h16.K 4 [mi 10 2, ab false] s0) = true := by kernel_rfl
theorem TopTaintCalls_2_f_law {args : Array Value} (ha : VAs (fun _ => none) [mi 10 2, ab false] args.toList) (w : World) (hT : Tab w) :
    Calls Tryz.prog 4 args w fun e w' => Below w.heap.size w w' ∧ e = .returned (.bool true) := h16.law TopTaintCalls_2_f_run ha w hT
end Go.Proofs.YteajpblmbmncdaaGreatDoor
