-- written by a program of this session (wip/pp): see NOTES.md
import Derived.Test.YtjkhckbfkinheaaGAax0
import Derived.Test.YtjkhckbfkinheaaGAax3
import Derived.Test.YtjkhckbfkinheaaGAax4
import Derived.Test.YtjkhckbfkinheaaGAax6
namespace Go.Proofs.Ytjkhckbfkinheaa.GAa
open Go.RowKit Go.Proofs.YtjkhckbfkinheaaW.PrintWords Go.Proofs.YtjkhckbfkinheaaW.PrintLast Go.Proofs.YtjkhckbfkinheaaW.PrintMore
attribute [local go_sem] max2_int min2_int max_two min_two max_three min_three max_four min_four   -- for this text's walks alone
attribute [local go_sem high] binOp_flss binOp_fgtr binOp_fleq binOp_fgeq binOp_feql binOp_fneq run_fadd run_fsub run_fmul run_fquo unary_fneg run_ftoint run_fofint run_feqIn ext_bits ext_frombits ext_trunc
set_option linter.unusedVariables false
set_option linter.unusedSimpArgs false

/-! ### message_Check: function 109 -/
mutual
def message_Check.j3 : Nat → Bool → Option (Int)
 | 0, _ => none
 | k + 1, x3 => if x3 = true then (some 0) else (some 60)
def message_Check.j0 : Nat → Bool → Int → Bool → Int → Int → Int → Int → List (S56) → Int → Int → Int → Int → Int → Int → Int → Int → ByteArray → Int → Int → ByteArray → Option (Int)
 | 0, _, _, _, _, _, _, _, _, _, _, _, _, _, _, _, _, _, _, _, _ => none
 | k + 1, x3, x7, x29, x137000, x137001, x137002, x137003, x137004, x137005, x137006, x137007, x137008, x137009, x137010, x137011, x137012, x137013, x137014, x137015, x137016 => if x29 = true then (if x137001 > 0 then (if x137002 > 0 then (if x137003 > 0 then ((message_none.f x137005 x137006 x137007 x137008 x137009 x137010 x137011 x137012 x137013 x137014 x137015 x137016).bind fun t138 => (if t138 = true then (if (x137004.length : Int) ≤ 512 then (if x137000 = 2 then (message_Check.j1 k true x137000 x137001 x137002 x137003 x137004 x137005 x137006 x137007 x137008 x137009 x137010 x137011 x137012 x137013 x137014 x137015 x137016) else (message_Check.j1 k ((x137004.length : Int) == 0) x137000 x137001 x137002 x137003 x137004 x137005 x137006 x137007 x137008 x137009 x137010 x137011 x137012 x137013 x137014 x137015 x137016)) else (message_Check.j1 k false x137000 x137001 x137002 x137003 x137004 x137005 x137006 x137007 x137008 x137009 x137010 x137011 x137012 x137013 x137014 x137015 x137016)) else (message_Check.j1 k false x137000 x137001 x137002 x137003 x137004 x137005 x137006 x137007 x137008 x137009 x137010 x137011 x137012 x137013 x137014 x137015 x137016))) else (message_Check.j1 k false x137000 x137001 x137002 x137003 x137004 x137005 x137006 x137007 x137008 x137009 x137010 x137011 x137012 x137013 x137014 x137015 x137016)) else (message_Check.j1 k false x137000 x137001 x137002 x137003 x137004 x137005 x137006 x137007 x137008 x137009 x137010 x137011 x137012 x137013 x137014 x137015 x137016)) else (message_Check.j1 k false x137000 x137001 x137002 x137003 x137004 x137005 x137006 x137007 x137008 x137009 x137010 x137011 x137012 x137013 x137014 x137015 x137016)) else (if x7 = 4 then (if x137001 = 0 then (if x137002 = 0 then (if x137003 = 0 then (if (x137004.length : Int) = 0 then ((message_packet.f k x137005 x137006 x137007 x137008 x137009 x137010 x137011 x137012 x137013 x137014 x137015 x137016).bind fun t144 => (message_Check.j3 k t144)) else (message_Check.j3 k false)) else (message_Check.j3 k false)) else (message_Check.j3 k false)) else (message_Check.j3 k false)) else (message_Check.j3 k x3))
def message_Check.j1 : Nat → Bool → Int → Int → Int → Int → List (S56) → Int → Int → Int → Int → Int → Int → Int → Int → ByteArray → Int → Int → ByteArray → Option (Int)
 | 0, _, _, _, _, _, _, _, _, _, _, _, _, _, _, _, _, _, _ => none
 | k + 1, x3, x137000, x137001, x137002, x137003, x137004, x137005, x137006, x137007, x137008, x137009, x137010, x137011, x137012, x137013, x137014, x137015, x137016 => message_Check.l0 k x3 x137004 (x137004.length : Int) 0 x137000 x137001 x137002 x137003 x137004 x137005 x137006 x137007 x137008 x137009 x137010 x137011 x137012 x137013 x137014 x137015 x137016
def message_Check.l0 : Nat → Bool → List (S56) → Int → Int → Int → Int → Int → Int → List (S56) → Int → Int → Int → Int → Int → Int → Int → Int → ByteArray → Int → Int → ByteArray → Option (Int)
 | 0, _, _, _, _, _, _, _, _, _, _, _, _, _, _, _, _, _, _, _, _, _ => none
 | k + 1, x3, x68, x69, x70, x137000, x137001, x137002, x137003, x137004, x137005, x137006, x137007, x137008, x137009, x137010, x137011, x137012, x137013, x137014, x137015, x137016 => if x70 < x69 then (if 0 ≤ x70 then (if x70 < (x68.length : Int) then (if x3 = true then ((message_news.f k ((rd_T56 x68 x70).f0) ((rd_T56 x68 x70).f1) ((rd_T56 x68 x70).f2) ((rd_T56 x68 x70).f3) ((rd_T56 x68 x70).f4)).bind fun t141 => (if t141 = true then (if x70 = 0 then (message_Check.l0 k true x68 x69 (wrap64 (x70 + 1)) x137000 x137001 x137002 x137003 x137004 x137005 x137006 x137007 x137008 x137009 x137010 x137011 x137012 x137013 x137014 x137015 x137016) else (if 0 ≤ (wrap64 (x70 - 1)) then (if (wrap64 (x70 - 1)) < (x137004.length : Int) then ((message_ahead.f ((rd_T56 x137004 (wrap64 (x70 - 1))).f0) ((rd_T56 x137004 (wrap64 (x70 - 1))).f1) ((rd_T56 x137004 (wrap64 (x70 - 1))).f2) ((rd_T56 x137004 (wrap64 (x70 - 1))).f3) ((rd_T56 x137004 (wrap64 (x70 - 1))).f4) ((rd_T56 x68 x70).f0) ((rd_T56 x68 x70).f1) ((rd_T56 x68 x70).f2) ((rd_T56 x68 x70).f3) ((rd_T56 x68 x70).f4)).bind fun t143 => (message_Check.l0 k t143 x68 x69 (wrap64 (x70 + 1)) x137000 x137001 x137002 x137003 x137004 x137005 x137006 x137007 x137008 x137009 x137010 x137011 x137012 x137013 x137014 x137015 x137016)) else (none)) else (none))) else (message_Check.l0 k false x68 x69 (wrap64 (x70 + 1)) x137000 x137001 x137002 x137003 x137004 x137005 x137006 x137007 x137008 x137009 x137010 x137011 x137012 x137013 x137014 x137015 x137016))) else (message_Check.l0 k false x68 x69 (wrap64 (x70 + 1)) x137000 x137001 x137002 x137003 x137004 x137005 x137006 x137007 x137008 x137009 x137010 x137011 x137012 x137013 x137014 x137015 x137016)) else (none)) else (none)) else (message_Check.j3 k x3)
end
def message_Check.f (k : Nat) (a0_0 : Int) (a0_1 : Int) (a0_2 : Int) (a0_3 : Int) (l0_4 : List (S56)) (a0_5 : Int) (a0_6 : Int) (a0_7 : Int) (a0_8 : Int) (a0_9 : Int) (a0_10 : Int) (a0_11 : Int) (a0_12 : Int) (a0_13 : ByteArray) (a0_14 : Int) (a0_15 : Int) (a0_16 : ByteArray) : Option (Int) := if a0_0 = 1 then (if a0_1 > 0 then (if a0_3 = 0 then (if (l0_4.length : Int) = 0 then ((message_none.f a0_5 a0_6 a0_7 a0_8 a0_9 a0_10 a0_11 a0_12 a0_13 a0_14 a0_15 a0_16).bind fun t137 => (message_Check.j3 k t137)) else (message_Check.j3 k false)) else (message_Check.j3 k false)) else (message_Check.j3 k false)) else (if a0_0 = 2 then (message_Check.j0 k false a0_0 (a0_0 == 2) a0_0 a0_1 a0_2 a0_3 l0_4 a0_5 a0_6 a0_7 a0_8 a0_9 a0_10 a0_11 a0_12 a0_13 a0_14 a0_15 a0_16) else (message_Check.j0 k false a0_0 (a0_0 == 3) a0_0 a0_1 a0_2 a0_3 l0_4 a0_5 a0_6 a0_7 a0_8 a0_9 a0_10 a0_11 a0_12 a0_13 a0_14 a0_15 a0_16))
theorem message_Check.mono_l : ∀ k, (∀ y0, LeO (message_Check.j3 k y0) (message_Check.j3 (k + 1) y0)) ∧ (∀ y0 y1 y2 y3 y4 y5 y6 y7 y8 y9 y10 y11 y12 y13 y14 y15 y16 y17 y18 y19, LeO (message_Check.j0 k y0 y1 y2 y3 y4 y5 y6 y7 y8 y9 y10 y11 y12 y13 y14 y15 y16 y17 y18 y19) (message_Check.j0 (k + 1) y0 y1 y2 y3 y4 y5 y6 y7 y8 y9 y10 y11 y12 y13 y14 y15 y16 y17 y18 y19)) ∧ (∀ y0 y1 y2 y3 y4 y5 y6 y7 y8 y9 y10 y11 y12 y13 y14 y15 y16 y17, LeO (message_Check.j1 k y0 y1 y2 y3 y4 y5 y6 y7 y8 y9 y10 y11 y12 y13 y14 y15 y16 y17) (message_Check.j1 (k + 1) y0 y1 y2 y3 y4 y5 y6 y7 y8 y9 y10 y11 y12 y13 y14 y15 y16 y17)) ∧ (∀ y0 y1 y2 y3 y4 y5 y6 y7 y8 y9 y10 y11 y12 y13 y14 y15 y16 y17 y18 y19 y20, LeO (message_Check.l0 k y0 y1 y2 y3 y4 y5 y6 y7 y8 y9 y10 y11 y12 y13 y14 y15 y16 y17 y18 y19 y20) (message_Check.l0 (k + 1) y0 y1 y2 y3 y4 y5 y6 y7 y8 y9 y10 y11 y12 y13 y14 y15 y16 y17 y18 y19 y20))
 | 0 => ⟨fun _ r h => by simp [message_Check.j3] at h, fun _ _ _ _ _ _ _ _ _ _ _ _ _ _ _ _ _ _ _ _ r h => by simp [message_Check.j0] at h, fun _ _ _ _ _ _ _ _ _ _ _ _ _ _ _ _ _ _ r h => by simp [message_Check.j1] at h, fun _ _ _ _ _ _ _ _ _ _ _ _ _ _ _ _ _ _ _ _ _ r h => by simp [message_Check.l0] at h⟩
 | k + 1 => by
  obtain ⟨ih0, ih1, ih2, ih3⟩ := message_Check.mono_l k
  refine ⟨?_, ?_, ?_, ?_⟩
  ·intro y0
   unfold message_Check.j3
   repeat' first
   | (with_reducible exact ih0 _)
   | (with_reducible exact ih1 _ _ _ _ _ _ _ _ _ _ _ _ _ _ _ _ _ _ _ _)
   | (with_reducible exact ih2 _ _ _ _ _ _ _ _ _ _ _ _ _ _ _ _ _ _)
   | (with_reducible exact ih3 _ _ _ _ _ _ _ _ _ _ _ _ _ _ _ _ _ _ _ _ _)
   | (with_reducible exact message_news.mono _ _ _ _ _ _)
   | (with_reducible exact message_packet.mono _ _ _ _ _ _ _ _ _ _ _ _ _)
   | (with_reducible exact LeO.refl _)
   | (with_reducible exact LeO.none _)
   | (with_reducible refine LeO.ite ?_ ?_)
   | (with_reducible refine LeO.bind ?_ (fun _ => ?_))
   | exact ih0 _
   | exact ih1 _ _ _ _ _ _ _ _ _ _ _ _ _ _ _ _ _ _ _ _
   | exact ih2 _ _ _ _ _ _ _ _ _ _ _ _ _ _ _ _ _ _
   | exact ih3 _ _ _ _ _ _ _ _ _ _ _ _ _ _ _ _ _ _ _ _ _
   | exact message_news.mono _ _ _ _ _ _
   | exact message_packet.mono _ _ _ _ _ _ _ _ _ _ _ _ _
   | exact LeO.none _
   | refine LeO.ite ?_ ?_
   | refine LeO.bind ?_ (fun _ => ?_)
  ·intro y0 y1 y2 y3 y4 y5 y6 y7 y8 y9 y10 y11 y12 y13 y14 y15 y16 y17 y18 y19
   unfold message_Check.j0
   repeat' first
   | (with_reducible exact ih0 _)
   | (with_reducible exact ih1 _ _ _ _ _ _ _ _ _ _ _ _ _ _ _ _ _ _ _ _)
   | (with_reducible exact ih2 _ _ _ _ _ _ _ _ _ _ _ _ _ _ _ _ _ _)
   | (with_reducible exact ih3 _ _ _ _ _ _ _ _ _ _ _ _ _ _ _ _ _ _ _ _ _)
   | (with_reducible exact message_news.mono _ _ _ _ _ _)
   | (with_reducible exact message_packet.mono _ _ _ _ _ _ _ _ _ _ _ _ _)
   | (with_reducible exact LeO.refl _)
   | (with_reducible exact LeO.none _)
   | (with_reducible refine LeO.ite ?_ ?_)
   | (with_reducible refine LeO.bind ?_ (fun _ => ?_))
   | exact ih0 _
   | exact ih1 _ _ _ _ _ _ _ _ _ _ _ _ _ _ _ _ _ _ _ _
   | exact ih2 _ _ _ _ _ _ _ _ _ _ _ _ _ _ _ _ _ _
   | exact ih3 _ _ _ _ _ _ _ _ _ _ _ _ _ _ _ _ _ _ _ _ _
   | exact message_news.mono _ _ _ _ _ _
   | exact message_packet.mono _ _ _ _ _ _ _ _ _ _ _ _ _
   | exact LeO.none _
   | refine LeO.ite ?_ ?_
   | refine LeO.bind ?_ (fun _ => ?_)
  ·intro y0 y1 y2 y3 y4 y5 y6 y7 y8 y9 y10 y11 y12 y13 y14 y15 y16 y17
   unfold message_Check.j1
   repeat' first
   | (with_reducible exact ih0 _)
   | (with_reducible exact ih1 _ _ _ _ _ _ _ _ _ _ _ _ _ _ _ _ _ _ _ _)
   | (with_reducible exact ih2 _ _ _ _ _ _ _ _ _ _ _ _ _ _ _ _ _ _)
   | (with_reducible exact ih3 _ _ _ _ _ _ _ _ _ _ _ _ _ _ _ _ _ _ _ _ _)
   | (with_reducible exact message_news.mono _ _ _ _ _ _)
   | (with_reducible exact message_packet.mono _ _ _ _ _ _ _ _ _ _ _ _ _)
   | (with_reducible exact LeO.refl _)
   | (with_reducible exact LeO.none _)
   | (with_reducible refine LeO.ite ?_ ?_)
   | (with_reducible refine LeO.bind ?_ (fun _ => ?_))
   | exact ih0 _
   | exact ih1 _ _ _ _ _ _ _ _ _ _ _ _ _ _ _ _ _ _ _ _
   | exact ih2 _ _ _ _ _ _ _ _ _ _ _ _ _ _ _ _ _ _
   | exact ih3 _ _ _ _ _ _ _ _ _ _ _ _ _ _ _ _ _ _ _ _ _
   | exact message_news.mono _ _ _ _ _ _
   | exact message_packet.mono _ _ _ _ _ _ _ _ _ _ _ _ _
   | exact LeO.none _
   | refine LeO.ite ?_ ?_
   | refine LeO.bind ?_ (fun _ => ?_)
  ·intro y0 y1 y2 y3 y4 y5 y6 y7 y8 y9 y10 y11 y12 y13 y14 y15 y16 y17 y18 y19 y20
   unfold message_Check.l0
   repeat' first
   | (with_reducible exact ih0 _)
   | (with_reducible exact ih1 _ _ _ _ _ _ _ _ _ _ _ _ _ _ _ _ _ _ _ _)
   | (with_reducible exact ih2 _ _ _ _ _ _ _ _ _ _ _ _ _ _ _ _ _ _)
   | (with_reducible exact ih3 _ _ _ _ _ _ _ _ _ _ _ _ _ _ _ _ _ _ _ _ _)
   | (with_reducible exact message_news.mono _ _ _ _ _ _)
   | (with_reducible exact message_packet.mono _ _ _ _ _ _ _ _ _ _ _ _ _)
   | (with_reducible exact LeO.refl _)
   | (with_reducible exact LeO.none _)
   | (with_reducible refine LeO.ite ?_ ?_)
   | (with_reducible refine LeO.bind ?_ (fun _ => ?_))
   | exact ih0 _
   | exact ih1 _ _ _ _ _ _ _ _ _ _ _ _ _ _ _ _ _ _ _ _
   | exact ih2 _ _ _ _ _ _ _ _ _ _ _ _ _ _ _ _ _ _
   | exact ih3 _ _ _ _ _ _ _ _ _ _ _ _ _ _ _ _ _ _ _ _ _
   | exact message_news.mono _ _ _ _ _ _
   | exact message_packet.mono _ _ _ _ _ _ _ _ _ _ _ _ _
   | exact LeO.none _
   | refine LeO.ite ?_ ?_
   | refine LeO.bind ?_ (fun _ => ?_)
theorem message_Check.mono : ∀ a0 a1 a2 a3 a4 a5 a6 a7 a8 a9 a10 a11 a12 a13 a14 a15 a16 k, LeO (message_Check.f k a0 a1 a2 a3 a4 a5 a6 a7 a8 a9 a10 a11 a12 a13 a14 a15 a16) (message_Check.f (k + 1) a0 a1 a2 a3 a4 a5 a6 a7 a8 a9 a10 a11 a12 a13 a14 a15 a16) := by
 intro a0 a1 a2 a3 a4 a5 a6 a7 a8 a9 a10 a11 a12 a13 a14 a15 a16 k
 obtain ⟨ih0, ih1, ih2, ih3⟩ := message_Check.mono_l k
 unfold message_Check.f
 repeat' first
   | (with_reducible exact ih0 _)
   | (with_reducible exact ih1 _ _ _ _ _ _ _ _ _ _ _ _ _ _ _ _ _ _ _ _)
   | (with_reducible exact ih2 _ _ _ _ _ _ _ _ _ _ _ _ _ _ _ _ _ _)
   | (with_reducible exact ih3 _ _ _ _ _ _ _ _ _ _ _ _ _ _ _ _ _ _ _ _ _)
   | (with_reducible exact message_news.mono _ _ _ _ _ _)
   | (with_reducible exact message_packet.mono _ _ _ _ _ _ _ _ _ _ _ _ _)
   | (with_reducible exact LeO.refl _)
   | (with_reducible exact LeO.none _)
   | (with_reducible refine LeO.ite ?_ ?_)
   | (with_reducible refine LeO.bind ?_ (fun _ => ?_))
   | exact ih0 _
   | exact ih1 _ _ _ _ _ _ _ _ _ _ _ _ _ _ _ _ _ _ _ _
   | exact ih2 _ _ _ _ _ _ _ _ _ _ _ _ _ _ _ _ _ _
   | exact ih3 _ _ _ _ _ _ _ _ _ _ _ _ _ _ _ _ _ _ _ _ _
   | exact message_news.mono _ _ _ _ _ _
   | exact message_packet.mono _ _ _ _ _ _ _ _ _ _ _ _ _
   | exact LeO.none _
   | refine LeO.ite ?_ ?_
   | refine LeO.bind ?_ (fun _ => ?_)
def message_Check.T11 : Bool × List (List Nat × List Nat) := (true, [([], []), ([0], [0]), ([1], [1]), ([2, 1, 1], [1, 2]), ([1, 3], [1, 3]), ([4, 3], [4]), ([5], [5]), ([6, 5], [5, 6]), ([7, 5, 5], [5, 7]), ([8], [8]), ([9, 8], [8, 9]), ([8], [8]), ([11, 8], [8, 11]), ([10, 12, 8], [8, 10, 12]), ([13, 8], [8, 13]), ([8], [8]), ([14, 15, 8, 8], [8, 14, 15]), ([8, 16, 5], [5, 8, 16]), ([5, 17], [5, 17]), ([18, 16, 0, 1, 2, 3, 4, 5, 6, 7, 8, 9, 10, 11, 12, 13, 14, 15, 16, 17, 18], [0, 18])])
def message_Check.B11 : List Nat := [0, 1, 3, 7, 15, 31, 63, 127, 255, 511, 1023, 511, 2559, 8191, 16383, 511, 65535, 131071, 262143, 524287]
theorem message_Check.tab11 : rtab .any (opsOf Try.f109 11) = message_Check.T11 := by kernel_rfl
theorem message_Check.bits11 : waitsOk message_Check.T11.2 message_Check.B11 = true := by kernel_rfl
set_option maxHeartbeats 8000000 in
set_option maxRecDepth 100000 in
theorem message_Check.calls (k : Nat) (a0_0 : Int) (a0_1 : Int) (a0_2 : Int) (a0_3 : Int) (A0_4 : Option Addr) (c0_4 : Nat) (l0_4 : List (S56)) (a0_5 : Int) (a0_6 : Int) (a0_7 : Int) (a0_8 : Int) (a0_9 : Int) (a0_10 : Int) (a0_11 : Int) (a0_12 : Int) (a0_13 : ByteArray) (a0_14 : Int) (a0_15 : Int) (a0_16 : ByteArray) (r : Int) (w : World) (hr0_4 : Kd.C k56 w A0_4 l0_4.length l0_4) (hc0_4 : l0_4.length ≤ c0_4) (h : message_Check.f k a0_0 a0_1 a0_2 a0_3 l0_4 a0_5 a0_6 a0_7 a0_8 a0_9 a0_10 a0_11 a0_12 a0_13 a0_14 a0_15 a0_16 = some r) :
  Calls Try.prog 109 #[.agg #[.int .i64 a0_0, .int .u64 a0_1, .int .u64 a0_2, .int .u64 a0_3, .slice A0_4 l0_4.length c0_4, .int .i64 a0_5, .int .i64 a0_6, .int .i64 a0_7, .int .i64 a0_8, .int .i64 a0_9, .int .i64 a0_10, .int .u64 a0_11, .int .i64 a0_12, .string a0_13, .int .i64 a0_14, .int .i64 a0_15, .string a0_16]] w fun e w' => e = .returned (.int .i64 r) ∧ Below w.heap.size w w' := by
 have hu118 := Try.underlying118
 have hu116 := Try.underlying116
 have hu56 := Try.underlying56
 have HR0_4 := Aside0.mk hr0_4
 have HC0_4 := Aside0.mk hc0_4
 clear hr0_4 hc0_4
 have HB := Aside0.mk (Below.refl w.heap.size w)
 have H : (if a0_0 = 1 then (if a0_1 > 0 then (if a0_3 = 0 then (if (l0_4.length : Int) = 0 then ((message_none.f a0_5 a0_6 a0_7 a0_8 a0_9 a0_10 a0_11 a0_12 a0_13 a0_14 a0_15 a0_16).bind fun t137 => (message_Check.j3 k t137)) else (message_Check.j3 k false)) else (message_Check.j3 k false)) else (message_Check.j3 k false)) else (if a0_0 = 2 then (message_Check.j0 k false a0_0 (a0_0 == 2) a0_0 a0_1 a0_2 a0_3 l0_4 a0_5 a0_6 a0_7 a0_8 a0_9 a0_10 a0_11 a0_12 a0_13 a0_14 a0_15 a0_16) else (message_Check.j0 k false a0_0 (a0_0 == 3) a0_0 a0_1 a0_2 a0_3 l0_4 a0_5 a0_6 a0_7 a0_8 a0_9 a0_10 a0_11 a0_12 a0_13 a0_14 a0_15 a0_16))) = some r := h
 clear h
 have HC2 := Aside0.mk H
 clear H
 go_enter Try.func109, Try.ntmps109
 go_upto_block 0 with (first | ((with_reducible refine gate_dst (N := 1) rfl ?_); (try (refine gate_guard (by rfl) ?_; dsimp only)); refine bx_ (N := 1) #[.int .i64 a0_0, .int .u64 a0_1, .int .u64 a0_2, .int .u64 a0_3, .slice A0_4 l0_4.length c0_4, .int .i64 a0_5, .int .i64 a0_6, .int .i64 a0_7, .int .i64 a0_8, .int .i64 a0_9, .int .i64 a0_10, .int .u64 a0_11, .int .i64 a0_12, .string a0_13, .int .i64 a0_14, .int .i64 a0_15, .string a0_16] 118 ⟨fb⟩ ?_; clear HB; intro gb136 w3 HB BK136 GE136; have GW136 := GE136; obtain ⟨hcz4_0, hcz4_1, hcz4_2, hcz4_3, hcz4_4, hcz4_5, hcz4_6, hcz4_7, hcz4_8, hcz4_9, hcz4_10, hcz4_11, hcz4_12, hcz4_13, hcz4_14, hcz4_15, hcz4_16, hfz4_0, hfz4_1, hfz4_2, hfz4_3, hfz4_4, hfz4_5, hfz4_6, hfz4_7, hfz4_8, hfz4_9, hfz4_10, hfz4_11, hfz4_12, hfz4_13, hfz4_14, hfz4_15, hfz4_16⟩ := cz17 BK136.out))
 (try simp only [Act.put, qa, qb, qc])
 go_cut [3] (fun v3 wc => ∃ (kq : Nat) (x3_1 : Bool), v3 = .bool x3_1 ∧ Aside0 (message_Check.j3 kq x3_1 = some r) ∧ Aside0 (kq ≤ k) ∧ Aside0 (Below w.heap.size w wc))
 case first =>
  have H := HC2.out
  clear HC2
  by_cases c5 : a0_0 = 1
  ·rw [if_pos c5] at H
   have c5b0 := be_ c5
   have c5b1 := bg_ c5
   clear c5
   (first | rw [c5b0] | (simp only [i64_w, i32_w]; rw [c5b0]) | skip)
   by_cases c6 : a0_1 > 0
   ·rw [if_pos c6] at H
    have c6b0 := decide_eq_true c6
    clear c6
    by_cases c7 : a0_3 = 0
    ·rw [if_pos c7] at H
     have c7b0 := be_ c7
     have c7b1 := bg_ c7
     clear c7
     by_cases c8 : (l0_4.length : Int) = 0
     ·rw [if_pos c8] at H
      have c8b0 := be_ c8
      have c8b1 := bg_ c8
      clear c8
      replace H := bs_ H; obtain ⟨t137, A9, H⟩ := H
      have H' := Aside0.mk H
      clear H
      obtain ⟨hcz10_0, hcz10_1, hcz10_2, hcz10_3, hcz10_4, hcz10_5, hcz10_6, hcz10_7, hcz10_8, hcz10_9, hcz10_10, hcz10_11, hcz10_12, hcz10_13, hcz10_14, hcz10_15, hcz10_16, hfz10_0, hfz10_1, hfz10_2, hfz10_3, hfz10_4, hfz10_5, hfz10_6, hfz10_7, hfz10_8, hfz10_9, hfz10_10, hfz10_11, hfz10_12, hfz10_13, hfz10_14, hfz10_15, hfz10_16⟩ := cz17 BK136.out
      go_wp2_with (first | (go_at_call 140; (with_reducible refine (message_none.calls a0_5 a0_6 a0_7 a0_8 a0_9 a0_10 a0_11 a0_12 a0_13 a0_14 a0_15 a0_16 t137 _ A9.out).mono ?_); rintro e w11 ⟨rfl, hb⟩; have n0_ := Aside0.mk (blk_below (g := gb136) (o := .cells #[.int .i64 a0_0, .int .u64 a0_1, .int .u64 a0_2, .int .u64 a0_3, .slice A0_4 l0_4.length c0_4, .int .i64 a0_5, .int .i64 a0_6, .int .i64 a0_7, .int .i64 a0_8, .int .i64 a0_9, .int .i64 a0_10, .int .u64 a0_11, .int .i64 a0_12, .string a0_13, .int .i64 a0_14, .int .i64 a0_15, .string a0_16] 118 (0, 0)) (kp BK136.out) hb); have n1_ := Aside0.mk (below_step (fb1 GE136) hb); clear BK136; clear HB; have BK136 := n0_; have HB := n1_; clear n0_ n1_; (try clear hb)))
      go_meet
      case rel => exact ⟨_, (t137), fz, H', ⟨fl⟩, ⟨fb1 GE136⟩⟩
     ·rw [if_neg c8] at H
      have c8b0 := bh_ c8
      have c8b1 := bi_ c8
      have c8b2 : ¬ (l0_4 = []) := fun h_ => c8 (by rw [h_]; rfl)
      have H' := Aside0.mk H
      clear H
      obtain ⟨hcz12_0, hcz12_1, hcz12_2, hcz12_3, hcz12_4, hcz12_5, hcz12_6, hcz12_7, hcz12_8, hcz12_9, hcz12_10, hcz12_11, hcz12_12, hcz12_13, hcz12_14, hcz12_15, hcz12_16, hfz12_0, hfz12_1, hfz12_2, hfz12_3, hfz12_4, hfz12_5, hfz12_6, hfz12_7, hfz12_8, hfz12_9, hfz12_10, hfz12_11, hfz12_12, hfz12_13, hfz12_14, hfz12_15, hfz12_16⟩ := cz17 BK136.out
      go_wp2
      go_meet
      case rel => exact ⟨_, (false), fz, H', ⟨fl⟩, ⟨fb1 GE136⟩⟩
    ·rw [if_neg c7] at H
     have c7b0 := bh_ c7
     have c7b1 := bi_ c7
     have H' := Aside0.mk H
     clear H
     obtain ⟨hcz13_0, hcz13_1, hcz13_2, hcz13_3, hcz13_4, hcz13_5, hcz13_6, hcz13_7, hcz13_8, hcz13_9, hcz13_10, hcz13_11, hcz13_12, hcz13_13, hcz13_14, hcz13_15, hcz13_16, hfz13_0, hfz13_1, hfz13_2, hfz13_3, hfz13_4, hfz13_5, hfz13_6, hfz13_7, hfz13_8, hfz13_9, hfz13_10, hfz13_11, hfz13_12, hfz13_13, hfz13_14, hfz13_15, hfz13_16⟩ := cz17 BK136.out
     go_wp2
     go_meet
     case rel => exact ⟨_, (false), fz, H', ⟨fl⟩, ⟨fb1 GE136⟩⟩
   ·rw [if_neg c6] at H
    have c6b0 := decide_eq_false c6
    clear c6
    have H' := Aside0.mk H
    clear H
    obtain ⟨hcz14_0, hcz14_1, hcz14_2, hcz14_3, hcz14_4, hcz14_5, hcz14_6, hcz14_7, hcz14_8, hcz14_9, hcz14_10, hcz14_11, hcz14_12, hcz14_13, hcz14_14, hcz14_15, hcz14_16, hfz14_0, hfz14_1, hfz14_2, hfz14_3, hfz14_4, hfz14_5, hfz14_6, hfz14_7, hfz14_8, hfz14_9, hfz14_10, hfz14_11, hfz14_12, hfz14_13, hfz14_14, hfz14_15, hfz14_16⟩ := cz17 BK136.out
    go_wp2
    go_meet
    case rel => exact ⟨_, (false), fz, H', ⟨fl⟩, ⟨fb1 GE136⟩⟩
  ·rw [if_neg c5] at H
   have c5b0 := bh_ c5
   have c5b1 := bi_ c5
   (first | rw [c5b0] | (simp only [i64_w, i32_w]; rw [c5b0]) | skip)
   have HC15 := Aside0.mk H
   clear H
   go_upto_if 29 with (fail)
   go_cut [29] (fun v29 wc => ∃ (kq : Nat) (x29_14 : Bool), v29 = .bool x29_14 ∧ Aside0 (message_Check.j0 kq false a0_0 x29_14 a0_0 a0_1 a0_2 a0_3 l0_4 a0_5 a0_6 a0_7 a0_8 a0_9 a0_10 a0_11 a0_12 a0_13 a0_14 a0_15 a0_16 = some r) ∧ Aside0 (kq ≤ k) ∧ Aside0 (wc.heap[gb136]? = some (.cells #[.int .i64 a0_0, .int .u64 a0_1, .int .u64 a0_2, .int .u64 a0_3, (.slice A0_4 l0_4.length c0_4), .int .i64 a0_5, .int .i64 a0_6, .int .i64 a0_7, .int .i64 a0_8, .int .i64 a0_9, .int .i64 a0_10, .int .u64 a0_11, .int .i64 a0_12, .string a0_13, .int .i64 a0_14, .int .i64 a0_15, .string a0_16] 118 (0, 0))) ∧ Aside0 (Below w.heap.size w wc))
   case first =>
    have H := HC15.out
    clear HC15
    by_cases c16 : a0_0 = 2
    ·rw [if_pos c16] at H
     have c16b0 := be_ c16
     have c16b1 := bg_ c16
     clear c16
     (first | rw [c16b0] | (simp only [i64_w, i32_w]; rw [c16b0]) | skip)
     have H' := Aside0.mk H
     clear H
     go_wp2
     go_meet
     case rel => exact ⟨_, ((a0_0 == 2)), fz, H', ⟨fl⟩, ⟨kp BK136.out⟩, ⟨fb1 GE136⟩⟩
    ·rw [if_neg c16] at H
     have c16b0 := bh_ c16
     have c16b1 := bi_ c16
     (first | rw [c16b0] | (simp only [i64_w, i32_w]; rw [c16b0]) | skip)
     have H' := Aside0.mk H
     clear H
     go_wp2
     go_meet
     case rel => exact ⟨_, ((a0_0 == 3)), fz, H', ⟨fl⟩, ⟨kp BK136.out⟩, ⟨fb1 GE136⟩⟩
   case rest =>
    clear HC15
    (try clear c5); (try clear c5b0); (try clear c5b1); (try clear hcz4_0); (try clear hcz4_1); (try clear hcz4_10); (try clear hcz4_11); (try clear hcz4_12); (try clear hcz4_13); (try clear hcz4_14); (try clear hcz4_15); (try clear hcz4_16); (try clear hcz4_2); (try clear hcz4_3); (try clear hcz4_4); (try clear hcz4_5); (try clear hcz4_6); (try clear hcz4_7); (try clear hcz4_8); (try clear hcz4_9); (try clear hfz4_0); (try clear hfz4_1); (try clear hfz4_10); (try clear hfz4_11); (try clear hfz4_12); (try clear hfz4_13); (try clear hfz4_14); (try clear hfz4_15); (try clear hfz4_16); (try clear hfz4_2); (try clear hfz4_3); (try clear hfz4_4); (try clear hfz4_5); (try clear hfz4_6); (try clear hfz4_7); (try clear hfz4_8); (try clear hfz4_9)
    obtain ⟨kq, x29_14, rfl, HA, HJ14, BK136, HB⟩ := hcut
    cases kq with
    | zero => exact absurd HA.out (by simp [message_Check.j0])
    | succ kj14 =>
     have H := HA.out
     clear HA
     simp only [message_Check.j0] at H
     by_cases c17 : x29_14 = true
     ·subst c17
      rw [if_pos rfl] at H
      have HC18 := Aside0.mk H
      clear H
      go_upto_region 7 with (fail)
      go_cut [3] (fun v3 wc => ∃ (kq : Nat) (x3_17 : Bool), v3 = .bool x3_17 ∧ Aside0 (message_Check.j1 kq x3_17 a0_0 a0_1 a0_2 a0_3 l0_4 a0_5 a0_6 a0_7 a0_8 a0_9 a0_10 a0_11 a0_12 a0_13 a0_14 a0_15 a0_16 = some r) ∧ Aside0 (kq ≤ kj14) ∧ Aside0 (wc.heap[gb136]? = some (.cells #[.int .i64 a0_0, .int .u64 a0_1, .int .u64 a0_2, .int .u64 a0_3, (.slice A0_4 l0_4.length c0_4), .int .i64 a0_5, .int .i64 a0_6, .int .i64 a0_7, .int .i64 a0_8, .int .i64 a0_9, .int .i64 a0_10, .int .u64 a0_11, .int .i64 a0_12, .string a0_13, .int .i64 a0_14, .int .i64 a0_15, .string a0_16] 118 (0, 0))) ∧ Aside0 (Below w.heap.size w wc))
      case first =>
       have H := HC18.out
       clear HC18
       by_cases c19 : a0_1 > 0
       ·rw [if_pos c19] at H
        have c19b0 := decide_eq_true c19
        clear c19
        (first | rw [c19b0] | (simp only [i64_w, i32_w]; rw [c19b0]) | skip)
        by_cases c20 : a0_2 > 0
        ·rw [if_pos c20] at H
         have c20b0 := decide_eq_true c20
         clear c20
         by_cases c21 : a0_3 > 0
         ·rw [if_pos c21] at H
          have c21b0 := decide_eq_true c21
          clear c21
          replace H := bs_ H; obtain ⟨t138, A22, H⟩ := H
          by_cases c23 : t138 = true
          ·subst c23
           rw [if_pos rfl] at H
           by_cases c24 : (l0_4.length : Int) ≤ 512
           ·rw [if_pos c24] at H
            have c24b0 := decide_eq_true c24
            have c24b1 : decide (l0_4.length ≤ 512) = true := decide_eq_true (by omega)
            clear c24
            by_cases c25 : a0_0 = 2
            ·rw [if_pos c25] at H
             have c25b0 := be_ c25
             have c25b1 := bg_ c25
             clear c25
             have H' := Aside0.mk H
             clear H
             obtain ⟨hcz26_0, hcz26_1, hcz26_2, hcz26_3, hcz26_4, hcz26_5, hcz26_6, hcz26_7, hcz26_8, hcz26_9, hcz26_10, hcz26_11, hcz26_12, hcz26_13, hcz26_14, hcz26_15, hcz26_16, hfz26_0, hfz26_1, hfz26_2, hfz26_3, hfz26_4, hfz26_5, hfz26_6, hfz26_7, hfz26_8, hfz26_9, hfz26_10, hfz26_11, hfz26_12, hfz26_13, hfz26_14, hfz26_15, hfz26_16⟩ := cz17 BK136.out
             go_wp2_with (first | (go_at_call 140; (with_reducible refine (message_none.calls a0_5 a0_6 a0_7 a0_8 a0_9 a0_10 a0_11 a0_12 a0_13 a0_14 a0_15 a0_16 true _ A22.out).mono ?_); rintro e w27 ⟨rfl, hb⟩; have n0_ := Aside0.mk (blk_below (g := gb136) (o := .cells #[.int .i64 a0_0, .int .u64 a0_1, .int .u64 a0_2, .int .u64 a0_3, .slice A0_4 l0_4.length c0_4, .int .i64 a0_5, .int .i64 a0_6, .int .i64 a0_7, .int .i64 a0_8, .int .i64 a0_9, .int .i64 a0_10, .int .u64 a0_11, .int .i64 a0_12, .string a0_13, .int .i64 a0_14, .int .i64 a0_15, .string a0_16] 118 (0, 0)) (kp BK136.out) hb); have n1_ := Aside0.mk (below_step (fb1 GE136) hb); clear BK136; clear HB; have BK136 := n0_; have HB := n1_; clear n0_ n1_; (try clear hb); obtain ⟨hcz28_0, hcz28_1, hcz28_2, hcz28_3, hcz28_4, hcz28_5, hcz28_6, hcz28_7, hcz28_8, hcz28_9, hcz28_10, hcz28_11, hcz28_12, hcz28_13, hcz28_14, hcz28_15, hcz28_16, hfz28_0, hfz28_1, hfz28_2, hfz28_3, hfz28_4, hfz28_5, hfz28_6, hfz28_7, hfz28_8, hfz28_9, hfz28_10, hfz28_11, hfz28_12, hfz28_13, hfz28_14, hfz28_15, hfz28_16⟩ := cz17 BK136.out))
             go_meet
             case rel => exact ⟨_, (true), fz, H', ⟨by have := HJ14.out; exact fl⟩, ⟨kp BK136.out⟩, ⟨fb1 GE136⟩⟩
            ·rw [if_neg c25] at H
             have c25b0 := bh_ c25
             have c25b1 := bi_ c25
             have H' := Aside0.mk H
             clear H
             obtain ⟨hcz29_0, hcz29_1, hcz29_2, hcz29_3, hcz29_4, hcz29_5, hcz29_6, hcz29_7, hcz29_8, hcz29_9, hcz29_10, hcz29_11, hcz29_12, hcz29_13, hcz29_14, hcz29_15, hcz29_16, hfz29_0, hfz29_1, hfz29_2, hfz29_3, hfz29_4, hfz29_5, hfz29_6, hfz29_7, hfz29_8, hfz29_9, hfz29_10, hfz29_11, hfz29_12, hfz29_13, hfz29_14, hfz29_15, hfz29_16⟩ := cz17 BK136.out
             go_wp2_with (first | (go_at_call 140; (with_reducible refine (message_none.calls a0_5 a0_6 a0_7 a0_8 a0_9 a0_10 a0_11 a0_12 a0_13 a0_14 a0_15 a0_16 true _ A22.out).mono ?_); rintro e w30 ⟨rfl, hb⟩; have n0_ := Aside0.mk (blk_below (g := gb136) (o := .cells #[.int .i64 a0_0, .int .u64 a0_1, .int .u64 a0_2, .int .u64 a0_3, .slice A0_4 l0_4.length c0_4, .int .i64 a0_5, .int .i64 a0_6, .int .i64 a0_7, .int .i64 a0_8, .int .i64 a0_9, .int .i64 a0_10, .int .u64 a0_11, .int .i64 a0_12, .string a0_13, .int .i64 a0_14, .int .i64 a0_15, .string a0_16] 118 (0, 0)) (kp BK136.out) hb); have n1_ := Aside0.mk (below_step (fb1 GE136) hb); clear BK136; clear HB; have BK136 := n0_; have HB := n1_; clear n0_ n1_; (try clear hb); obtain ⟨hcz31_0, hcz31_1, hcz31_2, hcz31_3, hcz31_4, hcz31_5, hcz31_6, hcz31_7, hcz31_8, hcz31_9, hcz31_10, hcz31_11, hcz31_12, hcz31_13, hcz31_14, hcz31_15, hcz31_16, hfz31_0, hfz31_1, hfz31_2, hfz31_3, hfz31_4, hfz31_5, hfz31_6, hfz31_7, hfz31_8, hfz31_9, hfz31_10, hfz31_11, hfz31_12, hfz31_13, hfz31_14, hfz31_15, hfz31_16⟩ := cz17 BK136.out))
             go_meet
             case rel => exact ⟨_, (((l0_4.length : Int) == 0)), fz, H', ⟨by have := HJ14.out; exact fl⟩, ⟨kp BK136.out⟩, ⟨fb1 GE136⟩⟩
           ·rw [if_neg c24] at H
            have c24b0 := decide_eq_false c24
            have c24b1 : decide (l0_4.length ≤ 512) = false := decide_eq_false (by omega)
            clear c24
            have H' := Aside0.mk H
            clear H
            obtain ⟨hcz32_0, hcz32_1, hcz32_2, hcz32_3, hcz32_4, hcz32_5, hcz32_6, hcz32_7, hcz32_8, hcz32_9, hcz32_10, hcz32_11, hcz32_12, hcz32_13, hcz32_14, hcz32_15, hcz32_16, hfz32_0, hfz32_1, hfz32_2, hfz32_3, hfz32_4, hfz32_5, hfz32_6, hfz32_7, hfz32_8, hfz32_9, hfz32_10, hfz32_11, hfz32_12, hfz32_13, hfz32_14, hfz32_15, hfz32_16⟩ := cz17 BK136.out
            go_wp2_with (first | (go_at_call 140; (with_reducible refine (message_none.calls a0_5 a0_6 a0_7 a0_8 a0_9 a0_10 a0_11 a0_12 a0_13 a0_14 a0_15 a0_16 true _ A22.out).mono ?_); rintro e w33 ⟨rfl, hb⟩; have n0_ := Aside0.mk (blk_below (g := gb136) (o := .cells #[.int .i64 a0_0, .int .u64 a0_1, .int .u64 a0_2, .int .u64 a0_3, .slice A0_4 l0_4.length c0_4, .int .i64 a0_5, .int .i64 a0_6, .int .i64 a0_7, .int .i64 a0_8, .int .i64 a0_9, .int .i64 a0_10, .int .u64 a0_11, .int .i64 a0_12, .string a0_13, .int .i64 a0_14, .int .i64 a0_15, .string a0_16] 118 (0, 0)) (kp BK136.out) hb); have n1_ := Aside0.mk (below_step (fb1 GE136) hb); clear BK136; clear HB; have BK136 := n0_; have HB := n1_; clear n0_ n1_; (try clear hb); obtain ⟨hcz34_0, hcz34_1, hcz34_2, hcz34_3, hcz34_4, hcz34_5, hcz34_6, hcz34_7, hcz34_8, hcz34_9, hcz34_10, hcz34_11, hcz34_12, hcz34_13, hcz34_14, hcz34_15, hcz34_16, hfz34_0, hfz34_1, hfz34_2, hfz34_3, hfz34_4, hfz34_5, hfz34_6, hfz34_7, hfz34_8, hfz34_9, hfz34_10, hfz34_11, hfz34_12, hfz34_13, hfz34_14, hfz34_15, hfz34_16⟩ := cz17 BK136.out))
            go_meet
            case rel => exact ⟨_, (false), fz, H', ⟨by have := HJ14.out; exact fl⟩, ⟨kp BK136.out⟩, ⟨fb1 GE136⟩⟩
          ·obtain rfl := bf_ c23
           rw [if_neg nf_] at H
           have H' := Aside0.mk H
           clear H
           obtain ⟨hcz35_0, hcz35_1, hcz35_2, hcz35_3, hcz35_4, hcz35_5, hcz35_6, hcz35_7, hcz35_8, hcz35_9, hcz35_10, hcz35_11, hcz35_12, hcz35_13, hcz35_14, hcz35_15, hcz35_16, hfz35_0, hfz35_1, hfz35_2, hfz35_3, hfz35_4, hfz35_5, hfz35_6, hfz35_7, hfz35_8, hfz35_9, hfz35_10, hfz35_11, hfz35_12, hfz35_13, hfz35_14, hfz35_15, hfz35_16⟩ := cz17 BK136.out
           go_wp2_with (first | (go_at_call 140; (with_reducible refine (message_none.calls a0_5 a0_6 a0_7 a0_8 a0_9 a0_10 a0_11 a0_12 a0_13 a0_14 a0_15 a0_16 false _ A22.out).mono ?_); rintro e w36 ⟨rfl, hb⟩; have n0_ := Aside0.mk (blk_below (g := gb136) (o := .cells #[.int .i64 a0_0, .int .u64 a0_1, .int .u64 a0_2, .int .u64 a0_3, .slice A0_4 l0_4.length c0_4, .int .i64 a0_5, .int .i64 a0_6, .int .i64 a0_7, .int .i64 a0_8, .int .i64 a0_9, .int .i64 a0_10, .int .u64 a0_11, .int .i64 a0_12, .string a0_13, .int .i64 a0_14, .int .i64 a0_15, .string a0_16] 118 (0, 0)) (kp BK136.out) hb); have n1_ := Aside0.mk (below_step (fb1 GE136) hb); clear BK136; clear HB; have BK136 := n0_; have HB := n1_; clear n0_ n1_; (try clear hb)))
           go_meet
           case rel => exact ⟨_, (false), fz, H', ⟨by have := HJ14.out; exact fl⟩, ⟨kp BK136.out⟩, ⟨fb1 GE136⟩⟩
         ·rw [if_neg c21] at H
          have c21b0 := decide_eq_false c21
          clear c21
          have H' := Aside0.mk H
          clear H
          obtain ⟨hcz37_0, hcz37_1, hcz37_2, hcz37_3, hcz37_4, hcz37_5, hcz37_6, hcz37_7, hcz37_8, hcz37_9, hcz37_10, hcz37_11, hcz37_12, hcz37_13, hcz37_14, hcz37_15, hcz37_16, hfz37_0, hfz37_1, hfz37_2, hfz37_3, hfz37_4, hfz37_5, hfz37_6, hfz37_7, hfz37_8, hfz37_9, hfz37_10, hfz37_11, hfz37_12, hfz37_13, hfz37_14, hfz37_15, hfz37_16⟩ := cz17 BK136.out
          go_wp2
          go_meet
          case rel => exact ⟨_, (false), fz, H', ⟨by have := HJ14.out; exact fl⟩, ⟨kp BK136.out⟩, ⟨fb1 GE136⟩⟩
        ·rw [if_neg c20] at H
         have c20b0 := decide_eq_false c20
         clear c20
         have H' := Aside0.mk H
         clear H
         obtain ⟨hcz38_0, hcz38_1, hcz38_2, hcz38_3, hcz38_4, hcz38_5, hcz38_6, hcz38_7, hcz38_8, hcz38_9, hcz38_10, hcz38_11, hcz38_12, hcz38_13, hcz38_14, hcz38_15, hcz38_16, hfz38_0, hfz38_1, hfz38_2, hfz38_3, hfz38_4, hfz38_5, hfz38_6, hfz38_7, hfz38_8, hfz38_9, hfz38_10, hfz38_11, hfz38_12, hfz38_13, hfz38_14, hfz38_15, hfz38_16⟩ := cz17 BK136.out
         go_wp2
         go_meet
         case rel => exact ⟨_, (false), fz, H', ⟨by have := HJ14.out; exact fl⟩, ⟨kp BK136.out⟩, ⟨fb1 GE136⟩⟩
       ·rw [if_neg c19] at H
        have c19b0 := decide_eq_false c19
        clear c19
        (first | rw [c19b0] | (simp only [i64_w, i32_w]; rw [c19b0]) | skip)
        have H' := Aside0.mk H
        clear H
        obtain ⟨hcz39_0, hcz39_1, hcz39_2, hcz39_3, hcz39_4, hcz39_5, hcz39_6, hcz39_7, hcz39_8, hcz39_9, hcz39_10, hcz39_11, hcz39_12, hcz39_13, hcz39_14, hcz39_15, hcz39_16, hfz39_0, hfz39_1, hfz39_2, hfz39_3, hfz39_4, hfz39_5, hfz39_6, hfz39_7, hfz39_8, hfz39_9, hfz39_10, hfz39_11, hfz39_12, hfz39_13, hfz39_14, hfz39_15, hfz39_16⟩ := cz17 BK136.out
        go_wp2
        go_meet
        case rel => exact ⟨_, (false), fz, H', ⟨by have := HJ14.out; exact fl⟩, ⟨kp BK136.out⟩, ⟨fb1 GE136⟩⟩
      case rest =>
       clear HC18
       (try clear c5); (try clear c5b0); (try clear c5b1); (try clear c17); (try clear hcz4_0); (try clear hcz4_1); (try clear hcz4_10); (try clear hcz4_11); (try clear hcz4_12); (try clear hcz4_13); (try clear hcz4_14); (try clear hcz4_15); (try clear hcz4_16); (try clear hcz4_2); (try clear hcz4_3); (try clear hcz4_4); (try clear hcz4_5); (try clear hcz4_6); (try clear hcz4_7); (try clear hcz4_8); (try clear hcz4_9); (try clear hfz4_0); (try clear hfz4_1); (try clear hfz4_10); (try clear hfz4_11); (try clear hfz4_12); (try clear hfz4_13); (try clear hfz4_14); (try clear hfz4_15); (try clear hfz4_16); (try clear hfz4_2); (try clear hfz4_3); (try clear hfz4_4); (try clear hfz4_5); (try clear hfz4_6); (try clear hfz4_7); (try clear hfz4_8); (try clear hfz4_9)
       obtain ⟨kq, x3_17, rfl, HA, HJ17, BK136, HB⟩ := hcut
       cases kq with
       | zero => exact absurd HA.out (by simp [message_Check.j1])
       | succ kj17 =>
        have H := HA.out
        clear HA
        simp only [message_Check.j1] at H
        have H' := Aside0.mk H
        clear H
        obtain ⟨hcz40_0, hcz40_1, hcz40_2, hcz40_3, hcz40_4, hcz40_5, hcz40_6, hcz40_7, hcz40_8, hcz40_9, hcz40_10, hcz40_11, hcz40_12, hcz40_13, hcz40_14, hcz40_15, hcz40_16, hfz40_0, hfz40_1, hfz40_2, hfz40_3, hfz40_4, hfz40_5, hfz40_6, hfz40_7, hfz40_8, hfz40_9, hfz40_10, hfz40_11, hfz40_12, hfz40_13, hfz40_14, hfz40_15, hfz40_16⟩ := cz17 BK136.out
        go_wp2
        go_loopg [3, 70] kj17 (fun kq v3 v70 w' => ∃ (x3_3 : Bool) (x70_3 : Int), v3 = .bool x3_3 ∧ v70 = .int .i64 x70_3 ∧ Aside0 (message_Check.l0 kq x3_3 l0_4 (l0_4.length : Int) x70_3 a0_0 a0_1 a0_2 a0_3 l0_4 a0_5 a0_6 a0_7 a0_8 a0_9 a0_10 a0_11 a0_12 a0_13 a0_14 a0_15 a0_16 = some r) ∧ Aside0 (kq ≤ kj17) ∧ Aside0 (w'.heap[gb136]? = some (.cells #[.int .i64 a0_0, .int .u64 a0_1, .int .u64 a0_2, .int .u64 a0_3, (.slice A0_4 l0_4.length c0_4), .int .i64 a0_5, .int .i64 a0_6, .int .i64 a0_7, .int .i64 a0_8, .int .i64 a0_9, .int .i64 a0_10, .int .u64 a0_11, .int .i64 a0_12, .string a0_13, .int .i64 a0_14, .int .i64 a0_15, .string a0_16] 118 (0, 0))) ∧ Aside0 (Below w.heap.size w w'))
        case atStart => exact ⟨(x3_17), (0), fz, fz, H', ⟨Nat.le_refl _⟩, ⟨kp BK136.out⟩, ⟨fb1 GE136⟩⟩
        case round =>
         clear H'
         (try clear c5); (try clear c5b0); (try clear c5b1); (try clear c17); (try clear hcz40_0); (try clear hcz40_1); (try clear hcz40_10); (try clear hcz40_11); (try clear hcz40_12); (try clear hcz40_13); (try clear hcz40_14); (try clear hcz40_15); (try clear hcz40_16); (try clear hcz40_2); (try clear hcz40_3); (try clear hcz40_4); (try clear hcz40_5); (try clear hcz40_6); (try clear hcz40_7); (try clear hcz40_8); (try clear hcz40_9); (try clear hcz4_0); (try clear hcz4_1); (try clear hcz4_10); (try clear hcz4_11); (try clear hcz4_12); (try clear hcz4_13); (try clear hcz4_14); (try clear hcz4_15); (try clear hcz4_16); (try clear hcz4_2); (try clear hcz4_3); (try clear hcz4_4); (try clear hcz4_5); (try clear hcz4_6); (try clear hcz4_7); (try clear hcz4_8); (try clear hcz4_9); (try clear hfz40_0); (try clear hfz40_1); (try clear hfz40_10); (try clear hfz40_11); (try clear hfz40_12); (try clear hfz40_13); (try clear hfz40_14); (try clear hfz40_15); (try clear hfz40_16); (try clear hfz40_2); (try clear hfz40_3); (try clear hfz40_4); (try clear hfz40_5); (try clear hfz40_6); (try clear hfz40_7); (try clear hfz40_8); (try clear hfz40_9); (try clear hfz4_0); (try clear hfz4_1); (try clear hfz4_10); (try clear hfz4_11); (try clear hfz4_12); (try clear hfz4_13); (try clear hfz4_14); (try clear hfz4_15); (try clear hfz4_16); (try clear hfz4_2); (try clear hfz4_3); (try clear hfz4_4); (try clear hfz4_5); (try clear hfz4_6); (try clear hfz4_7); (try clear hfz4_8); (try clear hfz4_9)
         obtain ⟨x3_3, x70_3, rfl, rfl, HA, HK3, BK136, HB⟩ := hrel
         cases gk with
         | zero => exact absurd HA.out (by simp [message_Check.l0])
         | succ k3 =>
          have H := HA.out
          clear HA
          simp only [message_Check.l0] at H
          by_cases c41 : x70_3 < (l0_4.length : Int)
          ·rw [if_pos c41] at H
           have c41b0 := decide_eq_true c41
           clear c41
           by_cases c42 : 0 ≤ x70_3
           ·rw [if_pos c42] at H
            have c42b0 := decide_eq_true c42
            clear c42
            by_cases c43 : x70_3 < (l0_4.length : Int)
            ·rw [if_pos c43] at H
             have c43b0 := decide_eq_true c43
             clear c43
             by_cases c44 : x3_3 = true
             ·subst c44
              rw [if_pos rfl] at H
              replace H := bs_ H; obtain ⟨t141, A45, H⟩ := H
              by_cases c46 : t141 = true
              ·subst c46
               rw [if_pos rfl] at H
               by_cases c47 : x70_3 = 0
               ·rw [if_pos c47] at H
                have c47b0 := be_ c47
                have c47b1 := bg_ c47
                clear c47
                have H' := Aside0.mk H
                clear H
                have p139 : 0 ≤ (x70_3 : Int) := of_decide_eq_true (by first | (with_reducible assumption) | assumption)
                have q139 : x70_3 < (l0_4.length : Int) := of_decide_eq_true (by first | (with_reducible assumption) | assumption)
                obtain ⟨ad139, e139, hx139_0, hx139_1, hx139_2, hx139_3, hx139_4⟩ := at_T56 HR0_4.out x70_3 p139 q139
                cases e139
                replace hx139_0 := pw_cell_below HB.out hx139_0
                replace hx139_1 := pw_cell_below HB.out hx139_1
                replace hx139_2 := pw_cell_below HB.out hx139_2
                replace hx139_3 := pw_cell_below HB.out hx139_3
                replace hx139_4 := pw_cell_below HB.out hx139_4
                replace p139 := eq_true p139
                replace q139 := eq_true q139
                try go_wp2_with (first | ((with_reducible refine gate_dst (N := 5) rfl ?_); (try (refine gate_guard (by rfl) ?_; dsimp only)); refine bz_ (N := 5) #[.int .i64 0, .int .i64 0, .float .f64 0, .float .f64 0, .int .i64 0] 56 ?_; intro gb140 hg w48 hbox hb; have n0_ := Aside0.mk (blk_below (g := gb136) (o := .cells #[.int .i64 a0_0, .int .u64 a0_1, .int .u64 a0_2, .int .u64 a0_3, .slice (some ad139) l0_4.length c0_4, .int .i64 a0_5, .int .i64 a0_6, .int .i64 a0_7, .int .i64 a0_8, .int .i64 a0_9, .int .i64 a0_10, .int .u64 a0_11, .int .i64 a0_12, .string a0_13, .int .i64 a0_14, .int .i64 a0_15, .string a0_16] 118 (0, 0)) (kp BK136.out) hb); have n1_ := Aside0.mk (below_step (fb1 GE136) hb); have n2_ := Aside0.mk (hbox); have n3_ := Aside0.mk ((by rw [hg]; exact (below_size (fb1 GE136)) : w.heap.size ≤ gb140)); have n4_ := Aside0.mk ((by rw [hg]; exact (below_size (fb1 GE136)) : w.heap.size ≤ gb140)); have n5_ := Aside0.mk ((by rw [hg]; exact Nat.ne_of_lt (blk_lt (g := gb136) (o := .cells #[.int .i64 a0_0, .int .u64 a0_1, .int .u64 a0_2, .int .u64 a0_3, .slice (some ad139) l0_4.length c0_4, .int .i64 a0_5, .int .i64 a0_6, .int .i64 a0_7, .int .i64 a0_8, .int .i64 a0_9, .int .i64 a0_10, .int .u64 a0_11, .int .i64 a0_12, .string a0_13, .int .i64 a0_14, .int .i64 a0_15, .string a0_16] 118 (0, 0)) (kp BK136.out)) : gb136 ≠ gb140)); have n6_ := Aside0.mk ((by rw [hg]; exact Nat.ne_of_gt (blk_lt (g := gb136) (o := .cells #[.int .i64 a0_0, .int .u64 a0_1, .int .u64 a0_2, .int .u64 a0_3, .slice (some ad139) l0_4.length c0_4, .int .i64 a0_5, .int .i64 a0_6, .int .i64 a0_7, .int .i64 a0_8, .int .i64 a0_9, .int .i64 a0_10, .int .u64 a0_11, .int .i64 a0_12, .string a0_13, .int .i64 a0_14, .int .i64 a0_15, .string a0_16] 118 (0, 0)) (kp BK136.out)) : gb140 ≠ gb136)); clear BK136; clear HB; have BK136 := n0_; have HB := n1_; have BK140 := n2_; have GW140 := n3_; have GE140 := n4_; have NB136_140 := n5_; have NB140_136 := n6_; clear n0_ n1_ n2_ n3_ n4_ n5_ n6_; clear hb hbox hg; have hnb49 := NB140_136.out; have hnc49 := NB136_140.out; obtain ⟨hcz50_0, hcz50_1, hcz50_2, hcz50_3, hcz50_4, hfz50_0, hfz50_1, hfz50_2, hfz50_3, hfz50_4⟩ := cz5 BK140.out))
                have n0_ : Aside0 ((((((w48.setCell ⟨gb140, 0, none⟩ (.int .i64 ((rd_T56 l0_4 x70_3).f0))).setCell ⟨gb140, 1, none⟩ (.int .i64 ((rd_T56 l0_4 x70_3).f1))).setCell ⟨gb140, 2, none⟩ (.float .f64 ((rd_T56 l0_4 x70_3).f2))).setCell ⟨gb140, 3, none⟩ (.float .f64 ((rd_T56 l0_4 x70_3).f3))).setCell ⟨gb140, 4, none⟩ (.int .i64 ((rd_T56 l0_4 x70_3).f4))).heap[gb136]? = some (.cells #[.int .i64 a0_0, .int .u64 a0_1, .int .u64 a0_2, .int .u64 a0_3, .slice (some ad139) l0_4.length c0_4, .int .i64 a0_5, .int .i64 a0_6, .int .i64 a0_7, .int .i64 a0_8, .int .i64 a0_9, .int .i64 a0_10, .int .u64 a0_11, .int .i64 a0_12, .string a0_13, .int .i64 a0_14, .int .i64 a0_15, .string a0_16] 118 (0, 0))) := ⟨kp1 NB136_140 BK136.out⟩
                have n1_ : Aside0 ((((((w48.setCell ⟨gb140, 0, none⟩ (.int .i64 ((rd_T56 l0_4 x70_3).f0))).setCell ⟨gb140, 1, none⟩ (.int .i64 ((rd_T56 l0_4 x70_3).f1))).setCell ⟨gb140, 2, none⟩ (.float .f64 ((rd_T56 l0_4 x70_3).f2))).setCell ⟨gb140, 3, none⟩ (.float .f64 ((rd_T56 l0_4 x70_3).f3))).setCell ⟨gb140, 4, none⟩ (.int .i64 ((rd_T56 l0_4 x70_3).f4))).heap[gb140]? = some (.cells #[.int .i64 ((rd_T56 l0_4 x70_3).f0), .int .i64 ((rd_T56 l0_4 x70_3).f1), .float .f64 ((rd_T56 l0_4 x70_3).f2), .float .f64 ((rd_T56 l0_4 x70_3).f3), .int .i64 ((rd_T56 l0_4 x70_3).f4)] 56 (0, 0))) := ⟨kp BK140.out⟩
                have n2_ : Aside0 (Below w.heap.size w (((((w48.setCell ⟨gb140, 0, none⟩ (.int .i64 ((rd_T56 l0_4 x70_3).f0))).setCell ⟨gb140, 1, none⟩ (.int .i64 ((rd_T56 l0_4 x70_3).f1))).setCell ⟨gb140, 2, none⟩ (.float .f64 ((rd_T56 l0_4 x70_3).f2))).setCell ⟨gb140, 3, none⟩ (.float .f64 ((rd_T56 l0_4 x70_3).f3))).setCell ⟨gb140, 4, none⟩ (.int .i64 ((rd_T56 l0_4 x70_3).f4)))) := ⟨fb2 GE136 GE140⟩
                (try clear BK136)
                (try clear BK140)
                (try clear HB)
                generalize (((((w48.setCell ⟨gb140, 0, none⟩ (.int .i64 ((rd_T56 l0_4 x70_3).f0))).setCell ⟨gb140, 1, none⟩ (.int .i64 ((rd_T56 l0_4 x70_3).f1))).setCell ⟨gb140, 2, none⟩ (.float .f64 ((rd_T56 l0_4 x70_3).f2))).setCell ⟨gb140, 3, none⟩ (.float .f64 ((rd_T56 l0_4 x70_3).f3))).setCell ⟨gb140, 4, none⟩ (.int .i64 ((rd_T56 l0_4 x70_3).f4))) = w51 at n0_ n1_ n2_ ⊢
                have BK136 := n0_
                have BK140 := n1_
                have HB := n2_
                clear n0_ n1_ n2_
                have n0_ := Aside0.mk (blk_drew BK136.out)
                have n1_ := Aside0.mk (blk_drew BK140.out)
                have n2_ := Aside0.mk (below_drew1 HB.out)
                clear BK136
                clear BK140
                clear HB
                have BK136 := n0_
                have BK140 := n1_
                have HB := n2_
                clear n0_ n1_ n2_
                refine start_ (n := 20) (S := fun w' => w'.cell? ⟨gb140, 0, none⟩ = some (.int .i64 ((rd_T56 l0_4 x70_3).f0)) ∧ w'.cell? ⟨gb140, 1, none⟩ = some (.int .i64 ((rd_T56 l0_4 x70_3).f1)) ∧ w'.cell? ⟨gb140, 2, none⟩ = some (.float .f64 ((rd_T56 l0_4 x70_3).f2)) ∧ w'.cell? ⟨gb140, 3, none⟩ = some (.float .f64 ((rd_T56 l0_4 x70_3).f3)) ∧ w'.cell? ⟨gb140, 4, none⟩ = some (.int .i64 ((rd_T56 l0_4 x70_3).f4))) (ds := []) (bz 20 0) (by kernel_rfl) rfl rfl ⟨(blk_cell BK140.out 0).trans rfl, (blk_cell BK140.out 1).trans rfl, (blk_cell BK140.out 2).trans rfl, (blk_cell BK140.out 3).trans rfl, (blk_cell BK140.out 4).trans rfl⟩ (fun hHeld => ?_); refine with_tabW message_Check.tab11 message_Check.bits11 (fun HT_ HW_ => ?_)
                generalize w51.drew = w52 at BK136 BK140 HB hHeld ⊢
                refine pu2 0 (some 75) (bz 20 1) ?_
                refine pu2 1 (some 76) (bz 20 3) ?_
                refine tk2 2 (some 77) (bz 20 7) ?_
                refine one_ (i := 3) (N := some 78) (bz 20 15) rfl rfl (one_of HT_.out (by kernel_rfl)) (by decide) (fun K hK => ?_)
                refine goes_ Try.func141 (by kernel_rfl) rfl #[.agg #[.int .i64 ((rd_T56 l0_4 x70_3).f0), .int .i64 ((rd_T56 l0_4 x70_3).f1), .float .f64 ((rd_T56 l0_4 x70_3).f2), .float .f64 ((rd_T56 l0_4 x70_3).f3), .int .i64 ((rd_T56 l0_4 x70_3).f4)]] (by rfl) rfl rfl (by (try simp only [List.map_toArray, List.map_cons, List.map_nil]); first | done | rfl | (simp only [List.length_drop, List.length_take]; rfl)) ?_
                with_reducible refine (message_news.calls k3 ((rd_T56 l0_4 x70_3).f0) ((rd_T56 l0_4 x70_3).f1) ((rd_T56 l0_4 x70_3).f2) ((rd_T56 l0_4 x70_3).f3) ((rd_T56 l0_4 x70_3).f4) true _ A45.out).mono ?_
                rintro e w53 ⟨rfl, hb⟩
                refine ⟨_, rfl, ?_⟩
                have n0_ := Aside0.mk (blk_below (g := gb136) (o := .cells #[.int .i64 a0_0, .int .u64 a0_1, .int .u64 a0_2, .int .u64 a0_3, .slice (some ad139) l0_4.length c0_4, .int .i64 a0_5, .int .i64 a0_6, .int .i64 a0_7, .int .i64 a0_8, .int .i64 a0_9, .int .i64 a0_10, .int .u64 a0_11, .int .i64 a0_12, .string a0_13, .int .i64 a0_14, .int .i64 a0_15, .string a0_16] 118 (0, 0)) (kp BK136.out) hb)
                have n1_ := Aside0.mk (blk_below (g := gb140) (o := .cells #[.int .i64 ((rd_T56 l0_4 x70_3).f0), .int .i64 ((rd_T56 l0_4 x70_3).f1), .float .f64 ((rd_T56 l0_4 x70_3).f2), .float .f64 ((rd_T56 l0_4 x70_3).f3), .int .i64 ((rd_T56 l0_4 x70_3).f4)] 56 (0, 0)) (kp BK140.out) hb)
                have n2_ := Aside0.mk (below_step (fb2 GE136 GE140) hb)
                clear BK136
                clear BK140
                clear HB
                have BK136 := n0_
                have BK140 := n1_
                have HB := n2_
                clear n0_ n1_ n2_
                (try clear hb)
                refine hK.out _ _ ⟨(blk_cell BK140.out 0).trans rfl, (blk_cell BK140.out 1).trans rfl, (blk_cell BK140.out 2).trans rfl, (blk_cell BK140.out 3).trans rfl, (blk_cell BK140.out 4).trans rfl⟩ (fun hHeld => ?_)
                clear hK K
                refine norm_ (a' := ?_) ?_ ?_; rotate_left; show Act.put _ (some 78) _ = _; simp only [Act.put, qa, qb, qc, i64_w, i32_w]; rfl
                refine pu2 4 (some 79) (bz 20 31) ?_
                refine pu2 5 (some 80) (bz 20 63) ?_
                refine pu2 6 (some 81) (bz 20 127) ?_
                refine pu2 7 (some 82) (bz 20 255) ?_
                refine pu2 8 (some 83) (bz 20 511) ?_
                refine pz2 9 (some 84) (bz 20 1023) ?_
                refine pz2 10 (some 85) (bz 20 2047) ?_
                refine pz2 11 (some 86) (bz 20 4095) ?_
                refine pz2 12 (some 87) (bz 20 8191) ?_
                refine pz2 13 (some 88) (bz 20 16383) ?_
                refine pz2 14 (some 89) (bz 20 32767) ?_
                refine pz2 15 (some 90) (bz 20 65535) ?_
                refine pz2 16 (some 91) (bz 20 131071) ?_
                refine pu2 17 (some 92) (bz 20 262143) ?_
                refine pu2 18 (some 93) (bz 20 524287) ?_
                refine pu2 19 (some 3) (bz 20 1048575) ?_
                refine done_ (done_of HT_.out (by kernel_rfl)) ?_
                try go_wp2
                go_roundg k3
                case measure => have := HJ14.out; have := HJ17.out; have := HK3.out; omega
                case rel => exact ⟨(true), (wrap64 (x70_3 + 1)), fz, fz, H', ⟨by have := HJ14.out; have := HJ17.out; have := HK3.out; omega⟩, ⟨kp BK136.out⟩, ⟨fb2 GE136 GE140⟩⟩
               ·rw [if_neg c47] at H
                have c47b0 := bh_ c47
                have c47b1 := bi_ c47
                obtain ⟨ji54, hji54⟩ : ∃ j_ : Int, (wrap64 (x70_3 - 1)) = j_ := ⟨_, rfl⟩
                replace H : (if 0 ≤ (ji54) then (if (ji54) < (l0_4.length : Int) then ((message_ahead.f ((rd_T56 l0_4 (ji54)).f0) ((rd_T56 l0_4 (ji54)).f1) ((rd_T56 l0_4 (ji54)).f2) ((rd_T56 l0_4 (ji54)).f3) ((rd_T56 l0_4 (ji54)).f4) ((rd_T56 l0_4 x70_3).f0) ((rd_T56 l0_4 x70_3).f1) ((rd_T56 l0_4 x70_3).f2) ((rd_T56 l0_4 x70_3).f3) ((rd_T56 l0_4 x70_3).f4)).bind fun t143 => (message_Check.l0 k3 t143 l0_4 (l0_4.length : Int) (wrap64 (x70_3 + 1)) a0_0 a0_1 a0_2 a0_3 l0_4 a0_5 a0_6 a0_7 a0_8 a0_9 a0_10 a0_11 a0_12 a0_13 a0_14 a0_15 a0_16)) else (none)) else (none)) = some r := by first | (rw [hji54] at H; exact H) | (simp only [hji54] at H ⊢; exact H)
                (try rw [hji54] at A45)
                have hji54w : (IntKind.i64.wrap (x70_3 - 1)) = ji54 := (i64_w _).trans hji54
                by_cases c55 : 0 ≤ (ji54)
                ·rw [if_pos c55] at H
                 have c55b0 := decide_eq_true c55
                 clear c55
                 by_cases c56 : (ji54) < (l0_4.length : Int)
                 ·rw [if_pos c56] at H
                  have c56b0 := decide_eq_true c56
                  clear c56
                  replace H := bs_ H; obtain ⟨t143, A57, H⟩ := H
                  have H' := Aside0.mk H
                  clear H
                  have p139 : 0 ≤ (x70_3 : Int) := of_decide_eq_true (by first | (with_reducible assumption) | assumption)
                  have q139 : x70_3 < (l0_4.length : Int) := of_decide_eq_true (by first | (with_reducible assumption) | assumption)
                  obtain ⟨ad139, e139, hx139_0, hx139_1, hx139_2, hx139_3, hx139_4⟩ := at_T56 HR0_4.out x70_3 p139 q139
                  cases e139
                  replace hx139_0 := pw_cell_below HB.out hx139_0
                  replace hx139_1 := pw_cell_below HB.out hx139_1
                  replace hx139_2 := pw_cell_below HB.out hx139_2
                  replace hx139_3 := pw_cell_below HB.out hx139_3
                  replace hx139_4 := pw_cell_below HB.out hx139_4
                  replace p139 := eq_true p139
                  replace q139 := eq_true q139
                  try go_wp2_with (first | ((with_reducible refine gate_dst (N := 5) rfl ?_); (try (refine gate_guard (by rfl) ?_; dsimp only)); refine bz_ (N := 5) #[.int .i64 0, .int .i64 0, .float .f64 0, .float .f64 0, .int .i64 0] 56 ?_; intro gb140 hg w58 hbox hb; have n0_ := Aside0.mk (blk_below (g := gb136) (o := .cells #[.int .i64 a0_0, .int .u64 a0_1, .int .u64 a0_2, .int .u64 a0_3, .slice (some ad139) l0_4.length c0_4, .int .i64 a0_5, .int .i64 a0_6, .int .i64 a0_7, .int .i64 a0_8, .int .i64 a0_9, .int .i64 a0_10, .int .u64 a0_11, .int .i64 a0_12, .string a0_13, .int .i64 a0_14, .int .i64 a0_15, .string a0_16] 118 (0, 0)) (kp BK136.out) hb); have n1_ := Aside0.mk (below_step (fb1 GE136) hb); have n2_ := Aside0.mk (hbox); have n3_ := Aside0.mk ((by rw [hg]; exact (below_size (fb1 GE136)) : w.heap.size ≤ gb140)); have n4_ := Aside0.mk ((by rw [hg]; exact (below_size (fb1 GE136)) : w.heap.size ≤ gb140)); have n5_ := Aside0.mk ((by rw [hg]; exact Nat.ne_of_lt (blk_lt (g := gb136) (o := .cells #[.int .i64 a0_0, .int .u64 a0_1, .int .u64 a0_2, .int .u64 a0_3, .slice (some ad139) l0_4.length c0_4, .int .i64 a0_5, .int .i64 a0_6, .int .i64 a0_7, .int .i64 a0_8, .int .i64 a0_9, .int .i64 a0_10, .int .u64 a0_11, .int .i64 a0_12, .string a0_13, .int .i64 a0_14, .int .i64 a0_15, .string a0_16] 118 (0, 0)) (kp BK136.out)) : gb136 ≠ gb140)); have n6_ := Aside0.mk ((by rw [hg]; exact Nat.ne_of_gt (blk_lt (g := gb136) (o := .cells #[.int .i64 a0_0, .int .u64 a0_1, .int .u64 a0_2, .int .u64 a0_3, .slice (some ad139) l0_4.length c0_4, .int .i64 a0_5, .int .i64 a0_6, .int .i64 a0_7, .int .i64 a0_8, .int .i64 a0_9, .int .i64 a0_10, .int .u64 a0_11, .int .i64 a0_12, .string a0_13, .int .i64 a0_14, .int .i64 a0_15, .string a0_16] 118 (0, 0)) (kp BK136.out)) : gb140 ≠ gb136)); clear BK136; clear HB; have BK136 := n0_; have HB := n1_; have BK140 := n2_; have GW140 := n3_; have GE140 := n4_; have NB136_140 := n5_; have NB140_136 := n6_; clear n0_ n1_ n2_ n3_ n4_ n5_ n6_; clear hb hbox hg; have hnb59 := NB140_136.out; have hnc59 := NB136_140.out; obtain ⟨hcz60_0, hcz60_1, hcz60_2, hcz60_3, hcz60_4, hfz60_0, hfz60_1, hfz60_2, hfz60_3, hfz60_4⟩ := cz5 BK140.out))
                  have n0_ : Aside0 ((((((w58.setCell ⟨gb140, 0, none⟩ (.int .i64 ((rd_T56 l0_4 x70_3).f0))).setCell ⟨gb140, 1, none⟩ (.int .i64 ((rd_T56 l0_4 x70_3).f1))).setCell ⟨gb140, 2, none⟩ (.float .f64 ((rd_T56 l0_4 x70_3).f2))).setCell ⟨gb140, 3, none⟩ (.float .f64 ((rd_T56 l0_4 x70_3).f3))).setCell ⟨gb140, 4, none⟩ (.int .i64 ((rd_T56 l0_4 x70_3).f4))).heap[gb136]? = some (.cells #[.int .i64 a0_0, .int .u64 a0_1, .int .u64 a0_2, .int .u64 a0_3, .slice (some ad139) l0_4.length c0_4, .int .i64 a0_5, .int .i64 a0_6, .int .i64 a0_7, .int .i64 a0_8, .int .i64 a0_9, .int .i64 a0_10, .int .u64 a0_11, .int .i64 a0_12, .string a0_13, .int .i64 a0_14, .int .i64 a0_15, .string a0_16] 118 (0, 0))) := ⟨kp1 NB136_140 BK136.out⟩
                  have n1_ : Aside0 ((((((w58.setCell ⟨gb140, 0, none⟩ (.int .i64 ((rd_T56 l0_4 x70_3).f0))).setCell ⟨gb140, 1, none⟩ (.int .i64 ((rd_T56 l0_4 x70_3).f1))).setCell ⟨gb140, 2, none⟩ (.float .f64 ((rd_T56 l0_4 x70_3).f2))).setCell ⟨gb140, 3, none⟩ (.float .f64 ((rd_T56 l0_4 x70_3).f3))).setCell ⟨gb140, 4, none⟩ (.int .i64 ((rd_T56 l0_4 x70_3).f4))).heap[gb140]? = some (.cells #[.int .i64 ((rd_T56 l0_4 x70_3).f0), .int .i64 ((rd_T56 l0_4 x70_3).f1), .float .f64 ((rd_T56 l0_4 x70_3).f2), .float .f64 ((rd_T56 l0_4 x70_3).f3), .int .i64 ((rd_T56 l0_4 x70_3).f4)] 56 (0, 0))) := ⟨kp BK140.out⟩
                  have n2_ : Aside0 (Below w.heap.size w (((((w58.setCell ⟨gb140, 0, none⟩ (.int .i64 ((rd_T56 l0_4 x70_3).f0))).setCell ⟨gb140, 1, none⟩ (.int .i64 ((rd_T56 l0_4 x70_3).f1))).setCell ⟨gb140, 2, none⟩ (.float .f64 ((rd_T56 l0_4 x70_3).f2))).setCell ⟨gb140, 3, none⟩ (.float .f64 ((rd_T56 l0_4 x70_3).f3))).setCell ⟨gb140, 4, none⟩ (.int .i64 ((rd_T56 l0_4 x70_3).f4)))) := ⟨fb2 GE136 GE140⟩
                  (try clear BK136)
                  (try clear BK140)
                  (try clear HB)
                  generalize (((((w58.setCell ⟨gb140, 0, none⟩ (.int .i64 ((rd_T56 l0_4 x70_3).f0))).setCell ⟨gb140, 1, none⟩ (.int .i64 ((rd_T56 l0_4 x70_3).f1))).setCell ⟨gb140, 2, none⟩ (.float .f64 ((rd_T56 l0_4 x70_3).f2))).setCell ⟨gb140, 3, none⟩ (.float .f64 ((rd_T56 l0_4 x70_3).f3))).setCell ⟨gb140, 4, none⟩ (.int .i64 ((rd_T56 l0_4 x70_3).f4))) = w61 at n0_ n1_ n2_ ⊢
                  have BK136 := n0_
                  have BK140 := n1_
                  have HB := n2_
                  clear n0_ n1_ n2_
                  have n0_ := Aside0.mk (blk_drew BK136.out)
                  have n1_ := Aside0.mk (blk_drew BK140.out)
                  have n2_ := Aside0.mk (below_drew1 HB.out)
                  clear BK136
                  clear BK140
                  clear HB
                  have BK136 := n0_
                  have BK140 := n1_
                  have HB := n2_
                  clear n0_ n1_ n2_
                  have p142 : 0 ≤ ((ji54) : Int) := of_decide_eq_true (by first | (with_reducible assumption) | assumption)
                  have q142 : (ji54) < (l0_4.length : Int) := of_decide_eq_true (by first | (with_reducible assumption) | assumption)
                  obtain ⟨ad142, e142, hx142_0, hx142_1, hx142_2, hx142_3, hx142_4⟩ := at_T56 HR0_4.out (ji54) p142 q142
                  have hw142_4 := hx142_4
                  have hw142_3 := hx142_3
                  have hw142_2 := hx142_2
                  have hw142_1 := hx142_1
                  have hw142_0 := hx142_0
                  obtain rfl : ad139 = ad142 := (by injection e142)
                  replace hx142_0 := pw_cell_below HB.out hx142_0
                  replace hx142_1 := pw_cell_below HB.out hx142_1
                  replace hx142_2 := pw_cell_below HB.out hx142_2
                  replace hx142_3 := pw_cell_below HB.out hx142_3
                  replace hx142_4 := pw_cell_below HB.out hx142_4
                  replace p142 := eq_true p142
                  replace q142 := eq_true q142
                  refine start_ (n := 20) (S := fun w' => w'.cell? ⟨gb140, 0, none⟩ = some (.int .i64 ((rd_T56 l0_4 x70_3).f0)) ∧ w'.cell? ⟨gb140, 1, none⟩ = some (.int .i64 ((rd_T56 l0_4 x70_3).f1)) ∧ w'.cell? ⟨gb140, 2, none⟩ = some (.float .f64 ((rd_T56 l0_4 x70_3).f2)) ∧ w'.cell? ⟨gb140, 3, none⟩ = some (.float .f64 ((rd_T56 l0_4 x70_3).f3)) ∧ w'.cell? ⟨gb140, 4, none⟩ = some (.int .i64 ((rd_T56 l0_4 x70_3).f4)) ∧ w'.cell? ⟨gb136, 0, none⟩ = some (.int .i64 a0_0) ∧ w'.cell? ⟨gb136, 1, none⟩ = some (.int .u64 a0_1) ∧ w'.cell? ⟨gb136, 2, none⟩ = some (.int .u64 a0_2) ∧ w'.cell? ⟨gb136, 3, none⟩ = some (.int .u64 a0_3) ∧ w'.cell? ⟨gb136, 4, none⟩ = some (.slice (some ad139) l0_4.length c0_4) ∧ w'.cell? ⟨gb136, 5, none⟩ = some (.int .i64 a0_5) ∧ w'.cell? ⟨gb136, 6, none⟩ = some (.int .i64 a0_6) ∧ w'.cell? ⟨gb136, 7, none⟩ = some (.int .i64 a0_7) ∧ w'.cell? ⟨gb136, 8, none⟩ = some (.int .i64 a0_8) ∧ w'.cell? ⟨gb136, 9, none⟩ = some (.int .i64 a0_9) ∧ w'.cell? ⟨gb136, 10, none⟩ = some (.int .i64 a0_10) ∧ w'.cell? ⟨gb136, 11, none⟩ = some (.int .u64 a0_11) ∧ w'.cell? ⟨gb136, 12, none⟩ = some (.int .i64 a0_12) ∧ w'.cell? ⟨gb136, 13, none⟩ = some (.string a0_13) ∧ w'.cell? ⟨gb136, 14, none⟩ = some (.int .i64 a0_14) ∧ w'.cell? ⟨gb136, 15, none⟩ = some (.int .i64 a0_15) ∧ w'.cell? ⟨gb136, 16, none⟩ = some (.string a0_16) ∧ w'.cell? (ad139.add (((ji54)).toNat * 5)) = some (.int .i64 ((rd_T56 l0_4 (ji54)).f0)) ∧ w'.cell? ⟨(ad139.add (((ji54)).toNat * 5)).block, (ad139.add (((ji54)).toNat * 5)).off + 1, none⟩ = some (.int .i64 ((rd_T56 l0_4 (ji54)).f1)) ∧ w'.cell? ⟨(ad139.add (((ji54)).toNat * 5)).block, (ad139.add (((ji54)).toNat * 5)).off + 2, none⟩ = some (.float .f64 ((rd_T56 l0_4 (ji54)).f2)) ∧ w'.cell? ⟨(ad139.add (((ji54)).toNat * 5)).block, (ad139.add (((ji54)).toNat * 5)).off + 3, none⟩ = some (.float .f64 ((rd_T56 l0_4 (ji54)).f3)) ∧ w'.cell? ⟨(ad139.add (((ji54)).toNat * 5)).block, (ad139.add (((ji54)).toNat * 5)).off + 4, none⟩ = some (.int .i64 ((rd_T56 l0_4 (ji54)).f4))) (ds := []) (bz 20 0) (by kernel_rfl) rfl rfl ⟨(blk_cell BK140.out 0).trans rfl, (blk_cell BK140.out 1).trans rfl, (blk_cell BK140.out 2).trans rfl, (blk_cell BK140.out 3).trans rfl, (blk_cell BK140.out 4).trans rfl, (blk_cell BK136.out 0).trans rfl, (blk_cell BK136.out 1).trans rfl, (blk_cell BK136.out 2).trans rfl, (blk_cell BK136.out 3).trans rfl, (blk_cell BK136.out 4).trans rfl, (blk_cell BK136.out 5).trans rfl, (blk_cell BK136.out 6).trans rfl, (blk_cell BK136.out 7).trans rfl, (blk_cell BK136.out 8).trans rfl, (blk_cell BK136.out 9).trans rfl, (blk_cell BK136.out 10).trans rfl, (blk_cell BK136.out 11).trans rfl, (blk_cell BK136.out 12).trans rfl, (blk_cell BK136.out 13).trans rfl, (blk_cell BK136.out 14).trans rfl, (blk_cell BK136.out 15).trans rfl, (blk_cell BK136.out 16).trans rfl, ((HB.out.cell (World.block_lt_of_cell? w _ hw142_0)).trans hw142_0), ((HB.out.cell (World.block_lt_of_cell? w _ hw142_1)).trans hw142_1), ((HB.out.cell (World.block_lt_of_cell? w _ hw142_2)).trans hw142_2), ((HB.out.cell (World.block_lt_of_cell? w _ hw142_3)).trans hw142_3), ((HB.out.cell (World.block_lt_of_cell? w _ hw142_4)).trans hw142_4)⟩ (fun hHeld => ?_); refine with_tabW message_Check.tab11 message_Check.bits11 (fun HT_ HW_ => ?_)
                  generalize w61.drew = w62 at BK136 BK140 HB hx142_0 hx142_1 hx142_2 hx142_3 hx142_4 hHeld ⊢
                  refine pu2 0 (some 75) (bz 20 1) ?_
                  refine pu2 1 (some 76) (bz 20 3) ?_
                  refine tk2 2 (some 77) (bz 20 7) ?_
                  refine one_ (i := 3) (N := some 78) (bz 20 15) rfl rfl (one_of HT_.out (by kernel_rfl)) (by decide) (fun K hK => ?_)
                  refine goes_ Try.func141 (by kernel_rfl) rfl #[.agg #[.int .i64 ((rd_T56 l0_4 x70_3).f0), .int .i64 ((rd_T56 l0_4 x70_3).f1), .float .f64 ((rd_T56 l0_4 x70_3).f2), .float .f64 ((rd_T56 l0_4 x70_3).f3), .int .i64 ((rd_T56 l0_4 x70_3).f4)]] (by rfl) rfl rfl (by (try simp only [List.map_toArray, List.map_cons, List.map_nil]); first | done | rfl | (simp only [List.length_drop, List.length_take]; rfl)) ?_
                  with_reducible refine (message_news.calls k3 ((rd_T56 l0_4 x70_3).f0) ((rd_T56 l0_4 x70_3).f1) ((rd_T56 l0_4 x70_3).f2) ((rd_T56 l0_4 x70_3).f3) ((rd_T56 l0_4 x70_3).f4) true _ A45.out).mono ?_
                  rintro e w63 ⟨rfl, hb⟩
                  refine ⟨_, rfl, ?_⟩
                  have n0_ := Aside0.mk (blk_below (g := gb136) (o := .cells #[.int .i64 a0_0, .int .u64 a0_1, .int .u64 a0_2, .int .u64 a0_3, .slice (some ad139) l0_4.length c0_4, .int .i64 a0_5, .int .i64 a0_6, .int .i64 a0_7, .int .i64 a0_8, .int .i64 a0_9, .int .i64 a0_10, .int .u64 a0_11, .int .i64 a0_12, .string a0_13, .int .i64 a0_14, .int .i64 a0_15, .string a0_16] 118 (0, 0)) (kp BK136.out) hb)
                  have n1_ := Aside0.mk (blk_below (g := gb140) (o := .cells #[.int .i64 ((rd_T56 l0_4 x70_3).f0), .int .i64 ((rd_T56 l0_4 x70_3).f1), .float .f64 ((rd_T56 l0_4 x70_3).f2), .float .f64 ((rd_T56 l0_4 x70_3).f3), .int .i64 ((rd_T56 l0_4 x70_3).f4)] 56 (0, 0)) (kp BK140.out) hb)
                  have n2_ := Aside0.mk (below_step (fb2 GE136 GE140) hb)
                  clear BK136
                  clear BK140
                  clear HB
                  have BK136 := n0_
                  have BK140 := n1_
                  have HB := n2_
                  clear n0_ n1_ n2_
                  (try clear hb)
                  refine hK.out _ _ ⟨(blk_cell BK140.out 0).trans rfl, (blk_cell BK140.out 1).trans rfl, (blk_cell BK140.out 2).trans rfl, (blk_cell BK140.out 3).trans rfl, (blk_cell BK140.out 4).trans rfl, (blk_cell BK136.out 0).trans rfl, (blk_cell BK136.out 1).trans rfl, (blk_cell BK136.out 2).trans rfl, (blk_cell BK136.out 3).trans rfl, (blk_cell BK136.out 4).trans rfl, (blk_cell BK136.out 5).trans rfl, (blk_cell BK136.out 6).trans rfl, (blk_cell BK136.out 7).trans rfl, (blk_cell BK136.out 8).trans rfl, (blk_cell BK136.out 9).trans rfl, (blk_cell BK136.out 10).trans rfl, (blk_cell BK136.out 11).trans rfl, (blk_cell BK136.out 12).trans rfl, (blk_cell BK136.out 13).trans rfl, (blk_cell BK136.out 14).trans rfl, (blk_cell BK136.out 15).trans rfl, (blk_cell BK136.out 16).trans rfl, ((HB.out.cell (World.block_lt_of_cell? w _ hw142_0)).trans hw142_0), ((HB.out.cell (World.block_lt_of_cell? w _ hw142_1)).trans hw142_1), ((HB.out.cell (World.block_lt_of_cell? w _ hw142_2)).trans hw142_2), ((HB.out.cell (World.block_lt_of_cell? w _ hw142_3)).trans hw142_3), ((HB.out.cell (World.block_lt_of_cell? w _ hw142_4)).trans hw142_4)⟩ (fun hHeld => ?_)
                  clear hK K
                  refine norm_ (a' := ?_) ?_ ?_; rotate_left; show Act.put _ (some 78) _ = _; simp only [Act.put, qa, qb, qc, i64_w, i32_w]; rfl
                  refine pu2 4 (some 79) (bz 20 31) ?_
                  refine pu2 5 (some 80) (bz 20 63) ?_
                  refine pu2 6 (some 81) (bz 20 127) ?_
                  refine pu2 7 (some 82) (bz 20 255) ?_
                  refine pu2 8 (some 83) (bz 20 511) ?_
                  refine pu2 9 (some 84) (bz 20 1023) ?_
                  refine pu2 11 (some 86) (bz 20 3071) ?_
                  refine pu2 12 (some 87) (bz 20 7167) ?_
                  refine tk2 10 (some 85) (bz 20 8191) ?_
                  refine pu2 13 (some 88) (bz 20 16383) ?_
                  refine tk2 14 (some 89) (bz 20 32767) ?_
                  refine tk2 15 (some 90) (bz 20 65535) ?_
                  refine one_ (i := 16) (N := some 91) (bz 20 131071) rfl rfl (one_of HT_.out (by kernel_rfl)) (by decide) (fun K hK => ?_)
                  refine goes_ Try.func142 (by kernel_rfl) rfl #[.agg #[.int .i64 ((rd_T56 l0_4 (ji54)).f0), .int .i64 ((rd_T56 l0_4 (ji54)).f1), .float .f64 ((rd_T56 l0_4 (ji54)).f2), .float .f64 ((rd_T56 l0_4 (ji54)).f3), .int .i64 ((rd_T56 l0_4 (ji54)).f4)], .agg #[.int .i64 ((rd_T56 l0_4 x70_3).f0), .int .i64 ((rd_T56 l0_4 x70_3).f1), .float .f64 ((rd_T56 l0_4 x70_3).f2), .float .f64 ((rd_T56 l0_4 x70_3).f3), .int .i64 ((rd_T56 l0_4 x70_3).f4)]] (by rfl) rfl rfl (by (try simp only [List.map_toArray, List.map_cons, List.map_nil]); first | done | (simp only [hji54]; rfl) | rfl | (simp only [List.length_drop, List.length_take]; rfl)) ?_
                  with_reducible refine (message_ahead.calls ((rd_T56 l0_4 (ji54)).f0) ((rd_T56 l0_4 (ji54)).f1) ((rd_T56 l0_4 (ji54)).f2) ((rd_T56 l0_4 (ji54)).f3) ((rd_T56 l0_4 (ji54)).f4) ((rd_T56 l0_4 x70_3).f0) ((rd_T56 l0_4 x70_3).f1) ((rd_T56 l0_4 x70_3).f2) ((rd_T56 l0_4 x70_3).f3) ((rd_T56 l0_4 x70_3).f4) t143 _ A57.out).mono ?_
                  rintro e w64 ⟨rfl, hb⟩
                  refine ⟨_, rfl, ?_⟩
                  have n0_ := Aside0.mk (blk_below (g := gb136) (o := .cells #[.int .i64 a0_0, .int .u64 a0_1, .int .u64 a0_2, .int .u64 a0_3, .slice (some ad139) l0_4.length c0_4, .int .i64 a0_5, .int .i64 a0_6, .int .i64 a0_7, .int .i64 a0_8, .int .i64 a0_9, .int .i64 a0_10, .int .u64 a0_11, .int .i64 a0_12, .string a0_13, .int .i64 a0_14, .int .i64 a0_15, .string a0_16] 118 (0, 0)) (kp BK136.out) hb)
                  have n1_ := Aside0.mk (blk_below (g := gb140) (o := .cells #[.int .i64 ((rd_T56 l0_4 x70_3).f0), .int .i64 ((rd_T56 l0_4 x70_3).f1), .float .f64 ((rd_T56 l0_4 x70_3).f2), .float .f64 ((rd_T56 l0_4 x70_3).f3), .int .i64 ((rd_T56 l0_4 x70_3).f4)] 56 (0, 0)) (kp BK140.out) hb)
                  have n2_ := Aside0.mk (below_step (fb2 GE136 GE140) hb)
                  clear BK136
                  clear BK140
                  clear HB
                  have BK136 := n0_
                  have BK140 := n1_
                  have HB := n2_
                  clear n0_ n1_ n2_
                  (try clear hb)
                  refine hK.out _ _ ⟨(blk_cell BK140.out 0).trans rfl, (blk_cell BK140.out 1).trans rfl, (blk_cell BK140.out 2).trans rfl, (blk_cell BK140.out 3).trans rfl, (blk_cell BK140.out 4).trans rfl, (blk_cell BK136.out 0).trans rfl, (blk_cell BK136.out 1).trans rfl, (blk_cell BK136.out 2).trans rfl, (blk_cell BK136.out 3).trans rfl, (blk_cell BK136.out 4).trans rfl, (blk_cell BK136.out 5).trans rfl, (blk_cell BK136.out 6).trans rfl, (blk_cell BK136.out 7).trans rfl, (blk_cell BK136.out 8).trans rfl, (blk_cell BK136.out 9).trans rfl, (blk_cell BK136.out 10).trans rfl, (blk_cell BK136.out 11).trans rfl, (blk_cell BK136.out 12).trans rfl, (blk_cell BK136.out 13).trans rfl, (blk_cell BK136.out 14).trans rfl, (blk_cell BK136.out 15).trans rfl, (blk_cell BK136.out 16).trans rfl, ((HB.out.cell (World.block_lt_of_cell? w _ hw142_0)).trans hw142_0), ((HB.out.cell (World.block_lt_of_cell? w _ hw142_1)).trans hw142_1), ((HB.out.cell (World.block_lt_of_cell? w _ hw142_2)).trans hw142_2), ((HB.out.cell (World.block_lt_of_cell? w _ hw142_3)).trans hw142_3), ((HB.out.cell (World.block_lt_of_cell? w _ hw142_4)).trans hw142_4)⟩ (fun hHeld => ?_)
                  clear hK K
                  refine norm_ (a' := ?_) ?_ ?_; rotate_left; show Act.put _ (some 91) _ = _; simp only [Act.put, qa, qb, qc, i64_w, i32_w]; rfl
                  refine pu2 17 (some 92) (bz 20 262143) ?_
                  refine pu2 18 (some 93) (bz 20 524287) ?_
                  refine pu2 19 (some 3) (bz 20 1048575) ?_
                  refine done_ (done_of HT_.out (by kernel_rfl)) ?_
                  try go_wp2
                  go_roundg k3
                  case measure => have := HJ14.out; have := HJ17.out; have := HK3.out; omega
                  case rel => exact ⟨(t143), (wrap64 (x70_3 + 1)), fz, fz, H', ⟨by have := HJ14.out; have := HJ17.out; have := HK3.out; omega⟩, ⟨kp BK136.out⟩, ⟨fb2 GE136 GE140⟩⟩
                 ·rw [if_neg c56] at H
                  exact absurd H (by simp)
                ·rw [if_neg c55] at H
                 exact absurd H (by simp)
              ·obtain rfl := bf_ c46
               rw [if_neg nf_] at H
               have H' := Aside0.mk H
               clear H
               have p139 : 0 ≤ (x70_3 : Int) := of_decide_eq_true (by first | (with_reducible assumption) | assumption)
               have q139 : x70_3 < (l0_4.length : Int) := of_decide_eq_true (by first | (with_reducible assumption) | assumption)
               obtain ⟨ad139, e139, hx139_0, hx139_1, hx139_2, hx139_3, hx139_4⟩ := at_T56 HR0_4.out x70_3 p139 q139
               cases e139
               replace hx139_0 := pw_cell_below HB.out hx139_0
               replace hx139_1 := pw_cell_below HB.out hx139_1
               replace hx139_2 := pw_cell_below HB.out hx139_2
               replace hx139_3 := pw_cell_below HB.out hx139_3
               replace hx139_4 := pw_cell_below HB.out hx139_4
               replace p139 := eq_true p139
               replace q139 := eq_true q139
               try go_wp2_with (first | ((with_reducible refine gate_dst (N := 5) rfl ?_); (try (refine gate_guard (by rfl) ?_; dsimp only)); refine bz_ (N := 5) #[.int .i64 0, .int .i64 0, .float .f64 0, .float .f64 0, .int .i64 0] 56 ?_; intro gb140 hg w65 hbox hb; have n0_ := Aside0.mk (blk_below (g := gb136) (o := .cells #[.int .i64 a0_0, .int .u64 a0_1, .int .u64 a0_2, .int .u64 a0_3, .slice (some ad139) l0_4.length c0_4, .int .i64 a0_5, .int .i64 a0_6, .int .i64 a0_7, .int .i64 a0_8, .int .i64 a0_9, .int .i64 a0_10, .int .u64 a0_11, .int .i64 a0_12, .string a0_13, .int .i64 a0_14, .int .i64 a0_15, .string a0_16] 118 (0, 0)) (kp BK136.out) hb); have n1_ := Aside0.mk (below_step (fb1 GE136) hb); have n2_ := Aside0.mk (hbox); have n3_ := Aside0.mk ((by rw [hg]; exact (below_size (fb1 GE136)) : w.heap.size ≤ gb140)); have n4_ := Aside0.mk ((by rw [hg]; exact (below_size (fb1 GE136)) : w.heap.size ≤ gb140)); have n5_ := Aside0.mk ((by rw [hg]; exact Nat.ne_of_lt (blk_lt (g := gb136) (o := .cells #[.int .i64 a0_0, .int .u64 a0_1, .int .u64 a0_2, .int .u64 a0_3, .slice (some ad139) l0_4.length c0_4, .int .i64 a0_5, .int .i64 a0_6, .int .i64 a0_7, .int .i64 a0_8, .int .i64 a0_9, .int .i64 a0_10, .int .u64 a0_11, .int .i64 a0_12, .string a0_13, .int .i64 a0_14, .int .i64 a0_15, .string a0_16] 118 (0, 0)) (kp BK136.out)) : gb136 ≠ gb140)); have n6_ := Aside0.mk ((by rw [hg]; exact Nat.ne_of_gt (blk_lt (g := gb136) (o := .cells #[.int .i64 a0_0, .int .u64 a0_1, .int .u64 a0_2, .int .u64 a0_3, .slice (some ad139) l0_4.length c0_4, .int .i64 a0_5, .int .i64 a0_6, .int .i64 a0_7, .int .i64 a0_8, .int .i64 a0_9, .int .i64 a0_10, .int .u64 a0_11, .int .i64 a0_12, .string a0_13, .int .i64 a0_14, .int .i64 a0_15, .string a0_16] 118 (0, 0)) (kp BK136.out)) : gb140 ≠ gb136)); clear BK136; clear HB; have BK136 := n0_; have HB := n1_; have BK140 := n2_; have GW140 := n3_; have GE140 := n4_; have NB136_140 := n5_; have NB140_136 := n6_; clear n0_ n1_ n2_ n3_ n4_ n5_ n6_; clear hb hbox hg; have hnb66 := NB140_136.out; have hnc66 := NB136_140.out; obtain ⟨hcz67_0, hcz67_1, hcz67_2, hcz67_3, hcz67_4, hfz67_0, hfz67_1, hfz67_2, hfz67_3, hfz67_4⟩ := cz5 BK140.out))
               have n0_ : Aside0 ((((((w65.setCell ⟨gb140, 0, none⟩ (.int .i64 ((rd_T56 l0_4 x70_3).f0))).setCell ⟨gb140, 1, none⟩ (.int .i64 ((rd_T56 l0_4 x70_3).f1))).setCell ⟨gb140, 2, none⟩ (.float .f64 ((rd_T56 l0_4 x70_3).f2))).setCell ⟨gb140, 3, none⟩ (.float .f64 ((rd_T56 l0_4 x70_3).f3))).setCell ⟨gb140, 4, none⟩ (.int .i64 ((rd_T56 l0_4 x70_3).f4))).heap[gb136]? = some (.cells #[.int .i64 a0_0, .int .u64 a0_1, .int .u64 a0_2, .int .u64 a0_3, .slice (some ad139) l0_4.length c0_4, .int .i64 a0_5, .int .i64 a0_6, .int .i64 a0_7, .int .i64 a0_8, .int .i64 a0_9, .int .i64 a0_10, .int .u64 a0_11, .int .i64 a0_12, .string a0_13, .int .i64 a0_14, .int .i64 a0_15, .string a0_16] 118 (0, 0))) := ⟨kp1 NB136_140 BK136.out⟩
               have n1_ : Aside0 ((((((w65.setCell ⟨gb140, 0, none⟩ (.int .i64 ((rd_T56 l0_4 x70_3).f0))).setCell ⟨gb140, 1, none⟩ (.int .i64 ((rd_T56 l0_4 x70_3).f1))).setCell ⟨gb140, 2, none⟩ (.float .f64 ((rd_T56 l0_4 x70_3).f2))).setCell ⟨gb140, 3, none⟩ (.float .f64 ((rd_T56 l0_4 x70_3).f3))).setCell ⟨gb140, 4, none⟩ (.int .i64 ((rd_T56 l0_4 x70_3).f4))).heap[gb140]? = some (.cells #[.int .i64 ((rd_T56 l0_4 x70_3).f0), .int .i64 ((rd_T56 l0_4 x70_3).f1), .float .f64 ((rd_T56 l0_4 x70_3).f2), .float .f64 ((rd_T56 l0_4 x70_3).f3), .int .i64 ((rd_T56 l0_4 x70_3).f4)] 56 (0, 0))) := ⟨kp BK140.out⟩
               have n2_ : Aside0 (Below w.heap.size w (((((w65.setCell ⟨gb140, 0, none⟩ (.int .i64 ((rd_T56 l0_4 x70_3).f0))).setCell ⟨gb140, 1, none⟩ (.int .i64 ((rd_T56 l0_4 x70_3).f1))).setCell ⟨gb140, 2, none⟩ (.float .f64 ((rd_T56 l0_4 x70_3).f2))).setCell ⟨gb140, 3, none⟩ (.float .f64 ((rd_T56 l0_4 x70_3).f3))).setCell ⟨gb140, 4, none⟩ (.int .i64 ((rd_T56 l0_4 x70_3).f4)))) := ⟨fb2 GE136 GE140⟩
               (try clear BK136)
               (try clear BK140)
               (try clear HB)
               generalize (((((w65.setCell ⟨gb140, 0, none⟩ (.int .i64 ((rd_T56 l0_4 x70_3).f0))).setCell ⟨gb140, 1, none⟩ (.int .i64 ((rd_T56 l0_4 x70_3).f1))).setCell ⟨gb140, 2, none⟩ (.float .f64 ((rd_T56 l0_4 x70_3).f2))).setCell ⟨gb140, 3, none⟩ (.float .f64 ((rd_T56 l0_4 x70_3).f3))).setCell ⟨gb140, 4, none⟩ (.int .i64 ((rd_T56 l0_4 x70_3).f4))) = w68 at n0_ n1_ n2_ ⊢
               have BK136 := n0_
               have BK140 := n1_
               have HB := n2_
               clear n0_ n1_ n2_
               have n0_ := Aside0.mk (blk_drew BK136.out)
               have n1_ := Aside0.mk (blk_drew BK140.out)
               have n2_ := Aside0.mk (below_drew1 HB.out)
               clear BK136
               clear BK140
               clear HB
               have BK136 := n0_
               have BK140 := n1_
               have HB := n2_
               clear n0_ n1_ n2_
               refine start_ (n := 20) (S := fun w' => w'.cell? ⟨gb140, 0, none⟩ = some (.int .i64 ((rd_T56 l0_4 x70_3).f0)) ∧ w'.cell? ⟨gb140, 1, none⟩ = some (.int .i64 ((rd_T56 l0_4 x70_3).f1)) ∧ w'.cell? ⟨gb140, 2, none⟩ = some (.float .f64 ((rd_T56 l0_4 x70_3).f2)) ∧ w'.cell? ⟨gb140, 3, none⟩ = some (.float .f64 ((rd_T56 l0_4 x70_3).f3)) ∧ w'.cell? ⟨gb140, 4, none⟩ = some (.int .i64 ((rd_T56 l0_4 x70_3).f4))) (ds := []) (bz 20 0) (by kernel_rfl) rfl rfl ⟨(blk_cell BK140.out 0).trans rfl, (blk_cell BK140.out 1).trans rfl, (blk_cell BK140.out 2).trans rfl, (blk_cell BK140.out 3).trans rfl, (blk_cell BK140.out 4).trans rfl⟩ (fun hHeld => ?_); refine with_tabW message_Check.tab11 message_Check.bits11 (fun HT_ HW_ => ?_)
               generalize w68.drew = w69 at BK136 BK140 HB hHeld ⊢
               refine pu2 0 (some 75) (bz 20 1) ?_
               refine pu2 1 (some 76) (bz 20 3) ?_
               refine tk2 2 (some 77) (bz 20 7) ?_
               refine one_ (i := 3) (N := some 78) (bz 20 15) rfl rfl (one_of HT_.out (by kernel_rfl)) (by decide) (fun K hK => ?_)
               refine goes_ Try.func141 (by kernel_rfl) rfl #[.agg #[.int .i64 ((rd_T56 l0_4 x70_3).f0), .int .i64 ((rd_T56 l0_4 x70_3).f1), .float .f64 ((rd_T56 l0_4 x70_3).f2), .float .f64 ((rd_T56 l0_4 x70_3).f3), .int .i64 ((rd_T56 l0_4 x70_3).f4)]] (by rfl) rfl rfl (by (try simp only [List.map_toArray, List.map_cons, List.map_nil]); first | done | rfl | (simp only [List.length_drop, List.length_take]; rfl)) ?_
               with_reducible refine (message_news.calls k3 ((rd_T56 l0_4 x70_3).f0) ((rd_T56 l0_4 x70_3).f1) ((rd_T56 l0_4 x70_3).f2) ((rd_T56 l0_4 x70_3).f3) ((rd_T56 l0_4 x70_3).f4) false _ A45.out).mono ?_
               rintro e w70 ⟨rfl, hb⟩
               refine ⟨_, rfl, ?_⟩
               have n0_ := Aside0.mk (blk_below (g := gb136) (o := .cells #[.int .i64 a0_0, .int .u64 a0_1, .int .u64 a0_2, .int .u64 a0_3, .slice (some ad139) l0_4.length c0_4, .int .i64 a0_5, .int .i64 a0_6, .int .i64 a0_7, .int .i64 a0_8, .int .i64 a0_9, .int .i64 a0_10, .int .u64 a0_11, .int .i64 a0_12, .string a0_13, .int .i64 a0_14, .int .i64 a0_15, .string a0_16] 118 (0, 0)) (kp BK136.out) hb)
               have n1_ := Aside0.mk (blk_below (g := gb140) (o := .cells #[.int .i64 ((rd_T56 l0_4 x70_3).f0), .int .i64 ((rd_T56 l0_4 x70_3).f1), .float .f64 ((rd_T56 l0_4 x70_3).f2), .float .f64 ((rd_T56 l0_4 x70_3).f3), .int .i64 ((rd_T56 l0_4 x70_3).f4)] 56 (0, 0)) (kp BK140.out) hb)
               have n2_ := Aside0.mk (below_step (fb2 GE136 GE140) hb)
               clear BK136
               clear BK140
               clear HB
               have BK136 := n0_
               have BK140 := n1_
               have HB := n2_
               clear n0_ n1_ n2_
               (try clear hb)
               refine hK.out _ _ ⟨(blk_cell BK140.out 0).trans rfl, (blk_cell BK140.out 1).trans rfl, (blk_cell BK140.out 2).trans rfl, (blk_cell BK140.out 3).trans rfl, (blk_cell BK140.out 4).trans rfl⟩ (fun hHeld => ?_)
               clear hK K
               refine norm_ (a' := ?_) ?_ ?_; rotate_left; show Act.put _ (some 78) _ = _; simp only [Act.put, qa, qb, qc, i64_w, i32_w]; rfl
               refine pu2 4 (some 79) (bz 20 31) ?_
               refine pu2 5 (some 80) (bz 20 63) ?_
               refine pz2 6 (some 81) (bz 20 127) ?_
               refine pz2 7 (some 82) (bz 20 255) ?_
               refine pz2 8 (some 83) (bz 20 511) ?_
               refine pz2 9 (some 84) (bz 20 1023) ?_
               refine pz2 10 (some 85) (bz 20 2047) ?_
               refine pz2 11 (some 86) (bz 20 4095) ?_
               refine pz2 12 (some 87) (bz 20 8191) ?_
               refine pz2 13 (some 88) (bz 20 16383) ?_
               refine pz2 14 (some 89) (bz 20 32767) ?_
               refine pz2 15 (some 90) (bz 20 65535) ?_
               refine pz2 16 (some 91) (bz 20 131071) ?_
               refine pz2 17 (some 92) (bz 20 262143) ?_
               refine pu2 18 (some 93) (bz 20 524287) ?_
               refine pu2 19 (some 3) (bz 20 1048575) ?_
               refine done_ (done_of HT_.out (by kernel_rfl)) ?_
               try go_wp2
               go_roundg k3
               case measure => have := HJ14.out; have := HJ17.out; have := HK3.out; omega
               case rel => exact ⟨(false), (wrap64 (x70_3 + 1)), fz, fz, H', ⟨by have := HJ14.out; have := HJ17.out; have := HK3.out; omega⟩, ⟨kp BK136.out⟩, ⟨fb2 GE136 GE140⟩⟩
             ·obtain rfl := bf_ c44
              rw [if_neg nf_] at H
              have H' := Aside0.mk H
              clear H
              have p139 : 0 ≤ (x70_3 : Int) := of_decide_eq_true (by first | (with_reducible assumption) | assumption)
              have q139 : x70_3 < (l0_4.length : Int) := of_decide_eq_true (by first | (with_reducible assumption) | assumption)
              obtain ⟨ad139, e139, hx139_0, hx139_1, hx139_2, hx139_3, hx139_4⟩ := at_T56 HR0_4.out x70_3 p139 q139
              cases e139
              replace hx139_0 := pw_cell_below HB.out hx139_0
              replace hx139_1 := pw_cell_below HB.out hx139_1
              replace hx139_2 := pw_cell_below HB.out hx139_2
              replace hx139_3 := pw_cell_below HB.out hx139_3
              replace hx139_4 := pw_cell_below HB.out hx139_4
              replace p139 := eq_true p139
              replace q139 := eq_true q139
              try go_wp2_with (first | ((with_reducible refine gate_dst (N := 5) rfl ?_); (try (refine gate_guard (by rfl) ?_; dsimp only)); refine bz_ (N := 5) #[.int .i64 0, .int .i64 0, .float .f64 0, .float .f64 0, .int .i64 0] 56 ?_; intro gb140 hg w71 hbox hb; have n0_ := Aside0.mk (blk_below (g := gb136) (o := .cells #[.int .i64 a0_0, .int .u64 a0_1, .int .u64 a0_2, .int .u64 a0_3, .slice (some ad139) l0_4.length c0_4, .int .i64 a0_5, .int .i64 a0_6, .int .i64 a0_7, .int .i64 a0_8, .int .i64 a0_9, .int .i64 a0_10, .int .u64 a0_11, .int .i64 a0_12, .string a0_13, .int .i64 a0_14, .int .i64 a0_15, .string a0_16] 118 (0, 0)) (kp BK136.out) hb); have n1_ := Aside0.mk (below_step (fb1 GE136) hb); have n2_ := Aside0.mk (hbox); have n3_ := Aside0.mk ((by rw [hg]; exact (below_size (fb1 GE136)) : w.heap.size ≤ gb140)); have n4_ := Aside0.mk ((by rw [hg]; exact (below_size (fb1 GE136)) : w.heap.size ≤ gb140)); have n5_ := Aside0.mk ((by rw [hg]; exact Nat.ne_of_lt (blk_lt (g := gb136) (o := .cells #[.int .i64 a0_0, .int .u64 a0_1, .int .u64 a0_2, .int .u64 a0_3, .slice (some ad139) l0_4.length c0_4, .int .i64 a0_5, .int .i64 a0_6, .int .i64 a0_7, .int .i64 a0_8, .int .i64 a0_9, .int .i64 a0_10, .int .u64 a0_11, .int .i64 a0_12, .string a0_13, .int .i64 a0_14, .int .i64 a0_15, .string a0_16] 118 (0, 0)) (kp BK136.out)) : gb136 ≠ gb140)); have n6_ := Aside0.mk ((by rw [hg]; exact Nat.ne_of_gt (blk_lt (g := gb136) (o := .cells #[.int .i64 a0_0, .int .u64 a0_1, .int .u64 a0_2, .int .u64 a0_3, .slice (some ad139) l0_4.length c0_4, .int .i64 a0_5, .int .i64 a0_6, .int .i64 a0_7, .int .i64 a0_8, .int .i64 a0_9, .int .i64 a0_10, .int .u64 a0_11, .int .i64 a0_12, .string a0_13, .int .i64 a0_14, .int .i64 a0_15, .string a0_16] 118 (0, 0)) (kp BK136.out)) : gb140 ≠ gb136)); clear BK136; clear HB; have BK136 := n0_; have HB := n1_; have BK140 := n2_; have GW140 := n3_; have GE140 := n4_; have NB136_140 := n5_; have NB140_136 := n6_; clear n0_ n1_ n2_ n3_ n4_ n5_ n6_; clear hb hbox hg; have hnb72 := NB140_136.out; have hnc72 := NB136_140.out; obtain ⟨hcz73_0, hcz73_1, hcz73_2, hcz73_3, hcz73_4, hfz73_0, hfz73_1, hfz73_2, hfz73_3, hfz73_4⟩ := cz5 BK140.out))
              have n0_ : Aside0 ((((((w71.setCell ⟨gb140, 0, none⟩ (.int .i64 ((rd_T56 l0_4 x70_3).f0))).setCell ⟨gb140, 1, none⟩ (.int .i64 ((rd_T56 l0_4 x70_3).f1))).setCell ⟨gb140, 2, none⟩ (.float .f64 ((rd_T56 l0_4 x70_3).f2))).setCell ⟨gb140, 3, none⟩ (.float .f64 ((rd_T56 l0_4 x70_3).f3))).setCell ⟨gb140, 4, none⟩ (.int .i64 ((rd_T56 l0_4 x70_3).f4))).heap[gb136]? = some (.cells #[.int .i64 a0_0, .int .u64 a0_1, .int .u64 a0_2, .int .u64 a0_3, .slice (some ad139) l0_4.length c0_4, .int .i64 a0_5, .int .i64 a0_6, .int .i64 a0_7, .int .i64 a0_8, .int .i64 a0_9, .int .i64 a0_10, .int .u64 a0_11, .int .i64 a0_12, .string a0_13, .int .i64 a0_14, .int .i64 a0_15, .string a0_16] 118 (0, 0))) := ⟨kp1 NB136_140 BK136.out⟩
              have n1_ : Aside0 ((((((w71.setCell ⟨gb140, 0, none⟩ (.int .i64 ((rd_T56 l0_4 x70_3).f0))).setCell ⟨gb140, 1, none⟩ (.int .i64 ((rd_T56 l0_4 x70_3).f1))).setCell ⟨gb140, 2, none⟩ (.float .f64 ((rd_T56 l0_4 x70_3).f2))).setCell ⟨gb140, 3, none⟩ (.float .f64 ((rd_T56 l0_4 x70_3).f3))).setCell ⟨gb140, 4, none⟩ (.int .i64 ((rd_T56 l0_4 x70_3).f4))).heap[gb140]? = some (.cells #[.int .i64 ((rd_T56 l0_4 x70_3).f0), .int .i64 ((rd_T56 l0_4 x70_3).f1), .float .f64 ((rd_T56 l0_4 x70_3).f2), .float .f64 ((rd_T56 l0_4 x70_3).f3), .int .i64 ((rd_T56 l0_4 x70_3).f4)] 56 (0, 0))) := ⟨kp BK140.out⟩
              have n2_ : Aside0 (Below w.heap.size w (((((w71.setCell ⟨gb140, 0, none⟩ (.int .i64 ((rd_T56 l0_4 x70_3).f0))).setCell ⟨gb140, 1, none⟩ (.int .i64 ((rd_T56 l0_4 x70_3).f1))).setCell ⟨gb140, 2, none⟩ (.float .f64 ((rd_T56 l0_4 x70_3).f2))).setCell ⟨gb140, 3, none⟩ (.float .f64 ((rd_T56 l0_4 x70_3).f3))).setCell ⟨gb140, 4, none⟩ (.int .i64 ((rd_T56 l0_4 x70_3).f4)))) := ⟨fb2 GE136 GE140⟩
              (try clear BK136)
              (try clear BK140)
              (try clear HB)
              generalize (((((w71.setCell ⟨gb140, 0, none⟩ (.int .i64 ((rd_T56 l0_4 x70_3).f0))).setCell ⟨gb140, 1, none⟩ (.int .i64 ((rd_T56 l0_4 x70_3).f1))).setCell ⟨gb140, 2, none⟩ (.float .f64 ((rd_T56 l0_4 x70_3).f2))).setCell ⟨gb140, 3, none⟩ (.float .f64 ((rd_T56 l0_4 x70_3).f3))).setCell ⟨gb140, 4, none⟩ (.int .i64 ((rd_T56 l0_4 x70_3).f4))) = w74 at n0_ n1_ n2_ ⊢
              have BK136 := n0_
              have BK140 := n1_
              have HB := n2_
              clear n0_ n1_ n2_
              have n0_ := Aside0.mk (blk_drew BK136.out)
              have n1_ := Aside0.mk (blk_drew BK140.out)
              have n2_ := Aside0.mk (below_drew1 HB.out)
              clear BK136
              clear BK140
              clear HB
              have BK136 := n0_
              have BK140 := n1_
              have HB := n2_
              clear n0_ n1_ n2_
              refine start_ (n := 20) (S := fun w' => True) (ds := []) (bz 20 0) (by kernel_rfl) rfl rfl trivial (fun hHeld => ?_); refine with_tabW message_Check.tab11 message_Check.bits11 (fun HT_ HW_ => ?_)
              generalize w74.drew = w75 at BK136 BK140 HB hHeld ⊢
              refine pu2 0 (some 75) (bz 20 1) ?_
              refine pu2 1 (some 76) (bz 20 3) ?_
              refine pz2 2 (some 77) (bz 20 7) ?_
              refine pz2 3 (some 78) (bz 20 15) ?_
              refine pu2 4 (some 79) (bz 20 31) ?_
              refine pu2 5 (some 80) (bz 20 63) ?_
              refine pz2 6 (some 81) (bz 20 127) ?_
              refine pz2 7 (some 82) (bz 20 255) ?_
              refine pz2 8 (some 83) (bz 20 511) ?_
              refine pz2 9 (some 84) (bz 20 1023) ?_
              refine pz2 10 (some 85) (bz 20 2047) ?_
              refine pz2 11 (some 86) (bz 20 4095) ?_
              refine pz2 12 (some 87) (bz 20 8191) ?_
              refine pz2 13 (some 88) (bz 20 16383) ?_
              refine pz2 14 (some 89) (bz 20 32767) ?_
              refine pz2 15 (some 90) (bz 20 65535) ?_
              refine pz2 16 (some 91) (bz 20 131071) ?_
              refine pz2 17 (some 92) (bz 20 262143) ?_
              refine pu2 18 (some 93) (bz 20 524287) ?_
              refine pu2 19 (some 3) (bz 20 1048575) ?_
              refine done_ (done_of HT_.out (by kernel_rfl)) ?_
              try go_wp2
              go_roundg k3
              case measure => have := HJ14.out; have := HJ17.out; have := HK3.out; omega
              case rel => exact ⟨(false), (wrap64 (x70_3 + 1)), fz, fz, H', ⟨by have := HJ14.out; have := HJ17.out; have := HK3.out; omega⟩, ⟨kp BK136.out⟩, ⟨fb2 GE136 GE140⟩⟩
            ·rw [if_neg c43] at H
             exact absurd H (by simp)
           ·rw [if_neg c42] at H
            exact absurd H (by simp)
          ·rw [if_neg c41] at H
           have c41b0 := decide_eq_false c41
           clear c41
           have H' := Aside0.mk H
           clear H
           go_wp2
           go_meet
           case rel => exact ⟨_, (x3_3), fz, H', ⟨by have := HJ14.out; have := HJ17.out; have := HK3.out; exact fl⟩, ⟨fb1 GE136⟩⟩
     ·obtain rfl := bf_ c17
      rw [if_neg nf_] at H
      by_cases c76 : a0_0 = 4
      ·rw [if_pos c76] at H
       have c76b0 := be_ c76
       have c76b1 := bg_ c76
       clear c76
       by_cases c77 : a0_1 = 0
       ·rw [if_pos c77] at H
        have c77b0 := be_ c77
        have c77b1 := bg_ c77
        clear c77
        by_cases c78 : a0_2 = 0
        ·rw [if_pos c78] at H
         have c78b0 := be_ c78
         have c78b1 := bg_ c78
         clear c78
         by_cases c79 : a0_3 = 0
         ·rw [if_pos c79] at H
          have c79b0 := be_ c79
          have c79b1 := bg_ c79
          clear c79
          by_cases c80 : (l0_4.length : Int) = 0
          ·rw [if_pos c80] at H
           have c80b0 := be_ c80
           have c80b1 := bg_ c80
           clear c80
           replace H := bs_ H; obtain ⟨t144, A81, H⟩ := H
           have H' := Aside0.mk H
           clear H
           obtain ⟨hcz82_0, hcz82_1, hcz82_2, hcz82_3, hcz82_4, hcz82_5, hcz82_6, hcz82_7, hcz82_8, hcz82_9, hcz82_10, hcz82_11, hcz82_12, hcz82_13, hcz82_14, hcz82_15, hcz82_16, hfz82_0, hfz82_1, hfz82_2, hfz82_3, hfz82_4, hfz82_5, hfz82_6, hfz82_7, hfz82_8, hfz82_9, hfz82_10, hfz82_11, hfz82_12, hfz82_13, hfz82_14, hfz82_15, hfz82_16⟩ := cz17 BK136.out
           go_wp2_with (first | (go_at_call 143; (with_reducible refine (message_packet.calls kj14 a0_5 a0_6 a0_7 a0_8 a0_9 a0_10 a0_11 a0_12 a0_13 a0_14 a0_15 a0_16 t144 _ A81.out).mono ?_); rintro e w83 ⟨rfl, hb⟩; have n0_ := Aside0.mk (blk_below (g := gb136) (o := .cells #[.int .i64 a0_0, .int .u64 a0_1, .int .u64 a0_2, .int .u64 a0_3, .slice A0_4 l0_4.length c0_4, .int .i64 a0_5, .int .i64 a0_6, .int .i64 a0_7, .int .i64 a0_8, .int .i64 a0_9, .int .i64 a0_10, .int .u64 a0_11, .int .i64 a0_12, .string a0_13, .int .i64 a0_14, .int .i64 a0_15, .string a0_16] 118 (0, 0)) (kp BK136.out) hb); have n1_ := Aside0.mk (below_step (fb1 GE136) hb); clear BK136; clear HB; have BK136 := n0_; have HB := n1_; clear n0_ n1_; (try clear hb)))
           go_meet
           case rel => exact ⟨_, (t144), fz, H', ⟨by have := HJ14.out; exact fl⟩, ⟨fb1 GE136⟩⟩
          ·rw [if_neg c80] at H
           have c80b0 := bh_ c80
           have c80b1 := bi_ c80
           have c80b2 : ¬ (l0_4 = []) := fun h_ => c80 (by rw [h_]; rfl)
           have H' := Aside0.mk H
           clear H
           obtain ⟨hcz84_0, hcz84_1, hcz84_2, hcz84_3, hcz84_4, hcz84_5, hcz84_6, hcz84_7, hcz84_8, hcz84_9, hcz84_10, hcz84_11, hcz84_12, hcz84_13, hcz84_14, hcz84_15, hcz84_16, hfz84_0, hfz84_1, hfz84_2, hfz84_3, hfz84_4, hfz84_5, hfz84_6, hfz84_7, hfz84_8, hfz84_9, hfz84_10, hfz84_11, hfz84_12, hfz84_13, hfz84_14, hfz84_15, hfz84_16⟩ := cz17 BK136.out
           go_wp2
           go_meet
           case rel => exact ⟨_, (false), fz, H', ⟨by have := HJ14.out; exact fl⟩, ⟨fb1 GE136⟩⟩
         ·rw [if_neg c79] at H
          have c79b0 := bh_ c79
          have c79b1 := bi_ c79
          have H' := Aside0.mk H
          clear H
          obtain ⟨hcz85_0, hcz85_1, hcz85_2, hcz85_3, hcz85_4, hcz85_5, hcz85_6, hcz85_7, hcz85_8, hcz85_9, hcz85_10, hcz85_11, hcz85_12, hcz85_13, hcz85_14, hcz85_15, hcz85_16, hfz85_0, hfz85_1, hfz85_2, hfz85_3, hfz85_4, hfz85_5, hfz85_6, hfz85_7, hfz85_8, hfz85_9, hfz85_10, hfz85_11, hfz85_12, hfz85_13, hfz85_14, hfz85_15, hfz85_16⟩ := cz17 BK136.out
          go_wp2
          go_meet
          case rel => exact ⟨_, (false), fz, H', ⟨by have := HJ14.out; exact fl⟩, ⟨fb1 GE136⟩⟩
        ·rw [if_neg c78] at H
         have c78b0 := bh_ c78
         have c78b1 := bi_ c78
         have H' := Aside0.mk H
         clear H
         obtain ⟨hcz86_0, hcz86_1, hcz86_2, hcz86_3, hcz86_4, hcz86_5, hcz86_6, hcz86_7, hcz86_8, hcz86_9, hcz86_10, hcz86_11, hcz86_12, hcz86_13, hcz86_14, hcz86_15, hcz86_16, hfz86_0, hfz86_1, hfz86_2, hfz86_3, hfz86_4, hfz86_5, hfz86_6, hfz86_7, hfz86_8, hfz86_9, hfz86_10, hfz86_11, hfz86_12, hfz86_13, hfz86_14, hfz86_15, hfz86_16⟩ := cz17 BK136.out
         go_wp2
         go_meet
         case rel => exact ⟨_, (false), fz, H', ⟨by have := HJ14.out; exact fl⟩, ⟨fb1 GE136⟩⟩
       ·rw [if_neg c77] at H
        have c77b0 := bh_ c77
        have c77b1 := bi_ c77
        have H' := Aside0.mk H
        clear H
        obtain ⟨hcz87_0, hcz87_1, hcz87_2, hcz87_3, hcz87_4, hcz87_5, hcz87_6, hcz87_7, hcz87_8, hcz87_9, hcz87_10, hcz87_11, hcz87_12, hcz87_13, hcz87_14, hcz87_15, hcz87_16, hfz87_0, hfz87_1, hfz87_2, hfz87_3, hfz87_4, hfz87_5, hfz87_6, hfz87_7, hfz87_8, hfz87_9, hfz87_10, hfz87_11, hfz87_12, hfz87_13, hfz87_14, hfz87_15, hfz87_16⟩ := cz17 BK136.out
        go_wp2
        go_meet
        case rel => exact ⟨_, (false), fz, H', ⟨by have := HJ14.out; exact fl⟩, ⟨fb1 GE136⟩⟩
      ·rw [if_neg c76] at H
       have c76b0 := bh_ c76
       have c76b1 := bi_ c76
       have H' := Aside0.mk H
       clear H
       go_wp2
       go_meet
       case rel => exact ⟨_, (false), fz, H', ⟨by have := HJ14.out; exact fl⟩, ⟨fb1 GE136⟩⟩
 case rest =>
  clear HC2
  obtain ⟨kq, x3_1, rfl, HA, HJ1, HB⟩ := hcut
  cases kq with
  | zero => exact absurd HA.out (by simp [message_Check.j3])
  | succ kj1 =>
   have H := HA.out
   clear HA
   simp only [message_Check.j3] at H
   by_cases c88 : x3_1 = true
   ·subst c88
    rw [if_pos rfl] at H
    obtain rfl := oj_ H
    go_wp2
    go_ret
    exact ⟨fe, fb⟩
   ·obtain rfl := bf_ c88
    rw [if_neg nf_] at H
    obtain rfl := oj_ H
    go_wp2
    go_ret
    exact ⟨fe, fb⟩

end Go.Proofs.Ytjkhckbfkinheaa.GAa
