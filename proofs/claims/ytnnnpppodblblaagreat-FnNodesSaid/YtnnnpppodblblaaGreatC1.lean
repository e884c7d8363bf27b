/- The functions of the program answer as the plain functions say, by the evaluator. Printed by a program. -/
import Derived.Test.YtnnnpppodblblaaGreatC0
/-
The program's functions compute what the plain functions say (printed by gen2.py).
-/
namespace Go.Proofs.YtnnnpppodblblaaGreat.Ct
open Go Go.Proofs.YtnnnpppodblblaaGreat.Ev Go.Proofs.YtnnnpppodblblaaGreat.Sh Go.Proofs.YtnnnpppodblblaaGreat.Pu Go.Proofs
set_option maxRecDepth 100000

namespace impl_Node_askedVote_m
noncomputable def b : Code := (Tryz.f91.body).getD .skip
@[reducible] def ji : J := ⟨[(0, .ptr (p 0) 0), (1, .agg (mk Y_impl_Message [(p 4, [p 5], []), (p 5, [p 5], [])]))], [(p 0, false, (mk Y_impl_Node [(p 0, [p 1], []), (p 1, [p 2], []), (p 2, [p 3], []), (p 3, [p 4], [])]))], lb [p 1, p 2, p 3, p 4, p 5] []⟩
@[reducible] def jo : J := ⟨[(0, .agg (mk Y_impl_Message [(n 0, [], []), (n 1, [], [])]))], [(p 0, false, (mk Y_impl_Node [(p 0, [p 1], []), (p 1, [p 2], []), (p 2, [p 3], []), (p 3, [p 4], [])]))], lb [p 1, p 2, p 3, p 4] []⟩
noncomputable def E : Env := mkE (P := P) tab Tryz.f91.ntmps [] [impl_LogLast.c, impl_Node_message.c]
theorem hE : E.Ok P := mkE_ok tabOk eqs_nil
noncomputable def c0 : Code := (codeAt b 200 30).getD .skip
noncomputable def c1 : Code := (codeAt b 200 124).getD .skip
noncomputable def c2 : Code := (codeAt b 200 125).getD .skip
@[reducible] def i0 : J := ⟨[(0, .ptr (p 0) 0), (3, .ptr 3 0), (4, .ptr 4 0), (5, .leaf i), (6, .leaf i), (7, .ptr 7 0)], [(3, false, (mk Y_impl_Message [(p 4, [p 5], []), (p 5, [p 5], [])])), (4, false, (mk Y_impl_Message [(n 2, [], []), (n 3, [], [])])), (7, false, (mk Y_impl_Message [(n 4, [], []), (n 5, [], [])])), (p 0, false, (mk Y_impl_Node [(p 0, [p 1], []), (p 1, [p 2], []), (p 2, [p 3], []), (p 3, [p 4], [])]))], lb [p 1, p 2, p 3, p 4, p 5] []⟩
@[reducible] def e0 : List (Ex × J) := [(.normal, ⟨[(0, .ptr (p 0) 0), (3, .ptr 3 0), (4, .ptr 4 0), (7, .ptr 7 0), (8, .leaf (.sc .bool))], [(3, false, (mk Y_impl_Message [(p 4, [p 5], []), (p 5, [p 5], [])])), (4, false, (mk Y_impl_Message [(n 2, [], []), (n 3, [], [])])), (7, false, (mk Y_impl_Message [(n 4, [], []), (n 5, [], [])])), (p 0, false, (mk Y_impl_Node [(p 0, [p 1], []), (p 1, [p 2], []), (p 2, [p 3], []), (p 3, [p 4], [])]))], lb [p 1, p 2, p 3, p 4, p 5] []⟩)]
noncomputable def k0 : Cut := ⟨i0, e0, impl_Node_askedVote.P0⟩
theorem h0 : k0.Holds P E.nt c0 := piece_holds (cuts := []) hE hmx .nil (by kernel_rfl)
@[reducible] def i1 : J := ⟨[(0, .ptr (p 0) 0), (3, .ptr 3 0), (4, .ptr 4 0), (7, .ptr 7 0), (8, .leaf (.sc .bool))], [(3, false, (mk Y_impl_Message [(p 4, [p 5], []), (p 5, [p 5], [])])), (4, false, (mk Y_impl_Message [(n 2, [], []), (n 3, [], [])])), (7, false, (mk Y_impl_Message [(n 4, [], []), (n 5, [], [])])), (p 0, false, (mk Y_impl_Node [(p 0, [p 1], []), (p 1, [p 2], []), (p 2, [p 3], []), (p 3, [p 4], [])]))], lb [p 1, p 2, p 3, p 4, p 5] []⟩
@[reducible] def e1 : List (Ex × J) := [(.normal, ⟨[(0, .ptr (p 0) 0), (3, .ptr 3 0), (4, .ptr 4 0), (7, .ptr 7 0), (62, .leaf (.sc .bool))], [(3, false, (mk Y_impl_Message [(p 4, [p 5], []), (p 5, [p 5], [])])), (4, false, (mk Y_impl_Message [(n 2, [], []), (n 3, [], [])])), (7, false, (mk Y_impl_Message [(n 4, [], []), (n 5, [], [])])), (p 0, false, (mk Y_impl_Node [(p 0, [p 1], []), (p 1, [p 2], []), (p 2, [p 3], []), (p 3, [p 4], [])]))], lb [p 1, p 2, p 3, p 4, p 5] []⟩)]
noncomputable def k1 : Cut := ⟨i1, e1, impl_Node_askedVote.P1⟩
theorem h1 : k1.Holds P E.nt c1 := piece_holds (cuts := []) hE hmx .nil (by kernel_rfl)
@[reducible] def i2 : J := ⟨[(0, .ptr (p 0) 0), (3, .ptr 3 0), (4, .ptr 4 0), (7, .ptr 7 0), (62, .leaf (.sc .bool))], [(3, false, (mk Y_impl_Message [(p 4, [p 5], []), (p 5, [p 5], [])])), (4, false, (mk Y_impl_Message [(n 2, [], []), (n 3, [], [])])), (7, false, (mk Y_impl_Message [(n 4, [], []), (n 5, [], [])])), (p 0, false, (mk Y_impl_Node [(p 0, [p 1], []), (p 1, [p 2], []), (p 2, [p 3], []), (p 3, [p 4], [])]))], lb [p 1, p 2, p 3, p 4, p 5] []⟩
@[reducible] def e2 : List (Ex × J) := [(.normal, ⟨[(4, .ptr 4 0), (7, .ptr 7 0)], [(4, false, (mk Y_impl_Message [(n 0, [], []), (n 1, [], [])])), (7, false, (mk Y_impl_Message [(n 2, [], []), (n 3, [], [])])), (p 0, false, (mk Y_impl_Node [(p 0, [p 1], []), (p 1, [p 2], []), (p 2, [p 3], []), (p 3, [p 4], [])]))], lb [p 1, p 2, p 3, p 4] []⟩)]
noncomputable def k2 : Cut := ⟨i2, e2, impl_Node_askedVote.P2⟩
theorem h2 : k2.Holds P E.nt c2 := piece_holds (cuts := []) hE hmx .nil (by kernel_rfl)
noncomputable def s : Sig := ⟨91, 1, ji, jo, fun x => impl_Node_askedVote.f x.1.2.1 x.2.1⟩
theorem h : s.Holds P := mkC (fn := Tryz.f91) (body := b) (cuts := [(30, k0), (124, k1), (125, k2)]) (backs := []) hE hmx s (cut_cons (by kernel_rfl) h0 (cut_cons (by kernel_rfl) h1 (cut_cons (by kernel_rfl) h2 .nil))) (by kernel_rfl) (by kernel_rfl)
noncomputable def c : FnC P := ⟨s, ⟨by kernel_rfl, fun r => by kernel_rfl⟩, h⟩
end impl_Node_askedVote_m

namespace math_bits_Len64
noncomputable def b : Code := (Tryz.f161.body).getD .skip
@[reducible] def ji : J := ⟨[(0, .leaf (.sc (.int .u64)))], [], []⟩
@[reducible] def jo : J := ⟨[(0, .leaf i)], [], []⟩
noncomputable def E : Env := mkE (P := P) tab Tryz.f161.ntmps [] []
theorem hE : E.Ok P := mkE_ok tabOk eqs_nil
noncomputable def c0 : Code := (codeAt b 200 13).getD .skip
noncomputable def c1 : Code := (codeAt b 200 29).getD .skip
noncomputable def c2 : Code := (codeAt b 200 61).getD .skip
@[reducible] def i0 : J := ⟨[(0, .leaf (.sc (.int .u64))), (2, .leaf i), (4, .leaf (.sc .bool))], [], []⟩
@[reducible] def e0 : List (Ex × J) := [(.normal, ⟨[(0, .leaf (.sc (.int .u64))), (2, .leaf i)], [], []⟩)]
noncomputable def k0 : Cut := ⟨i0, e0, math_bits_Len64.P0⟩
theorem h0 : k0.Holds P E.nt c0 := piece_holds (cuts := []) hE hmx .nil (by kernel_rfl)
@[reducible] def i1 : J := ⟨[(0, .leaf (.sc (.int .u64))), (2, .leaf i), (8, .leaf (.sc .bool))], [], []⟩
@[reducible] def e1 : List (Ex × J) := [(.normal, ⟨[(0, .leaf (.sc (.int .u64))), (2, .leaf i)], [], []⟩)]
noncomputable def k1 : Cut := ⟨i1, e1, math_bits_Len64.P1⟩
theorem h1 : k1.Holds P E.nt c1 := piece_holds (cuts := []) hE hmx .nil (by kernel_rfl)
@[reducible] def i2 : J := ⟨[(0, .leaf (.sc (.int .u64))), (2, .leaf i), (14, .leaf (.sc .bool))], [], []⟩
@[reducible] def e2 : List (Ex × J) := [(.normal, ⟨[(0, .leaf (.sc (.int .u64))), (2, .leaf i)], [], []⟩)]
noncomputable def k2 : Cut := ⟨i2, e2, math_bits_Len64.P2⟩
theorem h2 : k2.Holds P E.nt c2 := piece_holds (cuts := []) hE hmx .nil (by kernel_rfl)
noncomputable def s : Sig := ⟨161, 1, ji, jo, fun x => math_bits_Len64.f x.1.1⟩
theorem h : s.Holds P := mkC (fn := Tryz.f161) (body := b) (cuts := [(13, k0), (29, k1), (61, k2)]) (backs := []) hE hmx s (cut_cons (by kernel_rfl) h0 (cut_cons (by kernel_rfl) h1 (cut_cons (by kernel_rfl) h2 .nil))) (by kernel_rfl) (by kernel_rfl)
noncomputable def c : FnC P := ⟨s, ⟨by kernel_rfl, fun r => by kernel_rfl⟩, h⟩
end math_bits_Len64

namespace math_bits_Len
noncomputable def b : Code := (Tryz.f138.body).getD .skip
@[reducible] def ji : J := ⟨[(0, .leaf (.sc (.int .u64)))], [], []⟩
@[reducible] def jo : J := ⟨[(0, .leaf i)], [], []⟩
noncomputable def E : Env := mkE (P := P) tab Tryz.f138.ntmps [] [math_bits_Len64.c]
theorem hE : E.Ok P := mkE_ok tabOk eqs_nil
noncomputable def s : Sig := ⟨138, 1, ji, jo, fun x => math_bits_Len.f x.1.1⟩
theorem h : s.Holds P := mkC (fn := Tryz.f138) (body := b) (cuts := []) (backs := []) hE hmx s .nil (by kernel_rfl) (by kernel_rfl)
noncomputable def c : FnC P := ⟨s, ⟨by kernel_rfl, fun r => by kernel_rfl⟩, h⟩
end math_bits_Len

namespace cmp_isNaN_int
noncomputable def b : Code := (Tryz.f168.body).getD .skip
@[reducible] def ji : J := ⟨[(0, .leaf i)], [], []⟩
@[reducible] def jo : J := ⟨[(0, .leaf (.sc .bool))], [], []⟩
noncomputable def E : Env := mkE (P := P) tab Tryz.f168.ntmps [] []
theorem hE : E.Ok P := mkE_ok tabOk eqs_nil
noncomputable def s : Sig := ⟨168, 1, ji, jo, fun x => cmp_isNaN_int.f x.1.1⟩
theorem h : s.Holds P := mkC (fn := Tryz.f168) (body := b) (cuts := []) (backs := []) hE hmx s .nil (by kernel_rfl) (by kernel_rfl)
noncomputable def c : FnC P := ⟨s, ⟨by kernel_rfl, fun r => by kernel_rfl⟩, h⟩
end cmp_isNaN_int

namespace cmp_Less_int
noncomputable def b : Code := (Tryz.f157.body).getD .skip
@[reducible] def ji : J := ⟨[(0, .leaf i), (1, .leaf i)], [], []⟩
@[reducible] def jo : J := ⟨[(0, .leaf (.sc .bool))], [], []⟩
noncomputable def E : Env := mkE (P := P) tab Tryz.f157.ntmps [] [cmp_isNaN_int.c]
theorem hE : E.Ok P := mkE_ok tabOk eqs_nil
noncomputable def c0 : Code := (codeAt b 200 6).getD .skip
@[reducible] def i0 : J := ⟨[(0, .leaf i), (1, .leaf i)], [], []⟩
@[reducible] def e0 : List (Ex × J) := [(.normal, ⟨[(4, .leaf (.sc .bool))], [], []⟩)]
noncomputable def k0 : Cut := ⟨i0, e0, cmp_Less_int.P0⟩
theorem h0 : k0.Holds P E.nt c0 := piece_holds (cuts := []) hE hmx .nil (by kernel_rfl)
noncomputable def s : Sig := ⟨157, 1, ji, jo, fun x => cmp_Less_int.f x.1.1 x.1.2.1⟩
theorem h : s.Holds P := mkC (fn := Tryz.f157) (body := b) (cuts := [(6, k0)]) (backs := []) hE hmx s (cut_cons (by kernel_rfl) h0 .nil) (by kernel_rfl) (by kernel_rfl)
noncomputable def c : FnC P := ⟨s, ⟨by kernel_rfl, fun r => by kernel_rfl⟩, h⟩
end cmp_Less_int

namespace slices_insertionSortOrdered_int
noncomputable def b : Code := (Tryz.f151.body).getD .skip
@[reducible] def ji : J := ⟨[(0, .leaf (.sl I (p 0) [p 1] [])), (1, .leaf i), (2, .leaf i)], [], lb [] [p 1]⟩
@[reducible] def jo : J := ⟨[(0, .leaf (.sl I (p 0) [p 1] []))], [], lb [] [p 1]⟩
noncomputable def E : Env := mkE (P := P) tab Tryz.f151.ntmps [] [cmp_Less_int.c]
theorem hE : E.Ok P := mkE_ok tabOk eqs_nil
noncomputable def c2 : Code := (codeAt b 200 12).getD .skip
noncomputable def c1 : Code := (codeAt c2 200 100).getD .skip
noncomputable def c0 : Code := (codeAt c1 200 4).getD .skip
@[reducible] def i0 : J := ⟨[(0, .leaf (.sl I (p 0) [p 1] [])), (1, .leaf i), (2, .leaf i), (6, .leaf i), (7, .leaf i)], [], lb [] [p 1]⟩
@[reducible] def e0 : List (Ex × J) := [(.normal, ⟨[(0, .leaf (.sl I (p 0) [p 1] [])), (1, .leaf i), (2, .leaf i), (6, .leaf i), (7, .leaf i), (30, .leaf (.sc .bool))], [], lb [] [p 1]⟩)]
noncomputable def k0 : Cut := ⟨i0, e0, slices_insertionSortOrdered_int.P0⟩
theorem h0 : k0.Holds P E.nt c0 := piece_holds (cuts := []) hE hmx .nil (by kernel_rfl)
@[reducible] def i1 : J := ⟨[(0, .leaf (.sl I (p 0) [p 1] [])), (1, .leaf i), (2, .leaf i), (6, .leaf i), (7, .leaf i)], [], lb [] [p 1]⟩
@[reducible] def e1 : List (Ex × J) := [((.exit 2), ⟨[(0, .leaf (.sl I (p 0) [p 1] [])), (1, .leaf i), (2, .leaf i), (6, .leaf i)], [], lb [] [p 1]⟩)]
noncomputable def k1 : Cut := ⟨i1, e1, slices_insertionSortOrdered_int.L1⟩
theorem h1 : k1.Holds P E.nt (.loop c1) := loop_holds (cuts := [(4, k0)]) hE hmx (cut_cons (by kernel_rfl) h0 .nil) (by kernel_rfl)
@[reducible] def i2 : J := ⟨[(0, .leaf (.sl I (p 0) [p 1] [])), (1, .leaf i), (2, .leaf i), (6, .leaf i)], [], lb [] [p 1]⟩
@[reducible] def e2 : List (Ex × J) := [((.exit 0), ⟨[(0, .leaf (.sl I (p 0) [p 1] []))], [], lb [] [p 1]⟩)]
noncomputable def k2 : Cut := ⟨i2, e2, slices_insertionSortOrdered_int.L2⟩
theorem h2 : k2.Holds P E.nt (.loop c2) := loop_holds (cuts := [(50, k1)]) hE hmx (cut_cons (by kernel_rfl) h1 .nil) (by kernel_rfl)
noncomputable def s : Sig := ⟨151, 0, ji, jo, fun x => slices_insertionSortOrdered_int.f x.1.1 x.1.2.1 x.1.2.2.1⟩
theorem h : s.Holds P := mkC (fn := Tryz.f151) (body := b) (cuts := [(6, k2)]) (backs := [p 0]) hE hmx s (cut_cons (by kernel_rfl) h2 .nil) (by kernel_rfl) (by kernel_rfl)
noncomputable def c : FnC P := ⟨s, ⟨by kernel_rfl, fun r => by kernel_rfl⟩, h⟩
end slices_insertionSortOrdered_int

namespace slices_pdqsortOrdered_int
noncomputable def b : Code := (Tryz.f137.body).getD .skip
@[reducible] def ji : J := ⟨[(0, .leaf (.sl I (p 0) [p 1] [])), (1, .leaf i), (2, .leaf i), (3, .leaf i)], [], lb [] [p 1]⟩
@[reducible] def jo : J := ⟨[(0, .leaf (.sl I (p 0) [p 1] []))], [], lb [] [p 1]⟩
noncomputable def E : Env := mkE (P := P) tab Tryz.f137.ntmps [] [slices_insertionSortOrdered_int.c]
theorem hE : E.Ok P := mkE_ok tabOk eqs_nil
noncomputable def c1 : Code := (codeAt b 200 28).getD .skip
noncomputable def c0 : Code := (codeAt c1 200 93).getD .skip
@[reducible] def i0 : J := ⟨[(0, .leaf (.sl I (p 0) [p 1] [])), (1, .leaf i), (2, .leaf i), (3, .leaf i), (8, .leaf (.sc .bool)), (9, .leaf (.sc .bool)), (10, .leaf i), (35, .leaf (.sc .bool))], [], lb [] [p 1]⟩
@[reducible] def e0 : List (Ex × J) := [(.normal, ⟨[(0, .leaf (.sl I (p 0) [p 1] [])), (1, .leaf i), (2, .leaf i), (3, .leaf i), (8, .leaf (.sc .bool)), (9, .leaf (.sc .bool)), (10, .leaf i)], [], lb [] [p 1]⟩)]
noncomputable def k0 : Cut := ⟨i0, e0, slices_pdqsortOrdered_int.P0⟩
theorem h0 : k0.Holds P E.nt c0 := piece_holds (cuts := []) hE hmx .nil (by kernel_rfl)
@[reducible] def i1 : J := ⟨[(0, .leaf (.sl I (p 0) [p 1] [])), (1, .leaf i), (2, .leaf i), (3, .leaf i), (8, .leaf (.sc .bool)), (9, .leaf (.sc .bool))], [], lb [] [p 1]⟩
@[reducible] def e1 : List (Ex × J) := [(.ret, ⟨[(0, .leaf (.sl I (p 0) [p 1] []))], [], lb [] [p 1]⟩)]
noncomputable def k1 : Cut := ⟨i1, e1, slices_pdqsortOrdered_int.L1⟩
theorem h1 : k1.Holds P E.nt (.loop c1) := loop_holds (cuts := [(93, k0)]) hE hmx (cut_cons (by kernel_rfl) h0 .nil) (by kernel_rfl)
noncomputable def s : Sig := ⟨137, 0, ji, jo, fun x => slices_pdqsortOrdered_int.f x.1.1 x.1.2.1 x.1.2.2.1 x.1.2.2.2.1⟩
theorem h : s.Holds P := mkC (fn := Tryz.f137) (body := b) (cuts := [(14, k1)]) (backs := [p 0]) hE hmx s (cut_cons (by kernel_rfl) h1 .nil) (by kernel_rfl) (by kernel_rfl)
noncomputable def c : FnC P := ⟨s, ⟨by kernel_rfl, fun r => by kernel_rfl⟩, h⟩
end slices_pdqsortOrdered_int

namespace slices_Sort_int
noncomputable def b : Code := (Tryz.f92.body).getD .skip
@[reducible] def ji : J := ⟨[(0, .leaf (.sl I (p 0) [p 1] []))], [], lb [] [p 1]⟩
@[reducible] def jo : J := ⟨[(0, .leaf (.sl I (p 0) [p 1] []))], [], lb [] [p 1]⟩
noncomputable def E : Env := mkE (P := P) tab Tryz.f92.ntmps [] [math_bits_Len.c, slices_pdqsortOrdered_int.c]
theorem hE : E.Ok P := mkE_ok tabOk eqs_nil
noncomputable def s : Sig := ⟨92, 0, ji, jo, fun x => slices_Sort_int.f x.1.1⟩
theorem h : s.Holds P := mkC (fn := Tryz.f92) (body := b) (cuts := []) (backs := [p 0]) hE hmx s .nil (by kernel_rfl) (by kernel_rfl)
noncomputable def c : FnC P := ⟨s, ⟨by kernel_rfl, fun r => by kernel_rfl⟩, h⟩
end slices_Sort_int

namespace impl_lastConf
noncomputable def b : Code := (Tryz.f99.body).getD .skip
@[reducible] def ji : J := ⟨[(0, .agg (mk Y_impl_Node [(p 0, [p 1], []), (p 1, [p 2], []), (p 2, [p 3], []), (p 3, [p 4], [])])), (1, .leaf i)], [], lb [p 1, p 2, p 3, p 4] []⟩
@[reducible] def jo : J := ⟨[(0, .leaf i), (1, .leaf (.sl I (n 0) [n 0] []))], [], lb [] [n 0]⟩
noncomputable def E : Env := mkE (P := P) tab Tryz.f99.ntmps [] [impl_ReadConf.c, impl_copyInts.c]
theorem hE : E.Ok P := mkE_ok tabOk eqs_nil
noncomputable def c1 : Code := (codeAt b 200 52).getD .skip
noncomputable def c0 : Code := (codeAt c1 200 102).getD .skip
@[reducible] def i0 : J := ⟨[(1, .leaf i), (2, .ptr 2 0), (6, .leaf i), (7, .ptr 7 0), (8, .leaf (.sl I (n 0) [n 0] [])), (9, .leaf (.sc .bool))], [(2, false, (mk Y_impl_Node [(p 0, [p 1], []), (p 1, [p 2], []), (p 2, [p 3], []), (p 3, [p 4], [])])), (7, false, (mk Y_impl_Entry []))], lb [p 1, p 2, p 3, p 4] [n 0]⟩
@[reducible] def e0 : List (Ex × J) := [(.normal, ⟨[(1, .leaf i), (2, .ptr 2 0), (6, .leaf i), (8, .leaf (.sl I (n 0) [n 0] [])), (46, .leaf (.sc .bool))], [(2, false, (mk Y_impl_Node [(p 0, [p 1], []), (p 1, [p 2], []), (p 2, [p 3], []), (p 3, [p 4], [])]))], lb [p 1, p 2, p 3, p 4] [n 0]⟩)]
noncomputable def k0 : Cut := ⟨i0, e0, impl_lastConf.P0⟩
theorem h0 : k0.Holds P E.nt c0 := piece_holds (cuts := []) hE hmx .nil (by kernel_rfl)
@[reducible] def i1 : J := ⟨[(1, .leaf i), (2, .ptr 2 0), (6, .leaf i)], [(2, false, (mk Y_impl_Node [(p 0, [p 1], []), (p 1, [p 2], []), (p 2, [p 3], []), (p 3, [p 4], [])]))], lb [p 1, p 2, p 3, p 4] []⟩
@[reducible] def e1 : List (Ex × J) := [((.exit 0), ⟨[(2, .ptr 2 0)], [(2, false, (mk Y_impl_Node [(p 0, [p 1], []), (p 1, [p 2], []), (p 2, [p 3], []), (p 3, [p 4], [])]))], lb [p 1, p 2, p 3, p 4] []⟩), (.ret, ⟨[(4, .leaf i), (5, .leaf (.sl I (n 0) [n 0] []))], [], lb [] [n 0]⟩)]
noncomputable def k1 : Cut := ⟨i1, e1, impl_lastConf.L1⟩
theorem h1 : k1.Holds P E.nt (.loop c1) := loop_holds (cuts := [(102, k0)]) hE hmx (cut_cons (by kernel_rfl) h0 .nil) (by kernel_rfl)
noncomputable def s : Sig := ⟨99, 2, ji, jo, fun x => impl_lastConf.f x.1.1 x.1.2.1⟩
theorem h : s.Holds P := mkC (fn := Tryz.f99) (body := b) (cuts := [(26, k1)]) (backs := []) hE hmx s (cut_cons (by kernel_rfl) h1 .nil) (by kernel_rfl) (by kernel_rfl)
noncomputable def c : FnC P := ⟨s, ⟨by kernel_rfl, fun r => by kernel_rfl⟩, h⟩
end impl_lastConf

namespace impl_ConfOf
noncomputable def b : Code := (Tryz.f44.body).getD .skip
@[reducible] def ji : J := ⟨[(0, .agg (mk Y_impl_Node [(p 0, [p 1], []), (p 1, [p 2], []), (p 2, [p 3], []), (p 3, [p 4], [])]))], [], lb [p 1, p 2, p 3, p 4] []⟩
@[reducible] def jo : J := ⟨[(0, .leaf (.sl I (n 0) [n 0] []))], [], lb [] [n 0]⟩
noncomputable def E : Env := mkE (P := P) tab Tryz.f44.ntmps [] [impl_LogLast.c, impl_lastConf.c]
theorem hE : E.Ok P := mkE_ok tabOk eqs_nil
noncomputable def s : Sig := ⟨44, 1, ji, jo, fun x => impl_ConfOf.f x.1.1⟩
theorem h : s.Holds P := mkC (fn := Tryz.f44) (body := b) (cuts := []) (backs := []) hE hmx s .nil (by kernel_rfl) (by kernel_rfl)
noncomputable def c : FnC P := ⟨s, ⟨by kernel_rfl, fun r => by kernel_rfl⟩, h⟩
end impl_ConfOf

namespace slices_Index_int
noncomputable def b : Code := (Tryz.f98.body).getD .skip
@[reducible] def ji : J := ⟨[(0, .leaf (.sl I (p 0) [p 1] [])), (1, .leaf i)], [], lb [p 1] []⟩
@[reducible] def jo : J := ⟨[(0, .leaf i)], [], []⟩
noncomputable def E : Env := mkE (P := P) tab Tryz.f98.ntmps [] []
theorem hE : E.Ok P := mkE_ok tabOk eqs_nil
noncomputable def c0 : Code := (codeAt b 200 52).getD .skip
@[reducible] def i0 : J := ⟨[(0, .leaf (.sl I (p 0) [p 1] [])), (1, .leaf i), (7, .leaf i), (8, .leaf i)], [], lb [p 1] []⟩
@[reducible] def e0 : List (Ex × J) := [((.exit 0), ⟨[], [], []⟩), (.ret, ⟨[(4, .leaf i)], [], []⟩)]
noncomputable def k0 : Cut := ⟨i0, e0, slices_Index_int.L0⟩
theorem h0 : k0.Holds P E.nt (.loop c0) := loop_holds (cuts := []) hE hmx .nil (by kernel_rfl)
noncomputable def s : Sig := ⟨98, 1, ji, jo, fun x => slices_Index_int.f x.1.1 x.1.2.1⟩
theorem h : s.Holds P := mkC (fn := Tryz.f98) (body := b) (cuts := [(26, k0)]) (backs := []) hE hmx s (cut_cons (by kernel_rfl) h0 .nil) (by kernel_rfl) (by kernel_rfl)
noncomputable def c : FnC P := ⟨s, ⟨by kernel_rfl, fun r => by kernel_rfl⟩, h⟩
end slices_Index_int

namespace slices_Contains_int
noncomputable def b : Code := (Tryz.f43.body).getD .skip
@[reducible] def ji : J := ⟨[(0, .leaf (.sl I (p 0) [p 1] [])), (1, .leaf i)], [], lb [p 1] []⟩
@[reducible] def jo : J := ⟨[(0, .leaf (.sc .bool))], [], []⟩
noncomputable def E : Env := mkE (P := P) tab Tryz.f43.ntmps [] [slices_Index_int.c]
theorem hE : E.Ok P := mkE_ok tabOk eqs_nil
noncomputable def s : Sig := ⟨43, 1, ji, jo, fun x => slices_Contains_int.f x.1.1 x.1.2.1⟩
theorem h : s.Holds P := mkC (fn := Tryz.f43) (body := b) (cuts := []) (backs := []) hE hmx s .nil (by kernel_rfl) (by kernel_rfl)
noncomputable def c : FnC P := ⟨s, ⟨by kernel_rfl, fun r => by kernel_rfl⟩, h⟩
end slices_Contains_int

namespace impl_Most
noncomputable def b : Code := (Tryz.f93.body).getD .skip
@[reducible] def ji : J := ⟨[(0, .leaf (.sl I (p 0) [p 1] [])), (1, .leaf (.sl I (p 1) [p 2] []))], [], lb [p 1, p 2] []⟩
@[reducible] def jo : J := ⟨[(0, .leaf (.sc .bool))], [], []⟩
noncomputable def E : Env := mkE (P := P) tab Tryz.f93.ntmps [] [slices_Contains_int.c, impl_ConfOk.c]
theorem hE : E.Ok P := mkE_ok tabOk eqs_nil
noncomputable def c2 : Code := (codeAt b 200 30).getD .skip
noncomputable def c1 : Code := (codeAt b 200 116).getD .skip
noncomputable def c0 : Code := (codeAt c1 200 115).getD .skip
@[reducible] def i2 : J := ⟨[(0, .leaf (.sl I (p 0) [p 1] [])), (5, .leaf i)], [], lb [p 1] []⟩
@[reducible] def e2 : List (Ex × J) := [(.normal, ⟨[(4, .leaf (.sc .bool))], [], []⟩)]
noncomputable def k2 : Cut := ⟨i2, e2, impl_Most.P2⟩
theorem h2 : k2.Holds P E.nt c2 := piece_holds (cuts := []) hE hmx .nil (by kernel_rfl)
@[reducible] def i0 : J := ⟨[(0, .leaf (.sl I (p 0) [p 1] [])), (1, .leaf (.sl I (p 1) [p 2] [])), (5, .leaf i), (8, .leaf (.sl I (n 2) [p 1] [])), (9, .leaf i), (10, .leaf i), (16, .leaf (.sc .bool))], [], lb [p 1, p 2] []⟩
@[reducible] def e0 : List (Ex × J) := [(.normal, ⟨[(0, .leaf (.sl I (p 0) [p 1] [])), (1, .leaf (.sl I (p 1) [p 2] [])), (5, .leaf i), (8, .leaf (.sl I (n 2) [p 1] [])), (9, .leaf i), (10, .leaf i)], [], lb [p 1, p 2] []⟩)]
noncomputable def k0 : Cut := ⟨i0, e0, impl_Most.P0⟩
theorem h0 : k0.Holds P E.nt c0 := piece_holds (cuts := []) hE hmx .nil (by kernel_rfl)
@[reducible] def i1 : J := ⟨[(0, .leaf (.sl I (p 0) [p 1] [])), (1, .leaf (.sl I (p 1) [p 2] [])), (5, .leaf i), (8, .leaf (.sl I (n 2) [p 1] [])), (9, .leaf i), (10, .leaf i)], [], lb [p 1, p 2] []⟩
@[reducible] def e1 : List (Ex × J) := [((.exit 0), ⟨[(0, .leaf (.sl I (p 0) [p 1] [])), (5, .leaf i)], [], lb [p 1] []⟩)]
noncomputable def k1 : Cut := ⟨i1, e1, impl_Most.L1⟩
theorem h1 : k1.Holds P E.nt (.loop c1) := loop_holds (cuts := [(115, k0)]) hE hmx (cut_cons (by kernel_rfl) h0 .nil) (by kernel_rfl)
noncomputable def s : Sig := ⟨93, 1, ji, jo, fun x => impl_Most.f x.1.1 x.1.2.1⟩
theorem h : s.Holds P := mkC (fn := Tryz.f93) (body := b) (cuts := [(30, k2), (58, k1)]) (backs := []) hE hmx s (cut_cons (by kernel_rfl) h2 (cut_cons (by kernel_rfl) h1 .nil)) (by kernel_rfl) (by kernel_rfl)
noncomputable def c : FnC P := ⟨s, ⟨by kernel_rfl, fun r => by kernel_rfl⟩, h⟩
end impl_Most

namespace impl_LogTerm
noncomputable def b : Code := (Tryz.f140.body).getD .skip
@[reducible] def ji : J := ⟨[(0, .agg (mk Y_impl_Log [(p 0, [p 1], [])])), (1, .leaf i)], [], lb [p 1] []⟩
@[reducible] def jo : J := ⟨[(0, .leaf i)], [], []⟩
noncomputable def E : Env := mkE (P := P) tab Tryz.f140.ntmps [] []
theorem hE : E.Ok P := mkE_ok tabOk eqs_nil
noncomputable def c0 : Code := (codeAt b 200 102).getD .skip
@[reducible] def i0 : J := ⟨[(1, .leaf i), (2, .ptr 2 0)], [(2, false, (mk Y_impl_Log [(p 0, [p 1], [])]))], lb [p 1] []⟩
@[reducible] def e0 : List (Ex × J) := [(.normal, ⟨[(1, .leaf i), (2, .ptr 2 0), (12, .leaf (.sc .bool))], [(2, false, (mk Y_impl_Log [(p 0, [p 1], [])]))], lb [p 1] []⟩)]
noncomputable def k0 : Cut := ⟨i0, e0, impl_LogTerm.P0⟩
theorem h0 : k0.Holds P E.nt c0 := piece_holds (cuts := []) hE hmx .nil (by kernel_rfl)
noncomputable def s : Sig := ⟨140, 1, ji, jo, fun x => impl_LogTerm.f x.1.1 x.1.2.1⟩
theorem h : s.Holds P := mkC (fn := Tryz.f140) (body := b) (cuts := [(102, k0)]) (backs := []) hE hmx s (cut_cons (by kernel_rfl) h0 .nil) (by kernel_rfl) (by kernel_rfl)
noncomputable def c : FnC P := ⟨s, ⟨by kernel_rfl, fun r => by kernel_rfl⟩, h⟩
end impl_LogTerm

namespace impl_Node_commit
noncomputable def b : Code := (Tryz.f139.body).getD .skip
@[reducible] def ji : J := ⟨[(0, .ptr (p 0) 0)], [(p 0, false, (mk Y_impl_Node [(p 0, [p 1], []), (p 1, [p 2], []), (p 2, [p 3], []), (p 3, [p 4], [])]))], lb [p 1, p 2, p 3, p 4] []⟩
@[reducible] def jo : J := ⟨[], [(p 0, false, (mk Y_impl_Node [(p 0, [p 1], []), (p 1, [p 2], []), (n 2, [p 3], []), (n 3, [p 4], [])]))], lb [p 1, p 2, p 3, p 4] []⟩
noncomputable def E : Env := mkE (P := P) tab Tryz.f139.ntmps [] [impl_LogLast.c, impl_ConfOf.c, impl_LogTerm.c, impl_Most.c, impl_lastConf.c, slices_Contains_int.c, impl_Node_follow.c]
theorem hE : E.Ok P := mkE_ok tabOk eqs_nil
noncomputable def c4 : Code := (codeAt b 200 116).getD .skip
noncomputable def c0 : Code := (codeAt c4 200 4).getD .skip
noncomputable def c3 : Code := (codeAt c4 200 103).getD .skip
noncomputable def c2 : Code := (codeAt c4 200 404).getD .skip
noncomputable def c1 : Code := (codeAt c2 200 115).getD .skip
noncomputable def c5 : Code := (codeAt b 200 62).getD .skip
noncomputable def c6 : Code := (codeAt b 200 63).getD .skip
@[reducible] def i0 : J := ⟨[(0, .ptr (p 0) 0), (2, .leaf i), (4, .leaf (.sl I (n 0) [n 0] [])), (5, .leaf i)], [(p 0, false, (mk Y_impl_Node [(p 0, [p 1], []), (p 1, [p 2], []), (p 2, [p 3], []), (n 4, [p 4], [])]))], lb [p 1, p 2, p 3, p 4] [n 0]⟩
@[reducible] def e0 : List (Ex × J) := [(.normal, ⟨[(0, .ptr (p 0) 0), (2, .leaf i), (4, .leaf (.sl I (n 0) [n 0] [])), (5, .leaf i), (42, .leaf (.sc .bool))], [(p 0, false, (mk Y_impl_Node [(p 0, [p 1], []), (p 1, [p 2], []), (p 2, [p 3], []), (n 4, [p 4], [])]))], lb [p 1, p 2, p 3, p 4] [n 0]⟩)]
noncomputable def k0 : Cut := ⟨i0, e0, impl_Node_commit.P0⟩
theorem h0 : k0.Holds P E.nt c0 := piece_holds (cuts := []) hE hmx .nil (by kernel_rfl)
@[reducible] def i3 : J := ⟨[(0, .ptr (p 0) 0), (2, .leaf i), (4, .leaf (.sl I (n 0) [n 0] [])), (5, .leaf i), (71, .leaf (.sc .bool))], [(p 0, false, (mk Y_impl_Node [(p 0, [p 1], []), (p 1, [p 2], []), (p 2, [p 3], []), (n 4, [p 4], [])]))], lb [p 1, p 2, p 3, p 4] [n 0]⟩
@[reducible] def e3 : List (Ex × J) := [(.normal, ⟨[(0, .ptr (p 0) 0), (2, .leaf i), (4, .leaf (.sl I (n 0) [n 0] [])), (5, .leaf i)], [(p 0, false, (mk Y_impl_Node [(p 0, [p 1], []), (p 1, [p 2], []), (p 2, [p 3], []), (n 4, [p 4], [])]))], lb [p 1, p 2, p 3, p 4] [n 0]⟩)]
noncomputable def k3 : Cut := ⟨i3, e3, impl_Node_commit.P3⟩
theorem h3 : k3.Holds P E.nt c3 := piece_holds (cuts := []) hE hmx .nil (by kernel_rfl)
@[reducible] def i1 : J := ⟨[(0, .ptr (p 0) 0), (2, .leaf i), (4, .leaf (.sl I (n 0) [n 0] [])), (5, .leaf i), (6, .leaf (.sl I (n 1) [n 1] [])), (8, .ptr 8 0), (53, .leaf (.sl (.of Y_impl_Peer) (n 2) [p 4] [])), (54, .leaf i), (55, .leaf i), (62, .leaf (.sc .bool))], [(8, false, (mk Y_impl_Peer [])), (p 0, false, (mk Y_impl_Node [(p 0, [p 1], []), (p 1, [p 2], []), (p 2, [p 3], []), (n 6, [p 4], [])]))], lb [p 1, p 2, p 3, p 4] [n 0, n 1]⟩
@[reducible] def e1 : List (Ex × J) := [(.normal, ⟨[(0, .ptr (p 0) 0), (2, .leaf i), (4, .leaf (.sl I (n 0) [n 0] [])), (5, .leaf i), (6, .leaf (.sl I (n 1) [n 1] [])), (53, .leaf (.sl (.of Y_impl_Peer) (n 2) [p 4] [])), (54, .leaf i), (55, .leaf i)], [(p 0, false, (mk Y_impl_Node [(p 0, [p 1], []), (p 1, [p 2], []), (p 2, [p 3], []), (n 6, [p 4], [])]))], lb [p 1, p 2, p 3, p 4] [n 0, n 1]⟩)]
noncomputable def k1 : Cut := ⟨i1, e1, impl_Node_commit.P1⟩
theorem h1 : k1.Holds P E.nt c1 := piece_holds (cuts := []) hE hmx .nil (by kernel_rfl)
@[reducible] def i2 : J := ⟨[(0, .ptr (p 0) 0), (2, .leaf i), (4, .leaf (.sl I (n 0) [n 0] [])), (5, .leaf i), (6, .leaf (.sl I (n 1) [n 1] [])), (53, .leaf (.sl (.of Y_impl_Peer) (n 2) [p 4] [])), (54, .leaf i), (55, .leaf i)], [(p 0, false, (mk Y_impl_Node [(p 0, [p 1], []), (p 1, [p 2], []), (p 2, [p 3], []), (n 6, [p 4], [])]))], lb [p 1, p 2, p 3, p 4] [n 0, n 1]⟩
@[reducible] def e2 : List (Ex × J) := [((.exit 2), ⟨[(0, .ptr (p 0) 0), (2, .leaf i), (4, .leaf (.sl I (n 0) [n 0] [])), (5, .leaf i), (6, .leaf (.sl I (n 1) [n 1] []))], [(p 0, false, (mk Y_impl_Node [(p 0, [p 1], []), (p 1, [p 2], []), (p 2, [p 3], []), (n 5, [p 4], [])]))], lb [p 1, p 2, p 3, p 4] [n 0, n 1]⟩)]
noncomputable def k2 : Cut := ⟨i2, e2, impl_Node_commit.L2⟩
theorem h2 : k2.Holds P E.nt (.loop c2) := loop_holds (cuts := [(115, k1)]) hE hmx (cut_cons (by kernel_rfl) h1 .nil) (by kernel_rfl)
@[reducible] def i4 : J := ⟨[(0, .ptr (p 0) 0), (2, .leaf i), (4, .leaf (.sl I (n 0) [n 0] [])), (5, .leaf i)], [(p 0, false, (mk Y_impl_Node [(p 0, [p 1], []), (p 1, [p 2], []), (p 2, [p 3], []), (n 4, [p 4], [])]))], lb [p 1, p 2, p 3, p 4] [n 0]⟩
@[reducible] def e4 : List (Ex × J) := [((.exit 0), ⟨[(0, .ptr (p 0) 0), (2, .leaf i), (4, .leaf (.sl I (n 0) [n 0] []))], [(p 0, false, (mk Y_impl_Node [(p 0, [p 1], []), (p 1, [p 2], []), (p 2, [p 3], []), (n 4, [p 4], [])]))], lb [p 1, p 2, p 3, p 4] [n 0]⟩)]
noncomputable def k4 : Cut := ⟨i4, e4, impl_Node_commit.L4⟩
theorem h4 : k4.Holds P E.nt (.loop c4) := loop_holds (cuts := [(4, k0), (103, k3), (202, k2)]) hE hmx (cut_cons (by kernel_rfl) h0 (cut_cons (by kernel_rfl) h3 (cut_cons (by kernel_rfl) h2 .nil))) (by kernel_rfl)
@[reducible] def i5 : J := ⟨[(0, .ptr (p 0) 0), (4, .leaf (.sl I (n 0) [n 0] [])), (9, .leaf i)], [(p 0, false, (mk Y_impl_Node [(p 0, [p 1], []), (p 1, [p 2], []), (p 2, [p 3], []), (n 4, [p 4], [])]))], lb [p 1, p 2, p 3, p 4] [n 0]⟩
@[reducible] def e5 : List (Ex × J) := [(.normal, ⟨[(0, .ptr (p 0) 0), (105, .leaf (.sc .bool))], [(p 0, false, (mk Y_impl_Node [(p 0, [p 1], []), (p 1, [p 2], []), (p 2, [p 3], []), (n 3, [p 4], [])]))], lb [p 1, p 2, p 3, p 4] []⟩)]
noncomputable def k5 : Cut := ⟨i5, e5, impl_Node_commit.P5⟩
theorem h5 : k5.Holds P E.nt c5 := piece_holds (cuts := []) hE hmx .nil (by kernel_rfl)
@[reducible] def i6 : J := ⟨[(0, .ptr (p 0) 0), (105, .leaf (.sc .bool))], [(p 0, false, (mk Y_impl_Node [(p 0, [p 1], []), (p 1, [p 2], []), (p 2, [p 3], []), (n 3, [p 4], [])]))], lb [p 1, p 2, p 3, p 4] []⟩
@[reducible] def e6 : List (Ex × J) := [(.normal, ⟨[], [(p 0, false, (mk Y_impl_Node [(p 0, [p 1], []), (p 1, [p 2], []), (n 2, [p 3], []), (n 3, [p 4], [])]))], lb [p 1, p 2, p 3, p 4] []⟩)]
noncomputable def k6 : Cut := ⟨i6, e6, impl_Node_commit.P6⟩
theorem h6 : k6.Holds P E.nt c6 := piece_holds (cuts := []) hE hmx .nil (by kernel_rfl)
noncomputable def s : Sig := ⟨139, 0, ji, jo, fun x => impl_Node_commit.f x.2.1⟩
theorem h : s.Holds P := mkC (fn := Tryz.f139) (body := b) (cuts := [(58, k4), (62, k5), (63, k6)]) (backs := []) hE hmx s (cut_cons (by kernel_rfl) h4 (cut_cons (by kernel_rfl) h5 (cut_cons (by kernel_rfl) h6 .nil))) (by kernel_rfl) (by kernel_rfl)
noncomputable def c : FnC P := ⟨s, ⟨by kernel_rfl, fun r => by kernel_rfl⟩, h⟩
end impl_Node_commit

namespace impl_Node_send
noncomputable def b : Code := (Tryz.f97.body).getD .skip
@[reducible] def ji : J := ⟨[(0, .ptr (p 0) 0), (1, .agg (mk Y_impl_Peer []))], [(p 0, true, (mk Y_impl_Node [(p 0, [p 1], []), (p 1, [p 2], []), (p 2, [p 3], []), (p 3, [p 4], [])]))], lb [p 1, p 2, p 3, p 4] []⟩
@[reducible] def jo : J := ⟨[(0, .agg (mk Y_impl_Message [(n 0, [n 0], []), (n 1, [n 1], [])]))], [], lb [] [n 0, n 1]⟩
noncomputable def E : Env := mkE (P := P) tab Tryz.f97.ntmps [] [impl_Node_message.c, impl_copyInts.c, impl_LogTerm.c]
theorem hE : E.Ok P := mkE_ok tabOk eqs_nil
noncomputable def s : Sig := ⟨97, 1, ji, jo, fun x => impl_Node_send.f x.1.2.1 x.2.1⟩
theorem h : s.Holds P := mkC (fn := Tryz.f97) (body := b) (cuts := []) (backs := []) hE hmx s .nil (by kernel_rfl) (by kernel_rfl)
noncomputable def c : FnC P := ⟨s, ⟨by kernel_rfl, fun r => by kernel_rfl⟩, h⟩
end impl_Node_send

namespace impl_Node_sendAll
noncomputable def b : Code := (Tryz.f42.body).getD .skip
@[reducible] def ji : J := ⟨[(0, .ptr (p 0) 0)], [(p 0, true, (mk Y_impl_Node [(p 0, [p 1], []), (p 1, [p 2], []), (p 2, [p 3], []), (p 3, [p 4], [])]))], lb [p 1, p 2, p 3, p 4] []⟩
@[reducible] def jo : J := ⟨[(0, .leaf (.sl (.of Y_impl_Message) (n 0) [n 0] [n 1]))], [], lb [] [n 0, n 1]⟩
noncomputable def E : Env := mkE (P := P) tab Tryz.f42.ntmps [] [impl_Node_send.c]
theorem hE : E.Ok P := mkE_ok tabOk eqs_nil
noncomputable def c0 : Code := (codeAt b 200 116).getD .skip
@[reducible] def i0 : J := ⟨[(0, .ptr (p 0) 0), (3, .leaf (.sl (.of Y_impl_Message) (n 0) [n 0] [n 1])), (10, .leaf (.sl (.of Y_impl_Peer) (p 3) [p 4] [])), (11, .leaf i), (12, .leaf i)], [(p 0, true, (mk Y_impl_Node [(p 0, [p 1], []), (p 1, [p 2], []), (p 2, [p 3], []), (n 5, [p 4], [])]))], lb [p 1, p 2, p 3, p 4] [n 0, n 1]⟩
@[reducible] def e0 : List (Ex × J) := [((.exit 0), ⟨[(3, .leaf (.sl (.of Y_impl_Message) (n 0) [n 0] [n 1]))], [(p 0, true, (mk Y_impl_Node [(p 0, [p 1], []), (p 1, [p 2], []), (p 2, [p 3], []), (n 4, [p 4], [])]))], lb [p 1, p 2, p 3, p 4] [n 0, n 1]⟩)]
noncomputable def k0 : Cut := ⟨i0, e0, impl_Node_sendAll.L0⟩
theorem h0 : k0.Holds P E.nt (.loop c0) := loop_holds (cuts := []) hE hmx .nil (by kernel_rfl)
noncomputable def s : Sig := ⟨42, 1, ji, jo, fun x => impl_Node_sendAll.f x.2.1⟩
theorem h : s.Holds P := mkC (fn := Tryz.f42) (body := b) (cuts := [(58, k0)]) (backs := []) hE hmx s (cut_cons (by kernel_rfl) h0 .nil) (by kernel_rfl) (by kernel_rfl)
noncomputable def c : FnC P := ⟨s, ⟨by kernel_rfl, fun r => by kernel_rfl⟩, h⟩
end impl_Node_sendAll

namespace impl_Node_lead
noncomputable def b : Code := (Tryz.f94.body).getD .skip
@[reducible] def ji : J := ⟨[(0, .ptr (p 0) 0)], [(p 0, false, (mk Y_impl_Node [(p 0, [p 1], []), (p 1, [p 2], []), (p 2, [p 3], []), (p 3, [p 4], [])]))], lb [p 1, p 3, p 4] [p 2]⟩
@[reducible] def jo : J := ⟨[(0, .leaf (.sl (.of Y_impl_Message) (n 0) [n 0] [n 1]))], [(p 0, false, (mk Y_impl_Node [(p 0, [p 1], []), (n 2, [p 2, n 2], []), (n 3, [], []), (n 4, [n 3], [])]))], lb [p 1] [p 2, n 0, n 1, n 2, n 3]⟩
noncomputable def E : Env := mkE (P := P) tab Tryz.f94.ntmps [] [impl_LogLast.c, impl_ConfOf.c, impl_without.c, impl_Node_commit.c, impl_Node_sendAll.c]
theorem hE : E.Ok P := mkE_ok tabOk eqs_nil
noncomputable def c0 : Code := (codeAt b 200 244).getD .skip
noncomputable def c1 : Code := (codeAt b 200 124).getD .skip
noncomputable def c2 : Code := (codeAt b 200 125).getD .skip
@[reducible] def i0 : J := ⟨[(0, .ptr (p 0) 0), (3, .leaf i), (39, .leaf (.sl I (n 0) [n 0] [])), (40, .leaf i), (41, .leaf i)], [(p 0, false, (mk Y_impl_Node [(p 0, [p 1], []), (p 1, [p 2], []), (n 3, [], []), (n 4, [n 1], [])]))], lb [p 1] [p 2, n 0, n 1]⟩
@[reducible] def e0 : List (Ex × J) := [((.exit 0), ⟨[(0, .ptr (p 0) 0), (3, .leaf i)], [(p 0, false, (mk Y_impl_Node [(p 0, [p 1], []), (p 1, [p 2], []), (n 2, [], []), (n 3, [n 0], [])]))], lb [p 1] [p 2, n 0]⟩)]
noncomputable def k0 : Cut := ⟨i0, e0, impl_Node_lead.L0⟩
theorem h0 : k0.Holds P E.nt (.loop c0) := loop_holds (cuts := []) hE hmx .nil (by kernel_rfl)
@[reducible] def i1 : J := ⟨[(0, .ptr (p 0) 0), (3, .leaf i)], [(p 0, false, (mk Y_impl_Node [(p 0, [p 1], []), (p 1, [p 2], []), (n 2, [], []), (n 3, [n 0], [])]))], lb [p 1] [p 2, n 0]⟩
@[reducible] def e1 : List (Ex × J) := [(.normal, ⟨[(0, .ptr (p 0) 0), (69, .leaf (.sc .bool))], [(p 0, false, (mk Y_impl_Node [(p 0, [p 1], []), (p 1, [p 2], []), (n 2, [], []), (n 3, [n 0], [])]))], lb [p 1] [p 2, n 0]⟩)]
noncomputable def k1 : Cut := ⟨i1, e1, impl_Node_lead.P1⟩
theorem h1 : k1.Holds P E.nt c1 := piece_holds (cuts := []) hE hmx .nil (by kernel_rfl)
@[reducible] def i2 : J := ⟨[(0, .ptr (p 0) 0), (69, .leaf (.sc .bool))], [(p 0, false, (mk Y_impl_Node [(p 0, [p 1], []), (p 1, [p 2], []), (n 2, [], []), (n 3, [n 0], [])]))], lb [p 1] [p 2, n 0]⟩
@[reducible] def e2 : List (Ex × J) := [(.normal, ⟨[(0, .ptr (p 0) 0)], [(p 0, false, (mk Y_impl_Node [(p 0, [p 1], []), (n 1, [p 2, n 0], []), (n 2, [], []), (n 3, [n 1], [])]))], lb [p 1] [p 2, n 0, n 1]⟩)]
noncomputable def k2 : Cut := ⟨i2, e2, impl_Node_lead.P2⟩
theorem h2 : k2.Holds P E.nt c2 := piece_holds (cuts := []) hE hmx .nil (by kernel_rfl)
noncomputable def s : Sig := ⟨94, 1, ji, jo, fun x => impl_Node_lead.f x.2.1⟩
theorem h : s.Holds P := mkC (fn := Tryz.f94) (body := b) (cuts := [(122, k0), (124, k1), (125, k2)]) (backs := []) hE hmx s (cut_cons (by kernel_rfl) h0 (cut_cons (by kernel_rfl) h1 (cut_cons (by kernel_rfl) h2 .nil))) (by kernel_rfl) (by kernel_rfl)
noncomputable def c : FnC P := ⟨s, ⟨by kernel_rfl, fun r => by kernel_rfl⟩, h⟩
end impl_Node_lead

namespace impl_appended
noncomputable def b : Code := (Tryz.f141.body).getD .skip
@[reducible] def ji : J := ⟨[(0, .agg (mk Y_impl_Log [(p 0, [p 1], [])])), (1, .leaf i), (2, .leaf (.sl (.of Y_impl_Entry) (p 1) [p 2] [])), (3, .leaf i)], [], lb [p 1, p 2] []⟩
@[reducible] def jo : J := ⟨[(0, .agg (mk Y_impl_Log [(n 0, [n 0], [])])), (1, .leaf (.sc .bool))], [], lb [] [n 0]⟩
noncomputable def E : Env := mkE (P := P) tab Tryz.f141.ntmps [] [impl_copyLog.c, impl_LogTerm.c, impl_LogOk.c]
theorem hE : E.Ok P := mkE_ok tabOk eqs_nil
noncomputable def c0 : Code := (codeAt b 200 116).getD .skip
@[reducible] def i0 : J := ⟨[(1, .leaf i), (2, .leaf (.sl (.of Y_impl_Entry) (p 1) [p 2] [])), (3, .leaf i), (4, .ptr 4 0), (8, .ptr 8 0), (10, .ptr 10 0), (16, .leaf (.sl (.of Y_impl_Entry) (n 1) [p 2] [])), (17, .leaf i), (18, .leaf i)], [(4, false, (mk Y_impl_Log [(p 0, [p 1], [])])), (8, false, (mk Y_impl_Log [(n 3, [], [])])), (10, false, (mk Y_impl_Log [(n 4, [n 0], [])]))], lb [p 1, p 2] [n 0]⟩
@[reducible] def e0 : List (Ex × J) := [((.exit 0), ⟨[(8, .ptr 8 0), (10, .ptr 10 0)], [(8, false, (mk Y_impl_Log [(n 0, [], [])])), (10, false, (mk Y_impl_Log [(n 1, [n 0], [])]))], lb [] [n 0]⟩), (.ret, ⟨[(8, .ptr 8 0), (9, .leaf (.sc .bool))], [(8, false, (mk Y_impl_Log [(n 0, [], [])]))], []⟩)]
noncomputable def k0 : Cut := ⟨i0, e0, impl_appended.L0⟩
theorem h0 : k0.Holds P E.nt (.loop c0) := loop_holds (cuts := []) hE hmx .nil (by kernel_rfl)
noncomputable def s : Sig := ⟨141, 2, ji, jo, fun x => impl_appended.f x.1.1 x.1.2.1 x.1.2.2.1 x.1.2.2.2.1⟩
theorem h : s.Holds P := mkC (fn := Tryz.f141) (body := b) (cuts := [(58, k0)]) (backs := []) hE hmx s (cut_cons (by kernel_rfl) h0 .nil) (by kernel_rfl) (by kernel_rfl)
noncomputable def c : FnC P := ⟨s, ⟨by kernel_rfl, fun r => by kernel_rfl⟩, h⟩
end impl_appended

namespace impl_Node_askedAppend_m
noncomputable def b : Code := (Tryz.f95.body).getD .skip
@[reducible] def ji : J := ⟨[(0, .ptr (p 0) 0), (1, .agg (mk Y_impl_Message [(p 4, [p 5], []), (p 5, [p 5], [])]))], [(p 0, false, (mk Y_impl_Node [(p 0, [p 1], []), (p 1, [p 2], []), (p 2, [p 3], []), (p 3, [p 4], [])]))], lb [p 1, p 2, p 3, p 4, p 5] []⟩
@[reducible] def jo : J := ⟨[(0, .agg (mk Y_impl_Message [(n 0, [], []), (n 1, [], [])]))], [(p 0, false, (mk Y_impl_Node [(p 0, [p 1], []), (n 3, [p 2, n 0], []), (n 4, [p 3], []), (n 5, [p 4], [])]))], lb [p 1, p 2, p 3, p 4] [n 0]⟩
noncomputable def E : Env := mkE (P := P) tab Tryz.f95.ntmps [] [impl_Node_message.c, impl_Node_follow.c, impl_LogLast.c, impl_LogTerm.c, impl_appended.c]
theorem hE : E.Ok P := mkE_ok tabOk eqs_nil
noncomputable def c0 : Code := (codeAt b 200 1021).getD .skip
@[reducible] def i0 : J := ⟨[(0, .ptr (p 0) 0), (3, .ptr 3 0), (4, .ptr 4 0), (5, .ptr 5 0), (6, .leaf i), (8, .leaf i), (9, .leaf i), (10, .leaf (.sl (.of Y_impl_Entry) (p 4) [p 5] [])), (53, .leaf (.sc .bool))], [(3, false, (mk Y_impl_Message [(n 1, [p 5], []), (p 5, [p 5], [])])), (4, false, (mk Y_impl_Message [(n 3, [], []), (n 4, [], [])])), (5, false, (mk Y_impl_Message [(n 5, [], []), (n 6, [], [])])), (p 0, false, (mk Y_impl_Node [(p 0, [p 1], []), (p 1, [p 2], []), (n 9, [], []), (n 10, [], [])]))], lb [p 1, p 2, p 5] []⟩
@[reducible] def e0 : List (Ex × J) := [(.normal, ⟨[(0, .ptr (p 0) 0), (3, .ptr 3 0), (4, .ptr 4 0), (5, .ptr 5 0), (6, .leaf i), (8, .leaf i), (9, .leaf i), (10, .leaf (.sl (.of Y_impl_Entry) (n 0) [p 5] []))], [(3, false, (mk Y_impl_Message [(n 1, [p 5], []), (p 5, [p 5], [])])), (4, false, (mk Y_impl_Message [(n 3, [], []), (n 4, [], [])])), (5, false, (mk Y_impl_Message [(n 5, [], []), (n 6, [], [])])), (p 0, false, (mk Y_impl_Node [(p 0, [p 1], []), (p 1, [p 2], []), (n 9, [], []), (n 10, [], [])]))], lb [p 1, p 2, p 5] []⟩)]
noncomputable def k0 : Cut := ⟨i0, e0, impl_Node_askedAppend.P0⟩
theorem h0 : k0.Holds P E.nt c0 := piece_holds (cuts := []) hE hmx .nil (by kernel_rfl)
noncomputable def s : Sig := ⟨95, 1, ji, jo, fun x => impl_Node_askedAppend.f x.1.2.1 x.2.1⟩
theorem h : s.Holds P := mkC (fn := Tryz.f95) (body := b) (cuts := [(1021, k0)]) (backs := []) hE hmx s (cut_cons (by kernel_rfl) h0 .nil) (by kernel_rfl) (by kernel_rfl)
noncomputable def c : FnC P := ⟨s, ⟨by kernel_rfl, fun r => by kernel_rfl⟩, h⟩
end impl_Node_askedAppend_m

namespace impl_Node_heard_c1_m
noncomputable def b : Code := (Tryz.f143.body).getD .skip
@[reducible] def ji : J := ⟨[(0, .agg (mk Y_impl_Peer [])), (1, .ptr (p 0) 0)], [(p 0, true, (mk Y_impl_Message [(p 0, [p 1], []), (p 1, [p 1], [])]))], lb [p 1] []⟩
@[reducible] def jo : J := ⟨[(0, .leaf (.sc .bool))], [], []⟩
noncomputable def E : Env := mkE (P := P) tab Tryz.f143.ntmps [] []
theorem hE : E.Ok P := mkE_ok tabOk eqs_nil
noncomputable def s : Sig := ⟨143, 1, ji, jo, fun x => impl_Node_heard_c1.f x.1.1 x.2.1⟩
theorem h : s.Holds P := mkC (fn := Tryz.f143) (body := b) (cuts := []) (backs := []) hE hmx s .nil (by kernel_rfl) (by kernel_rfl)
noncomputable def c : FnC P := ⟨s, ⟨by kernel_rfl, fun r => by kernel_rfl⟩, h⟩
end impl_Node_heard_c1_m

namespace slices_IndexFunc_Peer__impl_Node_heard_c1_m
noncomputable def b : Code := (Tryz.f142.body).getD .skip
@[reducible] def ji : J := ⟨[(0, .leaf (.sl (.of Y_impl_Peer) (p 0) [p 1] [])), (1, .fn 143 [some (p 0, 0)])], [(p 0, true, (mk Y_impl_Message [(p 1, [p 2], []), (p 2, [p 2], [])]))], lb [p 1, p 2] []⟩
@[reducible] def jo : J := ⟨[(0, .leaf i)], [], []⟩
noncomputable def E : Env := mkE (P := P) tab Tryz.f142.ntmps [] [impl_Node_heard_c1_m.c]
theorem hE : E.Ok P := mkE_ok tabOk eqs_nil
noncomputable def c0 : Code := (codeAt b 200 52).getD .skip
@[reducible] def i0 : J := ⟨[(0, .leaf (.sl (.of Y_impl_Peer) (p 0) [p 1] [])), (1, .fn 143 [some (p 0, 0)]), (7, .leaf i), (8, .leaf i)], [(p 0, true, (mk Y_impl_Message [(p 1, [p 2], []), (p 2, [p 2], [])]))], lb [p 1, p 2] []⟩
@[reducible] def e0 : List (Ex × J) := [((.exit 0), ⟨[], [(p 0, true, (mk Y_impl_Message [(p 1, [p 2], []), (p 2, [p 2], [])]))], lb [p 2] []⟩), (.ret, ⟨[(4, .leaf i)], [(p 0, true, (mk Y_impl_Message [(p 1, [p 2], []), (p 2, [p 2], [])]))], lb [p 2] []⟩)]
noncomputable def k0 : Cut := ⟨i0, e0, slices_IndexFunc_Peer__impl_Node_heard_c1.L0⟩
theorem h0 : k0.Holds P E.nt (.loop c0) := loop_holds (cuts := []) hE hmx .nil (by kernel_rfl)
noncomputable def s : Sig := ⟨142, 1, ji, jo, fun x => slices_IndexFunc_Peer__impl_Node_heard_c1.f x.1.1 x.2.1⟩
theorem h : s.Holds P := mkC (fn := Tryz.f142) (body := b) (cuts := [(26, k0)]) (backs := []) hE hmx s (cut_cons (by kernel_rfl) h0 .nil) (by kernel_rfl) (by kernel_rfl)
noncomputable def c : FnC P := ⟨s, ⟨by kernel_rfl, fun r => by kernel_rfl⟩, h⟩
end slices_IndexFunc_Peer__impl_Node_heard_c1_m

namespace impl_Node_heard_m
noncomputable def b : Code := (Tryz.f96.body).getD .skip
@[reducible] def ji : J := ⟨[(0, .ptr (p 0) 0), (1, .agg (mk Y_impl_Message [(p 4, [p 5], []), (p 5, [p 5], [])]))], [(p 0, false, (mk Y_impl_Node [(p 0, [p 1], []), (p 1, [p 2], []), (p 2, [p 3], []), (p 3, [p 4], [])]))], lb [p 1, p 2, p 3, p 5] [p 4]⟩
@[reducible] def jo : J := ⟨[(0, .leaf (.sl (.of Y_impl_Message) (n 0) [n 0] [n 1]))], [(p 0, false, (mk Y_impl_Node [(p 0, [p 1], []), (p 1, [p 2], []), (n 3, [p 3], []), (n 4, [p 4], [])]))], lb [p 1, p 2, p 3] [p 4, n 0, n 1]⟩
noncomputable def E : Env := mkE (P := P) tab Tryz.f96.ntmps [] [slices_IndexFunc_Peer__impl_Node_heard_c1_m.c, impl_LogLast.c, impl_Node_commit.c, impl_Node_send.c]
theorem hE : E.Ok P := mkE_ok tabOk eqs_nil
noncomputable def c0 : Code := (codeAt b 200 28).getD .skip
noncomputable def c1 : Code := (codeAt b 200 64892).getD .skip
@[reducible] def i0 : J := ⟨[(0, .ptr (p 0) 0), (3, .ptr 3 0), (5, .leaf i)], [(3, false, (mk Y_impl_Message [(p 4, [p 5], []), (p 5, [p 5], [])])), (p 0, false, (mk Y_impl_Node [(p 0, [p 1], []), (p 1, [p 2], []), (p 2, [p 3], []), (p 3, [p 4], [])]))], lb [p 1, p 2, p 3, p 5] [p 4]⟩
@[reducible] def e0 : List (Ex × J) := [(.normal, ⟨[(0, .ptr (p 0) 0), (3, .ptr 3 0), (5, .leaf i), (33, .leaf (.sc .bool))], [(3, false, (mk Y_impl_Message [(p 4, [p 5], []), (p 5, [p 5], [])])), (p 0, false, (mk Y_impl_Node [(p 0, [p 1], []), (p 1, [p 2], []), (p 2, [p 3], []), (p 3, [p 4], [])]))], lb [p 1, p 2, p 3, p 5] [p 4]⟩)]
noncomputable def k0 : Cut := ⟨i0, e0, impl_Node_heard.P0⟩
theorem h0 : k0.Holds P E.nt c0 := piece_holds (cuts := []) hE hmx .nil (by kernel_rfl)
@[reducible] def i1 : J := ⟨[(0, .ptr (p 0) 0), (6, .leaf i), (9, .ptr 9 0)], [(9, false, (mk Y_impl_Peer [])), (p 0, false, (mk Y_impl_Node [(p 0, [p 1], []), (p 1, [p 2], []), (n 2, [p 3], []), (n 3, [p 4], [])]))], lb [p 1, p 2, p 3] [p 4]⟩
@[reducible] def e1 : List (Ex × J) := [(.normal, ⟨[(0, .ptr (p 0) 0), (9, .ptr 9 0), (91, .leaf (.sc .bool))], [(9, false, (mk Y_impl_Peer [])), (p 0, false, (mk Y_impl_Node [(p 0, [p 1], []), (p 1, [p 2], []), (n 2, [p 3], []), (n 3, [p 4], [])]))], lb [p 1, p 2, p 3] [p 4]⟩)]
noncomputable def k1 : Cut := ⟨i1, e1, impl_Node_heard.P1⟩
theorem h1 : k1.Holds P E.nt c1 := piece_holds (cuts := []) hE hmx .nil (by kernel_rfl)
noncomputable def s : Sig := ⟨96, 1, ji, jo, fun x => impl_Node_heard.f x.1.2.1 x.2.1⟩
theorem h : s.Holds P := mkC (fn := Tryz.f96) (body := b) (cuts := [(28, k0), (64892, k1)]) (backs := []) hE hmx s (cut_cons (by kernel_rfl) h0 (cut_cons (by kernel_rfl) h1 .nil)) (by kernel_rfl) (by kernel_rfl)
noncomputable def c : FnC P := ⟨s, ⟨by kernel_rfl, fun r => by kernel_rfl⟩, h⟩
end impl_Node_heard_m

namespace impl_Node_receive_m
noncomputable def b : Code := (Tryz.f41.body).getD .skip
@[reducible] def ji : J := ⟨[(0, .ptr (p 0) 0), (1, .agg (mk Y_impl_Message [(p 4, [p 5], []), (p 5, [p 5], [])]))], [(p 0, false, (mk Y_impl_Node [(p 0, [p 1], []), (p 1, [p 2], []), (p 2, [p 3], []), (p 3, [p 4], [])]))], lb [p 1, p 3, p 5] [p 2, p 4]⟩
@[reducible] def jo : J := ⟨[(0, .leaf (.sl (.of Y_impl_Message) (n 0) [n 0] [n 1]))], [(p 0, false, (mk Y_impl_Node [(p 0, [p 1], []), (n 2, [p 2, n 2], []), (n 3, [p 3, n 3], []), (n 4, [p 4, n 4], [])]))], lb [p 1, p 3] [p 2, p 4, n 0, n 1, n 2, n 3, n 4]⟩
noncomputable def E : Env := mkE (P := P) tab Tryz.f41.ntmps [] [impl_Node_askedVote_m.c, impl_without.c, slices_Sort_int.c, impl_ConfOf.c, impl_Most.c, impl_Node_lead.c, impl_Node_askedAppend_m.c, impl_Node_follow.c, impl_Node_heard_m.c]
theorem hE : E.Ok P := mkE_ok tabOk eqs_nil
noncomputable def c2 : Code := (codeAt b 200 215).getD .skip
noncomputable def c0 : Code := (codeAt c2 200 8).getD .skip
noncomputable def c1 : Code := (codeAt c2 200 125).getD .skip
@[reducible] def i0 : J := ⟨[(0, .ptr (p 0) 0), (3, .ptr 3 0)], [(3, false, (mk Y_impl_Message [(p 4, [p 5], []), (p 5, [p 5], [])])), (p 0, false, (mk Y_impl_Node [(p 0, [p 1], []), (p 1, [p 2], []), (p 2, [p 3], []), (p 3, [p 4], [])]))], lb [p 1, p 3, p 5] [p 2, p 4]⟩
@[reducible] def e0 : List (Ex × J) := [(.normal, ⟨[(0, .ptr (p 0) 0), (3, .ptr 3 0), (36, .leaf (.sc .bool))], [(3, false, (mk Y_impl_Message [(p 4, [p 5], []), (p 5, [p 5], [])])), (p 0, false, (mk Y_impl_Node [(p 0, [p 1], []), (p 1, [p 2], []), (p 2, [p 3], []), (p 3, [p 4], [])]))], lb [p 1, p 3, p 5] [p 2, p 4]⟩)]
noncomputable def k0 : Cut := ⟨i0, e0, impl_Node_receive.P0⟩
theorem h0 : k0.Holds P E.nt c0 := piece_holds (cuts := []) hE hmx .nil (by kernel_rfl)
@[reducible] def i1 : J := ⟨[(0, .ptr (p 0) 0), (3, .ptr 3 0), (81, .leaf (.sc .bool))], [(3, false, (mk Y_impl_Message [(p 4, [p 5], []), (p 5, [p 5], [])])), (p 0, false, (mk Y_impl_Node [(p 0, [p 1], []), (p 1, [p 2], []), (p 2, [p 3], []), (p 3, [p 4], [])]))], lb [p 1, p 3, p 5] [p 2, p 4]⟩
@[reducible] def e1 : List (Ex × J) := [(.normal, ⟨[], [(p 0, false, (mk Y_impl_Node [(p 0, [p 1], []), (p 1, [p 2], []), (n 2, [p 3], []), (n 3, [p 4], [])]))], lb [p 1, p 3] [p 2, p 4]⟩)]
noncomputable def k1 : Cut := ⟨i1, e1, impl_Node_receive.P1⟩
theorem h1 : k1.Holds P E.nt c1 := piece_holds (cuts := []) hE hmx .nil (by kernel_rfl)
@[reducible] def i2 : J := ⟨[(0, .ptr (p 0) 0), (3, .ptr 3 0), (6, .leaf i), (16, .leaf (.sc .bool))], [(3, false, (mk Y_impl_Message [(p 4, [p 5], []), (p 5, [p 5], [])])), (p 0, false, (mk Y_impl_Node [(p 0, [p 1], []), (p 1, [p 2], []), (p 2, [p 3], []), (p 3, [p 4], [])]))], lb [p 1, p 3, p 5] [p 2, p 4]⟩
@[reducible] def e2 : List (Ex × J) := [(.normal, ⟨[], [(p 0, false, (mk Y_impl_Node [(p 0, [p 1], []), (p 1, [p 2], []), (n 2, [p 3, n 0], []), (n 3, [p 4], [])]))], lb [p 1, p 3] [p 2, p 4, n 0]⟩), (.ret, ⟨[(4, .leaf (.sl (.of Y_impl_Message) (n 0) [n 0] [n 1]))], [(p 0, false, (mk Y_impl_Node [(p 0, [p 1], []), (n 2, [p 2, n 2], []), (n 3, [p 3], []), (n 4, [p 4, n 3], [])]))], lb [p 1, p 3] [p 2, p 4, n 0, n 1, n 2, n 3]⟩)]
noncomputable def k2 : Cut := ⟨i2, e2, impl_Node_receive.P2⟩
theorem h2 : k2.Holds P E.nt c2 := piece_holds (cuts := [(8, k0), (125, k1)]) hE hmx (cut_cons (by kernel_rfl) h0 (cut_cons (by kernel_rfl) h1 .nil)) (by kernel_rfl)
noncomputable def s : Sig := ⟨41, 1, ji, jo, fun x => impl_Node_receive.f x.1.2.1 x.2.1⟩
theorem h : s.Holds P := mkC (fn := Tryz.f41) (body := b) (cuts := [(215, k2)]) (backs := []) hE hmx s (cut_cons (by kernel_rfl) h2 .nil) (by kernel_rfl) (by kernel_rfl)
noncomputable def c : FnC P := ⟨s, ⟨by kernel_rfl, fun r => by kernel_rfl⟩, h⟩
end impl_Node_receive_m

namespace impl_Receive_m
noncomputable def b : Code := (Tryz.f8.body).getD .skip
@[reducible] def ji : J := ⟨[(0, .agg (mk Y_impl_Node [(p 0, [p 1], []), (p 1, [p 1], []), (p 2, [p 1], []), (p 3, [p 1], [])])), (1, .agg (mk Y_impl_Message [(p 4, [p 5], []), (p 5, [p 5], [])]))], [], lb [p 1, p 5] []⟩
@[reducible] def jo : J := ⟨[(0, .agg (mk Y_impl_Node [(n 0, [n 0], []), (n 1, [n 1], []), (n 2, [n 2], []), (n 3, [n 3], [])])), (1, .leaf (.sl (.of Y_impl_Message) (n 4) [n 4] [n 5])), (2, .leaf (.sc .bool))], [], lb [] [n 0, n 1, n 2, n 3, n 4, n 5]⟩
noncomputable def E : Env := mkE (P := P) tab Tryz.f8.ntmps [] [impl_NodeOk_m.c, impl_MessageOk_m.c, impl_copyNode_m.c, impl_Node_follow.c, impl_Node_receive_m.c]
theorem hE : E.Ok P := mkE_ok tabOk eqs_nil
noncomputable def c0 : Code := (codeAt b 200 12).getD .skip
noncomputable def c1 : Code := (codeAt b 200 61).getD .skip
@[reducible] def i0 : J := ⟨[(2, .ptr 2 0), (3, .ptr 3 0), (4, .ptr 4 0)], [(2, false, (mk Y_impl_Node [(p 0, [p 1], []), (p 1, [p 1], []), (p 2, [p 1], []), (p 3, [p 1], [])])), (3, false, (mk Y_impl_Message [(p 4, [p 5], []), (p 5, [p 5], [])])), (4, false, (mk Y_impl_Node [(n 6, [], []), (n 7, [], []), (n 8, [], []), (n 9, [], [])]))], lb [p 1, p 5] []⟩
@[reducible] def e0 : List (Ex × J) := [(.normal, ⟨[(2, .ptr 2 0), (3, .ptr 3 0), (4, .ptr 4 0), (23, .leaf (.sc .bool))], [(2, false, (mk Y_impl_Node [(p 0, [p 1], []), (p 1, [p 1], []), (p 2, [p 1], []), (p 3, [p 1], [])])), (3, false, (mk Y_impl_Message [(p 4, [p 5], []), (p 5, [p 5], [])])), (4, false, (mk Y_impl_Node [(n 6, [], []), (n 7, [], []), (n 8, [], []), (n 9, [], [])]))], lb [p 1, p 5] []⟩)]
noncomputable def k0 : Cut := ⟨i0, e0, impl_Receive.P0⟩
theorem h0 : k0.Holds P E.nt c0 := piece_holds (cuts := []) hE hmx .nil (by kernel_rfl)
@[reducible] def i1 : J := ⟨[(3, .ptr 3 0), (4, .ptr 4 0), (7, .ptr 7 0), (31, .leaf (.sc .bool))], [(3, false, (mk Y_impl_Message [(p 4, [p 5], []), (p 5, [p 5], [])])), (4, false, (mk Y_impl_Node [(n 2, [], []), (n 3, [], []), (n 4, [], []), (n 5, [], [])])), (7, false, (mk Y_impl_Node [(n 6, [n 0], []), (n 7, [n 1], []), (n 8, [n 2], []), (n 9, [n 3], [])]))], lb [p 5] [n 0, n 1, n 2, n 3]⟩
@[reducible] def e1 : List (Ex × J) := [(.normal, ⟨[(3, .ptr 3 0), (4, .ptr 4 0), (7, .ptr 7 0)], [(3, false, (mk Y_impl_Message [(p 4, [p 5], []), (p 5, [p 5], [])])), (4, false, (mk Y_impl_Node [(n 2, [], []), (n 3, [], []), (n 4, [], []), (n 5, [], [])])), (7, false, (mk Y_impl_Node [(n 6, [n 0], []), (n 7, [n 1], []), (n 8, [n 2], []), (n 9, [n 3], [])]))], lb [p 5] [n 0, n 1, n 2, n 3]⟩)]
noncomputable def k1 : Cut := ⟨i1, e1, impl_Receive.P1⟩
theorem h1 : k1.Holds P E.nt c1 := piece_holds (cuts := []) hE hmx .nil (by kernel_rfl)
noncomputable def s : Sig := ⟨8, 3, ji, jo, fun x => impl_Receive.f x.1.1 x.1.2.1⟩
theorem h : s.Holds P := mkC (fn := Tryz.f8) (body := b) (cuts := [(12, k0), (61, k1)]) (backs := []) hE hmx s (cut_cons (by kernel_rfl) h0 (cut_cons (by kernel_rfl) h1 .nil)) (by kernel_rfl) (by kernel_rfl)
noncomputable def c : FnC P := ⟨s, ⟨by kernel_rfl, fun r => by kernel_rfl⟩, h⟩
end impl_Receive_m

namespace spec_DrawPlaces
noncomputable def b : Code := (Tryz.f10.body).getD .skip
@[reducible] def ji : J := ⟨[(0, .leaf (.sl (.int .u8) (p 0) [p 1] []))], [], lb [p 1] []⟩
@[reducible] def jo : J := ⟨[(0, .leaf (.sl I (n 0) [n 0] []))], [], lb [] [n 0]⟩
noncomputable def E : Env := mkE (P := P) tab Tryz.f10.ntmps [] [spec_l01New.c, spec_l01Byte.c, spec_l01Below.c]
theorem hE : E.Ok P := mkE_ok tabOk eqs_nil
noncomputable def c0 : Code := (codeAt b 200 500).getD .skip
@[reducible] def i0 : J := ⟨[(3, .ptr 5000448 0), (4, .leaf (.sl I (n 0) [n 0] [])), (5, .leaf i)], [(5000448, false, (mk Y_spec_l01Cur [(p 0, [p 1], [])]))], lb [p 1] [n 0]⟩
@[reducible] def e0 : List (Ex × J) := [((.exit 0), ⟨[(4, .leaf (.sl I (n 0) [n 0] []))], [], lb [] [n 0]⟩)]
noncomputable def k0 : Cut := ⟨i0, e0, spec_DrawPlaces.L0⟩
theorem h0 : k0.Holds P E.nt (.loop c0) := loop_holds (cuts := []) hE hmx .nil (by kernel_rfl)
noncomputable def s : Sig := ⟨10, 1, ji, jo, fun x => spec_DrawPlaces.f x.1.1⟩
theorem h : s.Holds P := mkC (fn := Tryz.f10) (body := b) (cuts := [(250, k0)]) (backs := []) hE hmx s (cut_cons (by kernel_rfl) h0 .nil) (by kernel_rfl) (by kernel_rfl)
noncomputable def c : FnC P := ⟨s, ⟨by kernel_rfl, fun r => by kernel_rfl⟩, h⟩
end spec_DrawPlaces

namespace impl_Node_stand
noncomputable def b : Code := (Tryz.f45.body).getD .skip
@[reducible] def ji : J := ⟨[(0, .ptr (p 0) 0)], [(p 0, false, (mk Y_impl_Node [(p 0, [p 1], []), (p 1, [p 2], []), (p 2, [p 3], []), (p 3, [p 4], [])]))], lb [p 1, p 3, p 4] [p 2]⟩
@[reducible] def jo : J := ⟨[(0, .leaf (.sl (.of Y_impl_Message) (n 0) [n 0] [n 1]))], [(p 0, false, (mk Y_impl_Node [(p 0, [p 1], []), (n 2, [p 2, n 2], []), (n 3, [n 3], []), (n 4, [p 4, n 4], [])]))], lb [p 1, p 4] [p 2, n 0, n 1, n 2, n 3, n 4]⟩
noncomputable def E : Env := mkE (P := P) tab Tryz.f45.ntmps [] [impl_ConfOf.c, impl_Most.c, impl_Node_lead.c, impl_without.c, impl_Node_message.c, impl_LogLast.c]
theorem hE : E.Ok P := mkE_ok tabOk eqs_nil
noncomputable def c0 : Code := (codeAt b 200 2036).getD .skip
@[reducible] def i0 : J := ⟨[(0, .ptr (p 0) 0), (4, .leaf (.sl (.of Y_impl_Message) (n 0) [n 0] [])), (54, .leaf (.sl I (n 1) [n 1] [])), (55, .leaf i), (56, .leaf i)], [(p 0, false, (mk Y_impl_Node [(p 0, [p 1], []), (p 1, [p 2], []), (n 4, [n 2], []), (p 3, [p 4], [])]))], lb [p 1, p 4] [p 2, n 0, n 1, n 2]⟩
@[reducible] def e0 : List (Ex × J) := [((.exit 0), ⟨[(4, .leaf (.sl (.of Y_impl_Message) (n 0) [n 0] []))], [(p 0, false, (mk Y_impl_Node [(p 0, [p 1], []), (p 1, [p 2], []), (n 3, [n 1], []), (p 3, [p 4], [])]))], lb [p 1, p 4] [p 2, n 0, n 1]⟩)]
noncomputable def k0 : Cut := ⟨i0, e0, impl_Node_stand.L0⟩
theorem h0 : k0.Holds P E.nt (.loop c0) := loop_holds (cuts := []) hE hmx .nil (by kernel_rfl)
noncomputable def s : Sig := ⟨45, 1, ji, jo, fun x => impl_Node_stand.f x.2.1⟩
theorem h : s.Holds P := mkC (fn := Tryz.f45) (body := b) (cuts := [(1018, k0)]) (backs := []) hE hmx s (cut_cons (by kernel_rfl) h0 .nil) (by kernel_rfl) (by kernel_rfl)
noncomputable def c : FnC P := ⟨s, ⟨by kernel_rfl, fun r => by kernel_rfl⟩, h⟩
end impl_Node_stand

namespace impl_Tick_m
noncomputable def b : Code := (Tryz.f9.body).getD .skip
@[reducible] def ji : J := ⟨[(0, .agg (mk Y_impl_Node [(p 0, [p 1], []), (p 1, [p 1], []), (p 2, [p 1], []), (p 3, [p 1], [])])), (1, .leaf i)], [], lb [p 1] []⟩
@[reducible] def jo : J := ⟨[(0, .agg (mk Y_impl_Node [(n 0, [n 0], []), (n 1, [n 1], []), (n 2, [n 2], []), (n 3, [n 3], [])])), (1, .leaf (.sl (.of Y_impl_Message) (n 4) [n 4] [n 5])), (2, .leaf (.sc .bool))], [], lb [] [n 0, n 1, n 2, n 3, n 4, n 5]⟩
noncomputable def E : Env := mkE (P := P) tab Tryz.f9.ntmps [] [impl_NodeOk_m.c, impl_within.c, impl_copyNode_m.c, impl_Node_sendAll.c, impl_ConfOf_m.c, slices_Contains_int.c, impl_Node_stand.c]
theorem hE : E.Ok P := mkE_ok tabOk eqs_nil
noncomputable def c0 : Code := (codeAt b 200 12).getD .skip
noncomputable def c1 : Code := (codeAt b 200 1020).getD .skip
@[reducible] def i0 : J := ⟨[(1, .leaf i), (2, .ptr 2 0), (4, .ptr 4 0)], [(2, false, (mk Y_impl_Node [(p 0, [p 1], []), (p 1, [p 1], []), (p 2, [p 1], []), (p 3, [p 1], [])])), (4, false, (mk Y_impl_Node [(n 4, [], []), (n 5, [], []), (n 6, [], []), (n 7, [], [])]))], lb [p 1] []⟩
@[reducible] def e0 : List (Ex × J) := [(.normal, ⟨[(1, .leaf i), (2, .ptr 2 0), (4, .ptr 4 0), (16, .leaf (.sc .bool))], [(2, false, (mk Y_impl_Node [(p 0, [p 1], []), (p 1, [p 1], []), (p 2, [p 1], []), (p 3, [p 1], [])])), (4, false, (mk Y_impl_Node [(n 4, [], []), (n 5, [], []), (n 6, [], []), (n 7, [], [])]))], lb [p 1] []⟩)]
noncomputable def k0 : Cut := ⟨i0, e0, impl_Tick.P0⟩
theorem h0 : k0.Holds P E.nt c0 := piece_holds (cuts := []) hE hmx .nil (by kernel_rfl)
@[reducible] def i1 : J := ⟨[(2, .ptr 2 0), (4, .ptr 4 0), (7, .ptr 7 0)], [(2, false, (mk Y_impl_Node [(p 0, [p 1], []), (p 1, [p 1], []), (p 2, [p 1], []), (p 3, [p 1], [])])), (4, false, (mk Y_impl_Node [(n 4, [], []), (n 5, [], []), (n 6, [], []), (n 7, [], [])])), (7, false, (mk Y_impl_Node [(n 8, [n 0], []), (n 9, [n 1], []), (n 10, [n 2], []), (n 11, [n 3], [])]))], lb [p 1] [n 0, n 1, n 2, n 3]⟩
@[reducible] def e1 : List (Ex × J) := [(.normal, ⟨[(4, .ptr 4 0), (7, .ptr 7 0), (48, .leaf (.sc .bool))], [(4, false, (mk Y_impl_Node [(n 0, [], []), (n 1, [], []), (n 2, [], []), (n 3, [], [])])), (7, false, (mk Y_impl_Node [(n 4, [n 0], []), (n 5, [n 1], []), (n 6, [n 2], []), (n 7, [n 3], [])]))], lb [] [n 0, n 1, n 2, n 3]⟩)]
noncomputable def k1 : Cut := ⟨i1, e1, impl_Tick.P1⟩
theorem h1 : k1.Holds P E.nt c1 := piece_holds (cuts := []) hE hmx .nil (by kernel_rfl)
noncomputable def s : Sig := ⟨9, 3, ji, jo, fun x => impl_Tick.f x.1.1 x.1.2.1⟩
theorem h : s.Holds P := mkC (fn := Tryz.f9) (body := b) (cuts := [(12, k0), (1020, k1)]) (backs := []) hE hmx s (cut_cons (by kernel_rfl) h0 (cut_cons (by kernel_rfl) h1 .nil)) (by kernel_rfl) (by kernel_rfl)
noncomputable def c : FnC P := ⟨s, ⟨by kernel_rfl, fun r => by kernel_rfl⟩, h⟩
end impl_Tick_m

namespace laws_FnNodes
noncomputable def b : Code := (Tryz.f3.body).getD .skip
@[reducible] def ji : J := ⟨[(0, .leaf (.sl (.int .u8) (p 0) [p 1] []))], [], lb [p 1] []⟩
@[reducible] def jo : J := ⟨[(0, .leaf (.sc .bool))], [], []⟩
noncomputable def E : Env := mkE (P := P) tab Tryz.f3.ntmps [43] [laws_big.c, spec_DrawRightNode.c, impl_NodeOk_m.c, impl_Receive_m.c, spec_DrawPlaces.c, impl_Tick_m.c, spec_Receive_m2.c]
theorem hE : E.Ok P := mkE_ok tabOk (eqs_cons eqOk43 eqs_nil)
noncomputable def c0 : Code := (codeAt b 200 1020).getD .skip
noncomputable def c1 : Code := (codeAt b 200 4093).getD .skip
noncomputable def c5 : Code := (codeAt b 200 32756).getD .skip
noncomputable def c2 : Code := (codeAt c5 200 100).getD .skip
noncomputable def c4 : Code := (codeAt c5 200 412).getD .skip
noncomputable def c3 : Code := (codeAt c4 200 24).getD .skip
@[reducible] def i0 : J := ⟨[(3, .ptr 3 0), (5, .ptr 5 0), (6, .leaf (.sl (.of Y_impl_Message) (n 0) [n 0] [n 1])), (7, .leaf (.sc .bool)), (8, .ptr 8 0), (10, .leaf (.sc .bool)), (12, .leaf (.sl (.of Y_impl_Message) (n 1) [n 2] [n 3])), (13, .leaf (.sc .bool))], [(3, false, (mk Y_impl_Node [(n 2, [n 4], []), (n 3, [n 4], []), (n 4, [n 4], []), (n 5, [n 4], [])])), (5, false, (mk Y_impl_Node [(n 6, [n 5], []), (n 7, [n 6], []), (n 8, [n 7], []), (n 9, [n 8], [])])), (8, false, (mk Y_impl_Node [(n 10, [n 9], []), (n 11, [n 10], []), (n 12, [n 11], []), (n 13, [n 12], [])]))], lb [] [n 0, n 1, n 2, n 3, n 4, n 5, n 6, n 7, n 8, n 9, n 10, n 11, n 12]⟩
@[reducible] def e0 : List (Ex × J) := [(.normal, ⟨[(3, .ptr 3 0), (5, .ptr 5 0), (7, .leaf (.sc .bool)), (8, .ptr 8 0), (67, .leaf (.sc .bool))], [(3, false, (mk Y_impl_Node [(n 0, [n 0], []), (n 1, [n 0], []), (n 2, [n 0], []), (n 3, [n 0], [])])), (5, false, (mk Y_impl_Node [(n 4, [n 1], []), (n 5, [n 2], []), (n 6, [n 3], []), (n 7, [n 4], [])])), (8, false, (mk Y_impl_Node [(n 8, [n 5], []), (n 9, [n 6], []), (n 10, [n 7], []), (n 11, [n 8], [])]))], lb [] [n 0, n 1, n 2, n 3, n 4, n 5, n 6, n 7, n 8]⟩)]
noncomputable def k0 : Cut := ⟨i0, e0, laws_FnNodes.P0⟩
theorem h0 : k0.Holds P E.nt c0 := piece_holds (cuts := []) hE hmx .nil (by kernel_rfl)
@[reducible] def i1 : J := ⟨[(3, .ptr 3 0), (5, .ptr 5 0), (14, .leaf (.sl (.of Y_impl_Node) (n 0) [n 0] [n 1])), (70, .leaf (.sc .bool))], [(3, false, (mk Y_impl_Node [(n 1, [n 2], []), (n 2, [n 2], []), (n 3, [n 2], []), (n 4, [n 2], [])])), (5, false, (mk Y_impl_Node [(n 5, [n 3], []), (n 6, [n 4], []), (n 7, [n 5], []), (n 8, [n 6], [])]))], lb [] [n 0, n 1, n 2, n 3, n 4, n 5, n 6]⟩
@[reducible] def e1 : List (Ex × J) := [(.normal, ⟨[(3, .ptr 3 0), (14, .leaf (.sl (.of Y_impl_Node) (n 0) [n 0] [n 1]))], [(3, false, (mk Y_impl_Node [(n 1, [n 2], []), (n 2, [n 2], []), (n 3, [n 2], []), (n 4, [n 2], [])]))], lb [] [n 0, n 1, n 2]⟩)]
noncomputable def k1 : Cut := ⟨i1, e1, laws_FnNodes.P1⟩
theorem h1 : k1.Holds P E.nt c1 := piece_holds (cuts := []) hE hmx .nil (by kernel_rfl)
@[reducible] def i2 : J := ⟨[(3, .ptr 3 0), (14, .leaf (.sl (.of Y_impl_Node) (n 0) [n 0] [n 1])), (15, .leaf i), (16, .ptr 16 0)], [(3, false, (mk Y_impl_Node [(n 1, [n 2], []), (n 2, [n 2], []), (n 3, [n 2], []), (n 4, [n 2], [])])), (16, false, (mk Y_impl_Node [(n 5, [n 1], []), (n 6, [n 1], []), (n 7, [n 1], []), (n 8, [n 1], [])]))], lb [] [n 0, n 1, n 2]⟩
@[reducible] def e2 : List (Ex × J) := [(.normal, ⟨[(3, .ptr 3 0), (14, .leaf (.sl (.of Y_impl_Node) (n 0) [n 0] [n 1])), (15, .leaf i), (16, .ptr 16 0), (127, .leaf (.sc .bool))], [(3, false, (mk Y_impl_Node [(n 1, [n 2], []), (n 2, [n 2], []), (n 3, [n 2], []), (n 4, [n 2], [])])), (16, false, (mk Y_impl_Node [(n 5, [n 1], []), (n 6, [n 1], []), (n 7, [n 1], []), (n 8, [n 1], [])]))], lb [] [n 0, n 1, n 2]⟩)]
noncomputable def k2 : Cut := ⟨i2, e2, laws_FnNodes.P2⟩
theorem h2 : k2.Holds P E.nt c2 := piece_holds (cuts := []) hE hmx .nil (by kernel_rfl)
@[reducible] def i3 : J := ⟨[(3, .ptr 3 0), (14, .leaf (.sl (.of Y_impl_Node) (n 0) [n 0] [n 1])), (15, .leaf i), (16, .ptr 16 0), (17, .leaf i)], [(3, false, (mk Y_impl_Node [(n 1, [n 2], []), (n 2, [n 2], []), (n 3, [n 2], []), (n 4, [n 2], [])])), (16, false, (mk Y_impl_Node [(n 5, [n 1], []), (n 6, [n 1], []), (n 7, [n 1], []), (n 8, [n 1], [])]))], lb [] [n 0, n 1, n 2]⟩
@[reducible] def e3 : List (Ex × J) := [(.normal, ⟨[(3, .ptr 3 0), (14, .leaf (.sl (.of Y_impl_Node) (n 0) [n 0] [n 1])), (15, .leaf i), (16, .ptr 16 0), (17, .leaf i), (173, .leaf (.sc .bool))], [(3, false, (mk Y_impl_Node [(n 1, [n 2], []), (n 2, [n 2], []), (n 3, [n 2], []), (n 4, [n 2], [])])), (16, false, (mk Y_impl_Node [(n 5, [n 1], []), (n 6, [n 1], []), (n 7, [n 1], []), (n 8, [n 1], [])]))], lb [] [n 0, n 1, n 2]⟩)]
noncomputable def k3 : Cut := ⟨i3, e3, laws_FnNodes.P3⟩
theorem h3 : k3.Holds P E.nt c3 := piece_holds (cuts := []) hE hmx .nil (by kernel_rfl)
@[reducible] def i4 : J := ⟨[(3, .ptr 3 0), (14, .leaf (.sl (.of Y_impl_Node) (n 0) [n 0] [n 1])), (15, .leaf i), (16, .ptr 16 0), (17, .leaf i)], [(3, false, (mk Y_impl_Node [(n 1, [n 2], []), (n 2, [n 2], []), (n 3, [n 2], []), (n 4, [n 2], [])])), (16, false, (mk Y_impl_Node [(n 5, [n 1], []), (n 6, [n 1], []), (n 7, [n 1], []), (n 8, [n 1], [])]))], lb [] [n 0, n 1, n 2]⟩
@[reducible] def e4 : List (Ex × J) := [((.exit 2), ⟨[(3, .ptr 3 0), (14, .leaf (.sl (.of Y_impl_Node) (n 0) [n 0] [n 1])), (15, .leaf i)], [(3, false, (mk Y_impl_Node [(n 1, [n 2], []), (n 2, [n 2], []), (n 3, [n 2], []), (n 4, [n 2], [])]))], lb [] [n 0, n 1, n 2]⟩), (.ret, ⟨[(2, .leaf (.sc .bool))], [], []⟩)]
noncomputable def k4 : Cut := ⟨i4, e4, laws_FnNodes.L4⟩
theorem h4 : k4.Holds P E.nt (.loop c4) := loop_holds (cuts := [(24, k3)]) hE hmx (cut_cons (by kernel_rfl) h3 .nil) (by kernel_rfl)
@[reducible] def i5 : J := ⟨[(3, .ptr 3 0), (14, .leaf (.sl (.of Y_impl_Node) (n 0) [n 0] [n 1])), (15, .leaf i)], [(3, false, (mk Y_impl_Node [(n 1, [n 2], []), (n 2, [n 2], []), (n 3, [n 2], []), (n 4, [n 2], [])]))], lb [] [n 0, n 1, n 2]⟩
@[reducible] def e5 : List (Ex × J) := [((.exit 0), ⟨[], [], []⟩), (.ret, ⟨[(2, .leaf (.sc .bool))], [], []⟩)]
noncomputable def k5 : Cut := ⟨i5, e5, laws_FnNodes.L5⟩
theorem h5 : k5.Holds P E.nt (.loop c5) := loop_holds (cuts := [(100, k2), (206, k4)]) hE hmx (cut_cons (by kernel_rfl) h2 (cut_cons (by kernel_rfl) h4 .nil)) (by kernel_rfl)
noncomputable def s : Sig := ⟨3, 1, ji, jo, fun x => laws_FnNodes.f x.1.1⟩
theorem h : s.Holds P := mkC (fn := Tryz.f3) (body := b) (cuts := [(1020, k0), (4093, k1), (16378, k5)]) (backs := []) hE hmx s (cut_cons (by kernel_rfl) h0 (cut_cons (by kernel_rfl) h1 (cut_cons (by kernel_rfl) h5 .nil))) (by kernel_rfl) (by kernel_rfl)
noncomputable def c : FnC P := ⟨s, ⟨by kernel_rfl, fun r => by kernel_rfl⟩, h⟩
end laws_FnNodes

end Go.Proofs.YtnnnpppodblblaaGreat.Ct
