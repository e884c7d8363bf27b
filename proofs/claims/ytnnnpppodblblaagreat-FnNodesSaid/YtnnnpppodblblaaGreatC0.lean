/- The functions of the program answer as the plain functions say, by the evaluator. Printed by a program. -/
import Derived.Test.YtnnnpppodblblaaGreatPu0
import Derived.Test.YtnnnpppodblblaaGreatProg
import Derived.Tactics
/-
The program's functions compute what the plain functions say (printed by gen2.py).
-/
namespace Go.Proofs.YtnnnpppodblblaaGreat.Ct
open Go Go.Proofs.YtnnnpppodblblaaGreat.Ev Go.Proofs.YtnnnpppodblblaaGreat.Sh Go.Proofs.YtnnnpppodblblaaGreat.Pu Go.Proofs
set_option maxRecDepth 100000

noncomputable abbrev P : Program := Tryz.prog
@[reducible] def Y_impl_Command : List Ty := [I, I, I, .str, .str, I]
@[reducible] def Y_impl_Entry : List Ty := [I, I, .str]
@[reducible] def Y_impl_Item : List Ty := [.str, .str, I]
@[reducible] def Y_impl_Keep : List Ty := [(.sl (.of Y_impl_Entry)), (.sl (.of Y_impl_Item))]
@[reducible] def Y_impl_Log : List Ty := [I, I, (.sl (.of Y_impl_Entry))]
@[reducible] def Y_impl_Message : List Ty := [I, I, I, I, I, I, I, .bool, (.sl (.of Y_impl_Entry)), (.sl I), .str, .bool]
@[reducible] def Y_impl_Peer : List Ty := [I, I, I, I]
@[reducible] def Y_impl_Node : List Ty := [I, I, I, I, I, (.sl I), I, I, (.sl (.of Y_impl_Entry)), I, I, I, (.sl I), (.sl (.of Y_impl_Peer))]
@[reducible] def Y_spec_l01Cur : List Ty := [(.sl (.int .u8)), I, I]
@[reducible] def Y_spec_l18Cluster : List Ty := [(.sl (.of Y_impl_Node)), (.sl (.of Y_impl_Message))]
@[reducible] def Y_spec_l18Run : List Ty := [I, I, I, I, I, (.sl I), I, I, (.sl (.of Y_impl_Entry)), I, I, I, (.sl I), (.sl (.of Y_impl_Peer)), (.sl (.of Y_impl_Message))]
noncomputable def tab : Tab := [(3, .sc I), (4, .sc .bool), (5, .sc (.int .u8)), (9, .sc .str), (22, .sl 5 (.int .u8) 1), (24, .sl 3 I 8), (25, .sl 43 (.of Y_impl_Entry) 32), (27, .st Y_impl_Log [(0, 1, 3), (1, 1, 3), (2, 1, 25)]), (28, .sl 122 (.of Y_impl_Peer) 32), (30, .st Y_impl_Node [(0, 1, 3), (1, 1, 3), (2, 1, 3), (3, 1, 3), (4, 1, 3), (5, 1, 24), (6, 3, 27), (9, 1, 3), (10, 1, 3), (11, 1, 3), (12, 1, 24), (13, 1, 28)]), (32, .st Y_impl_Message [(0, 1, 3), (1, 1, 3), (2, 1, 3), (3, 1, 3), (4, 1, 3), (5, 1, 3), (6, 1, 3), (7, 1, 4), (8, 1, 25), (9, 1, 24), (10, 1, 9), (11, 1, 4)]), (36, .sl 32 (.of Y_impl_Message) 136), (41, .sl 30 (.of Y_impl_Node) 176), (43, .st Y_impl_Entry [(0, 1, 3), (1, 1, 3), (2, 1, 9)]), (71, .st Y_spec_l18Cluster [(0, 1, 41), (1, 1, 36)]), (90, .st Y_spec_l18Run [(0, 14, 30), (14, 1, 36)]), (110, .st Y_spec_l01Cur [(0, 1, 22), (1, 1, 3), (2, 1, 3)]), (122, .st Y_impl_Peer [(0, 1, 3), (1, 1, 3), (2, 1, 3), (3, 1, 3)]), (132, .sc (.int .u64)), (151, .st Y_impl_Command [(0, 1, 3), (1, 1, 3), (2, 1, 3), (3, 1, 9), (4, 1, 9), (5, 1, 3)]), (168, .sl 174 (.of Y_impl_Entry) 32), (169, .sl 189 (.of Y_impl_Item) 40), (171, .st Y_impl_Keep [(0, 1, 168), (1, 1, 169)]), (174, .st Y_impl_Entry [(0, 1, 3), (1, 1, 3), (2, 1, 9)]), (187, .sc (.int .u64)), (189, .st Y_impl_Item [(0, 1, 9), (1, 1, 9), (2, 1, 3)]), (197, .sl 9 .str 16)]
theorem ti197 : TIOk P 197 (.sl 9 .str 16) := (.slOf (by kernel_rfl) (by kernel_rfl) (by kernel_rfl) (by kernel_rfl))
theorem ti189 : TIOk P 189 (.st Y_impl_Item [(0, 1, 9), (1, 1, 9), (2, 1, 3)]) := (.stOf (by kernel_rfl) (by kernel_rfl) (by kernel_rfl) (by kernel_rfl))
theorem ti187 : TIOk P 187 (.sc (.int .u64)) := ⟨by kernel_rfl, by kernel_rfl⟩
theorem ti174 : TIOk P 174 (.st Y_impl_Entry [(0, 1, 3), (1, 1, 3), (2, 1, 9)]) := (.stOf (by kernel_rfl) (by kernel_rfl) (by kernel_rfl) (by kernel_rfl))
theorem ti171 : TIOk P 171 (.st Y_impl_Keep [(0, 1, 168), (1, 1, 169)]) := (.stOf (by kernel_rfl) (by kernel_rfl) (by kernel_rfl) (by kernel_rfl))
theorem ti169 : TIOk P 169 (.sl 189 (.of Y_impl_Item) 40) := (.slOf (by kernel_rfl) (by kernel_rfl) (by kernel_rfl) (by kernel_rfl))
theorem ti168 : TIOk P 168 (.sl 174 (.of Y_impl_Entry) 32) := (.slOf (by kernel_rfl) (by kernel_rfl) (by kernel_rfl) (by kernel_rfl))
theorem ti151 : TIOk P 151 (.st Y_impl_Command [(0, 1, 3), (1, 1, 3), (2, 1, 3), (3, 1, 9), (4, 1, 9), (5, 1, 3)]) := (.stOf (by kernel_rfl) (by kernel_rfl) (by kernel_rfl) (by kernel_rfl))
theorem ti132 : TIOk P 132 (.sc (.int .u64)) := ⟨by kernel_rfl, by kernel_rfl⟩
theorem ti122 : TIOk P 122 (.st Y_impl_Peer [(0, 1, 3), (1, 1, 3), (2, 1, 3), (3, 1, 3)]) := (.stOf (by kernel_rfl) (by kernel_rfl) (by kernel_rfl) (by kernel_rfl))
theorem ti110 : TIOk P 110 (.st Y_spec_l01Cur [(0, 1, 22), (1, 1, 3), (2, 1, 3)]) := (.stOf (by kernel_rfl) (by kernel_rfl) (by kernel_rfl) (by kernel_rfl))
theorem ti90 : TIOk P 90 (.st Y_spec_l18Run [(0, 14, 30), (14, 1, 36)]) := (.stOf (by kernel_rfl) (by kernel_rfl) (by kernel_rfl) (by kernel_rfl))
theorem ti71 : TIOk P 71 (.st Y_spec_l18Cluster [(0, 1, 41), (1, 1, 36)]) := (.stOf (by kernel_rfl) (by kernel_rfl) (by kernel_rfl) (by kernel_rfl))
theorem ti43 : TIOk P 43 (.st Y_impl_Entry [(0, 1, 3), (1, 1, 3), (2, 1, 9)]) := (.stOf (by kernel_rfl) (by kernel_rfl) (by kernel_rfl) (by kernel_rfl))
theorem ti41 : TIOk P 41 (.sl 30 (.of Y_impl_Node) 176) := (.slOf (by kernel_rfl) (by kernel_rfl) (by kernel_rfl) (by kernel_rfl))
theorem ti36 : TIOk P 36 (.sl 32 (.of Y_impl_Message) 136) := (.slOf (by kernel_rfl) (by kernel_rfl) (by kernel_rfl) (by kernel_rfl))
theorem ti32 : TIOk P 32 (.st Y_impl_Message [(0, 1, 3), (1, 1, 3), (2, 1, 3), (3, 1, 3), (4, 1, 3), (5, 1, 3), (6, 1, 3), (7, 1, 4), (8, 1, 25), (9, 1, 24), (10, 1, 9), (11, 1, 4)]) := (.stOf (by kernel_rfl) (by kernel_rfl) (by kernel_rfl) (by kernel_rfl))
theorem ti30 : TIOk P 30 (.st Y_impl_Node [(0, 1, 3), (1, 1, 3), (2, 1, 3), (3, 1, 3), (4, 1, 3), (5, 1, 24), (6, 3, 27), (9, 1, 3), (10, 1, 3), (11, 1, 3), (12, 1, 24), (13, 1, 28)]) := (.stOf (by kernel_rfl) (by kernel_rfl) (by kernel_rfl) (by kernel_rfl))
theorem ti28 : TIOk P 28 (.sl 122 (.of Y_impl_Peer) 32) := (.slOf (by kernel_rfl) (by kernel_rfl) (by kernel_rfl) (by kernel_rfl))
theorem ti27 : TIOk P 27 (.st Y_impl_Log [(0, 1, 3), (1, 1, 3), (2, 1, 25)]) := (.stOf (by kernel_rfl) (by kernel_rfl) (by kernel_rfl) (by kernel_rfl))
theorem ti25 : TIOk P 25 (.sl 43 (.of Y_impl_Entry) 32) := (.slOf (by kernel_rfl) (by kernel_rfl) (by kernel_rfl) (by kernel_rfl))
theorem ti24 : TIOk P 24 (.sl 3 I 8) := (.slOf (by kernel_rfl) (by kernel_rfl) (by kernel_rfl) (by kernel_rfl))
theorem ti22 : TIOk P 22 (.sl 5 (.int .u8) 1) := (.slOf (by kernel_rfl) (by kernel_rfl) (by kernel_rfl) (by kernel_rfl))
theorem ti9 : TIOk P 9 (.sc .str) := ⟨by kernel_rfl, by kernel_rfl⟩
theorem ti5 : TIOk P 5 (.sc (.int .u8)) := ⟨by kernel_rfl, by kernel_rfl⟩
theorem ti4 : TIOk P 4 (.sc .bool) := ⟨by kernel_rfl, by kernel_rfl⟩
theorem ti3 : TIOk P 3 (.sc I) := ⟨by kernel_rfl, by kernel_rfl⟩
theorem tabOk : TabOk P tab := (.cons ti3 (.cons ti4 (.cons ti5 (.cons ti9 (.cons ti22 (.cons ti24 (.cons ti25 (.cons ti27 (.cons ti28 (.cons ti30 (.cons ti32 (.cons ti36 (.cons ti41 (.cons ti43 (.cons ti71 (.cons ti90 (.cons ti110 (.cons ti122 (.cons ti132 (.cons ti151 (.cons ti168 (.cons ti169 (.cons ti171 (.cons ti174 (.cons ti187 (.cons ti189 (.cons ti197 trivial)))))))))))))))))))))))))))
theorem hmx : Tryz.prog.follows .mixedOrders = true := by kernel_rfl
theorem eqOk43 : EqOk P 43 := .of (by kernel_rfl) (by kernel_rfl) (by kernel_rfl)

namespace laws_big
noncomputable def b : Code := (Tryz.f5.body).getD .skip
@[reducible] def ji : J := ⟨[(0, .leaf (.sl (.int .u8) (p 0) [p 1] []))], [], lb [p 1] []⟩
@[reducible] def jo : J := ⟨[(0, .leaf (.sc .bool))], [], []⟩
noncomputable def E : Env := mkE (P := P) tab Tryz.f5.ntmps [] []
theorem hE : E.Ok P := mkE_ok tabOk eqs_nil
noncomputable def s : Sig := ⟨5, 1, ji, jo, fun x => laws_big.f x.1.1⟩
theorem h : s.Holds P := mkC (fn := Tryz.f5) (body := b) (cuts := []) (backs := []) hE hmx s .nil (by kernel_rfl) (by kernel_rfl)
noncomputable def c : FnC P := ⟨s, ⟨by kernel_rfl, fun r => by kernel_rfl⟩, h⟩
end laws_big

namespace spec_l01New
noncomputable def b : Code := (Tryz.f24.body).getD .skip
@[reducible] def ji : J := ⟨[(0, .leaf (.sl (.int .u8) (p 0) [p 1] []))], [], lb [p 1] []⟩
@[reducible] def jo : J := ⟨[(0, .ptr 31 0)], [(31, false, (mk Y_spec_l01Cur [(p 0, [p 1], [])]))], lb [p 1] []⟩
noncomputable def E : Env := mkE (P := P) tab Tryz.f24.ntmps [] []
theorem hE : E.Ok P := mkE_ok tabOk eqs_nil
noncomputable def c1 : Code := (codeAt b 200 116).getD .skip
noncomputable def c0 : Code := (codeAt c1 200 4).getD .skip
@[reducible] def i0 : J := ⟨[(0, .leaf (.sl (.int .u8) (p 0) [p 1] [])), (3, .leaf i), (4, .leaf i)], [], lb [p 1] []⟩
@[reducible] def e0 : List (Ex × J) := [(.normal, ⟨[(0, .leaf (.sl (.int .u8) (p 0) [p 1] [])), (3, .leaf i), (4, .leaf i), (15, .leaf (.sc .bool))], [], lb [p 1] []⟩)]
noncomputable def k0 : Cut := ⟨i0, e0, spec_l01New.P0⟩
theorem h0 : k0.Holds P E.nt c0 := piece_holds (cuts := []) hE hmx .nil (by kernel_rfl)
@[reducible] def i1 : J := ⟨[(0, .leaf (.sl (.int .u8) (p 0) [p 1] [])), (3, .leaf i), (4, .leaf i)], [], lb [p 1] []⟩
@[reducible] def e1 : List (Ex × J) := [((.exit 0), ⟨[(0, .leaf (.sl (.int .u8) (p 0) [p 1] [])), (3, .leaf i)], [], lb [p 1] []⟩)]
noncomputable def k1 : Cut := ⟨i1, e1, spec_l01New.L1⟩
theorem h1 : k1.Holds P E.nt (.loop c1) := loop_holds (cuts := [(4, k0)]) hE hmx (cut_cons (by kernel_rfl) h0 .nil) (by kernel_rfl)
noncomputable def s : Sig := ⟨24, 1, ji, jo, fun x => spec_l01New.f x.1.1⟩
theorem h : s.Holds P := mkC (fn := Tryz.f24) (body := b) (cuts := [(58, k1)]) (backs := []) hE hmx s (cut_cons (by kernel_rfl) h1 .nil) (by kernel_rfl) (by kernel_rfl)
noncomputable def c : FnC P := ⟨s, ⟨by kernel_rfl, fun r => by kernel_rfl⟩, h⟩
end spec_l01New

namespace spec_l18Steps
noncomputable def b : Code := (Tryz.f26.body).getD .skip
@[reducible] def ji : J := ⟨[(0, .leaf (.sl (.int .u8) (p 0) [p 1] []))], [], lb [p 1] []⟩
@[reducible] def jo : J := ⟨[(0, .leaf i)], [], []⟩
noncomputable def E : Env := mkE (P := P) tab Tryz.f26.ntmps [] []
theorem hE : E.Ok P := mkE_ok tabOk eqs_nil
noncomputable def s : Sig := ⟨26, 1, ji, jo, fun x => spec_l18Steps.f x.1.1⟩
theorem h : s.Holds P := mkC (fn := Tryz.f26) (body := b) (cuts := []) (backs := []) hE hmx s .nil (by kernel_rfl) (by kernel_rfl)
noncomputable def c : FnC P := ⟨s, ⟨by kernel_rfl, fun r => by kernel_rfl⟩, h⟩
end spec_l18Steps

namespace spec_l01Byte
noncomputable def b : Code := (Tryz.f46.body).getD .skip
@[reducible] def ji : J := ⟨[(0, .ptr (p 0) 0)], [(p 0, false, (mk Y_spec_l01Cur [(p 0, [p 1], [])]))], lb [p 1] []⟩
@[reducible] def jo : J := ⟨[(0, .leaf i)], [(p 0, false, (mk Y_spec_l01Cur [(p 0, [p 1], [])]))], lb [p 1] []⟩
noncomputable def E : Env := mkE (P := P) tab Tryz.f46.ntmps [] []
theorem hE : E.Ok P := mkE_ok tabOk eqs_nil
noncomputable def c0 : Code := (codeAt b 200 61).getD .skip
@[reducible] def i0 : J := ⟨[(0, .ptr (p 0) 0), (3, .leaf i), (34, .leaf (.sc .bool))], [(p 0, false, (mk Y_spec_l01Cur [(p 0, [p 1], [])]))], lb [p 1] []⟩
@[reducible] def e0 : List (Ex × J) := [(.normal, ⟨[(3, .leaf i)], [(p 0, false, (mk Y_spec_l01Cur [(p 0, [p 1], [])]))], lb [p 1] []⟩)]
noncomputable def k0 : Cut := ⟨i0, e0, spec_l01Byte.P0⟩
theorem h0 : k0.Holds P E.nt c0 := piece_holds (cuts := []) hE hmx .nil (by kernel_rfl)
noncomputable def s : Sig := ⟨46, 1, ji, jo, fun x => spec_l01Byte.f x.2.1⟩
theorem h : s.Holds P := mkC (fn := Tryz.f46) (body := b) (cuts := [(61, k0)]) (backs := []) hE hmx s (cut_cons (by kernel_rfl) h0 .nil) (by kernel_rfl) (by kernel_rfl)
noncomputable def c : FnC P := ⟨s, ⟨by kernel_rfl, fun r => by kernel_rfl⟩, h⟩
end spec_l01Byte

namespace spec_l01Below
noncomputable def b : Code := (Tryz.f27.body).getD .skip
@[reducible] def ji : J := ⟨[(0, .ptr (p 0) 0), (1, .leaf i)], [(p 0, false, (mk Y_spec_l01Cur [(p 0, [p 1], [])]))], lb [p 1] []⟩
@[reducible] def jo : J := ⟨[(0, .leaf i)], [(p 0, false, (mk Y_spec_l01Cur [(p 0, [p 1], [])]))], lb [p 1] []⟩
noncomputable def E : Env := mkE (P := P) tab Tryz.f27.ntmps [] [spec_l01Byte.c]
theorem hE : E.Ok P := mkE_ok tabOk eqs_nil
noncomputable def s : Sig := ⟨27, 1, ji, jo, fun x => spec_l01Below.f x.1.2.1 x.2.1⟩
theorem h : s.Holds P := mkC (fn := Tryz.f27) (body := b) (cuts := []) (backs := []) hE hmx s .nil (by kernel_rfl) (by kernel_rfl)
noncomputable def c : FnC P := ⟨s, ⟨by kernel_rfl, fun r => by kernel_rfl⟩, h⟩
end spec_l01Below

namespace spec_l01Once
noncomputable def b : Code := (Tryz.f29.body).getD .skip
@[reducible] def ji : J := ⟨[(0, .ptr (p 0) 0), (1, .leaf i)], [(p 0, false, (mk Y_spec_l01Cur [(p 0, [p 1], [])]))], lb [p 1] []⟩
@[reducible] def jo : J := ⟨[(0, .leaf (.sc .bool))], [(p 0, false, (mk Y_spec_l01Cur [(p 0, [p 1], [])]))], lb [p 1] []⟩
noncomputable def E : Env := mkE (P := P) tab Tryz.f29.ntmps [] [spec_l01Below.c]
theorem hE : E.Ok P := mkE_ok tabOk eqs_nil
noncomputable def s : Sig := ⟨29, 1, ji, jo, fun x => spec_l01Once.f x.1.2.1 x.2.1⟩
theorem h : s.Holds P := mkC (fn := Tryz.f29) (body := b) (cuts := []) (backs := []) hE hmx s .nil (by kernel_rfl) (by kernel_rfl)
noncomputable def c : FnC P := ⟨s, ⟨by kernel_rfl, fun r => by kernel_rfl⟩, h⟩
end spec_l01Once

namespace spec_l05Conf
noncomputable def b : Code := (Tryz.f76.body).getD .skip
@[reducible] def ji : J := ⟨[(0, .ptr (p 0) 0)], [(p 0, false, (mk Y_spec_l01Cur [(p 0, [p 1], [])]))], lb [p 1] []⟩
@[reducible] def jo : J := ⟨[(0, .leaf (.sl I (n 0) [n 0] []))], [(p 0, false, (mk Y_spec_l01Cur [(p 0, [p 1], [])]))], lb [p 1] [n 0]⟩
noncomputable def E : Env := mkE (P := P) tab Tryz.f76.ntmps [] [spec_l01Once.c]
theorem hE : E.Ok P := mkE_ok tabOk eqs_nil
noncomputable def c1 : Code := (codeAt b 200 116).getD .skip
noncomputable def c0 : Code := (codeAt c1 200 25).getD .skip
noncomputable def c2 : Code := (codeAt b 200 61).getD .skip
@[reducible] def i0 : J := ⟨[(0, .ptr (p 0) 0), (3, .leaf (.sl I (n 0) [n 0] [])), (4, .leaf i), (11, .leaf (.sc .bool))], [(p 0, false, (mk Y_spec_l01Cur [(p 0, [p 1], [])]))], lb [p 1] [n 0]⟩
@[reducible] def e0 : List (Ex × J) := [(.normal, ⟨[(0, .ptr (p 0) 0), (3, .leaf (.sl I (n 0) [n 0] [])), (4, .leaf i)], [(p 0, false, (mk Y_spec_l01Cur [(p 0, [p 1], [])]))], lb [p 1] [n 0]⟩)]
noncomputable def k0 : Cut := ⟨i0, e0, spec_l05Conf.P0⟩
theorem h0 : k0.Holds P E.nt c0 := piece_holds (cuts := []) hE hmx .nil (by kernel_rfl)
@[reducible] def i1 : J := ⟨[(0, .ptr (p 0) 0), (3, .leaf (.sl I (n 0) [n 0] [])), (4, .leaf i)], [(p 0, false, (mk Y_spec_l01Cur [(p 0, [p 1], [])]))], lb [p 1] [n 0]⟩
@[reducible] def e1 : List (Ex × J) := [((.exit 0), ⟨[(3, .leaf (.sl I (n 0) [n 0] []))], [(p 0, false, (mk Y_spec_l01Cur [(p 0, [p 1], [])]))], lb [p 1] [n 0]⟩)]
noncomputable def k1 : Cut := ⟨i1, e1, spec_l05Conf.L1⟩
theorem h1 : k1.Holds P E.nt (.loop c1) := loop_holds (cuts := [(25, k0)]) hE hmx (cut_cons (by kernel_rfl) h0 .nil) (by kernel_rfl)
@[reducible] def i2 : J := ⟨[(3, .leaf (.sl I (n 0) [n 0] [])), (18, .leaf (.sc .bool))], [(p 0, false, (mk Y_spec_l01Cur [(p 0, [p 1], [])]))], lb [p 1] [n 0]⟩
@[reducible] def e2 : List (Ex × J) := [(.normal, ⟨[(3, .leaf (.sl I (n 0) [n 0] []))], [(p 0, false, (mk Y_spec_l01Cur [(p 0, [p 1], [])]))], lb [p 1] [n 0]⟩)]
noncomputable def k2 : Cut := ⟨i2, e2, spec_l05Conf.P2⟩
theorem h2 : k2.Holds P E.nt c2 := piece_holds (cuts := []) hE hmx .nil (by kernel_rfl)
noncomputable def s : Sig := ⟨76, 1, ji, jo, fun x => spec_l05Conf.f x.2.1⟩
theorem h : s.Holds P := mkC (fn := Tryz.f76) (body := b) (cuts := [(58, k1), (61, k2)]) (backs := []) hE hmx s (cut_cons (by kernel_rfl) h1 (cut_cons (by kernel_rfl) h2 .nil)) (by kernel_rfl) (by kernel_rfl)
noncomputable def c : FnC P := ⟨s, ⟨by kernel_rfl, fun r => by kernel_rfl⟩, h⟩
end spec_l05Conf

namespace spec_l01In
noncomputable def b : Code := (Tryz.f101.body).getD .skip
@[reducible] def ji : J := ⟨[(0, .leaf i), (1, .leaf i), (2, .leaf i)], [], []⟩
@[reducible] def jo : J := ⟨[(0, .leaf (.sc .bool))], [], []⟩
noncomputable def E : Env := mkE (P := P) tab Tryz.f101.ntmps [] []
theorem hE : E.Ok P := mkE_ok tabOk eqs_nil
noncomputable def c0 : Code := (codeAt b 200 6).getD .skip
@[reducible] def i0 : J := ⟨[(0, .leaf i), (1, .leaf i), (2, .leaf i)], [], []⟩
@[reducible] def e0 : List (Ex × J) := [(.normal, ⟨[(6, .leaf (.sc .bool))], [], []⟩)]
noncomputable def k0 : Cut := ⟨i0, e0, spec_l01In.P0⟩
theorem h0 : k0.Holds P E.nt c0 := piece_holds (cuts := []) hE hmx .nil (by kernel_rfl)
noncomputable def s : Sig := ⟨101, 1, ji, jo, fun x => spec_l01In.f x.1.1 x.1.2.1 x.1.2.2.1⟩
theorem h : s.Holds P := mkC (fn := Tryz.f101) (body := b) (cuts := [(6, k0)]) (backs := []) hE hmx s (cut_cons (by kernel_rfl) h0 .nil) (by kernel_rfl) (by kernel_rfl)
noncomputable def c : FnC P := ⟨s, ⟨by kernel_rfl, fun r => by kernel_rfl⟩, h⟩
end spec_l01In

namespace spec_l05Rise
noncomputable def b : Code := (Tryz.f105.body).getD .skip
@[reducible] def ji : J := ⟨[(0, .leaf (.sl I (p 0) [p 1] [])), (1, .leaf i), (2, .leaf i)], [], lb [p 1] []⟩
@[reducible] def jo : J := ⟨[(0, .leaf (.sc .bool))], [], []⟩
noncomputable def E : Env := mkE (P := P) tab Tryz.f105.ntmps [] [spec_l01In.c]
theorem hE : E.Ok P := mkE_ok tabOk eqs_nil
noncomputable def c1 : Code := (codeAt b 200 52).getD .skip
noncomputable def c0 : Code := (codeAt c1 200 24).getD .skip
@[reducible] def i0 : J := ⟨[(0, .leaf (.sl I (p 0) [p 1] [])), (1, .leaf i), (2, .leaf i), (7, .leaf i)], [], lb [p 1] []⟩
@[reducible] def e0 : List (Ex × J) := [(.normal, ⟨[(0, .leaf (.sl I (p 0) [p 1] [])), (1, .leaf i), (2, .leaf i), (7, .leaf i), (37, .leaf (.sc .bool))], [], lb [p 1] []⟩)]
noncomputable def k0 : Cut := ⟨i0, e0, spec_l05Rise.P0⟩
theorem h0 : k0.Holds P E.nt c0 := piece_holds (cuts := []) hE hmx .nil (by kernel_rfl)
@[reducible] def i1 : J := ⟨[(0, .leaf (.sl I (p 0) [p 1] [])), (1, .leaf i), (2, .leaf i), (7, .leaf i)], [], lb [p 1] []⟩
@[reducible] def e1 : List (Ex × J) := [((.exit 0), ⟨[], [], []⟩), (.ret, ⟨[(6, .leaf (.sc .bool))], [], []⟩)]
noncomputable def k1 : Cut := ⟨i1, e1, spec_l05Rise.L1⟩
theorem h1 : k1.Holds P E.nt (.loop c1) := loop_holds (cuts := [(24, k0)]) hE hmx (cut_cons (by kernel_rfl) h0 .nil) (by kernel_rfl)
noncomputable def s : Sig := ⟨105, 1, ji, jo, fun x => spec_l05Rise.f x.1.1 x.1.2.1 x.1.2.2.1⟩
theorem h : s.Holds P := mkC (fn := Tryz.f105) (body := b) (cuts := [(26, k1)]) (backs := []) hE hmx s (cut_cons (by kernel_rfl) h1 .nil) (by kernel_rfl) (by kernel_rfl)
noncomputable def c : FnC P := ⟨s, ⟨by kernel_rfl, fun r => by kernel_rfl⟩, h⟩
end spec_l05Rise

namespace spec_ConfOk
noncomputable def b : Code := (Tryz.f102.body).getD .skip
@[reducible] def ji : J := ⟨[(0, .leaf (.sl I (p 0) [p 1] []))], [], lb [p 1] []⟩
@[reducible] def jo : J := ⟨[(0, .leaf (.sc .bool))], [], []⟩
noncomputable def E : Env := mkE (P := P) tab Tryz.f102.ntmps [] [spec_l01In.c, spec_l05Rise.c]
theorem hE : E.Ok P := mkE_ok tabOk eqs_nil
noncomputable def c0 : Code := (codeAt b 200 6).getD .skip
@[reducible] def i0 : J := ⟨[(0, .leaf (.sl I (p 0) [p 1] []))], [], lb [p 1] []⟩
@[reducible] def e0 : List (Ex × J) := [(.normal, ⟨[(2, .leaf (.sc .bool))], [], []⟩)]
noncomputable def k0 : Cut := ⟨i0, e0, spec_ConfOk.P0⟩
theorem h0 : k0.Holds P E.nt c0 := piece_holds (cuts := []) hE hmx .nil (by kernel_rfl)
noncomputable def s : Sig := ⟨102, 1, ji, jo, fun x => spec_ConfOk.f x.1.1⟩
theorem h : s.Holds P := mkC (fn := Tryz.f102) (body := b) (cuts := [(6, k0)]) (backs := []) hE hmx s (cut_cons (by kernel_rfl) h0 .nil) (by kernel_rfl) (by kernel_rfl)
noncomputable def c : FnC P := ⟨s, ⟨by kernel_rfl, fun r => by kernel_rfl⟩, h⟩
end spec_ConfOk

namespace spec_ReadConf
noncomputable def b : Code := (Tryz.f129.body).getD .skip
@[reducible] def ji : J := ⟨[(0, .leaf (.sc .str))], [], []⟩
@[reducible] def jo : J := ⟨[(0, .leaf (.sl I (n 0) [n 0] [])), (1, .leaf (.sc .bool))], [], lb [] [n 0]⟩
noncomputable def E : Env := mkE (P := P) tab Tryz.f129.ntmps [] [spec_ConfOk.c]
theorem hE : E.Ok P := mkE_ok tabOk eqs_nil
noncomputable def c1 : Code := (codeAt b 200 116).getD .skip
noncomputable def c0 : Code := (codeAt c1 200 4).getD .skip
noncomputable def c2 : Code := (codeAt b 200 60).getD .skip
@[reducible] def i0 : J := ⟨[(0, .leaf (.sc .str)), (4, .leaf (.sl I (n 0) [n 0] [])), (5, .leaf i)], [], lb [] [n 0]⟩
@[reducible] def e0 : List (Ex × J) := [(.normal, ⟨[(0, .leaf (.sc .str)), (4, .leaf (.sl I (n 0) [n 0] [])), (5, .leaf i), (14, .leaf (.sc .bool))], [], lb [] [n 0]⟩)]
noncomputable def k0 : Cut := ⟨i0, e0, spec_ReadConf.P0⟩
theorem h0 : k0.Holds P E.nt c0 := piece_holds (cuts := []) hE hmx .nil (by kernel_rfl)
@[reducible] def i1 : J := ⟨[(0, .leaf (.sc .str)), (4, .leaf (.sl I (n 0) [n 0] [])), (5, .leaf i)], [], lb [] [n 0]⟩
@[reducible] def e1 : List (Ex × J) := [((.exit 0), ⟨[(0, .leaf (.sc .str)), (4, .leaf (.sl I (n 0) [n 0] []))], [], lb [] [n 0]⟩)]
noncomputable def k1 : Cut := ⟨i1, e1, spec_ReadConf.L1⟩
theorem h1 : k1.Holds P E.nt (.loop c1) := loop_holds (cuts := [(4, k0)]) hE hmx (cut_cons (by kernel_rfl) h0 .nil) (by kernel_rfl)
@[reducible] def i2 : J := ⟨[(0, .leaf (.sc .str)), (4, .leaf (.sl I (n 0) [n 0] []))], [], lb [] [n 0]⟩
@[reducible] def e2 : List (Ex × J) := [(.normal, ⟨[(4, .leaf (.sl I (n 0) [n 0] [])), (33, .leaf (.sc .bool))], [], lb [] [n 0]⟩)]
noncomputable def k2 : Cut := ⟨i2, e2, spec_ReadConf.P2⟩
theorem h2 : k2.Holds P E.nt c2 := piece_holds (cuts := []) hE hmx .nil (by kernel_rfl)
noncomputable def s : Sig := ⟨129, 2, ji, jo, fun x => spec_ReadConf.f x.1.1⟩
theorem h : s.Holds P := mkC (fn := Tryz.f129) (body := b) (cuts := [(58, k1), (60, k2)]) (backs := []) hE hmx s (cut_cons (by kernel_rfl) h1 (cut_cons (by kernel_rfl) h2 .nil)) (by kernel_rfl) (by kernel_rfl)
noncomputable def c : FnC P := ⟨s, ⟨by kernel_rfl, fun r => by kernel_rfl⟩, h⟩
end spec_ReadConf

namespace spec_EntryOk
noncomputable def b : Code := (Tryz.f108.body).getD .skip
@[reducible] def ji : J := ⟨[(0, .agg (mk Y_impl_Entry []))], [], []⟩
@[reducible] def jo : J := ⟨[(0, .leaf (.sc .bool))], [], []⟩
noncomputable def E : Env := mkE (P := P) tab Tryz.f108.ntmps [] [spec_l01In.c, spec_ReadConf.c]
theorem hE : E.Ok P := mkE_ok tabOk eqs_nil
noncomputable def s : Sig := ⟨108, 1, ji, jo, fun x => spec_EntryOk.f x.1.1⟩
theorem h : s.Holds P := mkC (fn := Tryz.f108) (body := b) (cuts := []) (backs := []) hE hmx s .nil (by kernel_rfl) (by kernel_rfl)
noncomputable def c : FnC P := ⟨s, ⟨by kernel_rfl, fun r => by kernel_rfl⟩, h⟩
end spec_EntryOk

namespace spec_LogOk
noncomputable def b : Code := (Tryz.f103.body).getD .skip
@[reducible] def ji : J := ⟨[(0, .agg (mk Y_impl_Log [(p 0, [p 1], [])]))], [], lb [p 1] []⟩
@[reducible] def jo : J := ⟨[(0, .leaf (.sc .bool))], [], []⟩
noncomputable def E : Env := mkE (P := P) tab Tryz.f103.ntmps [] [spec_l01In.c, spec_EntryOk.c]
theorem hE : E.Ok P := mkE_ok tabOk eqs_nil
noncomputable def c0 : Code := (codeAt b 200 12).getD .skip
noncomputable def c2 : Code := (codeAt b 200 244).getD .skip
noncomputable def c1 : Code := (codeAt c2 200 48).getD .skip
@[reducible] def i0 : J := ⟨[(1, .ptr 1 0)], [(1, false, (mk Y_impl_Log [(p 0, [p 1], [])]))], lb [p 1] []⟩
@[reducible] def e0 : List (Ex × J) := [(.normal, ⟨[(1, .ptr 1 0), (29, .leaf (.sc .bool))], [(1, false, (mk Y_impl_Log [(p 0, [p 1], [])]))], lb [p 1] []⟩)]
noncomputable def k0 : Cut := ⟨i0, e0, spec_LogOk.P0⟩
theorem h0 : k0.Holds P E.nt c0 := piece_holds (cuts := []) hE hmx .nil (by kernel_rfl)
@[reducible] def i1 : J := ⟨[(1, .ptr 1 0), (3, .leaf i), (4, .leaf i)], [(1, false, (mk Y_impl_Log [(p 0, [p 1], [])]))], lb [p 1] []⟩
@[reducible] def e1 : List (Ex × J) := [(.normal, ⟨[(1, .ptr 1 0), (4, .leaf i), (55, .leaf (.sc .bool))], [(1, false, (mk Y_impl_Log [(p 0, [p 1], [])]))], lb [p 1] []⟩)]
noncomputable def k1 : Cut := ⟨i1, e1, spec_LogOk.P1⟩
theorem h1 : k1.Holds P E.nt c1 := piece_holds (cuts := []) hE hmx .nil (by kernel_rfl)
@[reducible] def i2 : J := ⟨[(1, .ptr 1 0), (3, .leaf i), (4, .leaf i)], [(1, false, (mk Y_impl_Log [(p 0, [p 1], [])]))], lb [p 1] []⟩
@[reducible] def e2 : List (Ex × J) := [((.exit 0), ⟨[], [], []⟩), (.ret, ⟨[(2, .leaf (.sc .bool))], [], []⟩)]
noncomputable def k2 : Cut := ⟨i2, e2, spec_LogOk.L2⟩
theorem h2 : k2.Holds P E.nt (.loop c2) := loop_holds (cuts := [(48, k1)]) hE hmx (cut_cons (by kernel_rfl) h1 .nil) (by kernel_rfl)
noncomputable def s : Sig := ⟨103, 1, ji, jo, fun x => spec_LogOk.f x.1.1⟩
theorem h : s.Holds P := mkC (fn := Tryz.f103) (body := b) (cuts := [(12, k0), (122, k2)]) (backs := []) hE hmx s (cut_cons (by kernel_rfl) h0 (cut_cons (by kernel_rfl) h2 .nil)) (by kernel_rfl) (by kernel_rfl)
noncomputable def c : FnC P := ⟨s, ⟨by kernel_rfl, fun r => by kernel_rfl⟩, h⟩
end spec_LogOk

namespace spec_LogLast
noncomputable def b : Code := (Tryz.f104.body).getD .skip
@[reducible] def ji : J := ⟨[(0, .agg (mk Y_impl_Log [(p 0, [p 1], [])]))], [], lb [p 1] []⟩
@[reducible] def jo : J := ⟨[(0, .leaf i), (1, .leaf i)], [], []⟩
noncomputable def E : Env := mkE (P := P) tab Tryz.f104.ntmps [] []
theorem hE : E.Ok P := mkE_ok tabOk eqs_nil
noncomputable def s : Sig := ⟨104, 2, ji, jo, fun x => spec_LogLast.f x.1.1⟩
theorem h : s.Holds P := mkC (fn := Tryz.f104) (body := b) (cuts := []) (backs := []) hE hmx s .nil (by kernel_rfl) (by kernel_rfl)
noncomputable def c : FnC P := ⟨s, ⟨by kernel_rfl, fun r => by kernel_rfl⟩, h⟩
end spec_LogLast

namespace spec_ConfAt
noncomputable def b : Code := (Tryz.f132.body).getD .skip
@[reducible] def ji : J := ⟨[(0, .agg (mk Y_impl_Node [(p 0, [p 1], []), (p 1, [p 2], []), (p 2, [p 3], []), (p 3, [p 4], [])])), (1, .leaf i)], [], lb [p 1, p 2, p 3, p 4] []⟩
@[reducible] def jo : J := ⟨[(0, .leaf (.sl I (n 0) [n 0] []))], [], lb [] [n 0]⟩
noncomputable def E : Env := mkE (P := P) tab Tryz.f132.ntmps [] [spec_ReadConf.c]
theorem hE : E.Ok P := mkE_ok tabOk eqs_nil
noncomputable def c3 : Code := (codeAt b 200 116).getD .skip
noncomputable def c0 : Code := (codeAt c3 200 4).getD .skip
noncomputable def c2 : Code := (codeAt c3 200 25).getD .skip
noncomputable def c1 : Code := (codeAt c2 200 11).getD .skip
@[reducible] def i0 : J := ⟨[(1, .leaf i), (2, .ptr 2 0), (5, .leaf (.sl I (n 0) [n 0] [])), (6, .leaf i)], [(2, false, (mk Y_impl_Node [(p 0, [p 1], []), (p 1, [p 2], []), (p 2, [p 3], []), (p 3, [p 4], [])]))], lb [p 1, p 2, p 3, p 4] [n 0]⟩
@[reducible] def e0 : List (Ex × J) := [(.normal, ⟨[(1, .leaf i), (2, .ptr 2 0), (5, .leaf (.sl I (n 0) [n 0] [])), (6, .leaf i), (28, .leaf (.sc .bool))], [(2, false, (mk Y_impl_Node [(p 0, [p 1], []), (p 1, [p 2], []), (p 2, [p 3], []), (p 3, [p 4], [])]))], lb [p 1, p 2, p 3, p 4] [n 0]⟩)]
noncomputable def k0 : Cut := ⟨i0, e0, spec_ConfAt.P0⟩
theorem h0 : k0.Holds P E.nt c0 := piece_holds (cuts := []) hE hmx .nil (by kernel_rfl)
@[reducible] def i1 : J := ⟨[(1, .leaf i), (2, .ptr 2 0), (5, .leaf (.sl I (n 0) [n 0] [])), (6, .leaf i), (7, .leaf (.sl I (n 1) [n 1] [])), (50, .leaf (.sc .bool))], [(2, false, (mk Y_impl_Node [(p 0, [p 1], []), (p 1, [p 2], []), (p 2, [p 3], []), (p 3, [p 4], [])]))], lb [p 1, p 2, p 3, p 4] [n 0, n 1]⟩
@[reducible] def e1 : List (Ex × J) := [(.normal, ⟨[(1, .leaf i), (2, .ptr 2 0), (5, .leaf (.sl I (n 0) [n 0] [])), (6, .leaf i)], [(2, false, (mk Y_impl_Node [(p 0, [p 1], []), (p 1, [p 2], []), (p 2, [p 3], []), (p 3, [p 4], [])]))], lb [p 1, p 2, p 3, p 4] [n 0]⟩)]
noncomputable def k1 : Cut := ⟨i1, e1, spec_ConfAt.P1⟩
theorem h1 : k1.Holds P E.nt c1 := piece_holds (cuts := []) hE hmx .nil (by kernel_rfl)
@[reducible] def i2 : J := ⟨[(1, .leaf i), (2, .ptr 2 0), (5, .leaf (.sl I (n 0) [n 0] [])), (6, .leaf i), (38, .leaf (.sc .bool))], [(2, false, (mk Y_impl_Node [(p 0, [p 1], []), (p 1, [p 2], []), (p 2, [p 3], []), (p 3, [p 4], [])]))], lb [p 1, p 2, p 3, p 4] [n 0]⟩
@[reducible] def e2 : List (Ex × J) := [(.normal, ⟨[(1, .leaf i), (2, .ptr 2 0), (5, .leaf (.sl I (n 0) [n 0] [])), (6, .leaf i)], [(2, false, (mk Y_impl_Node [(p 0, [p 1], []), (p 1, [p 2], []), (p 2, [p 3], []), (p 3, [p 4], [])]))], lb [p 1, p 2, p 3, p 4] [n 0]⟩)]
noncomputable def k2 : Cut := ⟨i2, e2, spec_ConfAt.P2⟩
theorem h2 : k2.Holds P E.nt c2 := piece_holds (cuts := [(11, k1)]) hE hmx (cut_cons (by kernel_rfl) h1 .nil) (by kernel_rfl)
@[reducible] def i3 : J := ⟨[(1, .leaf i), (2, .ptr 2 0), (5, .leaf (.sl I (n 0) [n 0] [])), (6, .leaf i)], [(2, false, (mk Y_impl_Node [(p 0, [p 1], []), (p 1, [p 2], []), (p 2, [p 3], []), (p 3, [p 4], [])]))], lb [p 1, p 2, p 3, p 4] [n 0]⟩
@[reducible] def e3 : List (Ex × J) := [((.exit 0), ⟨[(5, .leaf (.sl I (n 0) [n 0] []))], [], lb [] [n 0]⟩)]
noncomputable def k3 : Cut := ⟨i3, e3, spec_ConfAt.L3⟩
theorem h3 : k3.Holds P E.nt (.loop c3) := loop_holds (cuts := [(4, k0), (25, k2)]) hE hmx (cut_cons (by kernel_rfl) h0 (cut_cons (by kernel_rfl) h2 .nil)) (by kernel_rfl)
noncomputable def s : Sig := ⟨132, 1, ji, jo, fun x => spec_ConfAt.f x.1.1 x.1.2.1⟩
theorem h : s.Holds P := mkC (fn := Tryz.f132) (body := b) (cuts := [(58, k3)]) (backs := []) hE hmx s (cut_cons (by kernel_rfl) h3 .nil) (by kernel_rfl) (by kernel_rfl)
noncomputable def c : FnC P := ⟨s, ⟨by kernel_rfl, fun r => by kernel_rfl⟩, h⟩
end spec_ConfAt

namespace spec_ConfOf
noncomputable def b : Code := (Tryz.f107.body).getD .skip
@[reducible] def ji : J := ⟨[(0, .agg (mk Y_impl_Node [(p 0, [p 1], []), (p 1, [p 2], []), (p 2, [p 3], []), (p 3, [p 4], [])]))], [], lb [p 1, p 2, p 3, p 4] []⟩
@[reducible] def jo : J := ⟨[(0, .leaf (.sl I (n 0) [n 0] []))], [], lb [] [n 0]⟩
noncomputable def E : Env := mkE (P := P) tab Tryz.f107.ntmps [] [spec_ConfAt.c]
theorem hE : E.Ok P := mkE_ok tabOk eqs_nil
noncomputable def s : Sig := ⟨107, 1, ji, jo, fun x => spec_ConfOf.f x.1.1⟩
theorem h : s.Holds P := mkC (fn := Tryz.f107) (body := b) (cuts := []) (backs := []) hE hmx s .nil (by kernel_rfl) (by kernel_rfl)
noncomputable def c : FnC P := ⟨s, ⟨by kernel_rfl, fun r => by kernel_rfl⟩, h⟩
end spec_ConfOf

namespace spec_l18Others
noncomputable def b : Code := (Tryz.f106.body).getD .skip
@[reducible] def ji : J := ⟨[(0, .leaf (.sl I (p 0) [p 1] [])), (1, .leaf i)], [], lb [p 1] []⟩
@[reducible] def jo : J := ⟨[(0, .leaf (.sl I (n 0) [n 0] []))], [], lb [] [n 0]⟩
noncomputable def E : Env := mkE (P := P) tab Tryz.f106.ntmps [] []
theorem hE : E.Ok P := mkE_ok tabOk eqs_nil
noncomputable def c1 : Code := (codeAt b 200 116).getD .skip
noncomputable def c0 : Code := (codeAt c1 200 25).getD .skip
@[reducible] def i0 : J := ⟨[(0, .leaf (.sl I (p 0) [p 1] [])), (1, .leaf i), (5, .leaf (.sl I (n 1) [n 0] [])), (6, .leaf i), (19, .leaf (.sc .bool))], [], lb [p 1] [n 0]⟩
@[reducible] def e0 : List (Ex × J) := [(.normal, ⟨[(0, .leaf (.sl I (p 0) [p 1] [])), (1, .leaf i), (5, .leaf (.sl I (n 1) [n 0] [])), (6, .leaf i)], [], lb [p 1] [n 0]⟩)]
noncomputable def k0 : Cut := ⟨i0, e0, spec_l18Others.P0⟩
theorem h0 : k0.Holds P E.nt c0 := piece_holds (cuts := []) hE hmx .nil (by kernel_rfl)
@[reducible] def i1 : J := ⟨[(0, .leaf (.sl I (p 0) [p 1] [])), (1, .leaf i), (5, .leaf (.sl I (n 1) [n 0] [])), (6, .leaf i)], [], lb [p 1] [n 0]⟩
@[reducible] def e1 : List (Ex × J) := [((.exit 0), ⟨[(5, .leaf (.sl I (n 0) [n 0] []))], [], lb [] [n 0]⟩)]
noncomputable def k1 : Cut := ⟨i1, e1, spec_l18Others.L1⟩
theorem h1 : k1.Holds P E.nt (.loop c1) := loop_holds (cuts := [(25, k0)]) hE hmx (cut_cons (by kernel_rfl) h0 .nil) (by kernel_rfl)
noncomputable def s : Sig := ⟨106, 1, ji, jo, fun x => spec_l18Others.f x.1.1 x.1.2.1⟩
theorem h : s.Holds P := mkC (fn := Tryz.f106) (body := b) (cuts := [(58, k1)]) (backs := []) hE hmx s (cut_cons (by kernel_rfl) h1 .nil) (by kernel_rfl) (by kernel_rfl)
noncomputable def c : FnC P := ⟨s, ⟨by kernel_rfl, fun r => by kernel_rfl⟩, h⟩
end spec_l18Others

namespace spec_NodeOk
noncomputable def b : Code := (Tryz.f47.body).getD .skip
@[reducible] def ji : J := ⟨[(0, .agg (mk Y_impl_Node [(p 0, [p 1], []), (p 1, [p 2], []), (p 2, [p 3], []), (p 3, [p 4], [])]))], [], lb [p 1, p 2, p 3, p 4] []⟩
@[reducible] def jo : J := ⟨[(0, .leaf (.sc .bool))], [], []⟩
noncomputable def E : Env := mkE (P := P) tab Tryz.f47.ntmps [] [spec_l01In.c, spec_ConfOk.c, spec_LogOk.c, spec_LogLast.c, spec_l05Rise.c, spec_ConfOf.c, spec_l18Others.c]
theorem hE : E.Ok P := mkE_ok tabOk eqs_nil
noncomputable def c0 : Code := (codeAt b 200 12).getD .skip
noncomputable def c1 : Code := (codeAt b 200 60).getD .skip
noncomputable def c2 : Code := (codeAt b 200 253).getD .skip
noncomputable def c4 : Code := (codeAt b 200 4084).getD .skip
noncomputable def c3 : Code := (codeAt c4 200 50).getD .skip
@[reducible] def i0 : J := ⟨[(1, .ptr 1 0)], [(1, false, (mk Y_impl_Node [(p 0, [p 1], []), (p 1, [p 2], []), (p 2, [p 3], []), (p 3, [p 4], [])]))], lb [p 1, p 2, p 3, p 4] []⟩
@[reducible] def e0 : List (Ex × J) := [(.normal, ⟨[(1, .ptr 1 0), (47, .leaf (.sc .bool))], [(1, false, (mk Y_impl_Node [(p 0, [p 1], []), (p 1, [p 2], []), (p 2, [p 3], []), (p 3, [p 4], [])]))], lb [p 1, p 2, p 3, p 4] []⟩)]
noncomputable def k0 : Cut := ⟨i0, e0, spec_NodeOk.P0⟩
theorem h0 : k0.Holds P E.nt c0 := piece_holds (cuts := []) hE hmx .nil (by kernel_rfl)
@[reducible] def i1 : J := ⟨[(1, .ptr 1 0), (3, .leaf i), (4, .leaf i)], [(1, false, (mk Y_impl_Node [(p 0, [p 1], []), (p 1, [p 2], []), (p 2, [p 3], []), (p 3, [p 4], [])]))], lb [p 1, p 2, p 3, p 4] []⟩
@[reducible] def e1 : List (Ex × J) := [(.normal, ⟨[(1, .ptr 1 0), (3, .leaf i), (96, .leaf (.sc .bool))], [(1, false, (mk Y_impl_Node [(p 0, [p 1], []), (p 1, [p 2], []), (p 2, [p 3], []), (p 3, [p 4], [])]))], lb [p 1, p 2, p 3, p 4] []⟩)]
noncomputable def k1 : Cut := ⟨i1, e1, spec_NodeOk.P1⟩
theorem h1 : k1.Holds P E.nt c1 := piece_holds (cuts := []) hE hmx .nil (by kernel_rfl)
@[reducible] def i2 : J := ⟨[(1, .ptr 1 0), (3, .leaf i), (5, .leaf (.sl I (n 0) [n 0] [])), (100, .leaf (.sc .bool))], [(1, false, (mk Y_impl_Node [(p 0, [p 1], []), (p 1, [p 2], []), (p 2, [p 3], []), (p 3, [p 4], [])]))], lb [p 1, p 2, p 3, p 4] [n 0]⟩
@[reducible] def e2 : List (Ex × J) := [(.normal, ⟨[(1, .ptr 1 0), (3, .leaf i), (5, .leaf (.sl I (n 0) [n 0] []))], [(1, false, (mk Y_impl_Node [(p 0, [p 1], []), (p 1, [p 2], []), (p 2, [p 3], []), (p 3, [p 4], [])]))], lb [p 1, p 2, p 3, p 4] [n 0]⟩)]
noncomputable def k2 : Cut := ⟨i2, e2, spec_NodeOk.P2⟩
theorem h2 : k2.Holds P E.nt c2 := piece_holds (cuts := []) hE hmx .nil (by kernel_rfl)
@[reducible] def i3 : J := ⟨[(1, .ptr 1 0), (3, .leaf i), (5, .leaf (.sl I (n 0) [n 0] [])), (6, .leaf i), (7, .ptr 7 0)], [(1, false, (mk Y_impl_Node [(p 0, [p 1], []), (p 1, [p 2], []), (p 2, [p 3], []), (p 3, [p 4], [])])), (7, false, (mk Y_impl_Peer []))], lb [p 1, p 2, p 3, p 4] [n 0]⟩
@[reducible] def e3 : List (Ex × J) := [(.normal, ⟨[(1, .ptr 1 0), (3, .leaf i), (5, .leaf (.sl I (n 0) [n 0] [])), (6, .leaf i), (152, .leaf (.sc .bool))], [(1, false, (mk Y_impl_Node [(p 0, [p 1], []), (p 1, [p 2], []), (p 2, [p 3], []), (p 3, [p 4], [])]))], lb [p 1, p 2, p 3, p 4] [n 0]⟩)]
noncomputable def k3 : Cut := ⟨i3, e3, spec_NodeOk.P3⟩
theorem h3 : k3.Holds P E.nt c3 := piece_holds (cuts := []) hE hmx .nil (by kernel_rfl)
@[reducible] def i4 : J := ⟨[(1, .ptr 1 0), (3, .leaf i), (5, .leaf (.sl I (n 0) [n 0] [])), (6, .leaf i)], [(1, false, (mk Y_impl_Node [(p 0, [p 1], []), (p 1, [p 2], []), (p 2, [p 3], []), (p 3, [p 4], [])]))], lb [p 1, p 2, p 3, p 4] [n 0]⟩
@[reducible] def e4 : List (Ex × J) := [((.exit 0), ⟨[], [], []⟩), (.ret, ⟨[(2, .leaf (.sc .bool))], [], []⟩)]
noncomputable def k4 : Cut := ⟨i4, e4, spec_NodeOk.L4⟩
theorem h4 : k4.Holds P E.nt (.loop c4) := loop_holds (cuts := [(50, k3)]) hE hmx (cut_cons (by kernel_rfl) h3 .nil) (by kernel_rfl)
noncomputable def s : Sig := ⟨47, 1, ji, jo, fun x => spec_NodeOk.f x.1.1⟩
theorem h : s.Holds P := mkC (fn := Tryz.f47) (body := b) (cuts := [(12, k0), (60, k1), (253, k2), (2042, k4)]) (backs := []) hE hmx s (cut_cons (by kernel_rfl) h0 (cut_cons (by kernel_rfl) h1 (cut_cons (by kernel_rfl) h2 (cut_cons (by kernel_rfl) h4 .nil)))) (by kernel_rfl) (by kernel_rfl)
noncomputable def c : FnC P := ⟨s, ⟨by kernel_rfl, fun r => by kernel_rfl⟩, h⟩
end spec_NodeOk

namespace spec_NodeNew
noncomputable def b : Code := (Tryz.f77.body).getD .skip
@[reducible] def ji : J := ⟨[(0, .leaf i), (1, .leaf (.sl I (p 0) [p 1] []))], [], lb [p 1] []⟩
@[reducible] def jo : J := ⟨[(0, .agg (mk Y_impl_Node [(n 0, [n 0], []), (n 1, [], []), (n 2, [], []), (n 3, [], [])])), (1, .leaf (.sc .bool))], [], lb [] [n 0]⟩
noncomputable def E : Env := mkE (P := P) tab Tryz.f77.ntmps [] [spec_NodeOk.c]
theorem hE : E.Ok P := mkE_ok tabOk eqs_nil
noncomputable def s : Sig := ⟨77, 2, ji, jo, fun x => spec_NodeNew.f x.1.1 x.1.2.1⟩
theorem h : s.Holds P := mkC (fn := Tryz.f77) (body := b) (cuts := []) (backs := []) hE hmx s .nil (by kernel_rfl) (by kernel_rfl)
noncomputable def c : FnC P := ⟨s, ⟨by kernel_rfl, fun r => by kernel_rfl⟩, h⟩
end spec_NodeNew

namespace spec_ConfAt_m
noncomputable def b : Code := (Tryz.f132.body).getD .skip
@[reducible] def ji : J := ⟨[(0, .agg (mk Y_impl_Node [(p 0, [p 1], []), (p 1, [p 1], []), (p 2, [p 1], []), (p 3, [p 1], [])])), (1, .leaf i)], [], lb [p 1] []⟩
@[reducible] def jo : J := ⟨[(0, .leaf (.sl I (n 0) [n 0] []))], [], lb [] [n 0]⟩
noncomputable def E : Env := mkE (P := P) tab Tryz.f132.ntmps [] [spec_ReadConf.c]
theorem hE : E.Ok P := mkE_ok tabOk eqs_nil
noncomputable def c3 : Code := (codeAt b 200 116).getD .skip
noncomputable def c0 : Code := (codeAt c3 200 4).getD .skip
noncomputable def c2 : Code := (codeAt c3 200 25).getD .skip
noncomputable def c1 : Code := (codeAt c2 200 11).getD .skip
@[reducible] def i0 : J := ⟨[(1, .leaf i), (2, .ptr 2 0), (5, .leaf (.sl I (n 0) [n 0] [])), (6, .leaf i)], [(2, false, (mk Y_impl_Node [(p 0, [p 1], []), (p 1, [p 1], []), (p 2, [p 1], []), (p 3, [p 1], [])]))], lb [p 1] [n 0]⟩
@[reducible] def e0 : List (Ex × J) := [(.normal, ⟨[(1, .leaf i), (2, .ptr 2 0), (5, .leaf (.sl I (n 0) [n 0] [])), (6, .leaf i), (28, .leaf (.sc .bool))], [(2, false, (mk Y_impl_Node [(p 0, [p 1], []), (p 1, [p 1], []), (p 2, [p 1], []), (p 3, [p 1], [])]))], lb [p 1] [n 0]⟩)]
noncomputable def k0 : Cut := ⟨i0, e0, spec_ConfAt.P0⟩
theorem h0 : k0.Holds P E.nt c0 := piece_holds (cuts := []) hE hmx .nil (by kernel_rfl)
@[reducible] def i1 : J := ⟨[(1, .leaf i), (2, .ptr 2 0), (5, .leaf (.sl I (n 0) [n 0] [])), (6, .leaf i), (7, .leaf (.sl I (n 1) [n 1] [])), (50, .leaf (.sc .bool))], [(2, false, (mk Y_impl_Node [(p 0, [p 1], []), (p 1, [p 1], []), (p 2, [p 1], []), (p 3, [p 1], [])]))], lb [p 1] [n 0, n 1]⟩
@[reducible] def e1 : List (Ex × J) := [(.normal, ⟨[(1, .leaf i), (2, .ptr 2 0), (5, .leaf (.sl I (n 0) [n 0] [])), (6, .leaf i)], [(2, false, (mk Y_impl_Node [(p 0, [p 1], []), (p 1, [p 1], []), (p 2, [p 1], []), (p 3, [p 1], [])]))], lb [p 1] [n 0]⟩)]
noncomputable def k1 : Cut := ⟨i1, e1, spec_ConfAt.P1⟩
theorem h1 : k1.Holds P E.nt c1 := piece_holds (cuts := []) hE hmx .nil (by kernel_rfl)
@[reducible] def i2 : J := ⟨[(1, .leaf i), (2, .ptr 2 0), (5, .leaf (.sl I (n 0) [n 0] [])), (6, .leaf i), (38, .leaf (.sc .bool))], [(2, false, (mk Y_impl_Node [(p 0, [p 1], []), (p 1, [p 1], []), (p 2, [p 1], []), (p 3, [p 1], [])]))], lb [p 1] [n 0]⟩
@[reducible] def e2 : List (Ex × J) := [(.normal, ⟨[(1, .leaf i), (2, .ptr 2 0), (5, .leaf (.sl I (n 0) [n 0] [])), (6, .leaf i)], [(2, false, (mk Y_impl_Node [(p 0, [p 1], []), (p 1, [p 1], []), (p 2, [p 1], []), (p 3, [p 1], [])]))], lb [p 1] [n 0]⟩)]
noncomputable def k2 : Cut := ⟨i2, e2, spec_ConfAt.P2⟩
theorem h2 : k2.Holds P E.nt c2 := piece_holds (cuts := [(11, k1)]) hE hmx (cut_cons (by kernel_rfl) h1 .nil) (by kernel_rfl)
@[reducible] def i3 : J := ⟨[(1, .leaf i), (2, .ptr 2 0), (5, .leaf (.sl I (n 0) [n 0] [])), (6, .leaf i)], [(2, false, (mk Y_impl_Node [(p 0, [p 1], []), (p 1, [p 1], []), (p 2, [p 1], []), (p 3, [p 1], [])]))], lb [p 1] [n 0]⟩
@[reducible] def e3 : List (Ex × J) := [((.exit 0), ⟨[(5, .leaf (.sl I (n 0) [n 0] []))], [], lb [] [n 0]⟩)]
noncomputable def k3 : Cut := ⟨i3, e3, spec_ConfAt.L3⟩
theorem h3 : k3.Holds P E.nt (.loop c3) := loop_holds (cuts := [(4, k0), (25, k2)]) hE hmx (cut_cons (by kernel_rfl) h0 (cut_cons (by kernel_rfl) h2 .nil)) (by kernel_rfl)
noncomputable def s : Sig := ⟨132, 1, ji, jo, fun x => spec_ConfAt.f x.1.1 x.1.2.1⟩
theorem h : s.Holds P := mkC (fn := Tryz.f132) (body := b) (cuts := [(58, k3)]) (backs := []) hE hmx s (cut_cons (by kernel_rfl) h3 .nil) (by kernel_rfl) (by kernel_rfl)
noncomputable def c : FnC P := ⟨s, ⟨by kernel_rfl, fun r => by kernel_rfl⟩, h⟩
end spec_ConfAt_m

namespace spec_ConfOf_m
noncomputable def b : Code := (Tryz.f107.body).getD .skip
@[reducible] def ji : J := ⟨[(0, .agg (mk Y_impl_Node [(p 0, [p 1], []), (p 1, [p 1], []), (p 2, [p 1], []), (p 3, [p 1], [])]))], [], lb [p 1] []⟩
@[reducible] def jo : J := ⟨[(0, .leaf (.sl I (n 0) [n 0] []))], [], lb [] [n 0]⟩
noncomputable def E : Env := mkE (P := P) tab Tryz.f107.ntmps [] [spec_ConfAt_m.c]
theorem hE : E.Ok P := mkE_ok tabOk eqs_nil
noncomputable def s : Sig := ⟨107, 1, ji, jo, fun x => spec_ConfOf.f x.1.1⟩
theorem h : s.Holds P := mkC (fn := Tryz.f107) (body := b) (cuts := []) (backs := []) hE hmx s .nil (by kernel_rfl) (by kernel_rfl)
noncomputable def c : FnC P := ⟨s, ⟨by kernel_rfl, fun r => by kernel_rfl⟩, h⟩
end spec_ConfOf_m

namespace spec_NodeOk_m
noncomputable def b : Code := (Tryz.f47.body).getD .skip
@[reducible] def ji : J := ⟨[(0, .agg (mk Y_impl_Node [(p 0, [p 1], []), (p 1, [p 1], []), (p 2, [p 1], []), (p 3, [p 1], [])]))], [], lb [p 1] []⟩
@[reducible] def jo : J := ⟨[(0, .leaf (.sc .bool))], [], []⟩
noncomputable def E : Env := mkE (P := P) tab Tryz.f47.ntmps [] [spec_l01In.c, spec_ConfOk.c, spec_LogOk.c, spec_LogLast.c, spec_l05Rise.c, spec_ConfOf_m.c, spec_l18Others.c]
theorem hE : E.Ok P := mkE_ok tabOk eqs_nil
noncomputable def c0 : Code := (codeAt b 200 12).getD .skip
noncomputable def c1 : Code := (codeAt b 200 60).getD .skip
noncomputable def c2 : Code := (codeAt b 200 253).getD .skip
noncomputable def c4 : Code := (codeAt b 200 4084).getD .skip
noncomputable def c3 : Code := (codeAt c4 200 50).getD .skip
@[reducible] def i0 : J := ⟨[(1, .ptr 1 0)], [(1, false, (mk Y_impl_Node [(p 0, [p 1], []), (p 1, [p 1], []), (p 2, [p 1], []), (p 3, [p 1], [])]))], lb [p 1] []⟩
@[reducible] def e0 : List (Ex × J) := [(.normal, ⟨[(1, .ptr 1 0), (47, .leaf (.sc .bool))], [(1, false, (mk Y_impl_Node [(p 0, [p 1], []), (p 1, [p 1], []), (p 2, [p 1], []), (p 3, [p 1], [])]))], lb [p 1] []⟩)]
noncomputable def k0 : Cut := ⟨i0, e0, spec_NodeOk.P0⟩
theorem h0 : k0.Holds P E.nt c0 := piece_holds (cuts := []) hE hmx .nil (by kernel_rfl)
@[reducible] def i1 : J := ⟨[(1, .ptr 1 0), (3, .leaf i), (4, .leaf i)], [(1, false, (mk Y_impl_Node [(p 0, [p 1], []), (p 1, [p 1], []), (p 2, [p 1], []), (p 3, [p 1], [])]))], lb [p 1] []⟩
@[reducible] def e1 : List (Ex × J) := [(.normal, ⟨[(1, .ptr 1 0), (3, .leaf i), (96, .leaf (.sc .bool))], [(1, false, (mk Y_impl_Node [(p 0, [p 1], []), (p 1, [p 1], []), (p 2, [p 1], []), (p 3, [p 1], [])]))], lb [p 1] []⟩)]
noncomputable def k1 : Cut := ⟨i1, e1, spec_NodeOk.P1⟩
theorem h1 : k1.Holds P E.nt c1 := piece_holds (cuts := []) hE hmx .nil (by kernel_rfl)
@[reducible] def i2 : J := ⟨[(1, .ptr 1 0), (3, .leaf i), (5, .leaf (.sl I (n 0) [n 0] [])), (100, .leaf (.sc .bool))], [(1, false, (mk Y_impl_Node [(p 0, [p 1], []), (p 1, [p 1], []), (p 2, [p 1], []), (p 3, [p 1], [])]))], lb [p 1] [n 0]⟩
@[reducible] def e2 : List (Ex × J) := [(.normal, ⟨[(1, .ptr 1 0), (3, .leaf i), (5, .leaf (.sl I (n 0) [n 0] []))], [(1, false, (mk Y_impl_Node [(p 0, [p 1], []), (p 1, [p 1], []), (p 2, [p 1], []), (p 3, [p 1], [])]))], lb [p 1] [n 0]⟩)]
noncomputable def k2 : Cut := ⟨i2, e2, spec_NodeOk.P2⟩
theorem h2 : k2.Holds P E.nt c2 := piece_holds (cuts := []) hE hmx .nil (by kernel_rfl)
@[reducible] def i3 : J := ⟨[(1, .ptr 1 0), (3, .leaf i), (5, .leaf (.sl I (n 0) [n 0] [])), (6, .leaf i), (7, .ptr 7 0)], [(1, false, (mk Y_impl_Node [(p 0, [p 1], []), (p 1, [p 1], []), (p 2, [p 1], []), (p 3, [p 1], [])])), (7, false, (mk Y_impl_Peer []))], lb [p 1] [n 0]⟩
@[reducible] def e3 : List (Ex × J) := [(.normal, ⟨[(1, .ptr 1 0), (3, .leaf i), (5, .leaf (.sl I (n 0) [n 0] [])), (6, .leaf i), (152, .leaf (.sc .bool))], [(1, false, (mk Y_impl_Node [(p 0, [p 1], []), (p 1, [p 1], []), (p 2, [p 1], []), (p 3, [p 1], [])]))], lb [p 1] [n 0]⟩)]
noncomputable def k3 : Cut := ⟨i3, e3, spec_NodeOk.P3⟩
theorem h3 : k3.Holds P E.nt c3 := piece_holds (cuts := []) hE hmx .nil (by kernel_rfl)
@[reducible] def i4 : J := ⟨[(1, .ptr 1 0), (3, .leaf i), (5, .leaf (.sl I (n 0) [n 0] [])), (6, .leaf i)], [(1, false, (mk Y_impl_Node [(p 0, [p 1], []), (p 1, [p 1], []), (p 2, [p 1], []), (p 3, [p 1], [])]))], lb [p 1] [n 0]⟩
@[reducible] def e4 : List (Ex × J) := [((.exit 0), ⟨[], [], []⟩), (.ret, ⟨[(2, .leaf (.sc .bool))], [], []⟩)]
noncomputable def k4 : Cut := ⟨i4, e4, spec_NodeOk.L4⟩
theorem h4 : k4.Holds P E.nt (.loop c4) := loop_holds (cuts := [(50, k3)]) hE hmx (cut_cons (by kernel_rfl) h3 .nil) (by kernel_rfl)
noncomputable def s : Sig := ⟨47, 1, ji, jo, fun x => spec_NodeOk.f x.1.1⟩
theorem h : s.Holds P := mkC (fn := Tryz.f47) (body := b) (cuts := [(12, k0), (60, k1), (253, k2), (2042, k4)]) (backs := []) hE hmx s (cut_cons (by kernel_rfl) h0 (cut_cons (by kernel_rfl) h1 (cut_cons (by kernel_rfl) h2 (cut_cons (by kernel_rfl) h4 .nil)))) (by kernel_rfl) (by kernel_rfl)
noncomputable def c : FnC P := ⟨s, ⟨by kernel_rfl, fun r => by kernel_rfl⟩, h⟩
end spec_NodeOk_m

namespace spec_l18Copy_m
noncomputable def b : Code := (Tryz.f49.body).getD .skip
@[reducible] def ji : J := ⟨[(0, .agg (mk Y_impl_Node [(p 0, [p 1], []), (p 1, [p 1], []), (p 2, [p 1], []), (p 3, [p 1], [])]))], [], lb [p 1] []⟩
@[reducible] def jo : J := ⟨[(0, .agg (mk Y_impl_Node [(n 0, [n 0], []), (n 1, [n 1], []), (n 2, [n 2], []), (n 3, [n 3], [])]))], [], lb [] [n 0, n 1, n 2, n 3]⟩
noncomputable def E : Env := mkE (P := P) tab Tryz.f49.ntmps [] []
theorem hE : E.Ok P := mkE_ok tabOk eqs_nil
noncomputable def s : Sig := ⟨49, 1, ji, jo, fun x => spec_l18Copy.f x.1.1⟩
theorem h : s.Holds P := mkC (fn := Tryz.f49) (body := b) (cuts := []) (backs := []) hE hmx s .nil (by kernel_rfl) (by kernel_rfl)
noncomputable def c : FnC P := ⟨s, ⟨by kernel_rfl, fun r => by kernel_rfl⟩, h⟩
end spec_l18Copy_m

namespace spec_l18Tell
noncomputable def b : Code := (Tryz.f109.body).getD .skip
@[reducible] def ji : J := ⟨[(0, .ptr (p 0) 0), (1, .agg (mk Y_impl_Message [(p 5, [p 7], []), (p 6, [p 8], [])]))], [(p 0, false, (mk Y_spec_l18Run [(p 0, [p 1], []), (p 1, [p 2], []), (p 2, [p 3], []), (p 3, [p 4], []), (p 4, [p 5], [p 6])]))], lb [p 1, p 2, p 3, p 4, p 6, p 7, p 8] [p 5]⟩
@[reducible] def jo : J := ⟨[], [(p 0, false, (mk Y_spec_l18Run [(p 0, [p 1], []), (p 1, [p 2], []), (p 2, [p 3], []), (p 3, [p 4], []), (n 4, [p 5, n 0], [p 6, p 7, p 8])]))], lb [p 1, p 2, p 3, p 4, p 6, p 7, p 8] [p 5, n 0]⟩
noncomputable def E : Env := mkE (P := P) tab Tryz.f109.ntmps [] []
theorem hE : E.Ok P := mkE_ok tabOk eqs_nil
noncomputable def s : Sig := ⟨109, 0, ji, jo, fun x => spec_l18Tell.f x.1.2.1 x.2.1⟩
theorem h : s.Holds P := mkC (fn := Tryz.f109) (body := b) (cuts := []) (backs := []) hE hmx s .nil (by kernel_rfl) (by kernel_rfl)
noncomputable def c : FnC P := ⟨s, ⟨by kernel_rfl, fun r => by kernel_rfl⟩, h⟩
end spec_l18Tell

namespace spec_l06Last
noncomputable def b : Code := (Tryz.f113.body).getD .skip
@[reducible] def ji : J := ⟨[(0, .agg (mk Y_impl_Log [(p 0, [p 1], [])]))], [], lb [p 1] []⟩
@[reducible] def jo : J := ⟨[(0, .leaf i)], [], []⟩
noncomputable def E : Env := mkE (P := P) tab Tryz.f113.ntmps [] []
theorem hE : E.Ok P := mkE_ok tabOk eqs_nil
noncomputable def s : Sig := ⟨113, 1, ji, jo, fun x => spec_l06Last.f x.1.1⟩
theorem h : s.Holds P := mkC (fn := Tryz.f113) (body := b) (cuts := []) (backs := []) hE hmx s .nil (by kernel_rfl) (by kernel_rfl)
noncomputable def c : FnC P := ⟨s, ⟨by kernel_rfl, fun r => by kernel_rfl⟩, h⟩
end spec_l06Last

namespace spec_LogTerm
noncomputable def b : Code := (Tryz.f115.body).getD .skip
@[reducible] def ji : J := ⟨[(0, .agg (mk Y_impl_Log [(p 0, [p 1], [])])), (1, .leaf i)], [], lb [p 1] []⟩
@[reducible] def jo : J := ⟨[(0, .leaf i)], [], []⟩
noncomputable def E : Env := mkE (P := P) tab Tryz.f115.ntmps [] [spec_l06Last.c]
theorem hE : E.Ok P := mkE_ok tabOk eqs_nil
noncomputable def c0 : Code := (codeAt b 200 28).getD .skip
@[reducible] def i0 : J := ⟨[(1, .leaf i), (2, .ptr 2 0)], [(2, false, (mk Y_impl_Log [(p 0, [p 1], [])]))], lb [p 1] []⟩
@[reducible] def e0 : List (Ex × J) := [(.normal, ⟨[(1, .leaf i), (2, .ptr 2 0), (20, .leaf (.sc .bool))], [(2, false, (mk Y_impl_Log [(p 0, [p 1], [])]))], lb [p 1] []⟩)]
noncomputable def k0 : Cut := ⟨i0, e0, spec_LogTerm.P0⟩
theorem h0 : k0.Holds P E.nt c0 := piece_holds (cuts := []) hE hmx .nil (by kernel_rfl)
noncomputable def s : Sig := ⟨115, 1, ji, jo, fun x => spec_LogTerm.f x.1.1 x.1.2.1⟩
theorem h : s.Holds P := mkC (fn := Tryz.f115) (body := b) (cuts := [(28, k0)]) (backs := []) hE hmx s (cut_cons (by kernel_rfl) h0 .nil) (by kernel_rfl) (by kernel_rfl)
noncomputable def c : FnC P := ⟨s, ⟨by kernel_rfl, fun r => by kernel_rfl⟩, h⟩
end spec_LogTerm

namespace spec_l18Send
noncomputable def b : Code := (Tryz.f117.body).getD .skip
@[reducible] def ji : J := ⟨[(0, .ptr (p 0) 0), (1, .agg (mk Y_impl_Peer []))], [(p 0, false, (mk Y_spec_l18Run [(p 0, [p 1], []), (p 1, [p 2], []), (p 2, [p 3], []), (p 3, [p 4], []), (p 4, [p 5], [p 6])]))], lb [p 1, p 2, p 3, p 4, p 6] [p 5]⟩
@[reducible] def jo : J := ⟨[], [(p 0, false, (mk Y_spec_l18Run [(p 0, [p 1], []), (n 1, [p 2], []), (p 2, [p 3], []), (p 3, [p 4], []), (n 4, [p 5, n 0], [p 6, n 1])]))], lb [p 1, p 2, p 3, p 4, p 6] [p 5, n 0, n 1]⟩
noncomputable def E : Env := mkE (P := P) tab Tryz.f117.ntmps [] [spec_l18Tell.c, spec_LogTerm.c]
theorem hE : E.Ok P := mkE_ok tabOk eqs_nil
noncomputable def c1 : Code := (codeAt b 200 500).getD .skip
noncomputable def c0 : Code := (codeAt c1 200 4).getD .skip
@[reducible] def i0 : J := ⟨[(0, .ptr (p 0) 0), (4, .ptr 4 0), (5, .ptr 5 0), (6, .leaf i)], [(4, false, (mk Y_impl_Log [(p 1, [p 2], [])])), (5, false, (mk Y_impl_Message [(n 1, [n 0], []), (n 2, [], [])])), (p 0, false, (mk Y_spec_l18Run [(p 0, [p 1], []), (n 4, [p 2], []), (p 2, [p 3], []), (p 3, [p 4], []), (p 4, [p 5], [p 6])]))], lb [p 1, p 2, p 3, p 4, p 6] [p 5, n 0]⟩
@[reducible] def e0 : List (Ex × J) := [(.normal, ⟨[(0, .ptr (p 0) 0), (4, .ptr 4 0), (5, .ptr 5 0), (6, .leaf i), (67, .leaf (.sc .bool))], [(4, false, (mk Y_impl_Log [(p 1, [p 2], [])])), (5, false, (mk Y_impl_Message [(n 1, [n 0], []), (n 2, [], [])])), (p 0, false, (mk Y_spec_l18Run [(p 0, [p 1], []), (n 4, [p 2], []), (p 2, [p 3], []), (p 3, [p 4], []), (p 4, [p 5], [p 6])]))], lb [p 1, p 2, p 3, p 4, p 6] [p 5, n 0]⟩)]
noncomputable def k0 : Cut := ⟨i0, e0, spec_l18Send.P0⟩
theorem h0 : k0.Holds P E.nt c0 := piece_holds (cuts := []) hE hmx .nil (by kernel_rfl)
@[reducible] def i1 : J := ⟨[(0, .ptr (p 0) 0), (4, .ptr 4 0), (5, .ptr 5 0), (6, .leaf i)], [(4, false, (mk Y_impl_Log [(p 1, [p 2], [])])), (5, false, (mk Y_impl_Message [(n 1, [n 0], []), (n 2, [], [])])), (p 0, false, (mk Y_spec_l18Run [(p 0, [p 1], []), (n 4, [p 2], []), (p 2, [p 3], []), (p 3, [p 4], []), (p 4, [p 5], [p 6])]))], lb [p 1, p 2, p 3, p 4, p 6] [p 5, n 0]⟩
@[reducible] def e1 : List (Ex × J) := [((.exit 0), ⟨[(0, .ptr (p 0) 0), (5, .ptr 5 0)], [(5, false, (mk Y_impl_Message [(n 0, [n 0], []), (n 1, [], [])])), (p 0, false, (mk Y_spec_l18Run [(p 0, [p 1], []), (n 3, [p 2], []), (p 2, [p 3], []), (p 3, [p 4], []), (p 4, [p 5], [p 6])]))], lb [p 1, p 2, p 3, p 4, p 6] [p 5, n 0]⟩)]
noncomputable def k1 : Cut := ⟨i1, e1, spec_l18Send.L1⟩
theorem h1 : k1.Holds P E.nt (.loop c1) := loop_holds (cuts := [(4, k0)]) hE hmx (cut_cons (by kernel_rfl) h0 .nil) (by kernel_rfl)
noncomputable def s : Sig := ⟨117, 0, ji, jo, fun x => spec_l18Send.f x.1.2.1 x.2.1⟩
theorem h : s.Holds P := mkC (fn := Tryz.f117) (body := b) (cuts := [(250, k1)]) (backs := []) hE hmx s (cut_cons (by kernel_rfl) h1 .nil) (by kernel_rfl) (by kernel_rfl)
noncomputable def c : FnC P := ⟨s, ⟨by kernel_rfl, fun r => by kernel_rfl⟩, h⟩
end spec_l18Send

namespace spec_l18SendAll
noncomputable def b : Code := (Tryz.f123.body).getD .skip
@[reducible] def ji : J := ⟨[(0, .ptr (p 0) 0)], [(p 0, false, (mk Y_spec_l18Run [(p 0, [p 1], []), (p 1, [p 2], []), (p 2, [p 3], []), (p 3, [p 4], []), (p 4, [p 5], [p 6])]))], lb [p 1, p 2, p 3, p 4, p 6] [p 5]⟩
@[reducible] def jo : J := ⟨[], [(p 0, false, (mk Y_spec_l18Run [(p 0, [p 1], []), (n 1, [p 2], []), (p 2, [p 3], []), (p 3, [p 4], []), (n 4, [p 5, n 0], [p 6, n 1])]))], lb [p 1, p 2, p 3, p 4, p 6] [p 5, n 0, n 1]⟩
noncomputable def E : Env := mkE (P := P) tab Tryz.f123.ntmps [] [spec_l18Send.c]
theorem hE : E.Ok P := mkE_ok tabOk eqs_nil
noncomputable def c0 : Code := (codeAt b 200 12).getD .skip
@[reducible] def i0 : J := ⟨[(0, .ptr (p 0) 0), (2, .leaf i)], [(p 0, false, (mk Y_spec_l18Run [(p 0, [p 1], []), (n 1, [p 2], []), (p 2, [p 3], []), (p 3, [p 4], []), (n 4, [p 5, n 0], [p 6, n 1])]))], lb [p 1, p 2, p 3, p 4, p 6] [p 5, n 0, n 1]⟩
@[reducible] def e0 : List (Ex × J) := [((.exit 0), ⟨[], [(p 0, false, (mk Y_spec_l18Run [(p 0, [p 1], []), (n 1, [p 2], []), (p 2, [p 3], []), (p 3, [p 4], []), (n 4, [p 5, n 0], [p 6, n 1])]))], lb [p 1, p 2, p 3, p 4, p 6] [p 5, n 0, n 1]⟩)]
noncomputable def k0 : Cut := ⟨i0, e0, spec_l18SendAll.L0⟩
theorem h0 : k0.Holds P E.nt (.loop c0) := loop_holds (cuts := []) hE hmx .nil (by kernel_rfl)
noncomputable def s : Sig := ⟨123, 0, ji, jo, fun x => spec_l18SendAll.f x.2.1⟩
theorem h : s.Holds P := mkC (fn := Tryz.f123) (body := b) (cuts := [(6, k0)]) (backs := []) hE hmx s (cut_cons (by kernel_rfl) h0 .nil) (by kernel_rfl) (by kernel_rfl)
noncomputable def c : FnC P := ⟨s, ⟨by kernel_rfl, fun r => by kernel_rfl⟩, h⟩
end spec_l18SendAll

namespace spec_l05In
noncomputable def b : Code := (Tryz.f110.body).getD .skip
@[reducible] def ji : J := ⟨[(0, .leaf (.sl I (p 0) [p 1] [])), (1, .leaf i)], [], lb [p 1] []⟩
@[reducible] def jo : J := ⟨[(0, .leaf (.sc .bool))], [], []⟩
noncomputable def E : Env := mkE (P := P) tab Tryz.f110.ntmps [] []
theorem hE : E.Ok P := mkE_ok tabOk eqs_nil
noncomputable def c0 : Code := (codeAt b 200 52).getD .skip
@[reducible] def i0 : J := ⟨[(0, .leaf (.sl I (p 0) [p 1] [])), (1, .leaf i), (5, .leaf i)], [], lb [p 1] []⟩
@[reducible] def e0 : List (Ex × J) := [((.exit 0), ⟨[], [], []⟩), (.ret, ⟨[(4, .leaf (.sc .bool))], [], []⟩)]
noncomputable def k0 : Cut := ⟨i0, e0, spec_l05In.L0⟩
theorem h0 : k0.Holds P E.nt (.loop c0) := loop_holds (cuts := []) hE hmx .nil (by kernel_rfl)
noncomputable def s : Sig := ⟨110, 1, ji, jo, fun x => spec_l05In.f x.1.1 x.1.2.1⟩
theorem h : s.Holds P := mkC (fn := Tryz.f110) (body := b) (cuts := [(26, k0)]) (backs := []) hE hmx s (cut_cons (by kernel_rfl) h0 .nil) (by kernel_rfl) (by kernel_rfl)
noncomputable def c : FnC P := ⟨s, ⟨by kernel_rfl, fun r => by kernel_rfl⟩, h⟩
end spec_l05In

namespace spec_Most
noncomputable def b : Code := (Tryz.f144.body).getD .skip
@[reducible] def ji : J := ⟨[(0, .leaf (.sl I (p 0) [p 1] [])), (1, .leaf (.sl I (p 1) [p 2] []))], [], lb [p 1, p 2] []⟩
@[reducible] def jo : J := ⟨[(0, .leaf (.sc .bool))], [], []⟩
noncomputable def E : Env := mkE (P := P) tab Tryz.f144.ntmps [] [spec_l05In.c, spec_ConfOk.c]
theorem hE : E.Ok P := mkE_ok tabOk eqs_nil
noncomputable def c2 : Code := (codeAt b 200 30).getD .skip
noncomputable def c1 : Code := (codeAt b 200 116).getD .skip
noncomputable def c0 : Code := (codeAt c1 200 25).getD .skip
@[reducible] def i2 : J := ⟨[(0, .leaf (.sl I (p 0) [p 1] [])), (5, .leaf i)], [], lb [p 1] []⟩
@[reducible] def e2 : List (Ex × J) := [(.normal, ⟨[(4, .leaf (.sc .bool))], [], []⟩)]
noncomputable def k2 : Cut := ⟨i2, e2, spec_Most.P2⟩
theorem h2 : k2.Holds P E.nt c2 := piece_holds (cuts := []) hE hmx .nil (by kernel_rfl)
@[reducible] def i0 : J := ⟨[(0, .leaf (.sl I (p 0) [p 1] [])), (1, .leaf (.sl I (p 1) [p 2] [])), (5, .leaf i), (6, .leaf i), (18, .leaf (.sc .bool))], [], lb [p 1, p 2] []⟩
@[reducible] def e0 : List (Ex × J) := [(.normal, ⟨[(0, .leaf (.sl I (p 0) [p 1] [])), (1, .leaf (.sl I (p 1) [p 2] [])), (5, .leaf i), (6, .leaf i)], [], lb [p 1, p 2] []⟩)]
noncomputable def k0 : Cut := ⟨i0, e0, spec_Most.P0⟩
theorem h0 : k0.Holds P E.nt c0 := piece_holds (cuts := []) hE hmx .nil (by kernel_rfl)
@[reducible] def i1 : J := ⟨[(0, .leaf (.sl I (p 0) [p 1] [])), (1, .leaf (.sl I (p 1) [p 2] [])), (5, .leaf i), (6, .leaf i)], [], lb [p 1, p 2] []⟩
@[reducible] def e1 : List (Ex × J) := [((.exit 0), ⟨[(0, .leaf (.sl I (p 0) [p 1] [])), (5, .leaf i)], [], lb [p 1] []⟩)]
noncomputable def k1 : Cut := ⟨i1, e1, spec_Most.L1⟩
theorem h1 : k1.Holds P E.nt (.loop c1) := loop_holds (cuts := [(25, k0)]) hE hmx (cut_cons (by kernel_rfl) h0 .nil) (by kernel_rfl)
noncomputable def s : Sig := ⟨144, 1, ji, jo, fun x => spec_Most.f x.1.1 x.1.2.1⟩
theorem h : s.Holds P := mkC (fn := Tryz.f144) (body := b) (cuts := [(30, k2), (58, k1)]) (backs := []) hE hmx s (cut_cons (by kernel_rfl) h2 (cut_cons (by kernel_rfl) h1 .nil)) (by kernel_rfl) (by kernel_rfl)
noncomputable def c : FnC P := ⟨s, ⟨by kernel_rfl, fun r => by kernel_rfl⟩, h⟩
end spec_Most

namespace spec_l18Elected
noncomputable def b : Code := (Tryz.f111.body).getD .skip
@[reducible] def ji : J := ⟨[(0, .ptr (p 0) 0)], [(p 0, true, (mk Y_spec_l18Run [(p 0, [p 1], []), (p 1, [p 2], []), (p 2, [p 3], []), (p 3, [p 4], []), (p 4, [p 5], [p 6])]))], lb [p 1, p 2, p 3, p 4, p 5, p 6] []⟩
@[reducible] def jo : J := ⟨[(0, .leaf (.sc .bool))], [], []⟩
noncomputable def E : Env := mkE (P := P) tab Tryz.f111.ntmps [] [spec_ConfOf.c, spec_Most.c]
theorem hE : E.Ok P := mkE_ok tabOk eqs_nil
noncomputable def s : Sig := ⟨111, 1, ji, jo, fun x => spec_l18Elected.f x.2.1⟩
theorem h : s.Holds P := mkC (fn := Tryz.f111) (body := b) (cuts := []) (backs := []) hE hmx s .nil (by kernel_rfl) (by kernel_rfl)
noncomputable def c : FnC P := ⟨s, ⟨by kernel_rfl, fun r => by kernel_rfl⟩, h⟩
end spec_l18Elected

namespace spec_l18Room
noncomputable def b : Code := (Tryz.f128.body).getD .skip
@[reducible] def ji : J := ⟨[(0, .agg (mk Y_impl_Node [(p 0, [p 1], []), (p 1, [p 2], []), (p 2, [p 3], []), (p 3, [p 4], [])]))], [], lb [p 1, p 2, p 3, p 4] []⟩
@[reducible] def jo : J := ⟨[(0, .leaf (.sc .bool))], [], []⟩
noncomputable def E : Env := mkE (P := P) tab Tryz.f128.ntmps [] [spec_l06Last.c]
theorem hE : E.Ok P := mkE_ok tabOk eqs_nil
noncomputable def c0 : Code := (codeAt b 200 6).getD .skip
@[reducible] def i0 : J := ⟨[(1, .ptr 1 0)], [(1, false, (mk Y_impl_Node [(p 0, [p 1], []), (p 1, [p 2], []), (p 2, [p 3], []), (p 3, [p 4], [])]))], lb [p 1, p 2, p 3, p 4] []⟩
@[reducible] def e0 : List (Ex × J) := [(.normal, ⟨[(2, .leaf (.sc .bool))], [], []⟩)]
noncomputable def k0 : Cut := ⟨i0, e0, spec_l18Room.P0⟩
theorem h0 : k0.Holds P E.nt c0 := piece_holds (cuts := []) hE hmx .nil (by kernel_rfl)
noncomputable def s : Sig := ⟨128, 1, ji, jo, fun x => spec_l18Room.f x.1.1⟩
theorem h : s.Holds P := mkC (fn := Tryz.f128) (body := b) (cuts := [(6, k0)]) (backs := []) hE hmx s (cut_cons (by kernel_rfl) h0 .nil) (by kernel_rfl) (by kernel_rfl)
noncomputable def c : FnC P := ⟨s, ⟨by kernel_rfl, fun r => by kernel_rfl⟩, h⟩
end spec_l18Room

namespace spec_l18ConfIndex
noncomputable def b : Code := (Tryz.f130.body).getD .skip
@[reducible] def ji : J := ⟨[(0, .agg (mk Y_impl_Node [(p 0, [p 1], []), (p 1, [p 2], []), (p 2, [p 3], []), (p 3, [p 4], [])]))], [], lb [p 1, p 2, p 3, p 4] []⟩
@[reducible] def jo : J := ⟨[(0, .leaf i)], [], []⟩
noncomputable def E : Env := mkE (P := P) tab Tryz.f130.ntmps [] []
theorem hE : E.Ok P := mkE_ok tabOk eqs_nil
noncomputable def c1 : Code := (codeAt b 200 116).getD .skip
noncomputable def c0 : Code := (codeAt c1 200 25).getD .skip
@[reducible] def i0 : J := ⟨[(1, .ptr 1 0), (3, .leaf i), (4, .leaf i), (23, .leaf (.sc .bool))], [(1, false, (mk Y_impl_Node [(p 0, [p 1], []), (p 1, [p 2], []), (p 2, [p 3], []), (p 3, [p 4], [])]))], lb [p 1, p 2, p 3, p 4] []⟩
@[reducible] def e0 : List (Ex × J) := [(.normal, ⟨[(1, .ptr 1 0), (3, .leaf i), (4, .leaf i)], [(1, false, (mk Y_impl_Node [(p 0, [p 1], []), (p 1, [p 2], []), (p 2, [p 3], []), (p 3, [p 4], [])]))], lb [p 1, p 2, p 3, p 4] []⟩)]
noncomputable def k0 : Cut := ⟨i0, e0, spec_l18ConfIndex.P0⟩
theorem h0 : k0.Holds P E.nt c0 := piece_holds (cuts := []) hE hmx .nil (by kernel_rfl)
@[reducible] def i1 : J := ⟨[(1, .ptr 1 0), (3, .leaf i), (4, .leaf i)], [(1, false, (mk Y_impl_Node [(p 0, [p 1], []), (p 1, [p 2], []), (p 2, [p 3], []), (p 3, [p 4], [])]))], lb [p 1, p 2, p 3, p 4] []⟩
@[reducible] def e1 : List (Ex × J) := [((.exit 0), ⟨[(3, .leaf i)], [], []⟩)]
noncomputable def k1 : Cut := ⟨i1, e1, spec_l18ConfIndex.L1⟩
theorem h1 : k1.Holds P E.nt (.loop c1) := loop_holds (cuts := [(25, k0)]) hE hmx (cut_cons (by kernel_rfl) h0 .nil) (by kernel_rfl)
noncomputable def s : Sig := ⟨130, 1, ji, jo, fun x => spec_l18ConfIndex.f x.1.1⟩
theorem h : s.Holds P := mkC (fn := Tryz.f130) (body := b) (cuts := [(58, k1)]) (backs := []) hE hmx s (cut_cons (by kernel_rfl) h1 .nil) (by kernel_rfl) (by kernel_rfl)
noncomputable def c : FnC P := ⟨s, ⟨by kernel_rfl, fun r => by kernel_rfl⟩, h⟩
end spec_l18ConfIndex

namespace spec_l18Follow
noncomputable def b : Code := (Tryz.f50.body).getD .skip
@[reducible] def ji : J := ⟨[(0, .ptr (p 0) 0), (1, .leaf i)], [(p 0, false, (mk Y_spec_l18Run [(p 0, [p 1], []), (p 1, [p 2], []), (p 2, [p 3], []), (p 3, [p 4], []), (p 4, [p 5], [p 6])]))], lb [p 1, p 2, p 3, p 4, p 5, p 6] []⟩
@[reducible] def jo : J := ⟨[], [(p 0, false, (mk Y_spec_l18Run [(p 0, [p 1], []), (p 1, [p 2], []), (n 2, [n 0], []), (n 3, [n 1], []), (p 4, [p 5], [p 6])]))], lb [p 1, p 2, p 5, p 6] [n 0, n 1]⟩
noncomputable def E : Env := mkE (P := P) tab Tryz.f50.ntmps [] []
theorem hE : E.Ok P := mkE_ok tabOk eqs_nil
noncomputable def s : Sig := ⟨50, 0, ji, jo, fun x => spec_l18Follow.f x.1.2.1 x.2.1⟩
theorem h : s.Holds P := mkC (fn := Tryz.f50) (body := b) (cuts := []) (backs := []) hE hmx s .nil (by kernel_rfl) (by kernel_rfl)
noncomputable def c : FnC P := ⟨s, ⟨by kernel_rfl, fun r => by kernel_rfl⟩, h⟩
end spec_l18Follow

namespace spec_l18Commit
noncomputable def b : Code := (Tryz.f116.body).getD .skip
@[reducible] def ji : J := ⟨[(0, .ptr (p 0) 0)], [(p 0, false, (mk Y_spec_l18Run [(p 0, [p 1], []), (p 1, [p 2], []), (p 2, [p 3], []), (p 3, [p 4], []), (p 4, [p 5], [p 6])]))], lb [p 1, p 2, p 3, p 4, p 5, p 6] []⟩
@[reducible] def jo : J := ⟨[], [(p 0, false, (mk Y_spec_l18Run [(p 0, [p 1], []), (p 1, [p 2], []), (n 2, [p 3, n 0], []), (n 3, [p 4, n 1], []), (p 4, [p 5], [p 6])]))], lb [p 1, p 2, p 3, p 4, p 5, p 6] [n 0, n 1]⟩
noncomputable def E : Env := mkE (P := P) tab Tryz.f116.ntmps [] [spec_ConfOf.c, spec_l06Last.c, spec_LogTerm.c, spec_Most.c, spec_l05In.c, spec_l18ConfIndex.c, spec_l18Follow.c]
theorem hE : E.Ok P := mkE_ok tabOk eqs_nil
noncomputable def c5 : Code := (codeAt b 200 30).getD .skip
noncomputable def c6 : Code := (codeAt b 200 31).getD .skip
noncomputable def c4 : Code := (codeAt b 200 116).getD .skip
noncomputable def c2 : Code := (codeAt c4 200 102).getD .skip
noncomputable def c3 : Code := (codeAt c4 200 103).getD .skip
noncomputable def c1 : Code := (codeAt c4 200 404).getD .skip
noncomputable def c0 : Code := (codeAt c1 200 25).getD .skip
@[reducible] def i5 : J := ⟨[(0, .ptr (p 0) 0), (2, .leaf (.sl I (n 0) [n 0] []))], [(p 0, false, (mk Y_spec_l18Run [(p 0, [p 1], []), (p 1, [p 2], []), (p 2, [p 3], []), (p 3, [p 4], []), (p 4, [p 5], [p 6])]))], lb [p 1, p 2, p 3, p 4, p 5, p 6] [n 0]⟩
@[reducible] def e5 : List (Ex × J) := [(.normal, ⟨[(0, .ptr (p 0) 0), (118, .leaf (.sc .bool))], [(p 0, false, (mk Y_spec_l18Run [(p 0, [p 1], []), (p 1, [p 2], []), (p 2, [p 3], []), (p 3, [p 4], []), (p 4, [p 5], [p 6])]))], lb [p 1, p 2, p 3, p 4, p 5, p 6] []⟩)]
noncomputable def k5 : Cut := ⟨i5, e5, spec_l18Commit.P5⟩
theorem h5 : k5.Holds P E.nt c5 := piece_holds (cuts := []) hE hmx .nil (by kernel_rfl)
@[reducible] def i6 : J := ⟨[(0, .ptr (p 0) 0), (118, .leaf (.sc .bool))], [(p 0, false, (mk Y_spec_l18Run [(p 0, [p 1], []), (p 1, [p 2], []), (p 2, [p 3], []), (p 3, [p 4], []), (p 4, [p 5], [p 6])]))], lb [p 1, p 2, p 3, p 4, p 5, p 6] []⟩
@[reducible] def e6 : List (Ex × J) := [(.normal, ⟨[], [(p 0, false, (mk Y_spec_l18Run [(p 0, [p 1], []), (p 1, [p 2], []), (n 2, [p 3, n 0], []), (n 3, [p 4, n 1], []), (p 4, [p 5], [p 6])]))], lb [p 1, p 2, p 3, p 4, p 5, p 6] [n 0, n 1]⟩)]
noncomputable def k6 : Cut := ⟨i6, e6, spec_l18Commit.P6⟩
theorem h6 : k6.Holds P E.nt c6 := piece_holds (cuts := []) hE hmx .nil (by kernel_rfl)
@[reducible] def i2 : J := ⟨[(0, .ptr (p 0) 0), (2, .leaf (.sl I (n 0) [n 0] [])), (4, .leaf i), (5, .leaf (.sl I (n 1) [n 1] []))], [(p 0, false, (mk Y_spec_l18Run [(p 0, [p 1], []), (p 1, [p 2], []), (p 2, [p 3], []), (p 3, [p 4], []), (p 4, [p 5], [p 6])]))], lb [p 1, p 2, p 3, p 4, p 5, p 6] [n 0, n 1]⟩
@[reducible] def e2 : List (Ex × J) := [(.normal, ⟨[(0, .ptr (p 0) 0), (2, .leaf (.sl I (n 0) [n 0] [])), (4, .leaf i), (84, .leaf (.sc .bool))], [(p 0, false, (mk Y_spec_l18Run [(p 0, [p 1], []), (p 1, [p 2], []), (p 2, [p 3], []), (p 3, [p 4], []), (p 4, [p 5], [p 6])]))], lb [p 1, p 2, p 3, p 4, p 5, p 6] [n 0]⟩)]
noncomputable def k2 : Cut := ⟨i2, e2, spec_l18Commit.P2⟩
theorem h2 : k2.Holds P E.nt c2 := piece_holds (cuts := []) hE hmx .nil (by kernel_rfl)
@[reducible] def i3 : J := ⟨[(0, .ptr (p 0) 0), (2, .leaf (.sl I (n 0) [n 0] [])), (4, .leaf i), (84, .leaf (.sc .bool))], [(p 0, false, (mk Y_spec_l18Run [(p 0, [p 1], []), (p 1, [p 2], []), (p 2, [p 3], []), (p 3, [p 4], []), (p 4, [p 5], [p 6])]))], lb [p 1, p 2, p 3, p 4, p 5, p 6] [n 0]⟩
@[reducible] def e3 : List (Ex × J) := [(.normal, ⟨[(0, .ptr (p 0) 0), (2, .leaf (.sl I (n 0) [n 0] [])), (4, .leaf i)], [(p 0, false, (mk Y_spec_l18Run [(p 0, [p 1], []), (p 1, [p 2], []), (p 2, [p 3], []), (p 3, [p 4], []), (p 4, [p 5], [p 6])]))], lb [p 1, p 2, p 3, p 4, p 5, p 6] [n 0]⟩)]
noncomputable def k3 : Cut := ⟨i3, e3, spec_l18Commit.P3⟩
theorem h3 : k3.Holds P E.nt c3 := piece_holds (cuts := []) hE hmx .nil (by kernel_rfl)
@[reducible] def i0 : J := ⟨[(0, .ptr (p 0) 0), (2, .leaf (.sl I (n 0) [n 0] [])), (4, .leaf i), (5, .leaf (.sl I (n 1) [n 1] [])), (6, .leaf i), (54, .leaf (.sc .bool))], [(p 0, false, (mk Y_spec_l18Run [(p 0, [p 1], []), (p 1, [p 2], []), (p 2, [p 3], []), (p 3, [p 4], []), (p 4, [p 5], [p 6])]))], lb [p 1, p 2, p 3, p 4, p 5, p 6] [n 0, n 1]⟩
@[reducible] def e0 : List (Ex × J) := [(.normal, ⟨[(0, .ptr (p 0) 0), (2, .leaf (.sl I (n 0) [n 0] [])), (4, .leaf i), (5, .leaf (.sl I (n 1) [n 1] [])), (6, .leaf i)], [(p 0, false, (mk Y_spec_l18Run [(p 0, [p 1], []), (p 1, [p 2], []), (p 2, [p 3], []), (p 3, [p 4], []), (p 4, [p 5], [p 6])]))], lb [p 1, p 2, p 3, p 4, p 5, p 6] [n 0, n 1]⟩)]
noncomputable def k0 : Cut := ⟨i0, e0, spec_l18Commit.P0⟩
theorem h0 : k0.Holds P E.nt c0 := piece_holds (cuts := []) hE hmx .nil (by kernel_rfl)
@[reducible] def i1 : J := ⟨[(0, .ptr (p 0) 0), (2, .leaf (.sl I (n 0) [n 0] [])), (4, .leaf i), (5, .leaf (.sl I (n 1) [n 1] [])), (6, .leaf i)], [(p 0, false, (mk Y_spec_l18Run [(p 0, [p 1], []), (p 1, [p 2], []), (p 2, [p 3], []), (p 3, [p 4], []), (p 4, [p 5], [p 6])]))], lb [p 1, p 2, p 3, p 4, p 5, p 6] [n 0, n 1]⟩
@[reducible] def e1 : List (Ex × J) := [((.exit 2), ⟨[(0, .ptr (p 0) 0), (2, .leaf (.sl I (n 0) [n 0] [])), (4, .leaf i), (5, .leaf (.sl I (n 1) [n 1] []))], [(p 0, false, (mk Y_spec_l18Run [(p 0, [p 1], []), (p 1, [p 2], []), (p 2, [p 3], []), (p 3, [p 4], []), (p 4, [p 5], [p 6])]))], lb [p 1, p 2, p 3, p 4, p 5, p 6] [n 0, n 1]⟩)]
noncomputable def k1 : Cut := ⟨i1, e1, spec_l18Commit.L1⟩
theorem h1 : k1.Holds P E.nt (.loop c1) := loop_holds (cuts := [(25, k0)]) hE hmx (cut_cons (by kernel_rfl) h0 .nil) (by kernel_rfl)
@[reducible] def i4 : J := ⟨[(0, .ptr (p 0) 0), (2, .leaf (.sl I (n 0) [n 0] [])), (4, .leaf i)], [(p 0, false, (mk Y_spec_l18Run [(p 0, [p 1], []), (p 1, [p 2], []), (p 2, [p 3], []), (p 3, [p 4], []), (p 4, [p 5], [p 6])]))], lb [p 1, p 2, p 3, p 4, p 5, p 6] [n 0]⟩
@[reducible] def e4 : List (Ex × J) := [((.exit 0), ⟨[(0, .ptr (p 0) 0), (2, .leaf (.sl I (n 0) [n 0] []))], [(p 0, false, (mk Y_spec_l18Run [(p 0, [p 1], []), (p 1, [p 2], []), (p 2, [p 3], []), (p 3, [p 4], []), (p 4, [p 5], [p 6])]))], lb [p 1, p 2, p 3, p 4, p 5, p 6] [n 0]⟩)]
noncomputable def k4 : Cut := ⟨i4, e4, spec_l18Commit.L4⟩
theorem h4 : k4.Holds P E.nt (.loop c4) := loop_holds (cuts := [(102, k2), (103, k3), (202, k1)]) hE hmx (cut_cons (by kernel_rfl) h2 (cut_cons (by kernel_rfl) h3 (cut_cons (by kernel_rfl) h1 .nil))) (by kernel_rfl)
noncomputable def s : Sig := ⟨116, 0, ji, jo, fun x => spec_l18Commit.f x.2.1⟩
theorem h : s.Holds P := mkC (fn := Tryz.f116) (body := b) (cuts := [(30, k5), (31, k6), (58, k4)]) (backs := []) hE hmx s (cut_cons (by kernel_rfl) h5 (cut_cons (by kernel_rfl) h6 (cut_cons (by kernel_rfl) h4 .nil))) (by kernel_rfl) (by kernel_rfl)
noncomputable def c : FnC P := ⟨s, ⟨by kernel_rfl, fun r => by kernel_rfl⟩, h⟩
end spec_l18Commit

namespace spec_l18Lead
noncomputable def b : Code := (Tryz.f112.body).getD .skip
@[reducible] def ji : J := ⟨[(0, .ptr (p 0) 0)], [(p 0, false, (mk Y_spec_l18Run [(p 0, [p 1], []), (p 1, [p 2], []), (p 2, [p 3], []), (p 3, [p 4], []), (p 4, [p 5], [p 6])]))], lb [p 1, p 3, p 4, p 6] [p 2, p 5]⟩
@[reducible] def jo : J := ⟨[], [(p 0, false, (mk Y_spec_l18Run [(p 0, [p 1], []), (n 1, [p 2, n 0], []), (n 2, [n 1], []), (n 3, [n 2], []), (n 4, [p 5, n 3], [p 6, n 4])]))], lb [p 1, p 6] [p 2, p 5, n 0, n 1, n 2, n 3, n 4]⟩
noncomputable def E : Env := mkE (P := P) tab Tryz.f112.ntmps [] [spec_l06Last.c, spec_l18Room.c, spec_ConfOf.c, spec_l18Others.c, spec_l18Commit.c, spec_l18SendAll.c]
theorem hE : E.Ok P := mkE_ok tabOk eqs_nil
noncomputable def c0 : Code := (codeAt b 200 125).getD .skip
noncomputable def c1 : Code := (codeAt b 200 4084).getD .skip
@[reducible] def i0 : J := ⟨[(0, .ptr (p 0) 0), (2, .leaf i), (33, .leaf (.sc .bool))], [(p 0, false, (mk Y_spec_l18Run [(p 0, [p 1], []), (p 1, [p 2], []), (n 2, [n 0], []), (p 3, [p 4], []), (p 4, [p 5], [p 6])]))], lb [p 1, p 4, p 6] [p 2, p 5, n 0]⟩
@[reducible] def e0 : List (Ex × J) := [(.normal, ⟨[(0, .ptr (p 0) 0), (2, .leaf i)], [(p 0, false, (mk Y_spec_l18Run [(p 0, [p 1], []), (n 1, [p 2, n 0], []), (n 2, [n 1], []), (p 3, [p 4], []), (p 4, [p 5], [p 6])]))], lb [p 1, p 4, p 6] [p 2, p 5, n 0, n 1]⟩)]
noncomputable def k0 : Cut := ⟨i0, e0, spec_l18Lead.P0⟩
theorem h0 : k0.Holds P E.nt c0 := piece_holds (cuts := []) hE hmx .nil (by kernel_rfl)
@[reducible] def i1 : J := ⟨[(0, .ptr (p 0) 0), (2, .leaf i), (3, .leaf (.sl I (n 0) [n 0] [])), (4, .leaf i)], [(p 0, false, (mk Y_spec_l18Run [(p 0, [p 1], []), (n 2, [p 2, n 1], []), (n 3, [n 2], []), (n 4, [n 3], []), (p 4, [p 5], [p 6])]))], lb [p 1, p 6] [p 2, p 5, n 0, n 1, n 2, n 3]⟩
@[reducible] def e1 : List (Ex × J) := [((.exit 0), ⟨[(0, .ptr (p 0) 0)], [(p 0, false, (mk Y_spec_l18Run [(p 0, [p 1], []), (n 1, [p 2, n 0], []), (n 2, [n 1], []), (n 3, [n 2], []), (p 4, [p 5], [p 6])]))], lb [p 1, p 6] [p 2, p 5, n 0, n 1, n 2]⟩)]
noncomputable def k1 : Cut := ⟨i1, e1, spec_l18Lead.L1⟩
theorem h1 : k1.Holds P E.nt (.loop c1) := loop_holds (cuts := []) hE hmx .nil (by kernel_rfl)
noncomputable def s : Sig := ⟨112, 0, ji, jo, fun x => spec_l18Lead.f x.2.1⟩
theorem h : s.Holds P := mkC (fn := Tryz.f112) (body := b) (cuts := [(125, k0), (2042, k1)]) (backs := []) hE hmx s (cut_cons (by kernel_rfl) h0 (cut_cons (by kernel_rfl) h1 .nil)) (by kernel_rfl) (by kernel_rfl)
noncomputable def c : FnC P := ⟨s, ⟨by kernel_rfl, fun r => by kernel_rfl⟩, h⟩
end spec_l18Lead

namespace spec_Tick_m
noncomputable def b : Code := (Tryz.f78.body).getD .skip
@[reducible] def ji : J := ⟨[(0, .agg (mk Y_impl_Node [(p 0, [p 1], []), (p 1, [p 1], []), (p 2, [p 1], []), (p 3, [p 1], [])])), (1, .leaf i)], [], lb [p 1] []⟩
@[reducible] def jo : J := ⟨[(0, .agg (mk Y_impl_Node [(n 0, [n 0], []), (n 1, [n 1], []), (n 2, [n 2], []), (n 3, [n 3], [])])), (1, .leaf (.sl (.of Y_impl_Message) (n 4) [n 4] [n 5])), (2, .leaf (.sc .bool))], [], lb [] [n 0, n 1, n 2, n 3, n 4, n 5]⟩
noncomputable def E : Env := mkE (P := P) tab Tryz.f78.ntmps [] [spec_NodeOk_m.c, spec_l01In.c, spec_l18Copy_m.c, spec_l18SendAll.c, spec_ConfOf.c, spec_l05In.c, spec_l18Elected.c, spec_l18Lead.c, spec_LogLast.c, spec_l18Others.c, spec_l18Tell.c]
theorem hE : E.Ok P := mkE_ok tabOk eqs_nil
noncomputable def c0 : Code := (codeAt b 200 12).getD .skip
noncomputable def c1 : Code := (codeAt b 200 4092).getD .skip
noncomputable def c2 : Code := (codeAt b 200 8388596).getD .skip
@[reducible] def i0 : J := ⟨[(1, .leaf i), (2, .ptr 2 0), (4, .ptr 4 0)], [(2, false, (mk Y_impl_Node [(p 0, [p 1], []), (p 1, [p 1], []), (p 2, [p 1], []), (p 3, [p 1], [])])), (4, false, (mk Y_impl_Node [(n 4, [], []), (n 5, [], []), (n 6, [], []), (n 7, [], [])]))], lb [p 1] []⟩
@[reducible] def e0 : List (Ex × J) := [(.normal, ⟨[(1, .leaf i), (2, .ptr 2 0), (4, .ptr 4 0), (20, .leaf (.sc .bool))], [(2, false, (mk Y_impl_Node [(p 0, [p 1], []), (p 1, [p 1], []), (p 2, [p 1], []), (p 3, [p 1], [])])), (4, false, (mk Y_impl_Node [(n 4, [], []), (n 5, [], []), (n 6, [], []), (n 7, [], [])]))], lb [p 1] []⟩)]
noncomputable def k0 : Cut := ⟨i0, e0, spec_Tick.P0⟩
theorem h0 : k0.Holds P E.nt c0 := piece_holds (cuts := []) hE hmx .nil (by kernel_rfl)
@[reducible] def i1 : J := ⟨[(2, .ptr 2 0), (4, .ptr 4 0), (7, .ptr 26 0), (8, .leaf (.sl I (n 0) [n 0] []))], [(2, false, (mk Y_impl_Node [(p 0, [p 1], []), (p 1, [p 1], []), (p 2, [p 1], []), (p 3, [p 1], [])])), (4, false, (mk Y_impl_Node [(n 5, [], []), (n 6, [], []), (n 7, [], []), (n 8, [], [])])), (26, false, (mk Y_spec_l18Run [(n 9, [n 1], []), (n 10, [n 2], []), (n 11, [n 3], []), (n 12, [n 4], []), (n 13, [], [])]))], lb [p 1] [n 0, n 1, n 2, n 3, n 4]⟩
@[reducible] def e1 : List (Ex × J) := [(.normal, ⟨[(2, .ptr 2 0), (4, .ptr 4 0), (7, .ptr 26 0), (8, .leaf (.sl I (n 0) [n 0] [])), (89, .leaf (.sc .bool))], [(2, false, (mk Y_impl_Node [(p 0, [p 1], []), (p 1, [p 1], []), (p 2, [p 1], []), (p 3, [p 1], [])])), (4, false, (mk Y_impl_Node [(n 5, [], []), (n 6, [], []), (n 7, [], []), (n 8, [], [])])), (26, false, (mk Y_spec_l18Run [(n 9, [n 1], []), (n 10, [n 2], []), (n 11, [n 3], []), (n 12, [n 4], []), (n 13, [], [])]))], lb [p 1] [n 0, n 1, n 2, n 3, n 4]⟩)]
noncomputable def k1 : Cut := ⟨i1, e1, spec_Tick.P1⟩
theorem h1 : k1.Holds P E.nt c1 := piece_holds (cuts := []) hE hmx .nil (by kernel_rfl)
@[reducible] def i2 : J := ⟨[(4, .ptr 4 0), (7, .ptr 26 0), (9, .leaf i), (10, .leaf i), (11, .leaf (.sl I (n 0) [n 0] [])), (12, .leaf i)], [(4, false, (mk Y_impl_Node [(n 1, [], []), (n 2, [], []), (n 3, [], []), (n 4, [], [])])), (26, false, (mk Y_spec_l18Run [(n 5, [n 1], []), (n 6, [n 2], []), (n 7, [n 3], []), (n 8, [n 4], []), (n 9, [n 5], [])]))], lb [] [n 0, n 1, n 2, n 3, n 4, n 5]⟩
@[reducible] def e2 : List (Ex × J) := [((.exit 0), ⟨[(4, .ptr 4 0), (7, .ptr 26 0)], [(4, false, (mk Y_impl_Node [(n 0, [], []), (n 1, [], []), (n 2, [], []), (n 3, [], [])])), (26, false, (mk Y_spec_l18Run [(n 4, [n 0], []), (n 5, [n 1], []), (n 6, [n 2], []), (n 7, [n 3], []), (n 8, [n 4], [])]))], lb [] [n 0, n 1, n 2, n 3, n 4]⟩)]
noncomputable def k2 : Cut := ⟨i2, e2, spec_Tick.L2⟩
theorem h2 : k2.Holds P E.nt (.loop c2) := loop_holds (cuts := []) hE hmx .nil (by kernel_rfl)
noncomputable def s : Sig := ⟨78, 3, ji, jo, fun x => spec_Tick.f x.1.1 x.1.2.1⟩
theorem h : s.Holds P := mkC (fn := Tryz.f78) (body := b) (cuts := [(12, k0), (4092, k1), (4194298, k2)]) (backs := []) hE hmx s (cut_cons (by kernel_rfl) h0 (cut_cons (by kernel_rfl) h1 (cut_cons (by kernel_rfl) h2 .nil))) (by kernel_rfl) (by kernel_rfl)
noncomputable def c : FnC P := ⟨s, ⟨by kernel_rfl, fun r => by kernel_rfl⟩, h⟩
end spec_Tick_m

namespace spec_l18Take
noncomputable def b : Code := (Tryz.f79.body).getD .skip
@[reducible] def ji : J := ⟨[(0, .ptr (p 0) 0), (1, .leaf i), (2, .agg (mk Y_impl_Node [(p 2, [p 5], []), (p 3, [p 6], []), (p 4, [p 7], []), (p 5, [p 8], [])])), (3, .leaf (.sl (.of Y_impl_Message) (p 6) [p 9] [p 10]))], [(p 0, false, (mk Y_spec_l18Cluster [(p 0, [p 1], [p 2]), (p 1, [p 3], [p 4])]))], lb [p 2, p 4, p 5, p 6, p 7, p 8, p 9, p 10] [p 1, p 3]⟩
@[reducible] def jo : J := ⟨[], [(p 0, false, (mk Y_spec_l18Cluster [(p 0, [p 1], [p 2, p 5, p 6, p 7, p 8]), (n 1, [p 3, n 0], [p 4, p 10])]))], lb [p 2, p 4, p 5, p 6, p 7, p 8, p 10] [p 1, p 3, n 0]⟩
noncomputable def E : Env := mkE (P := P) tab Tryz.f79.ntmps [] []
theorem hE : E.Ok P := mkE_ok tabOk eqs_nil
noncomputable def c2 : Code := (codeAt b 200 60).getD .skip
noncomputable def c0 : Code := (codeAt c2 200 24).getD .skip
noncomputable def c1 : Code := (codeAt c2 200 25).getD .skip
@[reducible] def i0 : J := ⟨[(0, .ptr (p 0) 0), (3, .leaf (.sl (.of Y_impl_Message) (p 6) [p 9] [p 10])), (8, .leaf i)], [(p 0, false, (mk Y_spec_l18Cluster [(p 0, [p 1], [p 2, p 5, p 6, p 7, p 8]), (n 2, [p 3, n 0], [p 4, p 10])]))], lb [p 2, p 4, p 5, p 6, p 7, p 8, p 9, p 10] [p 1, p 3, n 0]⟩
@[reducible] def e0 : List (Ex × J) := [(.normal, ⟨[(0, .ptr (p 0) 0), (3, .leaf (.sl (.of Y_impl_Message) (p 6) [p 9] [p 10])), (8, .leaf i), (35, .leaf (.sc .bool))], [(p 0, false, (mk Y_spec_l18Cluster [(p 0, [p 1], [p 2, p 5, p 6, p 7, p 8]), (n 2, [p 3, n 0], [p 4, p 10])]))], lb [p 2, p 4, p 5, p 6, p 7, p 8, p 9, p 10] [p 1, p 3, n 0]⟩)]
noncomputable def k0 : Cut := ⟨i0, e0, spec_l18Take.P0⟩
theorem h0 : k0.Holds P E.nt c0 := piece_holds (cuts := []) hE hmx .nil (by kernel_rfl)
@[reducible] def i1 : J := ⟨[(0, .ptr (p 0) 0), (3, .leaf (.sl (.of Y_impl_Message) (p 6) [p 9] [p 10])), (8, .leaf i), (35, .leaf (.sc .bool))], [(p 0, false, (mk Y_spec_l18Cluster [(p 0, [p 1], [p 2, p 5, p 6, p 7, p 8]), (n 2, [p 3, n 0], [p 4, p 10])]))], lb [p 2, p 4, p 5, p 6, p 7, p 8, p 9, p 10] [p 1, p 3, n 0]⟩
@[reducible] def e1 : List (Ex × J) := [(.normal, ⟨[(0, .ptr (p 0) 0), (3, .leaf (.sl (.of Y_impl_Message) (p 6) [p 9] [p 10])), (8, .leaf i)], [(p 0, false, (mk Y_spec_l18Cluster [(p 0, [p 1], [p 2, p 5, p 6, p 7, p 8]), (n 2, [p 3, n 0], [p 4, p 10])]))], lb [p 2, p 4, p 5, p 6, p 7, p 8, p 9, p 10] [p 1, p 3, n 0]⟩)]
noncomputable def k1 : Cut := ⟨i1, e1, spec_l18Take.P1⟩
theorem h1 : k1.Holds P E.nt c1 := piece_holds (cuts := []) hE hmx .nil (by kernel_rfl)
@[reducible] def i2 : J := ⟨[(0, .ptr (p 0) 0), (3, .leaf (.sl (.of Y_impl_Message) (p 6) [p 9] [p 10])), (8, .leaf i)], [(p 0, false, (mk Y_spec_l18Cluster [(p 0, [p 1], [p 2, p 5, p 6, p 7, p 8]), (n 2, [p 3, n 0], [p 4, p 10])]))], lb [p 2, p 4, p 5, p 6, p 7, p 8, p 9, p 10] [p 1, p 3, n 0]⟩
@[reducible] def e2 : List (Ex × J) := [((.exit 0), ⟨[], [(p 0, false, (mk Y_spec_l18Cluster [(p 0, [p 1], [p 2, p 5, p 6, p 7, p 8]), (n 1, [p 3, n 0], [p 4, p 10])]))], lb [p 2, p 4, p 5, p 6, p 7, p 8, p 10] [p 1, p 3, n 0]⟩)]
noncomputable def k2 : Cut := ⟨i2, e2, spec_l18Take.L2⟩
theorem h2 : k2.Holds P E.nt (.loop c2) := loop_holds (cuts := [(24, k0), (25, k1)]) hE hmx (cut_cons (by kernel_rfl) h0 (cut_cons (by kernel_rfl) h1 .nil)) (by kernel_rfl)
noncomputable def s : Sig := ⟨79, 0, ji, jo, fun x => spec_l18Take.f x.1.2.1 x.1.2.2.1 x.1.2.2.2.1 x.2.1⟩
theorem h : s.Holds P := mkC (fn := Tryz.f79) (body := b) (cuts := [(30, k2)]) (backs := []) hE hmx s (cut_cons (by kernel_rfl) h2 .nil) (by kernel_rfl) (by kernel_rfl)
noncomputable def c : FnC P := ⟨s, ⟨by kernel_rfl, fun r => by kernel_rfl⟩, h⟩
end spec_l18Take

namespace spec_l01PickInt
noncomputable def b : Code := (Tryz.f124.body).getD .skip
@[reducible] def ji : J := ⟨[(0, .ptr (p 0) 0), (1, .leaf (.sl I (p 1) [p 2] []))], [(p 0, false, (mk Y_spec_l01Cur [(p 0, [p 1], [])]))], lb [p 1, p 2] []⟩
@[reducible] def jo : J := ⟨[(0, .leaf i)], [(p 0, false, (mk Y_spec_l01Cur [(p 0, [p 1], [])]))], lb [p 1] []⟩
noncomputable def E : Env := mkE (P := P) tab Tryz.f124.ntmps [] [spec_l01Below.c]
theorem hE : E.Ok P := mkE_ok tabOk eqs_nil
noncomputable def s : Sig := ⟨124, 1, ji, jo, fun x => spec_l01PickInt.f x.1.2.1 x.2.1⟩
theorem h : s.Holds P := mkC (fn := Tryz.f124) (body := b) (cuts := []) (backs := []) hE hmx s .nil (by kernel_rfl) (by kernel_rfl)
noncomputable def c : FnC P := ⟨s, ⟨by kernel_rfl, fun r => by kernel_rfl⟩, h⟩
end spec_l01PickInt

namespace spec_ConfText
noncomputable def b : Code := (Tryz.f125.body).getD .skip
@[reducible] def ji : J := ⟨[(0, .leaf (.sl I (p 0) [p 1] []))], [], lb [p 1] []⟩
@[reducible] def jo : J := ⟨[(0, .leaf (.sc .str)), (1, .leaf (.sc .bool))], [], []⟩
noncomputable def E : Env := mkE (P := P) tab Tryz.f125.ntmps [] [spec_ConfOk.c]
theorem hE : E.Ok P := mkE_ok tabOk eqs_nil
noncomputable def c0 : Code := (codeAt b 200 244).getD .skip
@[reducible] def i0 : J := ⟨[(0, .leaf (.sl I (p 0) [p 1] [])), (4, .leaf (.sl (.int .u8) (n 1) [n 0] [])), (5, .leaf i)], [], lb [p 1] [n 0]⟩
@[reducible] def e0 : List (Ex × J) := [((.exit 0), ⟨[(4, .leaf (.sl (.int .u8) (n 0) [n 0] []))], [], lb [] [n 0]⟩)]
noncomputable def k0 : Cut := ⟨i0, e0, spec_ConfText.L0⟩
theorem h0 : k0.Holds P E.nt (.loop c0) := loop_holds (cuts := []) hE hmx .nil (by kernel_rfl)
noncomputable def s : Sig := ⟨125, 2, ji, jo, fun x => spec_ConfText.f x.1.1⟩
theorem h : s.Holds P := mkC (fn := Tryz.f125) (body := b) (cuts := [(122, k0)]) (backs := []) hE hmx s (cut_cons (by kernel_rfl) h0 .nil) (by kernel_rfl) (by kernel_rfl)
noncomputable def c : FnC P := ⟨s, ⟨by kernel_rfl, fun r => by kernel_rfl⟩, h⟩
end spec_ConfText

namespace spec_KeepNew
noncomputable def b : Code := (Tryz.f148.body).getD .skip
@[reducible] def ji : J := ⟨[], [], []⟩
@[reducible] def jo : J := ⟨[(0, .agg (mk Y_impl_Keep [(n 0, [], []), (n 1, [n 0], [])]))], [], lb [] [n 0]⟩
noncomputable def E : Env := mkE (P := P) tab Tryz.f148.ntmps [] []
theorem hE : E.Ok P := mkE_ok tabOk eqs_nil
noncomputable def s : Sig := ⟨148, 1, ji, jo, fun x => spec_KeepNew.f⟩
theorem h : s.Holds P := mkC (fn := Tryz.f148) (body := b) (cuts := []) (backs := []) hE hmx s .nil (by kernel_rfl) (by kernel_rfl)
noncomputable def c : FnC P := ⟨s, ⟨by kernel_rfl, fun r => by kernel_rfl⟩, h⟩
end spec_KeepNew

namespace spec_l01Pick
noncomputable def b : Code := (Tryz.f169.body).getD .skip
@[reducible] def ji : J := ⟨[(0, .ptr (p 0) 0), (1, .leaf (.sl .str (p 1) [p 2] []))], [(p 0, false, (mk Y_spec_l01Cur [(p 0, [p 1], [])]))], lb [p 1, p 2] []⟩
@[reducible] def jo : J := ⟨[(0, .leaf (.sc .str))], [(p 0, false, (mk Y_spec_l01Cur [(p 0, [p 1], [])]))], lb [p 1] []⟩
noncomputable def E : Env := mkE (P := P) tab Tryz.f169.ntmps [] [spec_l01Below.c]
theorem hE : E.Ok P := mkE_ok tabOk eqs_nil
noncomputable def s : Sig := ⟨169, 1, ji, jo, fun x => spec_l01Pick.f x.1.2.1 x.2.1⟩
theorem h : s.Holds P := mkC (fn := Tryz.f169) (body := b) (cuts := []) (backs := []) hE hmx s .nil (by kernel_rfl) (by kernel_rfl)
noncomputable def c : FnC P := ⟨s, ⟨by kernel_rfl, fun r => by kernel_rfl⟩, h⟩
end spec_l01Pick

namespace spec_ItemOf
noncomputable def b : Code := (Tryz.f170.body).getD .skip
@[reducible] def ji : J := ⟨[(0, .agg (mk Y_impl_Keep [(p 0, [p 1], []), (p 1, [p 2], [])])), (1, .leaf (.sc .str))], [], lb [p 1, p 2] []⟩
@[reducible] def jo : J := ⟨[(0, .agg (mk Y_impl_Item [])), (1, .leaf (.sc .bool))], [], []⟩
noncomputable def E : Env := mkE (P := P) tab Tryz.f170.ntmps [] []
theorem hE : E.Ok P := mkE_ok tabOk eqs_nil
noncomputable def c0 : Code := (codeAt b 200 52).getD .skip
@[reducible] def i0 : J := ⟨[(1, .leaf (.sc .str)), (2, .ptr 2 0), (4, .ptr 4 0), (6, .leaf i)], [(2, false, (mk Y_impl_Keep [(p 0, [p 1], []), (p 1, [p 2], [])])), (4, false, (mk Y_impl_Item []))], lb [p 1, p 2] []⟩
@[reducible] def e0 : List (Ex × J) := [((.exit 0), ⟨[(4, .ptr 4 0)], [(4, false, (mk Y_impl_Item []))], []⟩), (.ret, ⟨[(4, .ptr 4 0), (5, .leaf (.sc .bool))], [(4, false, (mk Y_impl_Item []))], []⟩)]
noncomputable def k0 : Cut := ⟨i0, e0, spec_ItemOf.L0⟩
theorem h0 : k0.Holds P E.nt (.loop c0) := loop_holds (cuts := []) hE hmx .nil (by kernel_rfl)
noncomputable def s : Sig := ⟨170, 2, ji, jo, fun x => spec_ItemOf.f x.1.1 x.1.2.1⟩
theorem h : s.Holds P := mkC (fn := Tryz.f170) (body := b) (cuts := [(26, k0)]) (backs := []) hE hmx s (cut_cons (by kernel_rfl) h0 .nil) (by kernel_rfl) (by kernel_rfl)
noncomputable def c : FnC P := ⟨s, ⟨by kernel_rfl, fun r => by kernel_rfl⟩, h⟩
end spec_ItemOf

namespace spec_l15Of
noncomputable def b : Code := (Tryz.f162.body).getD .skip
@[reducible] def ji : J := ⟨[(0, .ptr (p 0) 0), (1, .agg (mk Y_impl_Keep [(p 1, [p 2], []), (p 2, [p 3], [])]))], [(p 0, false, (mk Y_spec_l01Cur [(p 0, [p 1], [])]))], lb [p 1, p 2, p 3] []⟩
@[reducible] def jo : J := ⟨[(0, .agg (mk Y_impl_Command []))], [(p 0, false, (mk Y_spec_l01Cur [(p 0, [p 1], [])]))], lb [p 1] []⟩
noncomputable def E : Env := mkE (P := P) tab Tryz.f162.ntmps [] [spec_l01PickInt.c, spec_l01Pick.c, spec_ItemOf.c, spec_l01Below.c, spec_l01Once.c]
theorem hE : E.Ok P := mkE_ok tabOk eqs_nil
noncomputable def c0 : Code := (codeAt b 200 60).getD .skip
noncomputable def c1 : Code := (codeAt b 200 61).getD .skip
noncomputable def c4 : Code := (codeAt b 200 125).getD .skip
noncomputable def c2 : Code := (codeAt c4 200 10).getD .skip
noncomputable def c3 : Code := (codeAt c4 200 11).getD .skip
@[reducible] def i0 : J := ⟨[(0, .ptr (p 0) 0), (4, .ptr 4 0), (5, .ptr 5 0), (6, .ptr 6 0), (7, .leaf (.sc .bool))], [(4, false, (mk Y_impl_Command [])), (5, false, (mk Y_impl_Command [])), (6, false, (mk Y_impl_Item [])), (p 0, false, (mk Y_spec_l01Cur [(p 0, [p 1], [])]))], lb [p 1] []⟩
@[reducible] def e0 : List (Ex × J) := [(.normal, ⟨[(0, .ptr (p 0) 0), (4, .ptr 4 0), (5, .ptr 5 0), (6, .ptr 6 0), (7, .leaf (.sc .bool)), (29, .leaf (.sc .bool))], [(4, false, (mk Y_impl_Command [])), (5, false, (mk Y_impl_Command [])), (6, false, (mk Y_impl_Item [])), (p 0, false, (mk Y_spec_l01Cur [(p 0, [p 1], [])]))], lb [p 1] []⟩)]
noncomputable def k0 : Cut := ⟨i0, e0, spec_l15Of.P0⟩
theorem h0 : k0.Holds P E.nt c0 := piece_holds (cuts := []) hE hmx .nil (by kernel_rfl)
@[reducible] def i1 : J := ⟨[(0, .ptr (p 0) 0), (4, .ptr 4 0), (5, .ptr 5 0), (6, .ptr 6 0), (7, .leaf (.sc .bool)), (29, .leaf (.sc .bool))], [(4, false, (mk Y_impl_Command [])), (5, false, (mk Y_impl_Command [])), (6, false, (mk Y_impl_Item [])), (p 0, false, (mk Y_spec_l01Cur [(p 0, [p 1], [])]))], lb [p 1] []⟩
@[reducible] def e1 : List (Ex × J) := [(.normal, ⟨[(0, .ptr (p 0) 0), (4, .ptr 4 0), (5, .ptr 5 0), (6, .ptr 6 0), (7, .leaf (.sc .bool))], [(4, false, (mk Y_impl_Command [])), (5, false, (mk Y_impl_Command [])), (6, false, (mk Y_impl_Item [])), (p 0, false, (mk Y_spec_l01Cur [(p 0, [p 1], [])]))], lb [p 1] []⟩)]
noncomputable def k1 : Cut := ⟨i1, e1, spec_l15Of.P1⟩
theorem h1 : k1.Holds P E.nt c1 := piece_holds (cuts := []) hE hmx .nil (by kernel_rfl)
@[reducible] def i2 : J := ⟨[(0, .ptr (p 0) 0), (4, .ptr 4 0), (5, .ptr 5 0), (6, .ptr 6 0), (7, .leaf (.sc .bool))], [(4, false, (mk Y_impl_Command [])), (5, false, (mk Y_impl_Command [])), (6, false, (mk Y_impl_Item [])), (p 0, false, (mk Y_spec_l01Cur [(p 0, [p 1], [])]))], lb [p 1] []⟩
@[reducible] def e2 : List (Ex × J) := [(.normal, ⟨[(4, .ptr 4 0), (5, .ptr 5 0), (6, .ptr 6 0), (46, .leaf (.sc .bool))], [(4, false, (mk Y_impl_Command [])), (5, false, (mk Y_impl_Command [])), (6, false, (mk Y_impl_Item [])), (p 0, false, (mk Y_spec_l01Cur [(p 0, [p 1], [])]))], lb [p 1] []⟩)]
noncomputable def k2 : Cut := ⟨i2, e2, spec_l15Of.P2⟩
theorem h2 : k2.Holds P E.nt c2 := piece_holds (cuts := []) hE hmx .nil (by kernel_rfl)
@[reducible] def i3 : J := ⟨[(4, .ptr 4 0), (5, .ptr 5 0), (6, .ptr 6 0), (46, .leaf (.sc .bool))], [(4, false, (mk Y_impl_Command [])), (5, false, (mk Y_impl_Command [])), (6, false, (mk Y_impl_Item [])), (p 0, false, (mk Y_spec_l01Cur [(p 0, [p 1], [])]))], lb [p 1] []⟩
@[reducible] def e3 : List (Ex × J) := [(.normal, ⟨[(4, .ptr 4 0), (5, .ptr 5 0)], [(4, false, (mk Y_impl_Command [])), (5, false, (mk Y_impl_Command [])), (p 0, false, (mk Y_spec_l01Cur [(p 0, [p 1], [])]))], lb [p 1] []⟩)]
noncomputable def k3 : Cut := ⟨i3, e3, spec_l15Of.P3⟩
theorem h3 : k3.Holds P E.nt c3 := piece_holds (cuts := []) hE hmx .nil (by kernel_rfl)
@[reducible] def i4 : J := ⟨[(0, .ptr (p 0) 0), (4, .ptr 4 0), (5, .ptr 5 0), (6, .ptr 6 0), (7, .leaf (.sc .bool)), (36, .leaf (.sc .bool))], [(4, false, (mk Y_impl_Command [])), (5, false, (mk Y_impl_Command [])), (6, false, (mk Y_impl_Item [])), (p 0, false, (mk Y_spec_l01Cur [(p 0, [p 1], [])]))], lb [p 1] []⟩
@[reducible] def e4 : List (Ex × J) := [(.normal, ⟨[(4, .ptr 4 0), (5, .ptr 5 0)], [(4, false, (mk Y_impl_Command [])), (5, false, (mk Y_impl_Command [])), (p 0, false, (mk Y_spec_l01Cur [(p 0, [p 1], [])]))], lb [p 1] []⟩)]
noncomputable def k4 : Cut := ⟨i4, e4, spec_l15Of.P4⟩
theorem h4 : k4.Holds P E.nt c4 := piece_holds (cuts := [(10, k2), (11, k3)]) hE hmx (cut_cons (by kernel_rfl) h2 (cut_cons (by kernel_rfl) h3 .nil)) (by kernel_rfl)
noncomputable def s : Sig := ⟨162, 1, ji, jo, fun x => spec_l15Of.f x.1.2.1 x.2.1⟩
theorem h : s.Holds P := mkC (fn := Tryz.f162) (body := b) (cuts := [(60, k0), (61, k1), (125, k4)]) (backs := []) hE hmx s (cut_cons (by kernel_rfl) h0 (cut_cons (by kernel_rfl) h1 (cut_cons (by kernel_rfl) h4 .nil))) (by kernel_rfl) (by kernel_rfl)
noncomputable def c : FnC P := ⟨s, ⟨by kernel_rfl, fun r => by kernel_rfl⟩, h⟩
end spec_l15Of

namespace spec_l15Command
noncomputable def b : Code := (Tryz.f149.body).getD .skip
@[reducible] def ji : J := ⟨[(0, .ptr (p 0) 0), (1, .agg (mk Y_impl_Keep [(p 1, [p 2], []), (p 2, [p 3], [])]))], [(p 0, false, (mk Y_spec_l01Cur [(p 0, [p 1], [])]))], lb [p 1, p 2, p 3] []⟩
@[reducible] def jo : J := ⟨[(0, .agg (mk Y_impl_Command []))], [(p 0, false, (mk Y_spec_l01Cur [(p 0, [p 1], [])]))], lb [p 1] []⟩
noncomputable def E : Env := mkE (P := P) tab Tryz.f149.ntmps [] [spec_l01Once.c, spec_l15Of.c, spec_l01Below.c]
theorem hE : E.Ok P := mkE_ok tabOk eqs_nil
noncomputable def c0 : Code := (codeAt b 200 12).getD .skip
noncomputable def c1 : Code := (codeAt b 200 125).getD .skip
noncomputable def c4 : Code := (codeAt b 200 4085).getD .skip
noncomputable def c3 : Code := (codeAt c4 200 7).getD .skip
noncomputable def c2 : Code := (codeAt c3 200 7).getD .skip
@[reducible] def i0 : J := ⟨[(0, .ptr (p 0) 0), (3, .ptr 3 0), (4, .ptr 4 0)], [(3, false, (mk Y_impl_Keep [(p 1, [p 2], []), (p 2, [p 3], [])])), (4, false, (mk Y_impl_Command [])), (p 0, false, (mk Y_spec_l01Cur [(p 0, [p 1], [])]))], lb [p 1, p 2, p 3] []⟩
@[reducible] def e0 : List (Ex × J) := [(.normal, ⟨[(0, .ptr (p 0) 0), (3, .ptr 3 0), (4, .ptr 4 0), (14, .leaf (.sc .bool))], [(3, false, (mk Y_impl_Keep [(p 1, [p 2], []), (p 2, [p 3], [])])), (4, false, (mk Y_impl_Command [])), (p 0, false, (mk Y_spec_l01Cur [(p 0, [p 1], [])]))], lb [p 1, p 2, p 3] []⟩)]
noncomputable def k0 : Cut := ⟨i0, e0, spec_l15Command.P0⟩
theorem h0 : k0.Holds P E.nt c0 := piece_holds (cuts := []) hE hmx .nil (by kernel_rfl)
@[reducible] def i1 : J := ⟨[(0, .ptr (p 0) 0), (3, .ptr 3 0), (4, .ptr 4 0), (5, .ptr 5 0), (6, .ptr 6 0), (28, .leaf (.sc .bool))], [(3, false, (mk Y_impl_Keep [(p 1, [p 2], []), (p 2, [p 3], [])])), (4, false, (mk Y_impl_Command [])), (5, false, (mk Y_impl_Command [])), (6, false, (mk Y_impl_Entry [])), (p 0, false, (mk Y_spec_l01Cur [(p 0, [p 1], [])]))], lb [p 1, p 2, p 3] []⟩
@[reducible] def e1 : List (Ex × J) := [(.normal, ⟨[(0, .ptr (p 0) 0), (4, .ptr 4 0), (5, .ptr 5 0), (6, .ptr 6 0)], [(4, false, (mk Y_impl_Command [])), (5, false, (mk Y_impl_Command [])), (6, false, (mk Y_impl_Entry [])), (p 0, false, (mk Y_spec_l01Cur [(p 0, [p 1], [])]))], lb [p 1] []⟩)]
noncomputable def k1 : Cut := ⟨i1, e1, spec_l15Command.P1⟩
theorem h1 : k1.Holds P E.nt c1 := piece_holds (cuts := []) hE hmx .nil (by kernel_rfl)
@[reducible] def i2 : J := ⟨[(0, .ptr (p 0) 0), (4, .ptr 4 0), (5, .ptr 5 0), (57, .leaf (.sc .bool))], [(4, false, (mk Y_impl_Command [])), (5, false, (mk Y_impl_Command [])), (p 0, false, (mk Y_spec_l01Cur [(p 0, [p 1], [])]))], lb [p 1] []⟩
@[reducible] def e2 : List (Ex × J) := [(.normal, ⟨[(4, .ptr 4 0), (5, .ptr 5 0)], [(4, false, (mk Y_impl_Command [])), (5, false, (mk Y_impl_Command [])), (p 0, false, (mk Y_spec_l01Cur [(p 0, [p 1], [])]))], lb [p 1] []⟩)]
noncomputable def k2 : Cut := ⟨i2, e2, spec_l15Command.P2⟩
theorem h2 : k2.Holds P E.nt c2 := piece_holds (cuts := []) hE hmx .nil (by kernel_rfl)
@[reducible] def i3 : J := ⟨[(0, .ptr (p 0) 0), (4, .ptr 4 0), (5, .ptr 5 0), (46, .leaf i), (52, .leaf (.sc .bool))], [(4, false, (mk Y_impl_Command [])), (5, false, (mk Y_impl_Command [])), (p 0, false, (mk Y_spec_l01Cur [(p 0, [p 1], [])]))], lb [p 1] []⟩
@[reducible] def e3 : List (Ex × J) := [(.normal, ⟨[(4, .ptr 4 0), (5, .ptr 5 0)], [(4, false, (mk Y_impl_Command [])), (5, false, (mk Y_impl_Command [])), (p 0, false, (mk Y_spec_l01Cur [(p 0, [p 1], [])]))], lb [p 1] []⟩)]
noncomputable def k3 : Cut := ⟨i3, e3, spec_l15Command.P3⟩
theorem h3 : k3.Holds P E.nt c3 := piece_holds (cuts := [(7, k2)]) hE hmx (cut_cons (by kernel_rfl) h2 .nil) (by kernel_rfl)
@[reducible] def i4 : J := ⟨[(0, .ptr (p 0) 0), (4, .ptr 4 0), (5, .ptr 5 0), (6, .ptr 6 0), (46, .leaf i), (47, .leaf (.sc .bool))], [(4, false, (mk Y_impl_Command [])), (5, false, (mk Y_impl_Command [])), (6, false, (mk Y_impl_Entry [])), (p 0, false, (mk Y_spec_l01Cur [(p 0, [p 1], [])]))], lb [p 1] []⟩
@[reducible] def e4 : List (Ex × J) := [(.normal, ⟨[(4, .ptr 4 0), (5, .ptr 5 0)], [(4, false, (mk Y_impl_Command [])), (5, false, (mk Y_impl_Command [])), (p 0, false, (mk Y_spec_l01Cur [(p 0, [p 1], [])]))], lb [p 1] []⟩)]
noncomputable def k4 : Cut := ⟨i4, e4, spec_l15Command.P4⟩
theorem h4 : k4.Holds P E.nt c4 := piece_holds (cuts := [(7, k3)]) hE hmx (cut_cons (by kernel_rfl) h3 .nil) (by kernel_rfl)
noncomputable def s : Sig := ⟨149, 1, ji, jo, fun x => spec_l15Command.f x.1.2.1 x.2.1⟩
theorem h : s.Holds P := mkC (fn := Tryz.f149) (body := b) (cuts := [(12, k0), (125, k1), (4085, k4)]) (backs := []) hE hmx s (cut_cons (by kernel_rfl) h0 (cut_cons (by kernel_rfl) h1 (cut_cons (by kernel_rfl) h4 .nil))) (by kernel_rfl) (by kernel_rfl)
noncomputable def c : FnC P := ⟨s, ⟨by kernel_rfl, fun r => by kernel_rfl⟩, h⟩
end spec_l15Command

namespace spec_CommandOk
noncomputable def b : Code := (Tryz.f145.body).getD .skip
@[reducible] def ji : J := ⟨[(0, .agg (mk Y_impl_Command []))], [], []⟩
@[reducible] def jo : J := ⟨[(0, .leaf (.sc .bool))], [], []⟩
noncomputable def E : Env := mkE (P := P) tab Tryz.f145.ntmps [] [spec_l01In.c]
theorem hE : E.Ok P := mkE_ok tabOk eqs_nil
noncomputable def c0 : Code := (codeAt b 200 12).getD .skip
noncomputable def c2 : Code := (codeAt b 200 60).getD .skip
noncomputable def c1 : Code := (codeAt b 200 116).getD .skip
noncomputable def c3 : Code := (codeAt b 200 126).getD .skip
@[reducible] def i0 : J := ⟨[(1, .ptr 1 0)], [(1, false, (mk Y_impl_Command []))], []⟩
@[reducible] def e0 : List (Ex × J) := [(.normal, ⟨[(1, .ptr 1 0), (18, .leaf (.sc .bool))], [(1, false, (mk Y_impl_Command []))], []⟩)]
noncomputable def k0 : Cut := ⟨i0, e0, spec_CommandOk.P0⟩
theorem h0 : k0.Holds P E.nt c0 := piece_holds (cuts := []) hE hmx .nil (by kernel_rfl)
@[reducible] def i2 : J := ⟨[(1, .ptr 1 0)], [(1, false, (mk Y_impl_Command []))], []⟩
@[reducible] def e2 : List (Ex × J) := [(.normal, ⟨[(1, .ptr 1 0), (55, .leaf (.sc .bool))], [(1, false, (mk Y_impl_Command []))], []⟩)]
noncomputable def k2 : Cut := ⟨i2, e2, spec_CommandOk.P2⟩
theorem h2 : k2.Holds P E.nt c2 := piece_holds (cuts := []) hE hmx .nil (by kernel_rfl)
@[reducible] def i1 : J := ⟨[(1, .ptr 1 0)], [(1, false, (mk Y_impl_Command []))], []⟩
@[reducible] def e1 : List (Ex × J) := [(.normal, ⟨[(2, .leaf (.sc .bool))], [], []⟩)]
noncomputable def k1 : Cut := ⟨i1, e1, spec_CommandOk.P1⟩
theorem h1 : k1.Holds P E.nt c1 := piece_holds (cuts := []) hE hmx .nil (by kernel_rfl)
@[reducible] def i3 : J := ⟨[(1, .ptr 1 0)], [(1, false, (mk Y_impl_Command []))], []⟩
@[reducible] def e3 : List (Ex × J) := [(.normal, ⟨[(2, .leaf (.sc .bool))], [], []⟩)]
noncomputable def k3 : Cut := ⟨i3, e3, spec_CommandOk.P3⟩
theorem h3 : k3.Holds P E.nt c3 := piece_holds (cuts := []) hE hmx .nil (by kernel_rfl)
noncomputable def s : Sig := ⟨145, 1, ji, jo, fun x => spec_CommandOk.f x.1.1⟩
theorem h : s.Holds P := mkC (fn := Tryz.f145) (body := b) (cuts := [(12, k0), (60, k2), (116, k1), (126, k3)]) (backs := []) hE hmx s (cut_cons (by kernel_rfl) h0 (cut_cons (by kernel_rfl) h2 (cut_cons (by kernel_rfl) h1 (cut_cons (by kernel_rfl) h3 .nil)))) (by kernel_rfl) (by kernel_rfl)
noncomputable def c : FnC P := ⟨s, ⟨by kernel_rfl, fun r => by kernel_rfl⟩, h⟩
end spec_CommandOk

namespace spec_l16Right
noncomputable def b : Code := (Tryz.f127.body).getD .skip
@[reducible] def ji : J := ⟨[(0, .ptr (p 0) 0)], [(p 0, false, (mk Y_spec_l01Cur [(p 0, [p 1], [])]))], lb [p 1] []⟩
@[reducible] def jo : J := ⟨[(0, .agg (mk Y_impl_Command []))], [(p 0, false, (mk Y_spec_l01Cur [(p 0, [p 1], [])]))], lb [p 1] []⟩
noncomputable def E : Env := mkE (P := P) tab Tryz.f127.ntmps [] [spec_KeepNew.c, spec_l01Below.c, spec_l15Command.c, spec_CommandOk.c]
theorem hE : E.Ok P := mkE_ok tabOk eqs_nil
noncomputable def s : Sig := ⟨127, 1, ji, jo, fun x => spec_l16Right.f x.2.1⟩
theorem h : s.Holds P := mkC (fn := Tryz.f127) (body := b) (cuts := []) (backs := []) hE hmx s .nil (by kernel_rfl) (by kernel_rfl)
noncomputable def c : FnC P := ⟨s, ⟨by kernel_rfl, fun r => by kernel_rfl⟩, h⟩
end spec_l16Right

namespace spec_l01Var
noncomputable def b : Code := (Tryz.f146.body).getD .skip
@[reducible] def ji : J := ⟨[(0, .leaf i)], [], []⟩
@[reducible] def jo : J := ⟨[(0, .leaf (.sc .str))], [], []⟩
noncomputable def E : Env := mkE (P := P) tab Tryz.f146.ntmps [] []
theorem hE : E.Ok P := mkE_ok tabOk eqs_nil
noncomputable def c0 : Code := (codeAt b 200 56).getD .skip
@[reducible] def i0 : J := ⟨[(0, .leaf i), (3, .leaf (.sl (.int .u8) (n 0) [n 0] []))], [], lb [] [n 0]⟩
@[reducible] def e0 : List (Ex × J) := [((.exit 0), ⟨[(0, .leaf i), (3, .leaf (.sl (.int .u8) (n 0) [n 0] []))], [], lb [] [n 0]⟩)]
noncomputable def k0 : Cut := ⟨i0, e0, spec_l01Var.L0⟩
theorem h0 : k0.Holds P E.nt (.loop c0) := loop_holds (cuts := []) hE hmx .nil (by kernel_rfl)
noncomputable def s : Sig := ⟨146, 1, ji, jo, fun x => spec_l01Var.f x.1.1⟩
theorem h : s.Holds P := mkC (fn := Tryz.f146) (body := b) (cuts := [(28, k0)]) (backs := []) hE hmx s (cut_cons (by kernel_rfl) h0 .nil) (by kernel_rfl) (by kernel_rfl)
noncomputable def c : FnC P := ⟨s, ⟨by kernel_rfl, fun r => by kernel_rfl⟩, h⟩
end spec_l01Var

namespace spec_l16Short
noncomputable def b : Code := (Tryz.f147.body).getD .skip
@[reducible] def ji : J := ⟨[(0, .leaf (.sc .str))], [], []⟩
@[reducible] def jo : J := ⟨[(0, .leaf (.sc .str))], [], []⟩
noncomputable def E : Env := mkE (P := P) tab Tryz.f147.ntmps [] [spec_l01Var.c]
theorem hE : E.Ok P := mkE_ok tabOk eqs_nil
noncomputable def s : Sig := ⟨147, 1, ji, jo, fun x => spec_l16Short.f x.1.1⟩
theorem h : s.Holds P := mkC (fn := Tryz.f147) (body := b) (cuts := []) (backs := []) hE hmx s .nil (by kernel_rfl) (by kernel_rfl)
noncomputable def c : FnC P := ⟨s, ⟨by kernel_rfl, fun r => by kernel_rfl⟩, h⟩
end spec_l16Short

namespace spec_CommandText
noncomputable def b : Code := (Tryz.f126.body).getD .skip
@[reducible] def ji : J := ⟨[(0, .agg (mk Y_impl_Command []))], [], []⟩
@[reducible] def jo : J := ⟨[(0, .leaf (.sc .str)), (1, .leaf (.sc .bool))], [], []⟩
noncomputable def E : Env := mkE (P := P) tab Tryz.f126.ntmps [] [spec_CommandOk.c, spec_l01Var.c, spec_l16Short.c]
theorem hE : E.Ok P := mkE_ok tabOk eqs_nil
noncomputable def s : Sig := ⟨126, 2, ji, jo, fun x => spec_CommandText.f x.1.1⟩
theorem h : s.Holds P := mkC (fn := Tryz.f126) (body := b) (cuts := []) (backs := []) hE hmx s .nil (by kernel_rfl) (by kernel_rfl)
noncomputable def c : FnC P := ⟨s, ⟨by kernel_rfl, fun r => by kernel_rfl⟩, h⟩
end spec_CommandText

namespace spec_l05Right
noncomputable def b : Code := (Tryz.f80.body).getD .skip
@[reducible] def ji : J := ⟨[(0, .ptr (p 0) 0), (1, .leaf i)], [(p 0, false, (mk Y_spec_l01Cur [(p 0, [p 1], [])]))], lb [p 1] []⟩
@[reducible] def jo : J := ⟨[(0, .agg (mk Y_impl_Entry []))], [(p 0, false, (mk Y_spec_l01Cur [(p 0, [p 1], [])]))], lb [p 1] []⟩
noncomputable def E : Env := mkE (P := P) tab Tryz.f80.ntmps [] [spec_l01PickInt.c, spec_l05Conf.c, spec_ConfText.c, spec_l16Right.c, spec_CommandText.c]
theorem hE : E.Ok P := mkE_ok tabOk eqs_nil
noncomputable def c1 : Code := (codeAt b 200 117).getD .skip
noncomputable def c0 : Code := (codeAt c1 200 7).getD .skip
@[reducible] def i0 : J := ⟨[(0, .ptr (p 0) 0), (4, .ptr 4 0), (5, .ptr 5 0), (22, .leaf (.sc .bool))], [(4, false, (mk Y_impl_Entry [])), (5, false, (mk Y_impl_Entry [])), (p 0, false, (mk Y_spec_l01Cur [(p 0, [p 1], [])]))], lb [p 1] []⟩
@[reducible] def e0 : List (Ex × J) := [(.normal, ⟨[(4, .ptr 4 0), (5, .ptr 5 0)], [(4, false, (mk Y_impl_Entry [])), (5, false, (mk Y_impl_Entry [])), (p 0, false, (mk Y_spec_l01Cur [(p 0, [p 1], [])]))], lb [p 1] []⟩)]
noncomputable def k0 : Cut := ⟨i0, e0, spec_l05Right.P0⟩
theorem h0 : k0.Holds P E.nt c0 := piece_holds (cuts := []) hE hmx .nil (by kernel_rfl)
@[reducible] def i1 : J := ⟨[(0, .ptr (p 0) 0), (4, .ptr 4 0), (5, .ptr 5 0), (12, .leaf i), (13, .leaf (.sc .bool))], [(4, false, (mk Y_impl_Entry [])), (5, false, (mk Y_impl_Entry [])), (p 0, false, (mk Y_spec_l01Cur [(p 0, [p 1], [])]))], lb [p 1] []⟩
@[reducible] def e1 : List (Ex × J) := [(.normal, ⟨[(4, .ptr 4 0), (5, .ptr 5 0)], [(4, false, (mk Y_impl_Entry [])), (5, false, (mk Y_impl_Entry [])), (p 0, false, (mk Y_spec_l01Cur [(p 0, [p 1], [])]))], lb [p 1] []⟩)]
noncomputable def k1 : Cut := ⟨i1, e1, spec_l05Right.P1⟩
theorem h1 : k1.Holds P E.nt c1 := piece_holds (cuts := [(7, k0)]) hE hmx (cut_cons (by kernel_rfl) h0 .nil) (by kernel_rfl)
noncomputable def s : Sig := ⟨80, 1, ji, jo, fun x => spec_l05Right.f x.1.2.1 x.2.1⟩
theorem h : s.Holds P := mkC (fn := Tryz.f80) (body := b) (cuts := [(117, k1)]) (backs := []) hE hmx s (cut_cons (by kernel_rfl) h1 .nil) (by kernel_rfl) (by kernel_rfl)
noncomputable def c : FnC P := ⟨s, ⟨by kernel_rfl, fun r => by kernel_rfl⟩, h⟩
end spec_l05Right

namespace spec_l18Room_m
noncomputable def b : Code := (Tryz.f128.body).getD .skip
@[reducible] def ji : J := ⟨[(0, .agg (mk Y_impl_Node [(p 0, [p 1], []), (p 1, [p 1], []), (p 2, [p 1], []), (p 3, [p 1], [])]))], [], lb [p 1] []⟩
@[reducible] def jo : J := ⟨[(0, .leaf (.sc .bool))], [], []⟩
noncomputable def E : Env := mkE (P := P) tab Tryz.f128.ntmps [] [spec_l06Last.c]
theorem hE : E.Ok P := mkE_ok tabOk eqs_nil
noncomputable def c0 : Code := (codeAt b 200 6).getD .skip
@[reducible] def i0 : J := ⟨[(1, .ptr 1 0)], [(1, false, (mk Y_impl_Node [(p 0, [p 1], []), (p 1, [p 1], []), (p 2, [p 1], []), (p 3, [p 1], [])]))], lb [p 1] []⟩
@[reducible] def e0 : List (Ex × J) := [(.normal, ⟨[(2, .leaf (.sc .bool))], [], []⟩)]
noncomputable def k0 : Cut := ⟨i0, e0, spec_l18Room.P0⟩
theorem h0 : k0.Holds P E.nt c0 := piece_holds (cuts := []) hE hmx .nil (by kernel_rfl)
noncomputable def s : Sig := ⟨128, 1, ji, jo, fun x => spec_l18Room.f x.1.1⟩
theorem h : s.Holds P := mkC (fn := Tryz.f128) (body := b) (cuts := [(6, k0)]) (backs := []) hE hmx s (cut_cons (by kernel_rfl) h0 .nil) (by kernel_rfl) (by kernel_rfl)
noncomputable def c : FnC P := ⟨s, ⟨by kernel_rfl, fun r => by kernel_rfl⟩, h⟩
end spec_l18Room_m

namespace spec_l18ConfIndex_m
noncomputable def b : Code := (Tryz.f130.body).getD .skip
@[reducible] def ji : J := ⟨[(0, .agg (mk Y_impl_Node [(p 0, [p 1], []), (p 1, [p 1], []), (p 2, [p 1], []), (p 3, [p 1], [])]))], [], lb [p 1] []⟩
@[reducible] def jo : J := ⟨[(0, .leaf i)], [], []⟩
noncomputable def E : Env := mkE (P := P) tab Tryz.f130.ntmps [] []
theorem hE : E.Ok P := mkE_ok tabOk eqs_nil
noncomputable def c1 : Code := (codeAt b 200 116).getD .skip
noncomputable def c0 : Code := (codeAt c1 200 25).getD .skip
@[reducible] def i0 : J := ⟨[(1, .ptr 1 0), (3, .leaf i), (4, .leaf i), (23, .leaf (.sc .bool))], [(1, false, (mk Y_impl_Node [(p 0, [p 1], []), (p 1, [p 1], []), (p 2, [p 1], []), (p 3, [p 1], [])]))], lb [p 1] []⟩
@[reducible] def e0 : List (Ex × J) := [(.normal, ⟨[(1, .ptr 1 0), (3, .leaf i), (4, .leaf i)], [(1, false, (mk Y_impl_Node [(p 0, [p 1], []), (p 1, [p 1], []), (p 2, [p 1], []), (p 3, [p 1], [])]))], lb [p 1] []⟩)]
noncomputable def k0 : Cut := ⟨i0, e0, spec_l18ConfIndex.P0⟩
theorem h0 : k0.Holds P E.nt c0 := piece_holds (cuts := []) hE hmx .nil (by kernel_rfl)
@[reducible] def i1 : J := ⟨[(1, .ptr 1 0), (3, .leaf i), (4, .leaf i)], [(1, false, (mk Y_impl_Node [(p 0, [p 1], []), (p 1, [p 1], []), (p 2, [p 1], []), (p 3, [p 1], [])]))], lb [p 1] []⟩
@[reducible] def e1 : List (Ex × J) := [((.exit 0), ⟨[(3, .leaf i)], [], []⟩)]
noncomputable def k1 : Cut := ⟨i1, e1, spec_l18ConfIndex.L1⟩
theorem h1 : k1.Holds P E.nt (.loop c1) := loop_holds (cuts := [(25, k0)]) hE hmx (cut_cons (by kernel_rfl) h0 .nil) (by kernel_rfl)
noncomputable def s : Sig := ⟨130, 1, ji, jo, fun x => spec_l18ConfIndex.f x.1.1⟩
theorem h : s.Holds P := mkC (fn := Tryz.f130) (body := b) (cuts := [(58, k1)]) (backs := []) hE hmx s (cut_cons (by kernel_rfl) h1 .nil) (by kernel_rfl) (by kernel_rfl)
noncomputable def c : FnC P := ⟨s, ⟨by kernel_rfl, fun r => by kernel_rfl⟩, h⟩
end spec_l18ConfIndex_m

namespace spec_l18Near
noncomputable def b : Code := (Tryz.f131.body).getD .skip
@[reducible] def ji : J := ⟨[(0, .leaf (.sl I (p 0) [p 1] [])), (1, .leaf (.sl I (p 1) [p 2] []))], [], lb [p 1, p 2] []⟩
@[reducible] def jo : J := ⟨[(0, .leaf (.sc .bool))], [], []⟩
noncomputable def E : Env := mkE (P := P) tab Tryz.f131.ntmps [] [spec_l05In.c]
theorem hE : E.Ok P := mkE_ok tabOk eqs_nil
noncomputable def c1 : Code := (codeAt b 200 116).getD .skip
noncomputable def c0 : Code := (codeAt c1 200 25).getD .skip
@[reducible] def i0 : J := ⟨[(0, .leaf (.sl I (p 0) [p 1] [])), (1, .leaf (.sl I (p 1) [p 2] [])), (5, .leaf i), (6, .leaf i), (17, .leaf (.sc .bool))], [], lb [p 1, p 2] []⟩
@[reducible] def e0 : List (Ex × J) := [(.normal, ⟨[(0, .leaf (.sl I (p 0) [p 1] [])), (1, .leaf (.sl I (p 1) [p 2] [])), (5, .leaf i), (6, .leaf i)], [], lb [p 1, p 2] []⟩)]
noncomputable def k0 : Cut := ⟨i0, e0, spec_l18Near.P0⟩
theorem h0 : k0.Holds P E.nt c0 := piece_holds (cuts := []) hE hmx .nil (by kernel_rfl)
@[reducible] def i1 : J := ⟨[(0, .leaf (.sl I (p 0) [p 1] [])), (1, .leaf (.sl I (p 1) [p 2] [])), (5, .leaf i), (6, .leaf i)], [], lb [p 1, p 2] []⟩
@[reducible] def e1 : List (Ex × J) := [((.exit 0), ⟨[(5, .leaf i)], [], []⟩)]
noncomputable def k1 : Cut := ⟨i1, e1, spec_l18Near.L1⟩
theorem h1 : k1.Holds P E.nt (.loop c1) := loop_holds (cuts := [(25, k0)]) hE hmx (cut_cons (by kernel_rfl) h0 .nil) (by kernel_rfl)
noncomputable def s : Sig := ⟨131, 1, ji, jo, fun x => spec_l18Near.f x.1.1 x.1.2.1⟩
theorem h : s.Holds P := mkC (fn := Tryz.f131) (body := b) (cuts := [(58, k1)]) (backs := []) hE hmx s (cut_cons (by kernel_rfl) h1 .nil) (by kernel_rfl) (by kernel_rfl)
noncomputable def c : FnC P := ⟨s, ⟨by kernel_rfl, fun r => by kernel_rfl⟩, h⟩
end spec_l18Near

namespace spec_Propose_m
noncomputable def b : Code := (Tryz.f81.body).getD .skip
@[reducible] def ji : J := ⟨[(0, .agg (mk Y_impl_Node [(p 0, [p 1], []), (p 1, [p 1], []), (p 2, [p 1], []), (p 3, [p 1], [])])), (1, .leaf i), (2, .leaf (.sc .str))], [], lb [p 1] []⟩
@[reducible] def jo : J := ⟨[(0, .agg (mk Y_impl_Node [(n 0, [n 0], []), (n 1, [n 1], []), (n 2, [n 2], []), (n 3, [n 3], [])])), (1, .leaf (.sl (.of Y_impl_Message) (n 4) [n 4] [n 5])), (2, .leaf i), (3, .leaf (.sc .bool))], [], lb [] [n 0, n 1, n 2, n 3, n 4, n 5]⟩
noncomputable def E : Env := mkE (P := P) tab Tryz.f81.ntmps [] [spec_NodeOk_m.c, spec_EntryOk.c, spec_l18Room_m.c, spec_ReadConf.c, spec_LogTerm.c, spec_l18ConfIndex_m.c, spec_ConfOf_m.c, spec_l18Near.c, spec_l18Copy_m.c, spec_l06Last.c, spec_l18Others.c, spec_l18Commit.c, spec_l18SendAll.c]
theorem hE : E.Ok P := mkE_ok tabOk eqs_nil
noncomputable def c0 : Code := (codeAt b 200 28).getD .skip
noncomputable def c2 : Code := (codeAt b 200 61).getD .skip
noncomputable def c1 : Code := (codeAt c2 200 10).getD .skip
noncomputable def c5 : Code := (codeAt b 200 16372).getD .skip
noncomputable def c4 : Code := (codeAt c5 200 404).getD .skip
noncomputable def c3 : Code := (codeAt c4 200 25).getD .skip
@[reducible] def i0 : J := ⟨[(1, .leaf i), (2, .leaf (.sc .str)), (3, .ptr 3 0), (6, .ptr 6 0), (10, .ptr 10 0)], [(3, false, (mk Y_impl_Node [(p 0, [p 1], []), (p 1, [p 1], []), (p 2, [p 1], []), (p 3, [p 1], [])])), (6, false, (mk Y_impl_Node [(n 4, [], []), (n 5, [], []), (n 6, [], []), (n 7, [], [])])), (10, false, (mk Y_impl_Entry []))], lb [p 1] []⟩
@[reducible] def e0 : List (Ex × J) := [(.normal, ⟨[(1, .leaf i), (2, .leaf (.sc .str)), (3, .ptr 3 0), (6, .ptr 6 0), (10, .ptr 10 0), (42, .leaf (.sc .bool))], [(3, false, (mk Y_impl_Node [(p 0, [p 1], []), (p 1, [p 1], []), (p 2, [p 1], []), (p 3, [p 1], [])])), (6, false, (mk Y_impl_Node [(n 4, [], []), (n 5, [], []), (n 6, [], []), (n 7, [], [])])), (10, false, (mk Y_impl_Entry []))], lb [p 1] []⟩)]
noncomputable def k0 : Cut := ⟨i0, e0, spec_Propose.P0⟩
theorem h0 : k0.Holds P E.nt c0 := piece_holds (cuts := []) hE hmx .nil (by kernel_rfl)
@[reducible] def i1 : J := ⟨[(3, .ptr 3 0), (6, .ptr 6 0), (10, .ptr 10 0), (11, .leaf (.sl I (n 0) [n 0] []))], [(3, false, (mk Y_impl_Node [(p 0, [p 1], []), (p 1, [p 1], []), (p 2, [p 1], []), (p 3, [p 1], [])])), (6, false, (mk Y_impl_Node [(n 5, [], []), (n 6, [], []), (n 7, [], []), (n 8, [], [])])), (10, false, (mk Y_impl_Entry []))], lb [p 1] [n 0]⟩
@[reducible] def e1 : List (Ex × J) := [(.normal, ⟨[(3, .ptr 3 0), (6, .ptr 6 0), (10, .ptr 10 0), (73, .leaf (.sc .bool))], [(3, false, (mk Y_impl_Node [(p 0, [p 1], []), (p 1, [p 1], []), (p 2, [p 1], []), (p 3, [p 1], [])])), (6, false, (mk Y_impl_Node [(n 4, [], []), (n 5, [], []), (n 6, [], []), (n 7, [], [])])), (10, false, (mk Y_impl_Entry []))], lb [p 1] []⟩)]
noncomputable def k1 : Cut := ⟨i1, e1, spec_Propose.P1⟩
theorem h1 : k1.Holds P E.nt c1 := piece_holds (cuts := []) hE hmx .nil (by kernel_rfl)
@[reducible] def i2 : J := ⟨[(2, .leaf (.sc .str)), (3, .ptr 3 0), (6, .ptr 6 0), (10, .ptr 10 0), (46, .leaf (.sc .bool))], [(3, false, (mk Y_impl_Node [(p 0, [p 1], []), (p 1, [p 1], []), (p 2, [p 1], []), (p 3, [p 1], [])])), (6, false, (mk Y_impl_Node [(n 4, [], []), (n 5, [], []), (n 6, [], []), (n 7, [], [])])), (10, false, (mk Y_impl_Entry []))], lb [p 1] []⟩
@[reducible] def e2 : List (Ex × J) := [(.normal, ⟨[(3, .ptr 3 0), (6, .ptr 6 0), (10, .ptr 10 0)], [(3, false, (mk Y_impl_Node [(p 0, [p 1], []), (p 1, [p 1], []), (p 2, [p 1], []), (p 3, [p 1], [])])), (6, false, (mk Y_impl_Node [(n 4, [], []), (n 5, [], []), (n 6, [], []), (n 7, [], [])])), (10, false, (mk Y_impl_Entry []))], lb [p 1] []⟩), (.ret, ⟨[(6, .ptr 6 0), (7, .leaf (.sl (.of Y_impl_Message) (n 0) [n 0] [])), (8, .leaf i), (9, .leaf (.sc .bool))], [(6, false, (mk Y_impl_Node [(n 1, [], []), (n 2, [], []), (n 3, [], []), (n 4, [], [])]))], lb [] [n 0]⟩)]
noncomputable def k2 : Cut := ⟨i2, e2, spec_Propose.P2⟩
theorem h2 : k2.Holds P E.nt c2 := piece_holds (cuts := [(10, k1)]) hE hmx (cut_cons (by kernel_rfl) h1 .nil) (by kernel_rfl)
@[reducible] def i3 : J := ⟨[(3, .ptr 3 0), (6, .ptr 6 0), (13, .ptr 79 0), (14, .leaf i), (15, .leaf (.sl I (n 0) [n 0] [])), (16, .leaf (.sl (.of Y_impl_Peer) (n 1) [n 1] [])), (17, .leaf i), (18, .ptr 18 0), (19, .leaf i), (136, .leaf (.sc .bool))], [(3, false, (mk Y_impl_Node [(p 0, [p 1], []), (p 1, [p 1], []), (p 2, [p 1], []), (p 3, [p 1], [])])), (6, false, (mk Y_impl_Node [(n 6, [], []), (n 7, [], []), (n 8, [], []), (n 9, [], [])])), (18, false, (mk Y_impl_Peer [])), (79, false, (mk Y_spec_l18Run [(n 10, [n 2], []), (n 11, [n 3], []), (n 12, [n 4], []), (n 13, [n 5], []), (n 14, [], [])]))], lb [p 1] [n 0, n 1, n 2, n 3, n 4, n 5]⟩
@[reducible] def e3 : List (Ex × J) := [(.normal, ⟨[(3, .ptr 3 0), (6, .ptr 6 0), (13, .ptr 79 0), (14, .leaf i), (15, .leaf (.sl I (n 0) [n 0] [])), (16, .leaf (.sl (.of Y_impl_Peer) (n 1) [n 1] [])), (17, .leaf i), (18, .ptr 18 0), (19, .leaf i)], [(3, false, (mk Y_impl_Node [(p 0, [p 1], []), (p 1, [p 1], []), (p 2, [p 1], []), (p 3, [p 1], [])])), (6, false, (mk Y_impl_Node [(n 6, [], []), (n 7, [], []), (n 8, [], []), (n 9, [], [])])), (18, false, (mk Y_impl_Peer [])), (79, false, (mk Y_spec_l18Run [(n 10, [n 2], []), (n 11, [n 3], []), (n 12, [n 4], []), (n 13, [n 5], []), (n 14, [], [])]))], lb [p 1] [n 0, n 1, n 2, n 3, n 4, n 5]⟩)]
noncomputable def k3 : Cut := ⟨i3, e3, spec_Propose.P3⟩
theorem h3 : k3.Holds P E.nt c3 := piece_holds (cuts := []) hE hmx .nil (by kernel_rfl)
@[reducible] def i4 : J := ⟨[(3, .ptr 3 0), (6, .ptr 6 0), (13, .ptr 79 0), (14, .leaf i), (15, .leaf (.sl I (n 0) [n 0] [])), (16, .leaf (.sl (.of Y_impl_Peer) (n 1) [n 1] [])), (17, .leaf i), (18, .ptr 18 0), (19, .leaf i)], [(3, false, (mk Y_impl_Node [(p 0, [p 1], []), (p 1, [p 1], []), (p 2, [p 1], []), (p 3, [p 1], [])])), (6, false, (mk Y_impl_Node [(n 6, [], []), (n 7, [], []), (n 8, [], []), (n 9, [], [])])), (18, false, (mk Y_impl_Peer [])), (79, false, (mk Y_spec_l18Run [(n 10, [n 2], []), (n 11, [n 3], []), (n 12, [n 4], []), (n 13, [n 5], []), (n 14, [], [])]))], lb [p 1] [n 0, n 1, n 2, n 3, n 4, n 5]⟩
@[reducible] def e4 : List (Ex × J) := [((.exit 2), ⟨[(3, .ptr 3 0), (6, .ptr 6 0), (13, .ptr 79 0), (14, .leaf i), (15, .leaf (.sl I (n 0) [n 0] [])), (16, .leaf (.sl (.of Y_impl_Peer) (n 1) [n 1] [])), (17, .leaf i), (18, .ptr 18 0)], [(3, false, (mk Y_impl_Node [(p 0, [p 1], []), (p 1, [p 1], []), (p 2, [p 1], []), (p 3, [p 1], [])])), (6, false, (mk Y_impl_Node [(n 6, [], []), (n 7, [], []), (n 8, [], []), (n 9, [], [])])), (18, false, (mk Y_impl_Peer [])), (79, false, (mk Y_spec_l18Run [(n 10, [n 2], []), (n 11, [n 3], []), (n 12, [n 4], []), (n 13, [n 5], []), (n 14, [], [])]))], lb [p 1] [n 0, n 1, n 2, n 3, n 4, n 5]⟩)]
noncomputable def k4 : Cut := ⟨i4, e4, spec_Propose.L4⟩
theorem h4 : k4.Holds P E.nt (.loop c4) := loop_holds (cuts := [(25, k3)]) hE hmx (cut_cons (by kernel_rfl) h3 .nil) (by kernel_rfl)
@[reducible] def i5 : J := ⟨[(3, .ptr 3 0), (6, .ptr 6 0), (13, .ptr 79 0), (14, .leaf i), (15, .leaf (.sl I (n 0) [n 0] [])), (16, .leaf (.sl (.of Y_impl_Peer) (n 1) [n 1] [])), (17, .leaf i)], [(3, false, (mk Y_impl_Node [(p 0, [p 1], []), (p 1, [p 1], []), (p 2, [p 1], []), (p 3, [p 1], [])])), (6, false, (mk Y_impl_Node [(n 6, [], []), (n 7, [], []), (n 8, [], []), (n 9, [], [])])), (79, false, (mk Y_spec_l18Run [(n 10, [n 2], []), (n 11, [n 3], []), (n 12, [n 4], []), (n 13, [n 5], []), (n 14, [], [])]))], lb [p 1] [n 0, n 1, n 2, n 3, n 4, n 5]⟩
@[reducible] def e5 : List (Ex × J) := [((.exit 0), ⟨[(6, .ptr 6 0), (13, .ptr 79 0), (14, .leaf i), (16, .leaf (.sl (.of Y_impl_Peer) (n 0) [n 0] []))], [(6, false, (mk Y_impl_Node [(n 1, [], []), (n 2, [], []), (n 3, [], []), (n 4, [], [])])), (79, false, (mk Y_spec_l18Run [(n 5, [n 1], []), (n 6, [n 2], []), (n 7, [n 3], []), (n 8, [n 4], []), (n 9, [], [])]))], lb [] [n 0, n 1, n 2, n 3, n 4]⟩)]
noncomputable def k5 : Cut := ⟨i5, e5, spec_Propose.L5⟩
theorem h5 : k5.Holds P E.nt (.loop c5) := loop_holds (cuts := [(202, k4)]) hE hmx (cut_cons (by kernel_rfl) h4 .nil) (by kernel_rfl)
noncomputable def s : Sig := ⟨81, 4, ji, jo, fun x => spec_Propose.f x.1.1 x.1.2.1 x.1.2.2.1⟩
theorem h : s.Holds P := mkC (fn := Tryz.f81) (body := b) (cuts := [(28, k0), (61, k2), (8186, k5)]) (backs := []) hE hmx s (cut_cons (by kernel_rfl) h0 (cut_cons (by kernel_rfl) h2 (cut_cons (by kernel_rfl) h5 .nil))) (by kernel_rfl) (by kernel_rfl)
noncomputable def c : FnC P := ⟨s, ⟨by kernel_rfl, fun r => by kernel_rfl⟩, h⟩
end spec_Propose_m

namespace spec_LogBehind
noncomputable def b : Code := (Tryz.f133.body).getD .skip
@[reducible] def ji : J := ⟨[(0, .agg (mk Y_impl_Log [(p 0, [p 1], [])])), (1, .leaf i), (2, .leaf i)], [], lb [p 1] []⟩
@[reducible] def jo : J := ⟨[(0, .agg (mk Y_impl_Log [(n 0, [n 0], [])]))], [], lb [] [n 0]⟩
noncomputable def E : Env := mkE (P := P) tab Tryz.f133.ntmps [] [spec_LogOk.c, spec_l06Last.c, spec_l01In.c, spec_LogTerm.c]
theorem hE : E.Ok P := mkE_ok tabOk eqs_nil
noncomputable def c0 : Code := (codeAt b 200 28).getD .skip
noncomputable def c1 : Code := (codeAt b 200 29).getD .skip
@[reducible] def i0 : J := ⟨[(1, .leaf i), (2, .leaf i), (3, .ptr 3 0), (6, .ptr 6 0), (7, .ptr 7 0)], [(3, false, (mk Y_impl_Log [(p 0, [p 1], [])])), (6, false, (mk Y_impl_Log [(n 1, [], [])])), (7, false, (mk Y_impl_Log [(n 2, [], [])]))], lb [p 1] []⟩
@[reducible] def e0 : List (Ex × J) := [(.normal, ⟨[(1, .leaf i), (3, .ptr 3 0), (6, .ptr 6 0), (7, .ptr 7 0), (27, .leaf (.sc .bool))], [(3, false, (mk Y_impl_Log [(p 0, [p 1], [])])), (6, false, (mk Y_impl_Log [(n 1, [], [])])), (7, false, (mk Y_impl_Log [(n 2, [], [])]))], lb [p 1] []⟩)]
noncomputable def k0 : Cut := ⟨i0, e0, spec_LogBehind.P0⟩
theorem h0 : k0.Holds P E.nt c0 := piece_holds (cuts := []) hE hmx .nil (by kernel_rfl)
@[reducible] def i1 : J := ⟨[(1, .leaf i), (3, .ptr 3 0), (6, .ptr 6 0), (7, .ptr 7 0), (27, .leaf (.sc .bool))], [(3, false, (mk Y_impl_Log [(p 0, [p 1], [])])), (6, false, (mk Y_impl_Log [(n 1, [], [])])), (7, false, (mk Y_impl_Log [(n 2, [], [])]))], lb [p 1] []⟩
@[reducible] def e1 : List (Ex × J) := [(.normal, ⟨[(6, .ptr 6 0), (7, .ptr 7 0)], [(6, false, (mk Y_impl_Log [(n 0, [], [])])), (7, false, (mk Y_impl_Log [(n 1, [n 0], [])]))], lb [] [n 0]⟩)]
noncomputable def k1 : Cut := ⟨i1, e1, spec_LogBehind.P1⟩
theorem h1 : k1.Holds P E.nt c1 := piece_holds (cuts := []) hE hmx .nil (by kernel_rfl)
noncomputable def s : Sig := ⟨133, 1, ji, jo, fun x => spec_LogBehind.f x.1.1 x.1.2.1 x.1.2.2.1⟩
theorem h : s.Holds P := mkC (fn := Tryz.f133) (body := b) (cuts := [(28, k0), (29, k1)]) (backs := []) hE hmx s (cut_cons (by kernel_rfl) h0 (cut_cons (by kernel_rfl) h1 .nil)) (by kernel_rfl) (by kernel_rfl)
noncomputable def c : FnC P := ⟨s, ⟨by kernel_rfl, fun r => by kernel_rfl⟩, h⟩
end spec_LogBehind

namespace spec_Settle_m
noncomputable def b : Code := (Tryz.f82.body).getD .skip
@[reducible] def ji : J := ⟨[(0, .agg (mk Y_impl_Node [(p 0, [p 1], []), (p 1, [p 1], []), (p 2, [p 1], []), (p 3, [p 1], [])])), (1, .leaf i)], [], lb [p 1] []⟩
@[reducible] def jo : J := ⟨[(0, .agg (mk Y_impl_Node [(n 0, [n 0], []), (n 1, [n 1], []), (n 2, [n 2], []), (n 3, [n 3], [])])), (1, .leaf (.sc .bool))], [], lb [] [n 0, n 1, n 2, n 3]⟩
noncomputable def E : Env := mkE (P := P) tab Tryz.f82.ntmps [] [spec_NodeOk_m.c, spec_l01In.c, spec_l18Copy_m.c, spec_ConfAt_m.c, spec_LogTerm.c, spec_LogBehind.c]
theorem hE : E.Ok P := mkE_ok tabOk eqs_nil
noncomputable def c0 : Code := (codeAt b 200 12).getD .skip
@[reducible] def i0 : J := ⟨[(1, .leaf i), (2, .ptr 2 0), (4, .ptr 4 0)], [(2, false, (mk Y_impl_Node [(p 0, [p 1], []), (p 1, [p 1], []), (p 2, [p 1], []), (p 3, [p 1], [])])), (4, false, (mk Y_impl_Node [(n 4, [], []), (n 5, [], []), (n 6, [], []), (n 7, [], [])]))], lb [p 1] []⟩
@[reducible] def e0 : List (Ex × J) := [(.normal, ⟨[(1, .leaf i), (2, .ptr 2 0), (4, .ptr 4 0), (19, .leaf (.sc .bool))], [(2, false, (mk Y_impl_Node [(p 0, [p 1], []), (p 1, [p 1], []), (p 2, [p 1], []), (p 3, [p 1], [])])), (4, false, (mk Y_impl_Node [(n 4, [], []), (n 5, [], []), (n 6, [], []), (n 7, [], [])]))], lb [p 1] []⟩)]
noncomputable def k0 : Cut := ⟨i0, e0, spec_Settle.P0⟩
theorem h0 : k0.Holds P E.nt c0 := piece_holds (cuts := []) hE hmx .nil (by kernel_rfl)
noncomputable def s : Sig := ⟨82, 2, ji, jo, fun x => spec_Settle.f x.1.1 x.1.2.1⟩
theorem h : s.Holds P := mkC (fn := Tryz.f82) (body := b) (cuts := [(12, k0)]) (backs := []) hE hmx s (cut_cons (by kernel_rfl) h0 .nil) (by kernel_rfl) (by kernel_rfl)
noncomputable def c : FnC P := ⟨s, ⟨by kernel_rfl, fun r => by kernel_rfl⟩, h⟩
end spec_Settle_m

end Go.Proofs.YtnnnpppodblblaaGreat.Ct
/-
The program's functions compute what the plain functions say (printed by gen2.py).
-/
namespace Go.Proofs.YtnnnpppodblblaaGreat.Ct
open Go Go.Proofs.YtnnnpppodblblaaGreat.Ev Go.Proofs.YtnnnpppodblblaaGreat.Sh Go.Proofs.YtnnnpppodblblaaGreat.Pu Go.Proofs
set_option maxRecDepth 100000

namespace spec_MessageOk_m
noncomputable def b : Code := (Tryz.f48.body).getD .skip
@[reducible] def ji : J := ⟨[(0, .agg (mk Y_impl_Message [(p 0, [p 1], []), (p 1, [p 1], [])]))], [], lb [p 1] []⟩
@[reducible] def jo : J := ⟨[(0, .leaf (.sc .bool))], [], []⟩
noncomputable def E : Env := mkE (P := P) tab Tryz.f48.ntmps [] [spec_l01In.c, spec_EntryOk.c, spec_ConfOk.c]
theorem hE : E.Ok P := mkE_ok tabOk eqs_nil
noncomputable def c0 : Code := (codeAt b 200 12).getD .skip
noncomputable def c1 : Code := (codeAt b 200 28).getD .skip
noncomputable def c2 : Code := (codeAt b 200 60).getD .skip
noncomputable def c4 : Code := (codeAt b 200 1012).getD .skip
noncomputable def c3 : Code := (codeAt c4 200 48).getD .skip
noncomputable def c6 : Code := (codeAt b 200 510).getD .skip
noncomputable def c5 : Code := (codeAt b 200 2036).getD .skip
@[reducible] def i0 : J := ⟨[(1, .ptr 1 0)], [(1, false, (mk Y_impl_Message [(p 0, [p 1], []), (p 1, [p 1], [])]))], lb [p 1] []⟩
@[reducible] def e0 : List (Ex × J) := [(.normal, ⟨[(1, .ptr 1 0), (27, .leaf (.sc .bool))], [(1, false, (mk Y_impl_Message [(p 0, [p 1], []), (p 1, [p 1], [])]))], lb [p 1] []⟩)]
noncomputable def k0 : Cut := ⟨i0, e0, spec_MessageOk.P0⟩
theorem h0 : k0.Holds P E.nt c0 := piece_holds (cuts := []) hE hmx .nil (by kernel_rfl)
@[reducible] def i1 : J := ⟨[(1, .ptr 1 0)], [(1, false, (mk Y_impl_Message [(p 0, [p 1], []), (p 1, [p 1], [])]))], lb [p 1] []⟩
@[reducible] def e1 : List (Ex × J) := [(.normal, ⟨[(1, .ptr 1 0), (49, .leaf (.sc .bool))], [(1, false, (mk Y_impl_Message [(p 0, [p 1], []), (p 1, [p 1], [])]))], lb [p 1] []⟩)]
noncomputable def k1 : Cut := ⟨i1, e1, spec_MessageOk.P1⟩
theorem h1 : k1.Holds P E.nt c1 := piece_holds (cuts := []) hE hmx .nil (by kernel_rfl)
@[reducible] def i2 : J := ⟨[(1, .ptr 1 0)], [(1, false, (mk Y_impl_Message [(p 0, [p 1], []), (p 1, [p 1], [])]))], lb [p 1] []⟩
@[reducible] def e2 : List (Ex × J) := [(.normal, ⟨[(1, .ptr 1 0), (64, .leaf (.sc .bool))], [(1, false, (mk Y_impl_Message [(p 0, [p 1], []), (p 1, [p 1], [])]))], lb [p 1] []⟩)]
noncomputable def k2 : Cut := ⟨i2, e2, spec_MessageOk.P2⟩
theorem h2 : k2.Holds P E.nt c2 := piece_holds (cuts := []) hE hmx .nil (by kernel_rfl)
@[reducible] def i3 : J := ⟨[(1, .ptr 1 0), (3, .leaf i), (4, .leaf i)], [(1, false, (mk Y_impl_Message [(p 0, [p 1], []), (p 1, [p 1], [])]))], lb [p 1] []⟩
@[reducible] def e3 : List (Ex × J) := [(.normal, ⟨[(1, .ptr 1 0), (4, .leaf i), (101, .leaf (.sc .bool))], [(1, false, (mk Y_impl_Message [(p 0, [p 1], []), (p 1, [p 1], [])]))], lb [p 1] []⟩)]
noncomputable def k3 : Cut := ⟨i3, e3, spec_MessageOk.P3⟩
theorem h3 : k3.Holds P E.nt c3 := piece_holds (cuts := []) hE hmx .nil (by kernel_rfl)
@[reducible] def i4 : J := ⟨[(1, .ptr 1 0), (3, .leaf i), (4, .leaf i)], [(1, false, (mk Y_impl_Message [(p 0, [p 1], []), (p 1, [p 1], [])]))], lb [p 1] []⟩
@[reducible] def e4 : List (Ex × J) := [((.exit 0), ⟨[(1, .ptr 1 0)], [(1, false, (mk Y_impl_Message [(p 0, [p 1], []), (p 1, [p 1], [])]))], lb [p 1] []⟩), (.ret, ⟨[(2, .leaf (.sc .bool))], [], []⟩)]
noncomputable def k4 : Cut := ⟨i4, e4, spec_MessageOk.L4⟩
theorem h4 : k4.Holds P E.nt (.loop c4) := loop_holds (cuts := [(48, k3)]) hE hmx (cut_cons (by kernel_rfl) h3 .nil) (by kernel_rfl)
@[reducible] def i6 : J := ⟨[(1, .ptr 1 0)], [(1, false, (mk Y_impl_Message [(p 0, [p 1], []), (p 1, [p 1], [])]))], lb [p 1] []⟩
@[reducible] def e6 : List (Ex × J) := [(.normal, ⟨[(2, .leaf (.sc .bool))], [], []⟩)]
noncomputable def k6 : Cut := ⟨i6, e6, spec_MessageOk.P6⟩
theorem h6 : k6.Holds P E.nt c6 := piece_holds (cuts := []) hE hmx .nil (by kernel_rfl)
@[reducible] def i5 : J := ⟨[(1, .ptr 1 0)], [(1, false, (mk Y_impl_Message [(p 0, [p 1], []), (p 1, [p 1], [])]))], lb [p 1] []⟩
@[reducible] def e5 : List (Ex × J) := [(.normal, ⟨[(2, .leaf (.sc .bool))], [], []⟩)]
noncomputable def k5 : Cut := ⟨i5, e5, spec_MessageOk.P5⟩
theorem h5 : k5.Holds P E.nt c5 := piece_holds (cuts := []) hE hmx .nil (by kernel_rfl)
noncomputable def s : Sig := ⟨48, 1, ji, jo, fun x => spec_MessageOk.f x.1.1⟩
theorem h : s.Holds P := mkC (fn := Tryz.f48) (body := b) (cuts := [(12, k0), (28, k1), (60, k2), (506, k4), (510, k6), (2036, k5)]) (backs := []) hE hmx s (cut_cons (by kernel_rfl) h0 (cut_cons (by kernel_rfl) h1 (cut_cons (by kernel_rfl) h2 (cut_cons (by kernel_rfl) h4 (cut_cons (by kernel_rfl) h6 (cut_cons (by kernel_rfl) h5 .nil)))))) (by kernel_rfl) (by kernel_rfl)
noncomputable def c : FnC P := ⟨s, ⟨by kernel_rfl, fun r => by kernel_rfl⟩, h⟩
end spec_MessageOk_m

namespace spec_l18AskVote_m
noncomputable def b : Code := (Tryz.f51.body).getD .skip
@[reducible] def ji : J := ⟨[(0, .ptr (p 0) 0), (1, .agg (mk Y_impl_Message [(p 5, [p 7], []), (p 6, [p 7], [])]))], [(p 0, false, (mk Y_spec_l18Run [(p 0, [p 1], []), (p 1, [p 2], []), (p 2, [p 3], []), (p 3, [p 4], []), (p 4, [p 5], [p 6])]))], lb [p 1, p 2, p 3, p 4, p 6, p 7] [p 5]⟩
@[reducible] def jo : J := ⟨[], [(p 0, false, (mk Y_spec_l18Run [(p 0, [p 1], []), (p 1, [p 2], []), (p 2, [p 3], []), (p 3, [p 4], []), (n 4, [p 5, n 0], [p 6])]))], lb [p 1, p 2, p 3, p 4, p 6] [p 5, n 0]⟩
noncomputable def E : Env := mkE (P := P) tab Tryz.f51.ntmps [] [spec_LogLast.c, spec_l18Tell.c]
theorem hE : E.Ok P := mkE_ok tabOk eqs_nil
noncomputable def c0 : Code := (codeAt b 200 14).getD .skip
noncomputable def c1 : Code := (codeAt b 200 30).getD .skip
noncomputable def c2 : Code := (codeAt b 200 125).getD .skip
@[reducible] def i0 : J := ⟨[(0, .ptr (p 0) 0), (3, .ptr 3 0), (4, .leaf i), (5, .leaf i)], [(3, false, (mk Y_impl_Message [(p 5, [p 7], []), (p 6, [p 7], [])])), (p 0, false, (mk Y_spec_l18Run [(p 0, [p 1], []), (p 1, [p 2], []), (p 2, [p 3], []), (p 3, [p 4], []), (p 4, [p 5], [p 6])]))], lb [p 1, p 2, p 3, p 4, p 6, p 7] [p 5]⟩
@[reducible] def e0 : List (Ex × J) := [(.normal, ⟨[(0, .ptr (p 0) 0), (3, .ptr 3 0), (6, .leaf (.sc .bool))], [(3, false, (mk Y_impl_Message [(p 5, [p 7], []), (p 6, [p 7], [])])), (p 0, false, (mk Y_spec_l18Run [(p 0, [p 1], []), (p 1, [p 2], []), (p 2, [p 3], []), (p 3, [p 4], []), (p 4, [p 5], [p 6])]))], lb [p 1, p 2, p 3, p 4, p 6, p 7] [p 5]⟩)]
noncomputable def k0 : Cut := ⟨i0, e0, spec_l18AskVote.P0⟩
theorem h0 : k0.Holds P E.nt c0 := piece_holds (cuts := []) hE hmx .nil (by kernel_rfl)
@[reducible] def i1 : J := ⟨[(0, .ptr (p 0) 0), (3, .ptr 3 0), (6, .leaf (.sc .bool))], [(3, false, (mk Y_impl_Message [(p 5, [p 7], []), (p 6, [p 7], [])])), (p 0, false, (mk Y_spec_l18Run [(p 0, [p 1], []), (p 1, [p 2], []), (p 2, [p 3], []), (p 3, [p 4], []), (p 4, [p 5], [p 6])]))], lb [p 1, p 2, p 3, p 4, p 6, p 7] [p 5]⟩
@[reducible] def e1 : List (Ex × J) := [(.normal, ⟨[(0, .ptr (p 0) 0), (3, .ptr 3 0), (7, .leaf (.sc .bool))], [(3, false, (mk Y_impl_Message [(p 5, [p 7], []), (p 6, [p 7], [])])), (p 0, false, (mk Y_spec_l18Run [(p 0, [p 1], []), (p 1, [p 2], []), (p 2, [p 3], []), (p 3, [p 4], []), (p 4, [p 5], [p 6])]))], lb [p 1, p 2, p 3, p 4, p 6, p 7] [p 5]⟩)]
noncomputable def k1 : Cut := ⟨i1, e1, spec_l18AskVote.P1⟩
theorem h1 : k1.Holds P E.nt c1 := piece_holds (cuts := []) hE hmx .nil (by kernel_rfl)
@[reducible] def i2 : J := ⟨[(0, .ptr (p 0) 0), (3, .ptr 3 0), (7, .leaf (.sc .bool)), (62, .leaf (.sc .bool))], [(3, false, (mk Y_impl_Message [(p 5, [p 7], []), (p 6, [p 7], [])])), (p 0, false, (mk Y_spec_l18Run [(p 0, [p 1], []), (p 1, [p 2], []), (p 2, [p 3], []), (p 3, [p 4], []), (p 4, [p 5], [p 6])]))], lb [p 1, p 2, p 3, p 4, p 6, p 7] [p 5]⟩
@[reducible] def e2 : List (Ex × J) := [(.normal, ⟨[(0, .ptr (p 0) 0), (3, .ptr 3 0), (7, .leaf (.sc .bool))], [(3, false, (mk Y_impl_Message [(p 5, [p 7], []), (p 6, [p 7], [])])), (p 0, false, (mk Y_spec_l18Run [(p 0, [p 1], []), (p 1, [p 2], []), (p 2, [p 3], []), (p 3, [p 4], []), (p 4, [p 5], [p 6])]))], lb [p 1, p 2, p 3, p 4, p 6, p 7] [p 5]⟩)]
noncomputable def k2 : Cut := ⟨i2, e2, spec_l18AskVote.P2⟩
theorem h2 : k2.Holds P E.nt c2 := piece_holds (cuts := []) hE hmx .nil (by kernel_rfl)
noncomputable def s : Sig := ⟨51, 0, ji, jo, fun x => spec_l18AskVote.f x.1.2.1 x.2.1⟩
theorem h : s.Holds P := mkC (fn := Tryz.f51) (body := b) (cuts := [(14, k0), (30, k1), (125, k2)]) (backs := []) hE hmx s (cut_cons (by kernel_rfl) h0 (cut_cons (by kernel_rfl) h1 (cut_cons (by kernel_rfl) h2 .nil))) (by kernel_rfl) (by kernel_rfl)
noncomputable def c : FnC P := ⟨s, ⟨by kernel_rfl, fun r => by kernel_rfl⟩, h⟩
end spec_l18AskVote_m

namespace spec_l18TellVote_m
noncomputable def b : Code := (Tryz.f52.body).getD .skip
@[reducible] def ji : J := ⟨[(0, .ptr (p 0) 0), (1, .agg (mk Y_impl_Message [(p 5, [p 7], []), (p 6, [p 7], [])]))], [(p 0, false, (mk Y_spec_l18Run [(p 0, [p 1], []), (p 1, [p 2], []), (p 2, [p 3], []), (p 3, [p 4], []), (p 4, [p 5], [p 6])]))], lb [p 1, p 3, p 4, p 6, p 7] [p 2, p 5]⟩
@[reducible] def jo : J := ⟨[], [(p 0, false, (mk Y_spec_l18Run [(p 0, [p 1], []), (n 1, [p 2, n 0], []), (n 2, [p 3, n 1], []), (n 3, [p 4, n 2], []), (n 4, [p 5, n 3], [p 6, n 4])]))], lb [p 1, p 3, p 4, p 6] [p 2, p 5, n 0, n 1, n 2, n 3, n 4]⟩
noncomputable def E : Env := mkE (P := P) tab Tryz.f52.ntmps [] [spec_l05In.c, spec_l18Elected.c, spec_l18Lead.c]
theorem hE : E.Ok P := mkE_ok tabOk eqs_nil
noncomputable def c0 : Code := (codeAt b 200 12).getD .skip
noncomputable def c3 : Code := (codeAt b 200 244).getD .skip
noncomputable def c1 : Code := (codeAt c3 200 24).getD .skip
noncomputable def c2 : Code := (codeAt c3 200 25).getD .skip
noncomputable def c4 : Code := (codeAt b 200 127).getD .skip
@[reducible] def i0 : J := ⟨[(0, .ptr (p 0) 0), (3, .ptr 3 0)], [(3, false, (mk Y_impl_Message [(p 5, [p 7], []), (p 6, [p 7], [])])), (p 0, false, (mk Y_spec_l18Run [(p 0, [p 1], []), (p 1, [p 2], []), (p 2, [p 3], []), (p 3, [p 4], []), (p 4, [p 5], [p 6])]))], lb [p 1, p 3, p 4, p 6, p 7] [p 2, p 5]⟩
@[reducible] def e0 : List (Ex × J) := [(.normal, ⟨[(0, .ptr (p 0) 0), (3, .ptr 3 0), (26, .leaf (.sc .bool))], [(3, false, (mk Y_impl_Message [(p 5, [p 7], []), (p 6, [p 7], [])])), (p 0, false, (mk Y_spec_l18Run [(p 0, [p 1], []), (p 1, [p 2], []), (p 2, [p 3], []), (p 3, [p 4], []), (p 4, [p 5], [p 6])]))], lb [p 1, p 3, p 4, p 6, p 7] [p 2, p 5]⟩)]
noncomputable def k0 : Cut := ⟨i0, e0, spec_l18TellVote.P0⟩
theorem h0 : k0.Holds P E.nt c0 := piece_holds (cuts := []) hE hmx .nil (by kernel_rfl)
@[reducible] def i1 : J := ⟨[(0, .ptr (p 0) 0), (3, .ptr 3 0), (4, .leaf (.sl I (n 0) [n 0] [])), (5, .leaf i)], [(3, false, (mk Y_impl_Message [(p 5, [p 7], []), (p 6, [p 7], [])])), (p 0, false, (mk Y_spec_l18Run [(p 0, [p 1], []), (p 1, [p 2], []), (p 2, [p 3], []), (p 3, [p 4], []), (p 4, [p 5], [p 6])]))], lb [p 1, p 3, p 4, p 6, p 7] [p 2, p 5, n 0]⟩
@[reducible] def e1 : List (Ex × J) := [(.normal, ⟨[(0, .ptr (p 0) 0), (3, .ptr 3 0), (4, .leaf (.sl I (n 0) [n 0] [])), (5, .leaf i), (44, .leaf (.sc .bool))], [(3, false, (mk Y_impl_Message [(p 5, [p 7], []), (p 6, [p 7], [])])), (p 0, false, (mk Y_spec_l18Run [(p 0, [p 1], []), (p 1, [p 2], []), (p 2, [p 3], []), (p 3, [p 4], []), (p 4, [p 5], [p 6])]))], lb [p 1, p 3, p 4, p 6, p 7] [p 2, p 5, n 0]⟩)]
noncomputable def k1 : Cut := ⟨i1, e1, spec_l18TellVote.P1⟩
theorem h1 : k1.Holds P E.nt c1 := piece_holds (cuts := []) hE hmx .nil (by kernel_rfl)
@[reducible] def i2 : J := ⟨[(0, .ptr (p 0) 0), (3, .ptr 3 0), (4, .leaf (.sl I (n 0) [n 0] [])), (5, .leaf i), (44, .leaf (.sc .bool))], [(3, false, (mk Y_impl_Message [(p 5, [p 7], []), (p 6, [p 7], [])])), (p 0, false, (mk Y_spec_l18Run [(p 0, [p 1], []), (p 1, [p 2], []), (p 2, [p 3], []), (p 3, [p 4], []), (p 4, [p 5], [p 6])]))], lb [p 1, p 3, p 4, p 6, p 7] [p 2, p 5, n 0]⟩
@[reducible] def e2 : List (Ex × J) := [(.normal, ⟨[(0, .ptr (p 0) 0), (3, .ptr 3 0), (4, .leaf (.sl I (n 0) [n 0] [])), (5, .leaf i)], [(3, false, (mk Y_impl_Message [(p 5, [p 7], []), (p 6, [p 7], [])])), (p 0, false, (mk Y_spec_l18Run [(p 0, [p 1], []), (p 1, [p 2], []), (p 2, [p 3], []), (p 3, [p 4], []), (p 4, [p 5], [p 6])]))], lb [p 1, p 3, p 4, p 6, p 7] [p 2, p 5, n 0]⟩)]
noncomputable def k2 : Cut := ⟨i2, e2, spec_l18TellVote.P2⟩
theorem h2 : k2.Holds P E.nt c2 := piece_holds (cuts := []) hE hmx .nil (by kernel_rfl)
@[reducible] def i3 : J := ⟨[(0, .ptr (p 0) 0), (3, .ptr 3 0), (4, .leaf (.sl I (n 0) [n 0] [])), (5, .leaf i)], [(3, false, (mk Y_impl_Message [(p 5, [p 7], []), (p 6, [p 7], [])])), (p 0, false, (mk Y_spec_l18Run [(p 0, [p 1], []), (p 1, [p 2], []), (p 2, [p 3], []), (p 3, [p 4], []), (p 4, [p 5], [p 6])]))], lb [p 1, p 3, p 4, p 6, p 7] [p 2, p 5, n 0]⟩
@[reducible] def e3 : List (Ex × J) := [((.exit 0), ⟨[(0, .ptr (p 0) 0), (4, .leaf (.sl I (n 0) [n 0] []))], [(p 0, false, (mk Y_spec_l18Run [(p 0, [p 1], []), (p 1, [p 2], []), (p 2, [p 3], []), (p 3, [p 4], []), (p 4, [p 5], [p 6])]))], lb [p 1, p 3, p 4, p 6] [p 2, p 5, n 0]⟩)]
noncomputable def k3 : Cut := ⟨i3, e3, spec_l18TellVote.L3⟩
theorem h3 : k3.Holds P E.nt (.loop c3) := loop_holds (cuts := [(24, k1), (25, k2)]) hE hmx (cut_cons (by kernel_rfl) h1 (cut_cons (by kernel_rfl) h2 .nil)) (by kernel_rfl)
@[reducible] def i4 : J := ⟨[(0, .ptr (p 0) 0), (55, .leaf (.sc .bool))], [(p 0, false, (mk Y_spec_l18Run [(p 0, [p 1], []), (p 1, [p 2], []), (n 2, [n 0], []), (p 3, [p 4], []), (p 4, [p 5], [p 6])]))], lb [p 1, p 4, p 6] [p 2, p 5, n 0]⟩
@[reducible] def e4 : List (Ex × J) := [(.normal, ⟨[], [(p 0, false, (mk Y_spec_l18Run [(p 0, [p 1], []), (n 1, [p 2, n 0], []), (n 2, [n 1], []), (n 3, [p 4, n 2], []), (n 4, [p 5, n 3], [p 6, n 4])]))], lb [p 1, p 4, p 6] [p 2, p 5, n 0, n 1, n 2, n 3, n 4]⟩)]
noncomputable def k4 : Cut := ⟨i4, e4, spec_l18TellVote.P4⟩
theorem h4 : k4.Holds P E.nt c4 := piece_holds (cuts := []) hE hmx .nil (by kernel_rfl)
noncomputable def s : Sig := ⟨52, 0, ji, jo, fun x => spec_l18TellVote.f x.1.2.1 x.2.1⟩
theorem h : s.Holds P := mkC (fn := Tryz.f52) (body := b) (cuts := [(12, k0), (122, k3), (127, k4)]) (backs := []) hE hmx s (cut_cons (by kernel_rfl) h0 (cut_cons (by kernel_rfl) h3 (cut_cons (by kernel_rfl) h4 .nil))) (by kernel_rfl) (by kernel_rfl)
noncomputable def c : FnC P := ⟨s, ⟨by kernel_rfl, fun r => by kernel_rfl⟩, h⟩
end spec_l18TellVote_m

namespace spec_l18Refuse_m
noncomputable def b : Code := (Tryz.f114.body).getD .skip
@[reducible] def ji : J := ⟨[(0, .ptr (p 0) 0), (1, .agg (mk Y_impl_Message [(p 5, [p 7], []), (p 6, [p 7], [])])), (2, .leaf i)], [(p 0, false, (mk Y_spec_l18Run [(p 0, [p 1], []), (p 1, [p 2], []), (p 2, [p 3], []), (p 3, [p 4], []), (p 4, [p 5], [p 6])]))], lb [p 1, p 2, p 3, p 4, p 6, p 7] [p 5]⟩
@[reducible] def jo : J := ⟨[], [(p 0, false, (mk Y_spec_l18Run [(p 0, [p 1], []), (p 1, [p 2], []), (p 2, [p 3], []), (p 3, [p 4], []), (n 4, [p 5, n 0], [p 6])]))], lb [p 1, p 2, p 3, p 4, p 6] [p 5, n 0]⟩
noncomputable def E : Env := mkE (P := P) tab Tryz.f114.ntmps [] [spec_l18Tell.c]
theorem hE : E.Ok P := mkE_ok tabOk eqs_nil
noncomputable def s : Sig := ⟨114, 0, ji, jo, fun x => spec_l18Refuse.f x.1.2.1 x.1.2.2.1 x.2.1⟩
theorem h : s.Holds P := mkC (fn := Tryz.f114) (body := b) (cuts := []) (backs := []) hE hmx s .nil (by kernel_rfl) (by kernel_rfl)
noncomputable def c : FnC P := ⟨s, ⟨by kernel_rfl, fun r => by kernel_rfl⟩, h⟩
end spec_l18Refuse_m

namespace spec_l18AskAppend_m
noncomputable def b : Code := (Tryz.f53.body).getD .skip
@[reducible] def ji : J := ⟨[(0, .ptr (p 0) 0), (1, .agg (mk Y_impl_Message [(p 5, [p 7], []), (p 6, [p 7], [])]))], [(p 0, false, (mk Y_spec_l18Run [(p 0, [p 1], []), (p 1, [p 2], []), (p 2, [p 3], []), (p 3, [p 4], []), (p 4, [p 5], [p 6])]))], lb [p 1, p 2, p 3, p 4, p 6, p 7] [p 5]⟩
@[reducible] def jo : J := ⟨[], [(p 0, false, (mk Y_spec_l18Run [(p 0, [p 1], []), (n 1, [p 2, n 0], []), (n 2, [p 3, n 1], []), (n 3, [p 4, n 2], []), (n 4, [p 5, n 3], [p 6])]))], lb [p 1, p 2, p 3, p 4, p 6] [p 5, n 0, n 1, n 2, n 3]⟩
noncomputable def E : Env := mkE (P := P) tab Tryz.f53.ntmps [] [spec_l06Last.c, spec_l18Refuse_m.c, spec_l18Follow.c, spec_LogTerm.c, spec_LogOk.c, spec_l18Tell.c]
theorem hE : E.Ok P := mkE_ok tabOk eqs_nil
noncomputable def c1 : Code := (codeAt b 200 509).getD .skip
noncomputable def c0 : Code := (codeAt c1 200 21).getD .skip
noncomputable def c5 : Code := (codeAt b 200 8184).getD .skip
noncomputable def c4 : Code := (codeAt c5 200 4).getD .skip
noncomputable def c2 : Code := (codeAt b 200 16341).getD .skip
noncomputable def c7 : Code := (codeAt b 200 16381).getD .skip
noncomputable def c6 : Code := (codeAt c7 200 44).getD .skip
noncomputable def c3 : Code := (codeAt b 200 32685).getD .skip
noncomputable def c8 : Code := (codeAt b 200 65533).getD .skip
noncomputable def c9 : Code := (codeAt b 200 131069).getD .skip
@[reducible] def i0 : J := ⟨[(0, .ptr (p 0) 0), (3, .ptr 3 0), (4, .leaf i), (5, .ptr 5 0), (6, .leaf i), (57, .leaf (.sc .bool))], [(3, false, (mk Y_impl_Message [(p 5, [p 7], []), (p 6, [p 7], [])])), (5, false, (mk Y_impl_Log [(p 1, [p 2], [])])), (p 0, false, (mk Y_spec_l18Run [(p 0, [p 1], []), (n 4, [p 2], []), (n 5, [n 0], []), (n 6, [n 1], []), (p 4, [p 5], [p 6])]))], lb [p 1, p 2, p 6, p 7] [p 5, n 0, n 1]⟩
@[reducible] def e0 : List (Ex × J) := [(.normal, ⟨[(0, .ptr (p 0) 0), (3, .ptr 3 0), (4, .leaf i), (5, .ptr 5 0), (6, .leaf i)], [(3, false, (mk Y_impl_Message [(p 5, [p 7], []), (p 6, [p 7], [])])), (5, false, (mk Y_impl_Log [(p 1, [p 2], [])])), (p 0, false, (mk Y_spec_l18Run [(p 0, [p 1], []), (n 4, [p 2], []), (n 5, [n 0], []), (n 6, [n 1], []), (p 4, [p 5], [p 6])]))], lb [p 1, p 2, p 6, p 7] [p 5, n 0, n 1]⟩)]
noncomputable def k0 : Cut := ⟨i0, e0, spec_l18AskAppend.P0⟩
theorem h0 : k0.Holds P E.nt c0 := piece_holds (cuts := []) hE hmx .nil (by kernel_rfl)
@[reducible] def i1 : J := ⟨[(0, .ptr (p 0) 0), (3, .ptr 3 0), (4, .leaf i), (5, .ptr 5 0), (47, .leaf (.sc .bool))], [(3, false, (mk Y_impl_Message [(p 5, [p 7], []), (p 6, [p 7], [])])), (5, false, (mk Y_impl_Log [(p 1, [p 2], [])])), (p 0, false, (mk Y_spec_l18Run [(p 0, [p 1], []), (n 4, [p 2], []), (n 5, [n 0], []), (n 6, [n 1], []), (p 4, [p 5], [p 6])]))], lb [p 1, p 2, p 6, p 7] [p 5, n 0, n 1]⟩
@[reducible] def e1 : List (Ex × J) := [(.normal, ⟨[(0, .ptr (p 0) 0), (3, .ptr 3 0), (4, .leaf i), (5, .ptr 5 0)], [(3, false, (mk Y_impl_Message [(n 0, [p 7], []), (p 6, [p 7], [])])), (5, false, (mk Y_impl_Log [(p 1, [p 2], [])])), (p 0, false, (mk Y_spec_l18Run [(p 0, [p 1], []), (n 4, [p 2], []), (n 5, [n 0], []), (n 6, [n 1], []), (p 4, [p 5], [p 6])]))], lb [p 1, p 2, p 6, p 7] [p 5, n 0, n 1]⟩)]
noncomputable def k1 : Cut := ⟨i1, e1, spec_l18AskAppend.P1⟩
theorem h1 : k1.Holds P E.nt c1 := piece_holds (cuts := [(21, k0)]) hE hmx (cut_cons (by kernel_rfl) h0 .nil) (by kernel_rfl)
@[reducible] def i4 : J := ⟨[(0, .ptr (p 0) 0), (3, .ptr 3 0), (4, .leaf i), (5, .ptr 5 0), (8, .leaf i)], [(3, false, (mk Y_impl_Message [(n 0, [p 7], []), (p 6, [p 7], [])])), (5, false, (mk Y_impl_Log [(p 1, [p 2], [])])), (p 0, false, (mk Y_spec_l18Run [(p 0, [p 1], []), (n 4, [p 2], []), (n 5, [n 0], []), (n 6, [n 1], []), (p 4, [p 5], [p 6])]))], lb [p 1, p 2, p 6, p 7] [p 5, n 0, n 1]⟩
@[reducible] def e4 : List (Ex × J) := [(.normal, ⟨[(0, .ptr (p 0) 0), (3, .ptr 3 0), (4, .leaf i), (5, .ptr 5 0), (8, .leaf i), (112, .leaf (.sc .bool))], [(3, false, (mk Y_impl_Message [(n 0, [p 7], []), (p 6, [p 7], [])])), (5, false, (mk Y_impl_Log [(p 1, [p 2], [])])), (p 0, false, (mk Y_spec_l18Run [(p 0, [p 1], []), (n 4, [p 2], []), (n 5, [n 0], []), (n 6, [n 1], []), (p 4, [p 5], [p 6])]))], lb [p 1, p 2, p 6, p 7] [p 5, n 0, n 1]⟩)]
noncomputable def k4 : Cut := ⟨i4, e4, spec_l18AskAppend.P4⟩
theorem h4 : k4.Holds P E.nt c4 := piece_holds (cuts := []) hE hmx .nil (by kernel_rfl)
@[reducible] def i5 : J := ⟨[(0, .ptr (p 0) 0), (3, .ptr 3 0), (4, .leaf i), (5, .ptr 5 0), (8, .leaf i)], [(3, false, (mk Y_impl_Message [(n 0, [p 7], []), (p 6, [p 7], [])])), (5, false, (mk Y_impl_Log [(p 1, [p 2], [])])), (p 0, false, (mk Y_spec_l18Run [(p 0, [p 1], []), (n 4, [p 2], []), (n 5, [n 0], []), (n 6, [n 1], []), (p 4, [p 5], [p 6])]))], lb [p 1, p 2, p 6, p 7] [p 5, n 0, n 1]⟩
@[reducible] def e5 : List (Ex × J) := [((.exit 0), ⟨[(0, .ptr (p 0) 0), (3, .ptr 3 0), (4, .leaf i), (5, .ptr 5 0), (8, .leaf i)], [(3, false, (mk Y_impl_Message [(n 0, [p 7], []), (p 6, [p 7], [])])), (5, false, (mk Y_impl_Log [(p 1, [p 2], [])])), (p 0, false, (mk Y_spec_l18Run [(p 0, [p 1], []), (n 4, [p 2], []), (n 5, [n 0], []), (n 6, [n 1], []), (p 4, [p 5], [p 6])]))], lb [p 1, p 2, p 6, p 7] [p 5, n 0, n 1]⟩)]
noncomputable def k5 : Cut := ⟨i5, e5, spec_l18AskAppend.L5⟩
theorem h5 : k5.Holds P E.nt (.loop c5) := loop_holds (cuts := [(4, k4)]) hE hmx (cut_cons (by kernel_rfl) h4 .nil) (by kernel_rfl)
@[reducible] def i2 : J := ⟨[(0, .ptr (p 0) 0), (3, .ptr 3 0), (4, .leaf i), (7, .leaf i), (83, .leaf (.sc .bool))], [(3, false, (mk Y_impl_Message [(n 0, [p 7], []), (p 6, [p 7], [])])), (p 0, false, (mk Y_spec_l18Run [(p 0, [p 1], []), (n 3, [p 2], []), (n 4, [n 0], []), (n 5, [n 1], []), (p 4, [p 5], [p 6])]))], lb [p 1, p 2, p 6, p 7] [p 5, n 0, n 1]⟩
@[reducible] def e2 : List (Ex × J) := [(.normal, ⟨[(0, .ptr (p 0) 0), (3, .ptr 3 0), (4, .leaf i), (7, .leaf i)], [(3, false, (mk Y_impl_Message [(n 0, [p 7], []), (p 6, [p 7], [])])), (p 0, false, (mk Y_spec_l18Run [(p 0, [p 1], []), (n 3, [p 2], []), (n 4, [n 0], []), (n 5, [n 1], []), (p 4, [p 5], [p 6])]))], lb [p 1, p 2, p 6, p 7] [p 5, n 0, n 1]⟩)]
noncomputable def k2 : Cut := ⟨i2, e2, spec_l18AskAppend.P2⟩
theorem h2 : k2.Holds P E.nt c2 := piece_holds (cuts := []) hE hmx .nil (by kernel_rfl)
@[reducible] def i6 : J := ⟨[(0, .ptr (p 0) 0), (3, .ptr 3 0), (4, .leaf i), (8, .leaf i), (9, .leaf i), (11, .ptr 11 0)], [(3, false, (mk Y_impl_Message [(n 0, [p 7], []), (p 6, [p 7], [])])), (11, false, (mk Y_impl_Log [(n 2, [n 0], [])])), (p 0, false, (mk Y_spec_l18Run [(p 0, [p 1], []), (n 4, [p 2], []), (n 5, [n 1], []), (n 6, [n 2], []), (p 4, [p 5], [p 6])]))], lb [p 1, p 2, p 6, p 7] [p 5, n 0, n 1, n 2]⟩
@[reducible] def e6 : List (Ex × J) := [(.normal, ⟨[(0, .ptr (p 0) 0), (3, .ptr 3 0), (4, .leaf i), (9, .leaf i), (11, .ptr 11 0), (163, .leaf (.sc .bool))], [(3, false, (mk Y_impl_Message [(n 0, [p 7], []), (p 6, [p 7], [])])), (11, false, (mk Y_impl_Log [(n 2, [n 0], [])])), (p 0, false, (mk Y_spec_l18Run [(p 0, [p 1], []), (n 4, [p 2], []), (n 5, [n 1], []), (n 6, [n 2], []), (p 4, [p 5], [p 6])]))], lb [p 1, p 2, p 6, p 7] [p 5, n 0, n 1, n 2]⟩)]
noncomputable def k6 : Cut := ⟨i6, e6, spec_l18AskAppend.P6⟩
theorem h6 : k6.Holds P E.nt c6 := piece_holds (cuts := []) hE hmx .nil (by kernel_rfl)
@[reducible] def i7 : J := ⟨[(0, .ptr (p 0) 0), (3, .ptr 3 0), (4, .leaf i), (5, .ptr 5 0), (8, .leaf i), (9, .leaf i), (125, .leaf (.sc .bool))], [(3, false, (mk Y_impl_Message [(n 0, [p 7], []), (p 6, [p 7], [])])), (5, false, (mk Y_impl_Log [(p 1, [p 2], [])])), (p 0, false, (mk Y_spec_l18Run [(p 0, [p 1], []), (n 4, [p 2], []), (n 5, [n 0], []), (n 6, [n 1], []), (p 4, [p 5], [p 6])]))], lb [p 1, p 2, p 6, p 7] [p 5, n 0, n 1]⟩
@[reducible] def e7 : List (Ex × J) := [(.normal, ⟨[(0, .ptr (p 0) 0), (3, .ptr 3 0), (9, .leaf i)], [(3, false, (mk Y_impl_Message [(n 0, [p 7], []), (p 6, [p 7], [])])), (p 0, false, (mk Y_spec_l18Run [(p 0, [p 1], []), (n 3, [p 2, n 0], []), (n 4, [n 1], []), (n 5, [n 2], []), (p 4, [p 5], [p 6])]))], lb [p 1, p 2, p 6, p 7] [p 5, n 0, n 1, n 2]⟩), (.ret, ⟨[], [(p 0, false, (mk Y_spec_l18Run [(p 0, [p 1], []), (n 1, [p 2], []), (n 2, [n 0], []), (n 3, [n 1], []), (n 4, [p 5, n 2], [p 6])]))], lb [p 1, p 2, p 6] [p 5, n 0, n 1, n 2]⟩)]
noncomputable def k7 : Cut := ⟨i7, e7, spec_l18AskAppend.P7⟩
theorem h7 : k7.Holds P E.nt c7 := piece_holds (cuts := [(44, k6)]) hE hmx (cut_cons (by kernel_rfl) h6 .nil) (by kernel_rfl)
@[reducible] def i3 : J := ⟨[(0, .ptr (p 0) 0), (3, .ptr 3 0), (4, .leaf i), (7, .leaf i), (86, .leaf (.sc .bool))], [(3, false, (mk Y_impl_Message [(n 0, [p 7], []), (p 6, [p 7], [])])), (p 0, false, (mk Y_spec_l18Run [(p 0, [p 1], []), (n 3, [p 2], []), (n 4, [n 0], []), (n 5, [n 1], []), (p 4, [p 5], [p 6])]))], lb [p 1, p 2, p 6, p 7] [p 5, n 0, n 1]⟩
@[reducible] def e3 : List (Ex × J) := [(.normal, ⟨[(0, .ptr (p 0) 0), (3, .ptr 3 0), (7, .leaf i)], [(3, false, (mk Y_impl_Message [(n 0, [p 7], []), (p 6, [p 7], [])])), (p 0, false, (mk Y_spec_l18Run [(p 0, [p 1], []), (n 3, [p 2], []), (n 4, [n 0], []), (n 5, [n 1], []), (p 4, [p 5], [p 6])]))], lb [p 1, p 2, p 6, p 7] [p 5, n 0, n 1]⟩)]
noncomputable def k3 : Cut := ⟨i3, e3, spec_l18AskAppend.P3⟩
theorem h3 : k3.Holds P E.nt c3 := piece_holds (cuts := []) hE hmx .nil (by kernel_rfl)
@[reducible] def i8 : J := ⟨[(0, .ptr (p 0) 0), (3, .ptr 3 0), (9, .leaf i), (12, .leaf i), (177, .leaf (.sc .bool))], [(3, false, (mk Y_impl_Message [(n 0, [p 7], []), (p 6, [p 7], [])])), (p 0, false, (mk Y_spec_l18Run [(p 0, [p 1], []), (n 3, [p 2, n 0], []), (n 4, [n 1], []), (n 5, [n 2], []), (p 4, [p 5], [p 6])]))], lb [p 1, p 2, p 6, p 7] [p 5, n 0, n 1, n 2]⟩
@[reducible] def e8 : List (Ex × J) := [(.normal, ⟨[(0, .ptr (p 0) 0), (3, .ptr 3 0), (9, .leaf i), (12, .leaf i)], [(3, false, (mk Y_impl_Message [(n 0, [p 7], []), (p 6, [p 7], [])])), (p 0, false, (mk Y_spec_l18Run [(p 0, [p 1], []), (n 3, [p 2, n 0], []), (n 4, [n 1], []), (n 5, [n 2], []), (p 4, [p 5], [p 6])]))], lb [p 1, p 2, p 6, p 7] [p 5, n 0, n 1, n 2]⟩)]
noncomputable def k8 : Cut := ⟨i8, e8, spec_l18AskAppend.P8⟩
theorem h8 : k8.Holds P E.nt c8 := piece_holds (cuts := []) hE hmx .nil (by kernel_rfl)
@[reducible] def i9 : J := ⟨[(0, .ptr (p 0) 0), (3, .ptr 3 0), (9, .leaf i), (12, .leaf i), (185, .leaf (.sc .bool))], [(3, false, (mk Y_impl_Message [(n 0, [p 7], []), (p 6, [p 7], [])])), (p 0, false, (mk Y_spec_l18Run [(p 0, [p 1], []), (n 3, [p 2, n 0], []), (n 4, [n 1], []), (n 5, [n 2], []), (p 4, [p 5], [p 6])]))], lb [p 1, p 2, p 6, p 7] [p 5, n 0, n 1, n 2]⟩
@[reducible] def e9 : List (Ex × J) := [(.normal, ⟨[(0, .ptr (p 0) 0), (3, .ptr 3 0), (9, .leaf i)], [(3, false, (mk Y_impl_Message [(n 0, [p 7], []), (p 6, [p 7], [])])), (p 0, false, (mk Y_spec_l18Run [(p 0, [p 1], []), (n 3, [p 2, n 0], []), (n 4, [n 1], []), (n 5, [n 2], []), (p 4, [p 5], [p 6])]))], lb [p 1, p 2, p 6, p 7] [p 5, n 0, n 1, n 2]⟩)]
noncomputable def k9 : Cut := ⟨i9, e9, spec_l18AskAppend.P9⟩
theorem h9 : k9.Holds P E.nt c9 := piece_holds (cuts := []) hE hmx .nil (by kernel_rfl)
noncomputable def s : Sig := ⟨53, 0, ji, jo, fun x => spec_l18AskAppend.f x.1.2.1 x.2.1⟩
theorem h : s.Holds P := mkC (fn := Tryz.f53) (body := b) (cuts := [(509, k1), (4092, k5), (16341, k2), (16381, k7), (32685, k3), (65533, k8), (131069, k9)]) (backs := []) hE hmx s (cut_cons (by kernel_rfl) h1 (cut_cons (by kernel_rfl) h5 (cut_cons (by kernel_rfl) h2 (cut_cons (by kernel_rfl) h7 (cut_cons (by kernel_rfl) h3 (cut_cons (by kernel_rfl) h8 (cut_cons (by kernel_rfl) h9 .nil))))))) (by kernel_rfl) (by kernel_rfl)
noncomputable def c : FnC P := ⟨s, ⟨by kernel_rfl, fun r => by kernel_rfl⟩, h⟩
end spec_l18AskAppend_m

namespace spec_l18Reply_m
noncomputable def b : Code := (Tryz.f54.body).getD .skip
@[reducible] def ji : J := ⟨[(0, .ptr (p 0) 0), (1, .agg (mk Y_impl_Message [(p 5, [p 7], []), (p 6, [p 7], [])]))], [(p 0, false, (mk Y_spec_l18Run [(p 0, [p 1], []), (p 1, [p 2], []), (p 2, [p 3], []), (p 3, [p 4], []), (p 4, [p 5], [p 6])]))], lb [p 1, p 2, p 3, p 6, p 7] [p 4, p 5]⟩
@[reducible] def jo : J := ⟨[], [(p 0, false, (mk Y_spec_l18Run [(p 0, [p 1], []), (n 1, [p 2], []), (n 2, [p 3, n 0], []), (n 3, [p 4, n 1], []), (n 4, [p 5, n 2], [p 6, n 3])]))], lb [p 1, p 2, p 3, p 6] [p 4, p 5, n 0, n 1, n 2, n 3]⟩
noncomputable def E : Env := mkE (P := P) tab Tryz.f54.ntmps [] [spec_l06Last.c, spec_l18Commit.c, spec_l18Send.c]
theorem hE : E.Ok P := mkE_ok tabOk eqs_nil
noncomputable def c0 : Code := (codeAt b 200 12).getD .skip
noncomputable def c2 : Code := (codeAt b 200 244).getD .skip
noncomputable def c1 : Code := (codeAt c2 200 25).getD .skip
noncomputable def c12 : Code := (codeAt b 200 2045).getD .skip
noncomputable def c8 : Code := (codeAt c12 200 10).getD .skip
noncomputable def c9 : Code := (codeAt c12 200 11).getD .skip
noncomputable def c10 : Code := (codeAt c12 200 29).getD .skip
noncomputable def c11 : Code := (codeAt c12 200 31).getD .skip
noncomputable def c3 : Code := (codeAt b 200 16341).getD .skip
noncomputable def c4 : Code := (codeAt b 200 32685).getD .skip
noncomputable def c5 : Code := (codeAt b 200 130749).getD .skip
noncomputable def c6 : Code := (codeAt b 200 1046012).getD .skip
noncomputable def c7 : Code := (codeAt b 200 1046013).getD .skip
@[reducible] def i0 : J := ⟨[(0, .ptr (p 0) 0), (3, .ptr 3 0)], [(3, false, (mk Y_impl_Message [(p 5, [p 7], []), (p 6, [p 7], [])])), (p 0, false, (mk Y_spec_l18Run [(p 0, [p 1], []), (p 1, [p 2], []), (p 2, [p 3], []), (p 3, [p 4], []), (p 4, [p 5], [p 6])]))], lb [p 1, p 2, p 3, p 6, p 7] [p 4, p 5]⟩
@[reducible] def e0 : List (Ex × J) := [(.normal, ⟨[(0, .ptr (p 0) 0), (3, .ptr 3 0), (25, .leaf (.sc .bool))], [(3, false, (mk Y_impl_Message [(p 5, [p 7], []), (p 6, [p 7], [])])), (p 0, false, (mk Y_spec_l18Run [(p 0, [p 1], []), (p 1, [p 2], []), (p 2, [p 3], []), (p 3, [p 4], []), (p 4, [p 5], [p 6])]))], lb [p 1, p 2, p 3, p 6, p 7] [p 4, p 5]⟩)]
noncomputable def k0 : Cut := ⟨i0, e0, spec_l18Reply.P0⟩
theorem h0 : k0.Holds P E.nt c0 := piece_holds (cuts := []) hE hmx .nil (by kernel_rfl)
@[reducible] def i1 : J := ⟨[(0, .ptr (p 0) 0), (3, .ptr 3 0), (4, .leaf i), (5, .leaf i), (47, .leaf (.sc .bool))], [(3, false, (mk Y_impl_Message [(p 5, [p 7], []), (p 6, [p 7], [])])), (p 0, false, (mk Y_spec_l18Run [(p 0, [p 1], []), (p 1, [p 2], []), (p 2, [p 3], []), (p 3, [p 4], []), (p 4, [p 5], [p 6])]))], lb [p 1, p 2, p 3, p 6, p 7] [p 4, p 5]⟩
@[reducible] def e1 : List (Ex × J) := [(.normal, ⟨[(0, .ptr (p 0) 0), (3, .ptr 3 0), (4, .leaf i), (5, .leaf i)], [(3, false, (mk Y_impl_Message [(p 5, [p 7], []), (p 6, [p 7], [])])), (p 0, false, (mk Y_spec_l18Run [(p 0, [p 1], []), (p 1, [p 2], []), (p 2, [p 3], []), (p 3, [p 4], []), (p 4, [p 5], [p 6])]))], lb [p 1, p 2, p 3, p 6, p 7] [p 4, p 5]⟩)]
noncomputable def k1 : Cut := ⟨i1, e1, spec_l18Reply.P1⟩
theorem h1 : k1.Holds P E.nt c1 := piece_holds (cuts := []) hE hmx .nil (by kernel_rfl)
@[reducible] def i2 : J := ⟨[(0, .ptr (p 0) 0), (3, .ptr 3 0), (4, .leaf i), (5, .leaf i)], [(3, false, (mk Y_impl_Message [(p 5, [p 7], []), (p 6, [p 7], [])])), (p 0, false, (mk Y_spec_l18Run [(p 0, [p 1], []), (p 1, [p 2], []), (p 2, [p 3], []), (p 3, [p 4], []), (p 4, [p 5], [p 6])]))], lb [p 1, p 2, p 3, p 6, p 7] [p 4, p 5]⟩
@[reducible] def e2 : List (Ex × J) := [((.exit 0), ⟨[(0, .ptr (p 0) 0), (3, .ptr 3 0), (4, .leaf i)], [(3, false, (mk Y_impl_Message [(p 5, [p 7], []), (p 6, [p 7], [])])), (p 0, false, (mk Y_spec_l18Run [(p 0, [p 1], []), (p 1, [p 2], []), (p 2, [p 3], []), (p 3, [p 4], []), (p 4, [p 5], [p 6])]))], lb [p 1, p 2, p 3, p 6, p 7] [p 4, p 5]⟩)]
noncomputable def k2 : Cut := ⟨i2, e2, spec_l18Reply.L2⟩
theorem h2 : k2.Holds P E.nt (.loop c2) := loop_holds (cuts := [(25, k1)]) hE hmx (cut_cons (by kernel_rfl) h1 .nil) (by kernel_rfl)
@[reducible] def i8 : J := ⟨[(0, .ptr (p 0) 0), (3, .ptr 3 0), (4, .leaf i), (7, .ptr 7 0)], [(3, false, (mk Y_impl_Message [(p 5, [p 7], []), (p 6, [p 7], [])])), (7, false, (mk Y_impl_Peer [])), (p 0, false, (mk Y_spec_l18Run [(p 0, [p 1], []), (p 1, [p 2], []), (p 2, [p 3], []), (p 3, [p 4], []), (p 4, [p 5], [p 6])]))], lb [p 1, p 2, p 3, p 6, p 7] [p 4, p 5]⟩
@[reducible] def e8 : List (Ex × J) := [(.normal, ⟨[(0, .ptr (p 0) 0), (3, .ptr 3 0), (4, .leaf i), (7, .ptr 7 0), (129, .leaf (.sc .bool))], [(3, false, (mk Y_impl_Message [(p 5, [p 7], []), (p 6, [p 7], [])])), (7, false, (mk Y_impl_Peer [])), (p 0, false, (mk Y_spec_l18Run [(p 0, [p 1], []), (p 1, [p 2], []), (p 2, [p 3], []), (p 3, [p 4], []), (p 4, [p 5], [p 6])]))], lb [p 1, p 2, p 3, p 6, p 7] [p 4, p 5]⟩)]
noncomputable def k8 : Cut := ⟨i8, e8, spec_l18Reply.P8⟩
theorem h8 : k8.Holds P E.nt c8 := piece_holds (cuts := []) hE hmx .nil (by kernel_rfl)
@[reducible] def i9 : J := ⟨[(0, .ptr (p 0) 0), (3, .ptr 3 0), (4, .leaf i), (7, .ptr 7 0), (129, .leaf (.sc .bool))], [(3, false, (mk Y_impl_Message [(p 5, [p 7], []), (p 6, [p 7], [])])), (7, false, (mk Y_impl_Peer [])), (p 0, false, (mk Y_spec_l18Run [(p 0, [p 1], []), (p 1, [p 2], []), (p 2, [p 3], []), (p 3, [p 4], []), (p 4, [p 5], [p 6])]))], lb [p 1, p 2, p 3, p 6, p 7] [p 4, p 5]⟩
@[reducible] def e9 : List (Ex × J) := [(.normal, ⟨[(0, .ptr (p 0) 0), (4, .leaf i), (7, .ptr 7 0)], [(7, false, (mk Y_impl_Peer [])), (p 0, false, (mk Y_spec_l18Run [(p 0, [p 1], []), (p 1, [p 2], []), (p 2, [p 3], []), (p 3, [p 4], []), (p 4, [p 5], [p 6])]))], lb [p 1, p 2, p 3, p 6] [p 4, p 5]⟩)]
noncomputable def k9 : Cut := ⟨i9, e9, spec_l18Reply.P9⟩
theorem h9 : k9.Holds P E.nt c9 := piece_holds (cuts := []) hE hmx .nil (by kernel_rfl)
@[reducible] def i10 : J := ⟨[(0, .ptr (p 0) 0), (4, .leaf i), (7, .ptr 7 0), (9, .leaf i), (140, .leaf (.sc .bool))], [(7, false, (mk Y_impl_Peer [])), (p 0, false, (mk Y_spec_l18Run [(p 0, [p 1], []), (p 1, [p 2], []), (p 2, [p 3], []), (p 3, [p 4], []), (p 4, [p 5], [p 6])]))], lb [p 1, p 2, p 3, p 6] [p 4, p 5]⟩
@[reducible] def e10 : List (Ex × J) := [(.normal, ⟨[(0, .ptr (p 0) 0), (4, .leaf i), (7, .ptr 7 0), (9, .leaf i)], [(7, false, (mk Y_impl_Peer [])), (p 0, false, (mk Y_spec_l18Run [(p 0, [p 1], []), (p 1, [p 2], []), (p 2, [p 3], []), (p 3, [p 4], []), (p 4, [p 5], [p 6])]))], lb [p 1, p 2, p 3, p 6] [p 4, p 5]⟩)]
noncomputable def k10 : Cut := ⟨i10, e10, spec_l18Reply.P10⟩
theorem h10 : k10.Holds P E.nt c10 := piece_holds (cuts := []) hE hmx .nil (by kernel_rfl)
@[reducible] def i11 : J := ⟨[(0, .ptr (p 0) 0), (4, .leaf i), (7, .ptr 7 0), (9, .leaf i), (147, .leaf (.sc .bool))], [(7, false, (mk Y_impl_Peer [])), (p 0, false, (mk Y_spec_l18Run [(p 0, [p 1], []), (p 1, [p 2], []), (p 2, [p 3], []), (p 3, [p 4], []), (p 4, [p 5], [p 6])]))], lb [p 1, p 2, p 3, p 6] [p 4, p 5]⟩
@[reducible] def e11 : List (Ex × J) := [(.normal, ⟨[(0, .ptr (p 0) 0), (4, .leaf i), (7, .ptr 7 0)], [(7, false, (mk Y_impl_Peer [])), (p 0, false, (mk Y_spec_l18Run [(p 0, [p 1], []), (p 1, [p 2], []), (p 2, [p 3], []), (p 3, [p 4], []), (p 4, [p 5], [p 6])]))], lb [p 1, p 2, p 3, p 6] [p 4, p 5]⟩)]
noncomputable def k11 : Cut := ⟨i11, e11, spec_l18Reply.P11⟩
theorem h11 : k11.Holds P E.nt c11 := piece_holds (cuts := []) hE hmx .nil (by kernel_rfl)
@[reducible] def i12 : J := ⟨[(0, .ptr (p 0) 0), (3, .ptr 3 0), (4, .leaf i), (7, .ptr 7 0), (114, .leaf (.sc .bool))], [(3, false, (mk Y_impl_Message [(p 5, [p 7], []), (p 6, [p 7], [])])), (7, false, (mk Y_impl_Peer [])), (p 0, false, (mk Y_spec_l18Run [(p 0, [p 1], []), (p 1, [p 2], []), (p 2, [p 3], []), (p 3, [p 4], []), (p 4, [p 5], [p 6])]))], lb [p 1, p 2, p 3, p 6, p 7] [p 4, p 5]⟩
@[reducible] def e12 : List (Ex × J) := [(.normal, ⟨[(0, .ptr (p 0) 0), (4, .leaf i), (7, .ptr 7 0)], [(7, false, (mk Y_impl_Peer [])), (p 0, false, (mk Y_spec_l18Run [(p 0, [p 1], []), (p 1, [p 2], []), (p 2, [p 3], []), (p 3, [p 4], []), (p 4, [p 5], [p 6])]))], lb [p 1, p 2, p 3, p 6] [p 4, p 5]⟩)]
noncomputable def k12 : Cut := ⟨i12, e12, spec_l18Reply.P12⟩
theorem h12 : k12.Holds P E.nt c12 := piece_holds (cuts := [(10, k8), (11, k9), (29, k10), (31, k11)]) hE hmx (cut_cons (by kernel_rfl) h8 (cut_cons (by kernel_rfl) h9 (cut_cons (by kernel_rfl) h10 (cut_cons (by kernel_rfl) h11 .nil)))) (by kernel_rfl)
@[reducible] def i3 : J := ⟨[(0, .ptr (p 0) 0), (3, .ptr 3 0), (4, .leaf i), (6, .leaf i), (7, .ptr 7 0), (8, .leaf i), (71, .leaf (.sc .bool))], [(3, false, (mk Y_impl_Message [(p 5, [p 7], []), (p 6, [p 7], [])])), (7, false, (mk Y_impl_Peer [])), (p 0, false, (mk Y_spec_l18Run [(p 0, [p 1], []), (p 1, [p 2], []), (p 2, [p 3], []), (p 3, [p 4], []), (p 4, [p 5], [p 6])]))], lb [p 1, p 2, p 3, p 6, p 7] [p 4, p 5]⟩
@[reducible] def e3 : List (Ex × J) := [(.normal, ⟨[(0, .ptr (p 0) 0), (3, .ptr 3 0), (4, .leaf i), (6, .leaf i), (7, .ptr 7 0), (8, .leaf i)], [(3, false, (mk Y_impl_Message [(p 5, [p 7], []), (p 6, [p 7], [])])), (7, false, (mk Y_impl_Peer [])), (p 0, false, (mk Y_spec_l18Run [(p 0, [p 1], []), (p 1, [p 2], []), (p 2, [p 3], []), (p 3, [p 4], []), (p 4, [p 5], [p 6])]))], lb [p 1, p 2, p 3, p 6, p 7] [p 4, p 5]⟩)]
noncomputable def k3 : Cut := ⟨i3, e3, spec_l18Reply.P3⟩
theorem h3 : k3.Holds P E.nt c3 := piece_holds (cuts := []) hE hmx .nil (by kernel_rfl)
@[reducible] def i4 : J := ⟨[(0, .ptr (p 0) 0), (3, .ptr 3 0), (4, .leaf i), (6, .leaf i), (7, .ptr 7 0), (8, .leaf i), (76, .leaf (.sc .bool))], [(3, false, (mk Y_impl_Message [(p 5, [p 7], []), (p 6, [p 7], [])])), (7, false, (mk Y_impl_Peer [])), (p 0, false, (mk Y_spec_l18Run [(p 0, [p 1], []), (p 1, [p 2], []), (p 2, [p 3], []), (p 3, [p 4], []), (p 4, [p 5], [p 6])]))], lb [p 1, p 2, p 3, p 6, p 7] [p 4, p 5]⟩
@[reducible] def e4 : List (Ex × J) := [(.normal, ⟨[(0, .ptr (p 0) 0), (3, .ptr 3 0), (4, .leaf i), (6, .leaf i), (7, .ptr 7 0)], [(3, false, (mk Y_impl_Message [(p 5, [p 7], []), (p 6, [p 7], [])])), (7, false, (mk Y_impl_Peer [])), (p 0, false, (mk Y_spec_l18Run [(p 0, [p 1], []), (p 1, [p 2], []), (p 2, [p 3], []), (p 3, [p 4], []), (p 4, [p 5], [p 6])]))], lb [p 1, p 2, p 3, p 6, p 7] [p 4, p 5]⟩)]
noncomputable def k4 : Cut := ⟨i4, e4, spec_l18Reply.P4⟩
theorem h4 : k4.Holds P E.nt c4 := piece_holds (cuts := []) hE hmx .nil (by kernel_rfl)
@[reducible] def i5 : J := ⟨[(0, .ptr (p 0) 0), (4, .leaf i), (6, .leaf i), (7, .ptr 7 0), (85, .leaf (.sc .bool))], [(7, false, (mk Y_impl_Peer [])), (p 0, false, (mk Y_spec_l18Run [(p 0, [p 1], []), (p 1, [p 2], []), (p 2, [p 3], []), (p 3, [p 4], []), (p 4, [p 5], [p 6])]))], lb [p 1, p 2, p 3, p 6] [p 4, p 5]⟩
@[reducible] def e5 : List (Ex × J) := [(.normal, ⟨[(0, .ptr (p 0) 0), (4, .leaf i), (6, .leaf i), (7, .ptr 7 0)], [(7, false, (mk Y_impl_Peer [])), (p 0, false, (mk Y_spec_l18Run [(p 0, [p 1], []), (p 1, [p 2], []), (p 2, [p 3], []), (p 3, [p 4], []), (p 4, [p 5], [p 6])]))], lb [p 1, p 2, p 3, p 6] [p 4, p 5]⟩)]
noncomputable def k5 : Cut := ⟨i5, e5, spec_l18Reply.P5⟩
theorem h5 : k5.Holds P E.nt c5 := piece_holds (cuts := []) hE hmx .nil (by kernel_rfl)
@[reducible] def i6 : J := ⟨[(0, .ptr (p 0) 0), (6, .leaf i), (7, .ptr 7 0)], [(7, false, (mk Y_impl_Peer [])), (p 0, false, (mk Y_spec_l18Run [(p 0, [p 1], []), (p 1, [p 2], []), (n 2, [p 3, n 0], []), (n 3, [p 4, n 1], []), (p 4, [p 5], [p 6])]))], lb [p 1, p 2, p 3, p 6] [p 4, p 5, n 0, n 1]⟩
@[reducible] def e6 : List (Ex × J) := [(.normal, ⟨[(0, .ptr (p 0) 0), (7, .ptr 7 0), (108, .leaf (.sc .bool))], [(7, false, (mk Y_impl_Peer [])), (p 0, false, (mk Y_spec_l18Run [(p 0, [p 1], []), (p 1, [p 2], []), (n 2, [p 3, n 0], []), (n 3, [p 4, n 1], []), (p 4, [p 5], [p 6])]))], lb [p 1, p 2, p 3, p 6] [p 4, p 5, n 0, n 1]⟩)]
noncomputable def k6 : Cut := ⟨i6, e6, spec_l18Reply.P6⟩
theorem h6 : k6.Holds P E.nt c6 := piece_holds (cuts := []) hE hmx .nil (by kernel_rfl)
@[reducible] def i7 : J := ⟨[(0, .ptr (p 0) 0), (7, .ptr 7 0), (108, .leaf (.sc .bool))], [(7, false, (mk Y_impl_Peer [])), (p 0, false, (mk Y_spec_l18Run [(p 0, [p 1], []), (p 1, [p 2], []), (n 2, [p 3, n 0], []), (n 3, [p 4, n 1], []), (p 4, [p 5], [p 6])]))], lb [p 1, p 2, p 3, p 6] [p 4, p 5, n 0, n 1]⟩
@[reducible] def e7 : List (Ex × J) := [(.normal, ⟨[], [(p 0, false, (mk Y_spec_l18Run [(p 0, [p 1], []), (n 1, [p 2], []), (n 2, [p 3, n 0], []), (n 3, [p 4, n 1], []), (n 4, [p 5, n 2], [p 6, n 3])]))], lb [p 1, p 2, p 3, p 6] [p 4, p 5, n 0, n 1, n 2, n 3]⟩)]
noncomputable def k7 : Cut := ⟨i7, e7, spec_l18Reply.P7⟩
theorem h7 : k7.Holds P E.nt c7 := piece_holds (cuts := []) hE hmx .nil (by kernel_rfl)
noncomputable def s : Sig := ⟨54, 0, ji, jo, fun x => spec_l18Reply.f x.1.2.1 x.2.1⟩
theorem h : s.Holds P := mkC (fn := Tryz.f54) (body := b) (cuts := [(12, k0), (122, k2), (2045, k12), (16341, k3), (32685, k4), (130749, k5), (1046012, k6), (1046013, k7)]) (backs := []) hE hmx s (cut_cons (by kernel_rfl) h0 (cut_cons (by kernel_rfl) h2 (cut_cons (by kernel_rfl) h12 (cut_cons (by kernel_rfl) h3 (cut_cons (by kernel_rfl) h4 (cut_cons (by kernel_rfl) h5 (cut_cons (by kernel_rfl) h6 (cut_cons (by kernel_rfl) h7 .nil)))))))) (by kernel_rfl) (by kernel_rfl)
noncomputable def c : FnC P := ⟨s, ⟨by kernel_rfl, fun r => by kernel_rfl⟩, h⟩
end spec_l18Reply_m

namespace spec_Receive_m2
noncomputable def b : Code := (Tryz.f11.body).getD .skip
@[reducible] def ji : J := ⟨[(0, .agg (mk Y_impl_Node [(p 0, [p 1], []), (p 1, [p 1], []), (p 2, [p 1], []), (p 3, [p 1], [])])), (1, .agg (mk Y_impl_Message [(p 4, [p 5], []), (p 5, [p 5], [])]))], [], lb [p 1, p 5] []⟩
@[reducible] def jo : J := ⟨[(0, .agg (mk Y_impl_Node [(n 0, [n 0], []), (n 1, [n 1], []), (n 2, [n 2], []), (n 3, [n 3], [])])), (1, .leaf (.sl (.of Y_impl_Message) (n 4) [n 4] [n 5])), (2, .leaf (.sc .bool))], [], lb [] [n 0, n 1, n 2, n 3, n 4, n 5]⟩
noncomputable def E : Env := mkE (P := P) tab Tryz.f11.ntmps [] [spec_NodeOk_m.c, spec_MessageOk_m.c, spec_l18Copy_m.c, spec_l18Follow.c, spec_l18AskVote_m.c, spec_l18TellVote_m.c, spec_l18AskAppend_m.c, spec_l18Reply_m.c]
theorem hE : E.Ok P := mkE_ok tabOk eqs_nil
noncomputable def c0 : Code := (codeAt b 200 12).getD .skip
noncomputable def c1 : Code := (codeAt b 200 61).getD .skip
noncomputable def c8 : Code := (codeAt b 200 501).getD .skip
noncomputable def c7 : Code := (codeAt c8 200 7).getD .skip
noncomputable def c6 : Code := (codeAt c7 200 7).getD .skip
noncomputable def c5 : Code := (codeAt c6 200 7).getD .skip
noncomputable def c4 : Code := (codeAt c5 200 7).getD .skip
noncomputable def c3 : Code := (codeAt c4 200 5).getD .skip
noncomputable def c2 : Code := (codeAt c6 200 13).getD .skip
@[reducible] def i0 : J := ⟨[(2, .ptr 2 0), (3, .ptr 3 0), (4, .ptr 4 0)], [(2, false, (mk Y_impl_Node [(p 0, [p 1], []), (p 1, [p 1], []), (p 2, [p 1], []), (p 3, [p 1], [])])), (3, false, (mk Y_impl_Message [(p 4, [p 5], []), (p 5, [p 5], [])])), (4, false, (mk Y_impl_Node [(n 6, [], []), (n 7, [], []), (n 8, [], []), (n 9, [], [])]))], lb [p 1, p 5] []⟩
@[reducible] def e0 : List (Ex × J) := [(.normal, ⟨[(2, .ptr 2 0), (3, .ptr 3 0), (4, .ptr 4 0), (22, .leaf (.sc .bool))], [(2, false, (mk Y_impl_Node [(p 0, [p 1], []), (p 1, [p 1], []), (p 2, [p 1], []), (p 3, [p 1], [])])), (3, false, (mk Y_impl_Message [(p 4, [p 5], []), (p 5, [p 5], [])])), (4, false, (mk Y_impl_Node [(n 6, [], []), (n 7, [], []), (n 8, [], []), (n 9, [], [])]))], lb [p 1, p 5] []⟩)]
noncomputable def k0 : Cut := ⟨i0, e0, spec_Receive.P0⟩
theorem h0 : k0.Holds P E.nt c0 := piece_holds (cuts := []) hE hmx .nil (by kernel_rfl)
@[reducible] def i1 : J := ⟨[(3, .ptr 3 0), (4, .ptr 4 0), (7, .ptr 28 0), (33, .leaf (.sc .bool))], [(3, false, (mk Y_impl_Message [(p 4, [p 5], []), (p 5, [p 5], [])])), (4, false, (mk Y_impl_Node [(n 2, [], []), (n 3, [], []), (n 4, [], []), (n 5, [], [])])), (28, false, (mk Y_spec_l18Run [(n 6, [n 0], []), (n 7, [n 1], []), (n 8, [n 2], []), (n 9, [n 3], []), (n 10, [], [])]))], lb [p 5] [n 0, n 1, n 2, n 3]⟩
@[reducible] def e1 : List (Ex × J) := [(.normal, ⟨[(3, .ptr 3 0), (4, .ptr 4 0), (7, .ptr 28 0)], [(3, false, (mk Y_impl_Message [(p 4, [p 5], []), (p 5, [p 5], [])])), (4, false, (mk Y_impl_Node [(n 2, [], []), (n 3, [], []), (n 4, [], []), (n 5, [], [])])), (28, false, (mk Y_spec_l18Run [(n 6, [n 0], []), (n 7, [n 1], []), (n 8, [n 2], []), (n 9, [n 3], []), (n 10, [], [])]))], lb [p 5] [n 0, n 1, n 2, n 3]⟩)]
noncomputable def k1 : Cut := ⟨i1, e1, spec_Receive.P1⟩
theorem h1 : k1.Holds P E.nt c1 := piece_holds (cuts := []) hE hmx .nil (by kernel_rfl)
@[reducible] def i3 : J := ⟨[(3, .ptr 3 0), (4, .ptr 4 0), (7, .ptr 28 0), (78, .leaf (.sc .bool))], [(3, false, (mk Y_impl_Message [(p 4, [p 5], []), (p 5, [p 5], [])])), (4, false, (mk Y_impl_Node [(n 2, [], []), (n 3, [], []), (n 4, [], []), (n 5, [], [])])), (28, false, (mk Y_spec_l18Run [(n 6, [n 0], []), (n 7, [n 1], []), (n 8, [n 2], []), (n 9, [n 3], []), (n 10, [], [])]))], lb [p 5] [n 0, n 1, n 2, n 3]⟩
@[reducible] def e3 : List (Ex × J) := [(.normal, ⟨[(4, .ptr 4 0), (7, .ptr 28 0)], [(4, false, (mk Y_impl_Node [(n 0, [], []), (n 1, [], []), (n 2, [], []), (n 3, [], [])])), (28, false, (mk Y_spec_l18Run [(n 4, [n 0], []), (n 5, [n 1], []), (n 6, [n 2], []), (n 7, [n 3], []), (n 8, [], [])]))], lb [] [n 0, n 1, n 2, n 3]⟩)]
noncomputable def k3 : Cut := ⟨i3, e3, spec_Receive.P3⟩
theorem h3 : k3.Holds P E.nt c3 := piece_holds (cuts := []) hE hmx .nil (by kernel_rfl)
@[reducible] def i4 : J := ⟨[(3, .ptr 3 0), (4, .ptr 4 0), (7, .ptr 28 0), (69, .leaf (.sc .bool))], [(3, false, (mk Y_impl_Message [(p 4, [p 5], []), (p 5, [p 5], [])])), (4, false, (mk Y_impl_Node [(n 2, [], []), (n 3, [], []), (n 4, [], []), (n 5, [], [])])), (28, false, (mk Y_spec_l18Run [(n 6, [n 0], []), (n 7, [n 1], []), (n 8, [n 2], []), (n 9, [n 3], []), (n 10, [], [])]))], lb [p 5] [n 0, n 1, n 2, n 3]⟩
@[reducible] def e4 : List (Ex × J) := [(.normal, ⟨[(4, .ptr 4 0), (7, .ptr 28 0)], [(4, false, (mk Y_impl_Node [(n 0, [], []), (n 1, [], []), (n 2, [], []), (n 3, [], [])])), (28, false, (mk Y_spec_l18Run [(n 4, [n 0], []), (n 5, [n 1], []), (n 6, [n 2], []), (n 7, [n 3], []), (n 8, [], [])]))], lb [] [n 0, n 1, n 2, n 3]⟩)]
noncomputable def k4 : Cut := ⟨i4, e4, spec_Receive.P4⟩
theorem h4 : k4.Holds P E.nt c4 := piece_holds (cuts := [(5, k3)]) hE hmx (cut_cons (by kernel_rfl) h3 .nil) (by kernel_rfl)
@[reducible] def i5 : J := ⟨[(3, .ptr 3 0), (4, .ptr 4 0), (7, .ptr 28 0), (47, .leaf i), (63, .leaf (.sc .bool))], [(3, false, (mk Y_impl_Message [(p 4, [p 5], []), (p 5, [p 5], [])])), (4, false, (mk Y_impl_Node [(n 2, [], []), (n 3, [], []), (n 4, [], []), (n 5, [], [])])), (28, false, (mk Y_spec_l18Run [(n 6, [n 0], []), (n 7, [n 1], []), (n 8, [n 2], []), (n 9, [n 3], []), (n 10, [], [])]))], lb [p 5] [n 0, n 1, n 2, n 3]⟩
@[reducible] def e5 : List (Ex × J) := [(.normal, ⟨[(4, .ptr 4 0), (7, .ptr 28 0)], [(4, false, (mk Y_impl_Node [(n 0, [], []), (n 1, [], []), (n 2, [], []), (n 3, [], [])])), (28, false, (mk Y_spec_l18Run [(n 4, [n 0], []), (n 5, [n 1], []), (n 6, [n 2], []), (n 7, [n 3], []), (n 8, [n 4], [n 5])]))], lb [] [n 0, n 1, n 2, n 3, n 4, n 5]⟩)]
noncomputable def k5 : Cut := ⟨i5, e5, spec_Receive.P5⟩
theorem h5 : k5.Holds P E.nt c5 := piece_holds (cuts := [(7, k4)]) hE hmx (cut_cons (by kernel_rfl) h4 .nil) (by kernel_rfl)
@[reducible] def i2 : J := ⟨[(3, .ptr 3 0), (4, .ptr 4 0), (7, .ptr 28 0), (47, .leaf i), (63, .leaf (.sc .bool))], [(3, false, (mk Y_impl_Message [(p 4, [p 5], []), (p 5, [p 5], [])])), (4, false, (mk Y_impl_Node [(n 2, [], []), (n 3, [], []), (n 4, [], []), (n 5, [], [])])), (28, false, (mk Y_spec_l18Run [(n 6, [n 0], []), (n 7, [n 1], []), (n 8, [n 2], []), (n 9, [n 3], []), (n 10, [], [])]))], lb [p 5] [n 0, n 1, n 2, n 3]⟩
@[reducible] def e2 : List (Ex × J) := [(.normal, ⟨[(3, .ptr 3 0), (4, .ptr 4 0), (7, .ptr 28 0), (47, .leaf i), (63, .leaf (.sc .bool))], [(3, false, (mk Y_impl_Message [(p 4, [p 5], []), (p 5, [p 5], [])])), (4, false, (mk Y_impl_Node [(n 2, [], []), (n 3, [], []), (n 4, [], []), (n 5, [], [])])), (28, false, (mk Y_spec_l18Run [(n 6, [n 0], []), (n 7, [n 1], []), (n 8, [n 2], []), (n 9, [n 3], []), (n 10, [], [])]))], lb [p 5] [n 0, n 1, n 2, n 3]⟩)]
noncomputable def k2 : Cut := ⟨i2, e2, spec_Receive.P2⟩
theorem h2 : k2.Holds P E.nt c2 := piece_holds (cuts := []) hE hmx .nil (by kernel_rfl)
@[reducible] def i6 : J := ⟨[(3, .ptr 3 0), (4, .ptr 4 0), (7, .ptr 28 0), (47, .leaf i), (58, .leaf (.sc .bool))], [(3, false, (mk Y_impl_Message [(p 4, [p 5], []), (p 5, [p 5], [])])), (4, false, (mk Y_impl_Node [(n 2, [], []), (n 3, [], []), (n 4, [], []), (n 5, [], [])])), (28, false, (mk Y_spec_l18Run [(n 6, [n 0], []), (n 7, [n 1], []), (n 8, [n 2], []), (n 9, [n 3], []), (n 10, [], [])]))], lb [p 5] [n 0, n 1, n 2, n 3]⟩
@[reducible] def e6 : List (Ex × J) := [(.normal, ⟨[(4, .ptr 4 0), (7, .ptr 28 0)], [(4, false, (mk Y_impl_Node [(n 0, [], []), (n 1, [], []), (n 2, [], []), (n 3, [], [])])), (28, false, (mk Y_spec_l18Run [(n 4, [n 0], []), (n 5, [n 1], []), (n 6, [n 2], []), (n 7, [n 3], []), (n 8, [n 4], [n 5])]))], lb [] [n 0, n 1, n 2, n 3, n 4, n 5]⟩)]
noncomputable def k6 : Cut := ⟨i6, e6, spec_Receive.P6⟩
theorem h6 : k6.Holds P E.nt c6 := piece_holds (cuts := [(7, k5), (13, k2)]) hE hmx (cut_cons (by kernel_rfl) h5 (cut_cons (by kernel_rfl) h2 .nil)) (by kernel_rfl)
@[reducible] def i7 : J := ⟨[(3, .ptr 3 0), (4, .ptr 4 0), (7, .ptr 28 0), (47, .leaf i), (53, .leaf (.sc .bool))], [(3, false, (mk Y_impl_Message [(p 4, [p 5], []), (p 5, [p 5], [])])), (4, false, (mk Y_impl_Node [(n 2, [], []), (n 3, [], []), (n 4, [], []), (n 5, [], [])])), (28, false, (mk Y_spec_l18Run [(n 6, [n 0], []), (n 7, [n 1], []), (n 8, [n 2], []), (n 9, [n 3], []), (n 10, [], [])]))], lb [p 5] [n 0, n 1, n 2, n 3]⟩
@[reducible] def e7 : List (Ex × J) := [(.normal, ⟨[(4, .ptr 4 0), (7, .ptr 28 0)], [(4, false, (mk Y_impl_Node [(n 0, [], []), (n 1, [], []), (n 2, [], []), (n 3, [], [])])), (28, false, (mk Y_spec_l18Run [(n 4, [n 0], []), (n 5, [n 1], []), (n 6, [n 2], []), (n 7, [n 3], []), (n 8, [n 4], [n 5])]))], lb [] [n 0, n 1, n 2, n 3, n 4, n 5]⟩)]
noncomputable def k7 : Cut := ⟨i7, e7, spec_Receive.P7⟩
theorem h7 : k7.Holds P E.nt c7 := piece_holds (cuts := [(7, k6)]) hE hmx (cut_cons (by kernel_rfl) h6 .nil) (by kernel_rfl)
@[reducible] def i8 : J := ⟨[(3, .ptr 3 0), (4, .ptr 4 0), (7, .ptr 28 0), (47, .leaf i), (48, .leaf (.sc .bool))], [(3, false, (mk Y_impl_Message [(p 4, [p 5], []), (p 5, [p 5], [])])), (4, false, (mk Y_impl_Node [(n 2, [], []), (n 3, [], []), (n 4, [], []), (n 5, [], [])])), (28, false, (mk Y_spec_l18Run [(n 6, [n 0], []), (n 7, [n 1], []), (n 8, [n 2], []), (n 9, [n 3], []), (n 10, [], [])]))], lb [p 5] [n 0, n 1, n 2, n 3]⟩
@[reducible] def e8 : List (Ex × J) := [(.normal, ⟨[(4, .ptr 4 0), (7, .ptr 28 0)], [(4, false, (mk Y_impl_Node [(n 0, [], []), (n 1, [], []), (n 2, [], []), (n 3, [], [])])), (28, false, (mk Y_spec_l18Run [(n 4, [n 0], []), (n 5, [n 1], []), (n 6, [n 2], []), (n 7, [n 3], []), (n 8, [n 4], [n 5])]))], lb [] [n 0, n 1, n 2, n 3, n 4, n 5]⟩)]
noncomputable def k8 : Cut := ⟨i8, e8, spec_Receive.P8⟩
theorem h8 : k8.Holds P E.nt c8 := piece_holds (cuts := [(7, k7)]) hE hmx (cut_cons (by kernel_rfl) h7 .nil) (by kernel_rfl)
noncomputable def s : Sig := ⟨11, 3, ji, jo, fun x => spec_Receive.f x.1.1 x.1.2.1⟩
theorem h : s.Holds P := mkC (fn := Tryz.f11) (body := b) (cuts := [(12, k0), (61, k1), (501, k8)]) (backs := []) hE hmx s (cut_cons (by kernel_rfl) h0 (cut_cons (by kernel_rfl) h1 (cut_cons (by kernel_rfl) h8 .nil))) (by kernel_rfl) (by kernel_rfl)
noncomputable def c : FnC P := ⟨s, ⟨by kernel_rfl, fun r => by kernel_rfl⟩, h⟩
end spec_Receive_m2

namespace spec_l18Play
noncomputable def b : Code := (Tryz.f25.body).getD .skip
@[reducible] def ji : J := ⟨[(0, .ptr (p 0) 0), (1, .leaf i)], [(p 0, false, (mk Y_spec_l01Cur [(p 0, [p 1], [])]))], lb [p 1] []⟩
@[reducible] def jo : J := ⟨[(0, .ptr 29 0)], [(29, false, (mk Y_spec_l18Cluster [(n 0, [n 0], [n 1]), (n 1, [n 2], [n 3])])), (p 0, false, (mk Y_spec_l01Cur [(p 0, [p 1], [])]))], lb [p 1] [n 0, n 1, n 2, n 3]⟩
noncomputable def E : Env := mkE (P := P) tab Tryz.f25.ntmps [] [spec_l01Once.c, spec_l05Conf.c, spec_NodeNew.c, spec_l01Below.c, spec_Tick_m.c, spec_l18Take.c, spec_l05Right.c, spec_Propose_m.c, spec_Settle_m.c, spec_Receive_m2.c]
theorem hE : E.Ok P := mkE_ok tabOk eqs_nil
noncomputable def c0 : Code := (codeAt b 200 61).getD .skip
noncomputable def c1 : Code := (codeAt b 200 500).getD .skip
noncomputable def c15 : Code := (codeAt b 200 1012).getD .skip
noncomputable def c14 : Code := (codeAt c15 200 205).getD .skip
noncomputable def c13 : Code := (codeAt c14 200 7).getD .skip
noncomputable def c12 : Code := (codeAt c13 200 7).getD .skip
noncomputable def c8 : Code := (codeAt c12 200 5).getD .skip
noncomputable def c7 : Code := (codeAt c8 200 11).getD .skip
noncomputable def c11 : Code := (codeAt c12 200 7).getD .skip
noncomputable def c9 : Code := (codeAt c11 200 45).getD .skip
noncomputable def c10 : Code := (codeAt c11 200 95).getD .skip
noncomputable def c5 : Code := (codeAt c13 200 36).getD .skip
noncomputable def c4 : Code := (codeAt c5 200 25).getD .skip
noncomputable def c6 : Code := (codeAt c13 200 47).getD .skip
noncomputable def c3 : Code := (codeAt c14 200 11).getD .skip
noncomputable def c2 : Code := (codeAt c15 200 409).getD .skip
@[reducible] def i0 : J := ⟨[(0, .ptr (p 0) 0), (1, .leaf i), (5, .ptr 29 0), (6, .leaf (.sl I (n 0) [n 0] [])), (32, .leaf (.sc .bool))], [(29, false, (mk Y_spec_l18Cluster [(n 1, [], []), (n 2, [], [])])), (p 0, false, (mk Y_spec_l01Cur [(p 0, [p 1], [])]))], lb [p 1] [n 0]⟩
@[reducible] def e0 : List (Ex × J) := [(.normal, ⟨[(0, .ptr (p 0) 0), (1, .leaf i), (5, .ptr 29 0), (6, .leaf (.sl I (n 0) [n 0] []))], [(29, false, (mk Y_spec_l18Cluster [(n 1, [], []), (n 2, [], [])])), (p 0, false, (mk Y_spec_l01Cur [(p 0, [p 1], [])]))], lb [p 1] [n 0]⟩)]
noncomputable def k0 : Cut := ⟨i0, e0, spec_l18Play.P0⟩
theorem h0 : k0.Holds P E.nt c0 := piece_holds (cuts := []) hE hmx .nil (by kernel_rfl)
@[reducible] def i1 : J := ⟨[(0, .ptr (p 0) 0), (1, .leaf i), (5, .ptr 29 0), (6, .leaf (.sl I (n 0) [n 0] [])), (7, .leaf i)], [(29, false, (mk Y_spec_l18Cluster [(n 1, [n 1], [n 2]), (n 2, [], [])])), (p 0, false, (mk Y_spec_l01Cur [(p 0, [p 1], [])]))], lb [p 1] [n 0, n 1, n 2]⟩
@[reducible] def e1 : List (Ex × J) := [((.exit 0), ⟨[(0, .ptr (p 0) 0), (1, .leaf i), (5, .ptr 29 0)], [(29, false, (mk Y_spec_l18Cluster [(n 0, [n 0], [n 1]), (n 1, [], [])])), (p 0, false, (mk Y_spec_l01Cur [(p 0, [p 1], [])]))], lb [p 1] [n 0, n 1]⟩)]
noncomputable def k1 : Cut := ⟨i1, e1, spec_l18Play.L1⟩
theorem h1 : k1.Holds P E.nt (.loop c1) := loop_holds (cuts := []) hE hmx .nil (by kernel_rfl)
@[reducible] def i7 : J := ⟨[(0, .ptr (p 0) 0), (1, .leaf i), (5, .ptr 29 0), (10, .leaf i), (11, .leaf i), (21, .ptr 21 0), (232, .leaf (.sc .bool))], [(21, false, (mk Y_impl_Node [(n 0, [n 0], []), (n 1, [n 1], []), (n 2, [n 2], []), (n 3, [n 3], [])])), (29, false, (mk Y_spec_l18Cluster [(n 4, [n 4], [n 5]), (n 5, [n 6], [n 7])])), (p 0, false, (mk Y_spec_l01Cur [(p 0, [p 1], [])]))], lb [p 1] [n 0, n 1, n 2, n 3, n 4, n 5, n 6, n 7]⟩
@[reducible] def e7 : List (Ex × J) := [(.normal, ⟨[(0, .ptr (p 0) 0), (1, .leaf i), (5, .ptr 29 0), (10, .leaf i)], [(29, false, (mk Y_spec_l18Cluster [(n 0, [n 0], [n 1]), (n 1, [n 2], [n 3])])), (p 0, false, (mk Y_spec_l01Cur [(p 0, [p 1], [])]))], lb [p 1] [n 0, n 1, n 2, n 3]⟩)]
noncomputable def k7 : Cut := ⟨i7, e7, spec_l18Play.P7⟩
theorem h7 : k7.Holds P E.nt c7 := piece_holds (cuts := []) hE hmx .nil (by kernel_rfl)
@[reducible] def i8 : J := ⟨[(0, .ptr (p 0) 0), (1, .leaf i), (5, .ptr 29 0), (10, .leaf i), (11, .leaf i), (209, .leaf (.sc .bool))], [(29, false, (mk Y_spec_l18Cluster [(n 0, [n 0], [n 1]), (n 1, [n 2], [n 3])])), (p 0, false, (mk Y_spec_l01Cur [(p 0, [p 1], [])]))], lb [p 1] [n 0, n 1, n 2, n 3]⟩
@[reducible] def e8 : List (Ex × J) := [(.normal, ⟨[(0, .ptr (p 0) 0), (1, .leaf i), (5, .ptr 29 0), (10, .leaf i)], [(29, false, (mk Y_spec_l18Cluster [(n 0, [n 0], [n 1]), (n 1, [n 2], [n 3])])), (p 0, false, (mk Y_spec_l01Cur [(p 0, [p 1], [])]))], lb [p 1] [n 0, n 1, n 2, n 3]⟩)]
noncomputable def k8 : Cut := ⟨i8, e8, spec_l18Play.P8⟩
theorem h8 : k8.Holds P E.nt c8 := piece_holds (cuts := [(11, k7)]) hE hmx (cut_cons (by kernel_rfl) h7 .nil) (by kernel_rfl)
@[reducible] def i9 : J := ⟨[(0, .ptr (p 0) 0), (1, .leaf i), (5, .ptr 29 0), (10, .leaf i), (23, .leaf i), (24, .ptr 24 0), (90, .leaf (.sc .bool))], [(24, false, (mk Y_impl_Message [(n 0, [n 0], []), (n 1, [n 0], [])])), (29, false, (mk Y_spec_l18Cluster [(n 2, [n 1], [n 2]), (n 3, [n 3], [n 0])])), (p 0, false, (mk Y_spec_l01Cur [(p 0, [p 1], [])]))], lb [p 1] [n 0, n 1, n 2, n 3]⟩
@[reducible] def e9 : List (Ex × J) := [(.normal, ⟨[(0, .ptr (p 0) 0), (1, .leaf i), (5, .ptr 29 0), (10, .leaf i), (24, .ptr 24 0)], [(24, false, (mk Y_impl_Message [(n 0, [n 0], []), (n 1, [n 0], [])])), (29, false, (mk Y_spec_l18Cluster [(n 2, [n 1], [n 2]), (n 3, [n 3], [n 0])])), (p 0, false, (mk Y_spec_l01Cur [(p 0, [p 1], [])]))], lb [p 1] [n 0, n 1, n 2, n 3]⟩)]
noncomputable def k9 : Cut := ⟨i9, e9, spec_l18Play.P9⟩
theorem h9 : k9.Holds P E.nt c9 := piece_holds (cuts := []) hE hmx .nil (by kernel_rfl)
@[reducible] def i10 : J := ⟨[(0, .ptr (p 0) 0), (1, .leaf i), (5, .ptr 29 0), (10, .leaf i), (24, .ptr 24 0), (25, .ptr 25 0), (26, .leaf (.sl (.of Y_impl_Message) (n 0) [n 0] [n 1])), (125, .leaf (.sc .bool))], [(24, false, (mk Y_impl_Message [(n 1, [n 2], []), (n 2, [n 2], [])])), (25, false, (mk Y_impl_Node [(n 3, [n 3], []), (n 4, [n 4], []), (n 5, [n 5], []), (n 6, [n 6], [])])), (29, false, (mk Y_spec_l18Cluster [(n 7, [n 7], [n 8]), (n 8, [n 9], [n 2])])), (p 0, false, (mk Y_spec_l01Cur [(p 0, [p 1], [])]))], lb [p 1] [n 0, n 1, n 2, n 3, n 4, n 5, n 6, n 7, n 8, n 9]⟩
@[reducible] def e10 : List (Ex × J) := [(.normal, ⟨[(0, .ptr (p 0) 0), (1, .leaf i), (5, .ptr 29 0), (10, .leaf i)], [(29, false, (mk Y_spec_l18Cluster [(n 0, [n 0], [n 1]), (n 1, [n 2], [n 3])])), (p 0, false, (mk Y_spec_l01Cur [(p 0, [p 1], [])]))], lb [p 1] [n 0, n 1, n 2, n 3]⟩)]
noncomputable def k10 : Cut := ⟨i10, e10, spec_l18Play.P10⟩
theorem h10 : k10.Holds P E.nt c10 := piece_holds (cuts := []) hE hmx .nil (by kernel_rfl)
@[reducible] def i11 : J := ⟨[(0, .ptr (p 0) 0), (1, .leaf i), (5, .ptr 29 0), (10, .leaf i), (73, .leaf (.sc .bool))], [(29, false, (mk Y_spec_l18Cluster [(n 0, [n 0], [n 1]), (n 1, [n 2], [n 3])])), (p 0, false, (mk Y_spec_l01Cur [(p 0, [p 1], [])]))], lb [p 1] [n 0, n 1, n 2, n 3]⟩
@[reducible] def e11 : List (Ex × J) := [(.normal, ⟨[(0, .ptr (p 0) 0), (1, .leaf i), (5, .ptr 29 0), (10, .leaf i)], [(29, false, (mk Y_spec_l18Cluster [(n 0, [n 0], [n 1]), (n 1, [n 2], [n 3])])), (p 0, false, (mk Y_spec_l01Cur [(p 0, [p 1], [])]))], lb [p 1] [n 0, n 1, n 2, n 3]⟩)]
noncomputable def k11 : Cut := ⟨i11, e11, spec_l18Play.P11⟩
theorem h11 : k11.Holds P E.nt c11 := piece_holds (cuts := [(45, k9), (95, k10)]) hE hmx (cut_cons (by kernel_rfl) h9 (cut_cons (by kernel_rfl) h10 .nil)) (by kernel_rfl)
@[reducible] def i12 : J := ⟨[(0, .ptr (p 0) 0), (1, .leaf i), (5, .ptr 29 0), (10, .leaf i), (11, .leaf i), (206, .leaf (.sc .bool))], [(29, false, (mk Y_spec_l18Cluster [(n 0, [n 0], [n 1]), (n 1, [n 2], [n 3])])), (p 0, false, (mk Y_spec_l01Cur [(p 0, [p 1], [])]))], lb [p 1] [n 0, n 1, n 2, n 3]⟩
@[reducible] def e12 : List (Ex × J) := [(.normal, ⟨[(0, .ptr (p 0) 0), (1, .leaf i), (5, .ptr 29 0), (10, .leaf i)], [(29, false, (mk Y_spec_l18Cluster [(n 0, [n 0], [n 1]), (n 1, [n 2], [n 3])])), (p 0, false, (mk Y_spec_l01Cur [(p 0, [p 1], [])]))], lb [p 1] [n 0, n 1, n 2, n 3]⟩)]
noncomputable def k12 : Cut := ⟨i12, e12, spec_l18Play.P12⟩
theorem h12 : k12.Holds P E.nt c12 := piece_holds (cuts := [(5, k8), (7, k11)]) hE hmx (cut_cons (by kernel_rfl) h8 (cut_cons (by kernel_rfl) h11 .nil)) (by kernel_rfl)
@[reducible] def i4 : J := ⟨[(0, .ptr (p 0) 0), (1, .leaf i), (5, .ptr 29 0), (10, .leaf i), (11, .leaf i), (15, .leaf i), (171, .leaf (.sc .bool))], [(29, false, (mk Y_spec_l18Cluster [(n 0, [n 0], [n 1]), (n 1, [n 2], [n 3])])), (p 0, false, (mk Y_spec_l01Cur [(p 0, [p 1], [])]))], lb [p 1] [n 0, n 1, n 2, n 3]⟩
@[reducible] def e4 : List (Ex × J) := [(.normal, ⟨[(0, .ptr (p 0) 0), (1, .leaf i), (5, .ptr 29 0), (10, .leaf i), (11, .leaf i), (15, .leaf i)], [(29, false, (mk Y_spec_l18Cluster [(n 0, [n 0], [n 1]), (n 1, [n 2], [n 3])])), (p 0, false, (mk Y_spec_l01Cur [(p 0, [p 1], [])]))], lb [p 1] [n 0, n 1, n 2, n 3]⟩)]
noncomputable def k4 : Cut := ⟨i4, e4, spec_l18Play.P4⟩
theorem h4 : k4.Holds P E.nt c4 := piece_holds (cuts := []) hE hmx .nil (by kernel_rfl)
@[reducible] def i5 : J := ⟨[(0, .ptr (p 0) 0), (1, .leaf i), (5, .ptr 29 0), (10, .leaf i), (11, .leaf i), (15, .leaf i)], [(29, false, (mk Y_spec_l18Cluster [(n 0, [n 0], [n 1]), (n 1, [n 2], [n 3])])), (p 0, false, (mk Y_spec_l01Cur [(p 0, [p 1], [])]))], lb [p 1] [n 0, n 1, n 2, n 3]⟩
@[reducible] def e5 : List (Ex × J) := [((.exit 5), ⟨[(0, .ptr (p 0) 0), (1, .leaf i), (5, .ptr 29 0), (10, .leaf i), (11, .leaf i)], [(29, false, (mk Y_spec_l18Cluster [(n 0, [n 0], [n 1]), (n 1, [n 2], [n 3])])), (p 0, false, (mk Y_spec_l01Cur [(p 0, [p 1], [])]))], lb [p 1] [n 0, n 1, n 2, n 3]⟩)]
noncomputable def k5 : Cut := ⟨i5, e5, spec_l18Play.L5⟩
theorem h5 : k5.Holds P E.nt (.loop c5) := loop_holds (cuts := [(25, k4)]) hE hmx (cut_cons (by kernel_rfl) h4 .nil) (by kernel_rfl)
@[reducible] def i6 : J := ⟨[(0, .ptr (p 0) 0), (1, .leaf i), (5, .ptr 29 0), (10, .leaf i), (11, .leaf i), (17, .ptr 17 0), (18, .leaf (.sl (.of Y_impl_Message) (n 0) [n 0] [n 1])), (200, .leaf (.sc .bool))], [(17, false, (mk Y_impl_Node [(n 1, [n 2], []), (n 2, [n 3], []), (n 3, [n 4], []), (n 4, [n 5], [])])), (29, false, (mk Y_spec_l18Cluster [(n 5, [n 6], [n 7]), (n 6, [n 8], [n 9])])), (p 0, false, (mk Y_spec_l01Cur [(p 0, [p 1], [])]))], lb [p 1] [n 0, n 1, n 2, n 3, n 4, n 5, n 6, n 7, n 8, n 9]⟩
@[reducible] def e6 : List (Ex × J) := [(.normal, ⟨[(0, .ptr (p 0) 0), (1, .leaf i), (5, .ptr 29 0), (10, .leaf i)], [(29, false, (mk Y_spec_l18Cluster [(n 0, [n 0], [n 1]), (n 1, [n 2], [n 3])])), (p 0, false, (mk Y_spec_l01Cur [(p 0, [p 1], [])]))], lb [p 1] [n 0, n 1, n 2, n 3]⟩)]
noncomputable def k6 : Cut := ⟨i6, e6, spec_l18Play.P6⟩
theorem h6 : k6.Holds P E.nt c6 := piece_holds (cuts := []) hE hmx .nil (by kernel_rfl)
@[reducible] def i13 : J := ⟨[(0, .ptr (p 0) 0), (1, .leaf i), (5, .ptr 29 0), (10, .leaf i), (11, .leaf i), (67, .leaf i), (157, .leaf (.sc .bool))], [(29, false, (mk Y_spec_l18Cluster [(n 0, [n 0], [n 1]), (n 1, [n 2], [n 3])])), (p 0, false, (mk Y_spec_l01Cur [(p 0, [p 1], [])]))], lb [p 1] [n 0, n 1, n 2, n 3]⟩
@[reducible] def e13 : List (Ex × J) := [(.normal, ⟨[(0, .ptr (p 0) 0), (1, .leaf i), (5, .ptr 29 0), (10, .leaf i)], [(29, false, (mk Y_spec_l18Cluster [(n 0, [n 0], [n 1]), (n 1, [n 2], [n 3])])), (p 0, false, (mk Y_spec_l01Cur [(p 0, [p 1], [])]))], lb [p 1] [n 0, n 1, n 2, n 3]⟩)]
noncomputable def k13 : Cut := ⟨i13, e13, spec_l18Play.P13⟩
theorem h13 : k13.Holds P E.nt c13 := piece_holds (cuts := [(7, k12), (18, k5), (47, k6)]) hE hmx (cut_cons (by kernel_rfl) h12 (cut_cons (by kernel_rfl) h5 (cut_cons (by kernel_rfl) h6 .nil))) (by kernel_rfl)
@[reducible] def i3 : J := ⟨[(0, .ptr (p 0) 0), (1, .leaf i), (5, .ptr 29 0), (10, .leaf i), (11, .leaf i), (12, .ptr 12 0), (13, .leaf (.sl (.of Y_impl_Message) (n 0) [n 0] [n 1])), (151, .leaf (.sc .bool))], [(12, false, (mk Y_impl_Node [(n 1, [n 2], []), (n 2, [n 3], []), (n 3, [n 4], []), (n 4, [n 5], [])])), (29, false, (mk Y_spec_l18Cluster [(n 5, [n 6], [n 7]), (n 6, [n 8], [n 9])])), (p 0, false, (mk Y_spec_l01Cur [(p 0, [p 1], [])]))], lb [p 1] [n 0, n 1, n 2, n 3, n 4, n 5, n 6, n 7, n 8, n 9]⟩
@[reducible] def e3 : List (Ex × J) := [(.normal, ⟨[(0, .ptr (p 0) 0), (1, .leaf i), (5, .ptr 29 0), (10, .leaf i)], [(29, false, (mk Y_spec_l18Cluster [(n 0, [n 0], [n 1]), (n 1, [n 2], [n 3])])), (p 0, false, (mk Y_spec_l01Cur [(p 0, [p 1], [])]))], lb [p 1] [n 0, n 1, n 2, n 3]⟩)]
noncomputable def k3 : Cut := ⟨i3, e3, spec_l18Play.P3⟩
theorem h3 : k3.Holds P E.nt c3 := piece_holds (cuts := []) hE hmx .nil (by kernel_rfl)
@[reducible] def i14 : J := ⟨[(0, .ptr (p 0) 0), (1, .leaf i), (5, .ptr 29 0), (10, .leaf i), (11, .leaf i), (67, .leaf i), (133, .leaf (.sc .bool))], [(29, false, (mk Y_spec_l18Cluster [(n 0, [n 0], [n 1]), (n 1, [n 2], [n 3])])), (p 0, false, (mk Y_spec_l01Cur [(p 0, [p 1], [])]))], lb [p 1] [n 0, n 1, n 2, n 3]⟩
@[reducible] def e14 : List (Ex × J) := [(.normal, ⟨[(0, .ptr (p 0) 0), (1, .leaf i), (5, .ptr 29 0), (10, .leaf i)], [(29, false, (mk Y_spec_l18Cluster [(n 0, [n 0], [n 1]), (n 1, [n 2], [n 3])])), (p 0, false, (mk Y_spec_l01Cur [(p 0, [p 1], [])]))], lb [p 1] [n 0, n 1, n 2, n 3]⟩)]
noncomputable def k14 : Cut := ⟨i14, e14, spec_l18Play.P14⟩
theorem h14 : k14.Holds P E.nt c14 := piece_holds (cuts := [(7, k13), (11, k3)]) hE hmx (cut_cons (by kernel_rfl) h13 (cut_cons (by kernel_rfl) h3 .nil)) (by kernel_rfl)
@[reducible] def i2 : J := ⟨[(0, .ptr (p 0) 0), (1, .leaf i), (5, .ptr 29 0), (10, .leaf i), (11, .leaf i), (67, .leaf i), (133, .leaf (.sc .bool))], [(29, false, (mk Y_spec_l18Cluster [(n 0, [n 0], [n 1]), (n 1, [n 2], [n 3])])), (p 0, false, (mk Y_spec_l01Cur [(p 0, [p 1], [])]))], lb [p 1] [n 0, n 1, n 2, n 3]⟩
@[reducible] def e2 : List (Ex × J) := [(.normal, ⟨[(0, .ptr (p 0) 0), (1, .leaf i), (5, .ptr 29 0), (10, .leaf i), (11, .leaf i), (67, .leaf i), (133, .leaf (.sc .bool))], [(29, false, (mk Y_spec_l18Cluster [(n 0, [n 0], [n 1]), (n 1, [n 2], [n 3])])), (p 0, false, (mk Y_spec_l01Cur [(p 0, [p 1], [])]))], lb [p 1] [n 0, n 1, n 2, n 3]⟩)]
noncomputable def k2 : Cut := ⟨i2, e2, spec_l18Play.P2⟩
theorem h2 : k2.Holds P E.nt c2 := piece_holds (cuts := []) hE hmx .nil (by kernel_rfl)
@[reducible] def i15 : J := ⟨[(0, .ptr (p 0) 0), (1, .leaf i), (5, .ptr 29 0), (10, .leaf i)], [(29, false, (mk Y_spec_l18Cluster [(n 0, [n 0], [n 1]), (n 1, [n 2], [n 3])])), (p 0, false, (mk Y_spec_l01Cur [(p 0, [p 1], [])]))], lb [p 1] [n 0, n 1, n 2, n 3]⟩
@[reducible] def e15 : List (Ex × J) := [((.exit 2), ⟨[(5, .ptr 29 0)], [(29, false, (mk Y_spec_l18Cluster [(n 0, [n 0], [n 1]), (n 1, [n 2], [n 3])])), (p 0, false, (mk Y_spec_l01Cur [(p 0, [p 1], [])]))], lb [p 1] [n 0, n 1, n 2, n 3]⟩)]
noncomputable def k15 : Cut := ⟨i15, e15, spec_l18Play.L15⟩
theorem h15 : k15.Holds P E.nt (.loop c15) := loop_holds (cuts := [(205, k14), (409, k2)]) hE hmx (cut_cons (by kernel_rfl) h14 (cut_cons (by kernel_rfl) h2 .nil)) (by kernel_rfl)
noncomputable def s : Sig := ⟨25, 1, ji, jo, fun x => spec_l18Play.f x.1.2.1 x.2.1⟩
theorem h : s.Holds P := mkC (fn := Tryz.f25) (body := b) (cuts := [(61, k0), (250, k1), (506, k15)]) (backs := []) hE hmx s (cut_cons (by kernel_rfl) h0 (cut_cons (by kernel_rfl) h1 (cut_cons (by kernel_rfl) h15 .nil))) (by kernel_rfl) (by kernel_rfl)
noncomputable def c : FnC P := ⟨s, ⟨by kernel_rfl, fun r => by kernel_rfl⟩, h⟩
end spec_l18Play

namespace spec_l01Text
noncomputable def b : Code := (Tryz.f83.body).getD .skip
@[reducible] def ji : J := ⟨[(0, .ptr (p 0) 0), (1, .leaf i)], [(p 0, false, (mk Y_spec_l01Cur [(p 0, [p 1], [])]))], lb [p 1] []⟩
@[reducible] def jo : J := ⟨[(0, .leaf (.sc .str))], [(p 0, false, (mk Y_spec_l01Cur [(p 0, [p 1], [])]))], lb [p 1] []⟩
noncomputable def E : Env := mkE (P := P) tab Tryz.f83.ntmps [] [spec_l01Byte.c]
theorem hE : E.Ok P := mkE_ok tabOk eqs_nil
noncomputable def c0 : Code := (codeAt b 200 13).getD .skip
noncomputable def c1 : Code := (codeAt b 200 244).getD .skip
@[reducible] def i0 : J := ⟨[(0, .ptr (p 0) 0), (1, .leaf i), (8, .leaf (.sc .bool))], [(p 0, false, (mk Y_spec_l01Cur [(p 0, [p 1], [])]))], lb [p 1] []⟩
@[reducible] def e0 : List (Ex × J) := [(.normal, ⟨[(0, .ptr (p 0) 0), (1, .leaf i)], [(p 0, false, (mk Y_spec_l01Cur [(p 0, [p 1], [])]))], lb [p 1] []⟩)]
noncomputable def k0 : Cut := ⟨i0, e0, spec_l01Text.P0⟩
theorem h0 : k0.Holds P E.nt c0 := piece_holds (cuts := []) hE hmx .nil (by kernel_rfl)
@[reducible] def i1 : J := ⟨[(0, .ptr (p 0) 0), (1, .leaf i), (5, .leaf (.sl (.int .u8) (n 0) [n 0] [])), (6, .leaf i)], [(p 0, false, (mk Y_spec_l01Cur [(p 0, [p 1], [])]))], lb [p 1] [n 0]⟩
@[reducible] def e1 : List (Ex × J) := [((.exit 0), ⟨[(5, .leaf (.sl (.int .u8) (n 0) [n 0] []))], [(p 0, false, (mk Y_spec_l01Cur [(p 0, [p 1], [])]))], lb [p 1] [n 0]⟩)]
noncomputable def k1 : Cut := ⟨i1, e1, spec_l01Text.L1⟩
theorem h1 : k1.Holds P E.nt (.loop c1) := loop_holds (cuts := []) hE hmx .nil (by kernel_rfl)
noncomputable def s : Sig := ⟨83, 1, ji, jo, fun x => spec_l01Text.f x.1.2.1 x.2.1⟩
theorem h : s.Holds P := mkC (fn := Tryz.f83) (body := b) (cuts := [(13, k0), (122, k1)]) (backs := []) hE hmx s (cut_cons (by kernel_rfl) h0 (cut_cons (by kernel_rfl) h1 .nil)) (by kernel_rfl) (by kernel_rfl)
noncomputable def c : FnC P := ⟨s, ⟨by kernel_rfl, fun r => by kernel_rfl⟩, h⟩
end spec_l01Text

namespace spec_l17Right
noncomputable def b : Code := (Tryz.f28.body).getD .skip
@[reducible] def ji : J := ⟨[(0, .ptr (p 0) 0)], [(p 0, false, (mk Y_spec_l01Cur [(p 0, [p 1], [])]))], lb [p 1] []⟩
@[reducible] def jo : J := ⟨[(0, .agg (mk Y_impl_Message [(n 0, [n 0], []), (n 1, [n 1], [])]))], [(p 0, false, (mk Y_spec_l01Cur [(p 0, [p 1], [])]))], lb [p 1] [n 0, n 1]⟩
noncomputable def E : Env := mkE (P := P) tab Tryz.f28.ntmps [] [spec_l01Below.c, spec_l01Once.c, spec_l05Right.c, spec_l05Conf.c, spec_l01Text.c]
theorem hE : E.Ok P := mkE_ok tabOk eqs_nil
noncomputable def c2 : Code := (codeAt b 200 245).getD .skip
noncomputable def c1 : Code := (codeAt c2 200 7).getD .skip
noncomputable def c0 : Code := (codeAt c2 200 92).getD .skip
@[reducible] def i1 : J := ⟨[(0, .ptr (p 0) 0), (2, .ptr 2 0), (3, .ptr 3 0), (63, .leaf (.sc .bool))], [(2, false, (mk Y_impl_Message [(n 0, [], []), (n 1, [], [])])), (3, false, (mk Y_impl_Message [(n 2, [], []), (n 3, [], [])])), (p 0, false, (mk Y_spec_l01Cur [(p 0, [p 1], [])]))], lb [p 1] []⟩
@[reducible] def e1 : List (Ex × J) := [(.normal, ⟨[(2, .ptr 2 0), (3, .ptr 3 0)], [(2, false, (mk Y_impl_Message [(n 0, [], []), (n 1, [], [])])), (3, false, (mk Y_impl_Message [(n 2, [], []), (n 3, [n 0], [])])), (p 0, false, (mk Y_spec_l01Cur [(p 0, [p 1], [])]))], lb [p 1] [n 0]⟩)]
noncomputable def k1 : Cut := ⟨i1, e1, spec_l17Right.P1⟩
theorem h1 : k1.Holds P E.nt c1 := piece_holds (cuts := []) hE hmx .nil (by kernel_rfl)
@[reducible] def i0 : J := ⟨[(0, .ptr (p 0) 0), (2, .ptr 2 0), (3, .ptr 3 0), (4, .leaf i), (5, .leaf i)], [(2, false, (mk Y_impl_Message [(n 0, [], []), (n 1, [], [])])), (3, false, (mk Y_impl_Message [(n 2, [n 0], []), (n 3, [], [])])), (p 0, false, (mk Y_spec_l01Cur [(p 0, [p 1], [])]))], lb [p 1] [n 0]⟩
@[reducible] def e0 : List (Ex × J) := [((.exit 1), ⟨[(2, .ptr 2 0), (3, .ptr 3 0)], [(2, false, (mk Y_impl_Message [(n 0, [], []), (n 1, [], [])])), (3, false, (mk Y_impl_Message [(n 2, [n 0], []), (n 3, [], [])])), (p 0, false, (mk Y_spec_l01Cur [(p 0, [p 1], [])]))], lb [p 1] [n 0]⟩)]
noncomputable def k0 : Cut := ⟨i0, e0, spec_l17Right.L0⟩
theorem h0 : k0.Holds P E.nt (.loop c0) := loop_holds (cuts := []) hE hmx .nil (by kernel_rfl)
@[reducible] def i2 : J := ⟨[(0, .ptr (p 0) 0), (2, .ptr 2 0), (3, .ptr 3 0), (29, .leaf i), (30, .leaf (.sc .bool))], [(2, false, (mk Y_impl_Message [(n 0, [], []), (n 1, [], [])])), (3, false, (mk Y_impl_Message [(n 2, [], []), (n 3, [], [])])), (p 0, false, (mk Y_spec_l01Cur [(p 0, [p 1], [])]))], lb [p 1] []⟩
@[reducible] def e2 : List (Ex × J) := [(.normal, ⟨[(2, .ptr 2 0), (3, .ptr 3 0)], [(2, false, (mk Y_impl_Message [(n 0, [], []), (n 1, [], [])])), (3, false, (mk Y_impl_Message [(n 2, [n 0], []), (n 3, [n 1], [])])), (p 0, false, (mk Y_spec_l01Cur [(p 0, [p 1], [])]))], lb [p 1] [n 0, n 1]⟩)]
noncomputable def k2 : Cut := ⟨i2, e2, spec_l17Right.P2⟩
theorem h2 : k2.Holds P E.nt c2 := piece_holds (cuts := [(7, k1), (46, k0)]) hE hmx (cut_cons (by kernel_rfl) h1 (cut_cons (by kernel_rfl) h0 .nil)) (by kernel_rfl)
noncomputable def s : Sig := ⟨28, 1, ji, jo, fun x => spec_l17Right.f x.2.1⟩
theorem h : s.Holds P := mkC (fn := Tryz.f28) (body := b) (cuts := [(245, k2)]) (backs := []) hE hmx s (cut_cons (by kernel_rfl) h2 .nil) (by kernel_rfl) (by kernel_rfl)
noncomputable def c : FnC P := ⟨s, ⟨by kernel_rfl, fun r => by kernel_rfl⟩, h⟩
end spec_l17Right

namespace spec_DrawRightNode
noncomputable def b : Code := (Tryz.f6.body).getD .skip
@[reducible] def ji : J := ⟨[(0, .leaf (.sl (.int .u8) (p 0) [p 1] []))], [], lb [p 1] []⟩
@[reducible] def jo : J := ⟨[(0, .agg (mk Y_impl_Node [(n 0, [n 0], []), (n 1, [n 0], []), (n 2, [n 0], []), (n 3, [n 0], [])])), (1, .agg (mk Y_impl_Message [(n 4, [n 1], []), (n 5, [n 1], [])]))], [], lb [] [n 0, n 1]⟩
noncomputable def E : Env := mkE (P := P) tab Tryz.f6.ntmps [] [spec_l01New.c, spec_l18Steps.c, spec_l18Play.c, spec_l01Below.c, spec_l17Right.c, spec_l01Once.c]
theorem hE : E.Ok P := mkE_ok tabOk eqs_nil
noncomputable def c0 : Code := (codeAt b 200 252).getD .skip
noncomputable def c1 : Code := (codeAt b 200 253).getD .skip
noncomputable def c2 : Code := (codeAt b 200 1021).getD .skip
@[reducible] def i0 : J := ⟨[(2, .ptr 2 0), (3, .ptr 3 0), (4, .ptr 5000576 0), (5, .ptr 5000832 0), (6, .leaf i), (7, .ptr 7 0)], [(2, false, (mk Y_impl_Node [(n 0, [], []), (n 1, [], []), (n 2, [], []), (n 3, [], [])])), (3, false, (mk Y_impl_Message [(n 4, [], []), (n 5, [], [])])), (7, false, (mk Y_impl_Message [(n 6, [n 0], []), (n 7, [n 1], [])])), (5000576, false, (mk Y_spec_l01Cur [(p 0, [p 1], [])])), (5000832, false, (mk Y_spec_l18Cluster [(n 9, [n 2], [n 3]), (n 10, [n 4], [n 5])]))], lb [p 1] [n 0, n 1, n 2, n 3, n 4, n 5]⟩
@[reducible] def e0 : List (Ex × J) := [(.normal, ⟨[(2, .ptr 2 0), (3, .ptr 3 0), (4, .ptr 5000576 0), (5, .ptr 5000832 0), (6, .leaf i), (7, .ptr 7 0), (28, .leaf (.sc .bool))], [(2, false, (mk Y_impl_Node [(n 0, [], []), (n 1, [], []), (n 2, [], []), (n 3, [], [])])), (3, false, (mk Y_impl_Message [(n 4, [], []), (n 5, [], [])])), (7, false, (mk Y_impl_Message [(n 6, [n 0], []), (n 7, [n 1], [])])), (5000576, false, (mk Y_spec_l01Cur [(p 0, [p 1], [])])), (5000832, false, (mk Y_spec_l18Cluster [(n 9, [n 2], [n 3]), (n 10, [n 4], [n 5])]))], lb [p 1] [n 0, n 1, n 2, n 3, n 4, n 5]⟩)]
noncomputable def k0 : Cut := ⟨i0, e0, spec_DrawRightNode.P0⟩
theorem h0 : k0.Holds P E.nt c0 := piece_holds (cuts := []) hE hmx .nil (by kernel_rfl)
@[reducible] def i1 : J := ⟨[(2, .ptr 2 0), (3, .ptr 3 0), (4, .ptr 5000576 0), (5, .ptr 5000832 0), (6, .leaf i), (7, .ptr 7 0), (28, .leaf (.sc .bool))], [(2, false, (mk Y_impl_Node [(n 0, [], []), (n 1, [], []), (n 2, [], []), (n 3, [], [])])), (3, false, (mk Y_impl_Message [(n 4, [], []), (n 5, [], [])])), (7, false, (mk Y_impl_Message [(n 6, [n 0], []), (n 7, [n 1], [])])), (5000576, false, (mk Y_spec_l01Cur [(p 0, [p 1], [])])), (5000832, false, (mk Y_spec_l18Cluster [(n 9, [n 2], [n 3]), (n 10, [n 4], [n 5])]))], lb [p 1] [n 0, n 1, n 2, n 3, n 4, n 5]⟩
@[reducible] def e1 : List (Ex × J) := [(.normal, ⟨[(2, .ptr 2 0), (3, .ptr 3 0), (5, .ptr 5000832 0), (6, .leaf i), (7, .ptr 7 0)], [(2, false, (mk Y_impl_Node [(n 0, [], []), (n 1, [], []), (n 2, [], []), (n 3, [], [])])), (3, false, (mk Y_impl_Message [(n 4, [], []), (n 5, [], [])])), (7, false, (mk Y_impl_Message [(n 6, [n 0], []), (n 7, [n 0], [])])), (5000832, false, (mk Y_spec_l18Cluster [(n 8, [n 1], [n 2]), (n 9, [n 3], [n 0])]))], lb [] [n 0, n 1, n 2, n 3]⟩)]
noncomputable def k1 : Cut := ⟨i1, e1, spec_DrawRightNode.P1⟩
theorem h1 : k1.Holds P E.nt c1 := piece_holds (cuts := []) hE hmx .nil (by kernel_rfl)
@[reducible] def i2 : J := ⟨[(2, .ptr 2 0), (3, .ptr 3 0), (5, .ptr 5000832 0), (6, .leaf i), (7, .ptr 7 0), (52, .leaf (.sc .bool))], [(2, false, (mk Y_impl_Node [(n 0, [], []), (n 1, [], []), (n 2, [], []), (n 3, [], [])])), (3, false, (mk Y_impl_Message [(n 4, [], []), (n 5, [], [])])), (7, false, (mk Y_impl_Message [(n 6, [n 0], []), (n 7, [n 0], [])])), (5000832, false, (mk Y_spec_l18Cluster [(n 8, [n 1], [n 2]), (n 9, [n 3], [n 0])]))], lb [] [n 0, n 1, n 2, n 3]⟩
@[reducible] def e2 : List (Ex × J) := [(.normal, ⟨[(2, .ptr 2 0), (3, .ptr 3 0), (5, .ptr 5000832 0), (6, .leaf i), (7, .ptr 7 0)], [(2, false, (mk Y_impl_Node [(n 0, [], []), (n 1, [], []), (n 2, [], []), (n 3, [], [])])), (3, false, (mk Y_impl_Message [(n 4, [], []), (n 5, [], [])])), (7, false, (mk Y_impl_Message [(n 6, [n 0], []), (n 7, [n 0], [])])), (5000832, false, (mk Y_spec_l18Cluster [(n 8, [n 1], [n 2]), (n 9, [n 3], [n 0])]))], lb [] [n 0, n 1, n 2, n 3]⟩)]
noncomputable def k2 : Cut := ⟨i2, e2, spec_DrawRightNode.P2⟩
theorem h2 : k2.Holds P E.nt c2 := piece_holds (cuts := []) hE hmx .nil (by kernel_rfl)
noncomputable def s : Sig := ⟨6, 2, ji, jo, fun x => spec_DrawRightNode.f x.1.1⟩
theorem h : s.Holds P := mkC (fn := Tryz.f6) (body := b) (cuts := [(252, k0), (253, k1), (1021, k2)]) (backs := []) hE hmx s (cut_cons (by kernel_rfl) h0 (cut_cons (by kernel_rfl) h1 (cut_cons (by kernel_rfl) h2 .nil))) (by kernel_rfl) (by kernel_rfl)
noncomputable def c : FnC P := ⟨s, ⟨by kernel_rfl, fun r => by kernel_rfl⟩, h⟩
end spec_DrawRightNode

namespace impl_LogLast
noncomputable def b : Code := (Tryz.f30.body).getD .skip
@[reducible] def ji : J := ⟨[(0, .agg (mk Y_impl_Log [(p 0, [p 1], [])]))], [], lb [p 1] []⟩
@[reducible] def jo : J := ⟨[(0, .leaf i), (1, .leaf i)], [], []⟩
noncomputable def E : Env := mkE (P := P) tab Tryz.f30.ntmps [] []
theorem hE : E.Ok P := mkE_ok tabOk eqs_nil
noncomputable def s : Sig := ⟨30, 2, ji, jo, fun x => impl_LogLast.f x.1.1⟩
theorem h : s.Holds P := mkC (fn := Tryz.f30) (body := b) (cuts := []) (backs := []) hE hmx s .nil (by kernel_rfl) (by kernel_rfl)
noncomputable def c : FnC P := ⟨s, ⟨by kernel_rfl, fun r => by kernel_rfl⟩, h⟩
end impl_LogLast

namespace impl_within
noncomputable def b : Code := (Tryz.f35.body).getD .skip
@[reducible] def ji : J := ⟨[(0, .leaf i), (1, .leaf i), (2, .leaf i)], [], []⟩
@[reducible] def jo : J := ⟨[(0, .leaf (.sc .bool))], [], []⟩
noncomputable def E : Env := mkE (P := P) tab Tryz.f35.ntmps [] []
theorem hE : E.Ok P := mkE_ok tabOk eqs_nil
noncomputable def c0 : Code := (codeAt b 200 6).getD .skip
@[reducible] def i0 : J := ⟨[(0, .leaf i), (1, .leaf i), (2, .leaf i)], [], []⟩
@[reducible] def e0 : List (Ex × J) := [(.normal, ⟨[(6, .leaf (.sc .bool))], [], []⟩)]
noncomputable def k0 : Cut := ⟨i0, e0, impl_within.P0⟩
theorem h0 : k0.Holds P E.nt c0 := piece_holds (cuts := []) hE hmx .nil (by kernel_rfl)
noncomputable def s : Sig := ⟨35, 1, ji, jo, fun x => impl_within.f x.1.1 x.1.2.1 x.1.2.2.1⟩
theorem h : s.Holds P := mkC (fn := Tryz.f35) (body := b) (cuts := [(6, k0)]) (backs := []) hE hmx s (cut_cons (by kernel_rfl) h0 .nil) (by kernel_rfl) (by kernel_rfl)
noncomputable def c : FnC P := ⟨s, ⟨by kernel_rfl, fun r => by kernel_rfl⟩, h⟩
end impl_within

namespace impl_isNode
noncomputable def b : Code := (Tryz.f31.body).getD .skip
@[reducible] def ji : J := ⟨[(0, .leaf i)], [], []⟩
@[reducible] def jo : J := ⟨[(0, .leaf (.sc .bool))], [], []⟩
noncomputable def E : Env := mkE (P := P) tab Tryz.f31.ntmps [] [impl_within.c]
theorem hE : E.Ok P := mkE_ok tabOk eqs_nil
noncomputable def s : Sig := ⟨31, 1, ji, jo, fun x => impl_isNode.f x.1.1⟩
theorem h : s.Holds P := mkC (fn := Tryz.f31) (body := b) (cuts := []) (backs := []) hE hmx s .nil (by kernel_rfl) (by kernel_rfl)
noncomputable def c : FnC P := ⟨s, ⟨by kernel_rfl, fun r => by kernel_rfl⟩, h⟩
end impl_isNode

namespace impl_nodesOk
noncomputable def b : Code := (Tryz.f36.body).getD .skip
@[reducible] def ji : J := ⟨[(0, .leaf (.sl I (p 0) [p 1] []))], [], lb [p 1] []⟩
@[reducible] def jo : J := ⟨[(0, .leaf (.sc .bool))], [], []⟩
noncomputable def E : Env := mkE (P := P) tab Tryz.f36.ntmps [] [impl_isNode.c]
theorem hE : E.Ok P := mkE_ok tabOk eqs_nil
noncomputable def c1 : Code := (codeAt b 200 52).getD .skip
noncomputable def c0 : Code := (codeAt c1 200 114).getD .skip
@[reducible] def i0 : J := ⟨[(0, .leaf (.sl I (p 0) [p 1] [])), (3, .leaf i), (4, .leaf i), (5, .leaf (.sl I (n 1) [p 1] [])), (6, .leaf i), (7, .leaf i)], [], lb [p 1] []⟩
@[reducible] def e0 : List (Ex × J) := [(.normal, ⟨[(0, .leaf (.sl I (p 0) [p 1] [])), (5, .leaf (.sl I (n 1) [p 1] [])), (6, .leaf i), (7, .leaf i), (27, .leaf (.sc .bool))], [], lb [p 1] []⟩)]
noncomputable def k0 : Cut := ⟨i0, e0, impl_nodesOk.P0⟩
theorem h0 : k0.Holds P E.nt c0 := piece_holds (cuts := []) hE hmx .nil (by kernel_rfl)
@[reducible] def i1 : J := ⟨[(0, .leaf (.sl I (p 0) [p 1] [])), (5, .leaf (.sl I (n 1) [p 1] [])), (6, .leaf i), (7, .leaf i)], [], lb [p 1] []⟩
@[reducible] def e1 : List (Ex × J) := [((.exit 0), ⟨[], [], []⟩), (.ret, ⟨[(2, .leaf (.sc .bool))], [], []⟩)]
noncomputable def k1 : Cut := ⟨i1, e1, impl_nodesOk.L1⟩
theorem h1 : k1.Holds P E.nt (.loop c1) := loop_holds (cuts := [(114, k0)]) hE hmx (cut_cons (by kernel_rfl) h0 .nil) (by kernel_rfl)
noncomputable def s : Sig := ⟨36, 1, ji, jo, fun x => impl_nodesOk.f x.1.1⟩
theorem h : s.Holds P := mkC (fn := Tryz.f36) (body := b) (cuts := [(26, k1)]) (backs := []) hE hmx s (cut_cons (by kernel_rfl) h1 .nil) (by kernel_rfl) (by kernel_rfl)
noncomputable def c : FnC P := ⟨s, ⟨by kernel_rfl, fun r => by kernel_rfl⟩, h⟩
end impl_nodesOk

namespace impl_ConfOk
noncomputable def b : Code := (Tryz.f32.body).getD .skip
@[reducible] def ji : J := ⟨[(0, .leaf (.sl I (p 0) [p 1] []))], [], lb [p 1] []⟩
@[reducible] def jo : J := ⟨[(0, .leaf (.sc .bool))], [], []⟩
noncomputable def E : Env := mkE (P := P) tab Tryz.f32.ntmps [] [impl_nodesOk.c]
theorem hE : E.Ok P := mkE_ok tabOk eqs_nil
noncomputable def c0 : Code := (codeAt b 200 6).getD .skip
@[reducible] def i0 : J := ⟨[(0, .leaf (.sl I (p 0) [p 1] []))], [], lb [p 1] []⟩
@[reducible] def e0 : List (Ex × J) := [(.normal, ⟨[(2, .leaf (.sc .bool))], [], []⟩)]
noncomputable def k0 : Cut := ⟨i0, e0, impl_ConfOk.P0⟩
theorem h0 : k0.Holds P E.nt c0 := piece_holds (cuts := []) hE hmx .nil (by kernel_rfl)
noncomputable def s : Sig := ⟨32, 1, ji, jo, fun x => impl_ConfOk.f x.1.1⟩
theorem h : s.Holds P := mkC (fn := Tryz.f32) (body := b) (cuts := [(6, k0)]) (backs := []) hE hmx s (cut_cons (by kernel_rfl) h0 .nil) (by kernel_rfl) (by kernel_rfl)
noncomputable def c : FnC P := ⟨s, ⟨by kernel_rfl, fun r => by kernel_rfl⟩, h⟩
end impl_ConfOk

namespace impl_isTerm
noncomputable def b : Code := (Tryz.f86.body).getD .skip
@[reducible] def ji : J := ⟨[(0, .leaf i)], [], []⟩
@[reducible] def jo : J := ⟨[(0, .leaf (.sc .bool))], [], []⟩
noncomputable def E : Env := mkE (P := P) tab Tryz.f86.ntmps [] [impl_within.c]
theorem hE : E.Ok P := mkE_ok tabOk eqs_nil
noncomputable def s : Sig := ⟨86, 1, ji, jo, fun x => impl_isTerm.f x.1.1⟩
theorem h : s.Holds P := mkC (fn := Tryz.f86) (body := b) (cuts := []) (backs := []) hE hmx s .nil (by kernel_rfl) (by kernel_rfl)
noncomputable def c : FnC P := ⟨s, ⟨by kernel_rfl, fun r => by kernel_rfl⟩, h⟩
end impl_isTerm

namespace impl_ReadConf
noncomputable def b : Code := (Tryz.f134.body).getD .skip
@[reducible] def ji : J := ⟨[(0, .leaf (.sc .str))], [], []⟩
@[reducible] def jo : J := ⟨[(0, .leaf (.sl I (n 0) [n 0] [])), (1, .leaf (.sc .bool))], [], lb [] [n 0]⟩
noncomputable def E : Env := mkE (P := P) tab Tryz.f134.ntmps [] [impl_ConfOk.c]
theorem hE : E.Ok P := mkE_ok tabOk eqs_nil
noncomputable def c0 : Code := (codeAt b 200 116).getD .skip
@[reducible] def i0 : J := ⟨[(0, .leaf (.sc .str)), (4, .leaf (.sl I (n 0) [n 0] [])), (5, .leaf i)], [], lb [] [n 0]⟩
@[reducible] def e0 : List (Ex × J) := [((.exit 0), ⟨[(4, .leaf (.sl I (n 0) [n 0] []))], [], lb [] [n 0]⟩)]
noncomputable def k0 : Cut := ⟨i0, e0, impl_ReadConf.L0⟩
theorem h0 : k0.Holds P E.nt (.loop c0) := loop_holds (cuts := []) hE hmx .nil (by kernel_rfl)
noncomputable def s : Sig := ⟨134, 2, ji, jo, fun x => impl_ReadConf.f x.1.1⟩
theorem h : s.Holds P := mkC (fn := Tryz.f134) (body := b) (cuts := [(58, k0)]) (backs := []) hE hmx s (cut_cons (by kernel_rfl) h0 .nil) (by kernel_rfl) (by kernel_rfl)
noncomputable def c : FnC P := ⟨s, ⟨by kernel_rfl, fun r => by kernel_rfl⟩, h⟩
end impl_ReadConf

namespace impl_EntryOk
noncomputable def b : Code := (Tryz.f84.body).getD .skip
@[reducible] def ji : J := ⟨[(0, .agg (mk Y_impl_Entry []))], [], []⟩
@[reducible] def jo : J := ⟨[(0, .leaf (.sc .bool))], [], []⟩
noncomputable def E : Env := mkE (P := P) tab Tryz.f84.ntmps [] [impl_isTerm.c, impl_ReadConf.c]
theorem hE : E.Ok P := mkE_ok tabOk eqs_nil
noncomputable def c2 : Code := (codeAt b 200 14).getD .skip
noncomputable def c0 : Code := (codeAt b 200 212).getD .skip
noncomputable def c1 : Code := (codeAt b 200 1722).getD .skip
@[reducible] def i2 : J := ⟨[(1, .ptr 1 0)], [(1, false, (mk Y_impl_Entry []))], []⟩
@[reducible] def e2 : List (Ex × J) := [(.normal, ⟨[(2, .leaf (.sc .bool))], [], []⟩)]
noncomputable def k2 : Cut := ⟨i2, e2, impl_EntryOk.P2⟩
theorem h2 : k2.Holds P E.nt c2 := piece_holds (cuts := []) hE hmx .nil (by kernel_rfl)
@[reducible] def i0 : J := ⟨[(1, .ptr 1 0)], [(1, false, (mk Y_impl_Entry []))], []⟩
@[reducible] def e0 : List (Ex × J) := [(.normal, ⟨[(2, .leaf (.sc .bool))], [], []⟩)]
noncomputable def k0 : Cut := ⟨i0, e0, impl_EntryOk.P0⟩
theorem h0 : k0.Holds P E.nt c0 := piece_holds (cuts := []) hE hmx .nil (by kernel_rfl)
@[reducible] def i1 : J := ⟨[(1, .ptr 1 0), (4, .leaf (.sc .bool))], [(1, false, (mk Y_impl_Entry []))], []⟩
@[reducible] def e1 : List (Ex × J) := [(.normal, ⟨[(2, .leaf (.sc .bool))], [], []⟩)]
noncomputable def k1 : Cut := ⟨i1, e1, impl_EntryOk.P1⟩
theorem h1 : k1.Holds P E.nt c1 := piece_holds (cuts := []) hE hmx .nil (by kernel_rfl)
noncomputable def s : Sig := ⟨84, 1, ji, jo, fun x => impl_EntryOk.f x.1.1⟩
theorem h : s.Holds P := mkC (fn := Tryz.f84) (body := b) (cuts := [(14, k2), (212, k0), (1722, k1)]) (backs := []) hE hmx s (cut_cons (by kernel_rfl) h2 (cut_cons (by kernel_rfl) h0 (cut_cons (by kernel_rfl) h1 .nil))) (by kernel_rfl) (by kernel_rfl)
noncomputable def c : FnC P := ⟨s, ⟨by kernel_rfl, fun r => by kernel_rfl⟩, h⟩
end impl_EntryOk

namespace impl_isIndex
noncomputable def b : Code := (Tryz.f85.body).getD .skip
@[reducible] def ji : J := ⟨[(0, .leaf i)], [], []⟩
@[reducible] def jo : J := ⟨[(0, .leaf (.sc .bool))], [], []⟩
noncomputable def E : Env := mkE (P := P) tab Tryz.f85.ntmps [] [impl_within.c]
theorem hE : E.Ok P := mkE_ok tabOk eqs_nil
noncomputable def s : Sig := ⟨85, 1, ji, jo, fun x => impl_isIndex.f x.1.1⟩
theorem h : s.Holds P := mkC (fn := Tryz.f85) (body := b) (cuts := []) (backs := []) hE hmx s .nil (by kernel_rfl) (by kernel_rfl)
noncomputable def c : FnC P := ⟨s, ⟨by kernel_rfl, fun r => by kernel_rfl⟩, h⟩
end impl_isIndex

namespace impl_LogOk
noncomputable def b : Code := (Tryz.f33.body).getD .skip
@[reducible] def ji : J := ⟨[(0, .agg (mk Y_impl_Log [(p 0, [p 1], [])]))], [], lb [p 1] []⟩
@[reducible] def jo : J := ⟨[(0, .leaf (.sc .bool))], [], []⟩
noncomputable def E : Env := mkE (P := P) tab Tryz.f33.ntmps [] [impl_EntryOk.c, impl_isIndex.c, impl_isTerm.c]
theorem hE : E.Ok P := mkE_ok tabOk eqs_nil
noncomputable def c2 : Code := (codeAt b 200 30).getD .skip
noncomputable def c1 : Code := (codeAt b 200 116).getD .skip
noncomputable def c0 : Code := (codeAt c1 200 228).getD .skip
@[reducible] def i2 : J := ⟨[(1, .ptr 1 0)], [(1, false, (mk Y_impl_Log [(n 0, [p 1], [])]))], lb [p 1] []⟩
@[reducible] def e2 : List (Ex × J) := [(.normal, ⟨[(2, .leaf (.sc .bool))], [], []⟩)]
noncomputable def k2 : Cut := ⟨i2, e2, impl_LogOk.P2⟩
theorem h2 : k2.Holds P E.nt c2 := piece_holds (cuts := []) hE hmx .nil (by kernel_rfl)
@[reducible] def i0 : J := ⟨[(1, .ptr 1 0), (3, .leaf i), (5, .ptr 5 0), (9, .leaf (.sl (.of Y_impl_Entry) (p 0) [p 1] [])), (10, .leaf i), (11, .leaf i)], [(1, false, (mk Y_impl_Log [(n 1, [p 1], [])])), (5, false, (mk Y_impl_Entry []))], lb [p 1] []⟩
@[reducible] def e0 : List (Ex × J) := [(.normal, ⟨[(1, .ptr 1 0), (5, .ptr 5 0), (9, .leaf (.sl (.of Y_impl_Entry) (p 0) [p 1] [])), (10, .leaf i), (11, .leaf i), (23, .leaf (.sc .bool))], [(1, false, (mk Y_impl_Log [(n 1, [p 1], [])])), (5, false, (mk Y_impl_Entry []))], lb [p 1] []⟩)]
noncomputable def k0 : Cut := ⟨i0, e0, impl_LogOk.P0⟩
theorem h0 : k0.Holds P E.nt c0 := piece_holds (cuts := []) hE hmx .nil (by kernel_rfl)
@[reducible] def i1 : J := ⟨[(1, .ptr 1 0), (3, .leaf i), (9, .leaf (.sl (.of Y_impl_Entry) (p 0) [p 1] [])), (10, .leaf i), (11, .leaf i)], [(1, false, (mk Y_impl_Log [(n 1, [p 1], [])]))], lb [p 1] []⟩
@[reducible] def e1 : List (Ex × J) := [((.exit 0), ⟨[(1, .ptr 1 0)], [(1, false, (mk Y_impl_Log [(n 0, [p 1], [])]))], lb [p 1] []⟩), (.ret, ⟨[(2, .leaf (.sc .bool))], [], []⟩)]
noncomputable def k1 : Cut := ⟨i1, e1, impl_LogOk.L1⟩
theorem h1 : k1.Holds P E.nt (.loop c1) := loop_holds (cuts := [(228, k0)]) hE hmx (cut_cons (by kernel_rfl) h0 .nil) (by kernel_rfl)
noncomputable def s : Sig := ⟨33, 1, ji, jo, fun x => impl_LogOk.f x.1.1⟩
theorem h : s.Holds P := mkC (fn := Tryz.f33) (body := b) (cuts := [(30, k2), (58, k1)]) (backs := []) hE hmx s (cut_cons (by kernel_rfl) h2 (cut_cons (by kernel_rfl) h1 .nil)) (by kernel_rfl) (by kernel_rfl)
noncomputable def c : FnC P := ⟨s, ⟨by kernel_rfl, fun r => by kernel_rfl⟩, h⟩
end impl_LogOk

namespace impl_votesOk
noncomputable def b : Code := (Tryz.f34.body).getD .skip
@[reducible] def ji : J := ⟨[(0, .leaf i), (1, .leaf i)], [], []⟩
@[reducible] def jo : J := ⟨[(0, .leaf (.sc .bool))], [], []⟩
noncomputable def E : Env := mkE (P := P) tab Tryz.f34.ntmps [] [impl_isTerm.c, impl_within.c]
theorem hE : E.Ok P := mkE_ok tabOk eqs_nil
noncomputable def c0 : Code := (codeAt b 200 6).getD .skip
@[reducible] def i0 : J := ⟨[(0, .leaf i), (1, .leaf i)], [], []⟩
@[reducible] def e0 : List (Ex × J) := [(.normal, ⟨[(4, .leaf (.sc .bool))], [], []⟩)]
noncomputable def k0 : Cut := ⟨i0, e0, impl_votesOk.P0⟩
theorem h0 : k0.Holds P E.nt c0 := piece_holds (cuts := []) hE hmx .nil (by kernel_rfl)
noncomputable def s : Sig := ⟨34, 1, ji, jo, fun x => impl_votesOk.f x.1.1 x.1.2.1⟩
theorem h : s.Holds P := mkC (fn := Tryz.f34) (body := b) (cuts := [(6, k0)]) (backs := []) hE hmx s (cut_cons (by kernel_rfl) h0 .nil) (by kernel_rfl) (by kernel_rfl)
noncomputable def c : FnC P := ⟨s, ⟨by kernel_rfl, fun r => by kernel_rfl⟩, h⟩
end impl_votesOk

namespace impl_copyInts
noncomputable def b : Code := (Tryz.f89.body).getD .skip
@[reducible] def ji : J := ⟨[(0, .leaf (.sl I (p 0) [p 1] []))], [], lb [p 1] []⟩
@[reducible] def jo : J := ⟨[(0, .leaf (.sl I (n 0) [n 0] []))], [], lb [] [n 0]⟩
noncomputable def E : Env := mkE (P := P) tab Tryz.f89.ntmps [] []
theorem hE : E.Ok P := mkE_ok tabOk eqs_nil
noncomputable def s : Sig := ⟨89, 1, ji, jo, fun x => impl_copyInts.f x.1.1⟩
theorem h : s.Holds P := mkC (fn := Tryz.f89) (body := b) (cuts := []) (backs := []) hE hmx s .nil (by kernel_rfl) (by kernel_rfl)
noncomputable def c : FnC P := ⟨s, ⟨by kernel_rfl, fun r => by kernel_rfl⟩, h⟩
end impl_copyInts

namespace impl_lastConf_m
noncomputable def b : Code := (Tryz.f99.body).getD .skip
@[reducible] def ji : J := ⟨[(0, .agg (mk Y_impl_Node [(p 0, [p 1], []), (p 1, [p 1], []), (p 2, [p 1], []), (p 3, [p 1], [])])), (1, .leaf i)], [], lb [p 1] []⟩
@[reducible] def jo : J := ⟨[(0, .leaf i), (1, .leaf (.sl I (n 0) [n 0] []))], [], lb [] [n 0]⟩
noncomputable def E : Env := mkE (P := P) tab Tryz.f99.ntmps [] [impl_ReadConf.c, impl_copyInts.c]
theorem hE : E.Ok P := mkE_ok tabOk eqs_nil
noncomputable def c1 : Code := (codeAt b 200 52).getD .skip
noncomputable def c0 : Code := (codeAt c1 200 102).getD .skip
@[reducible] def i0 : J := ⟨[(1, .leaf i), (2, .ptr 2 0), (6, .leaf i), (7, .ptr 7 0), (8, .leaf (.sl I (n 0) [n 0] [])), (9, .leaf (.sc .bool))], [(2, false, (mk Y_impl_Node [(p 0, [p 1], []), (p 1, [p 1], []), (p 2, [p 1], []), (p 3, [p 1], [])])), (7, false, (mk Y_impl_Entry []))], lb [p 1] [n 0]⟩
@[reducible] def e0 : List (Ex × J) := [(.normal, ⟨[(1, .leaf i), (2, .ptr 2 0), (6, .leaf i), (8, .leaf (.sl I (n 0) [n 0] [])), (46, .leaf (.sc .bool))], [(2, false, (mk Y_impl_Node [(p 0, [p 1], []), (p 1, [p 1], []), (p 2, [p 1], []), (p 3, [p 1], [])]))], lb [p 1] [n 0]⟩)]
noncomputable def k0 : Cut := ⟨i0, e0, impl_lastConf.P0⟩
theorem h0 : k0.Holds P E.nt c0 := piece_holds (cuts := []) hE hmx .nil (by kernel_rfl)
@[reducible] def i1 : J := ⟨[(1, .leaf i), (2, .ptr 2 0), (6, .leaf i)], [(2, false, (mk Y_impl_Node [(p 0, [p 1], []), (p 1, [p 1], []), (p 2, [p 1], []), (p 3, [p 1], [])]))], lb [p 1] []⟩
@[reducible] def e1 : List (Ex × J) := [((.exit 0), ⟨[(2, .ptr 2 0)], [(2, false, (mk Y_impl_Node [(p 0, [p 1], []), (p 1, [p 1], []), (p 2, [p 1], []), (p 3, [p 1], [])]))], lb [p 1] []⟩), (.ret, ⟨[(4, .leaf i), (5, .leaf (.sl I (n 0) [n 0] []))], [], lb [] [n 0]⟩)]
noncomputable def k1 : Cut := ⟨i1, e1, impl_lastConf.L1⟩
theorem h1 : k1.Holds P E.nt (.loop c1) := loop_holds (cuts := [(102, k0)]) hE hmx (cut_cons (by kernel_rfl) h0 .nil) (by kernel_rfl)
noncomputable def s : Sig := ⟨99, 2, ji, jo, fun x => impl_lastConf.f x.1.1 x.1.2.1⟩
theorem h : s.Holds P := mkC (fn := Tryz.f99) (body := b) (cuts := [(26, k1)]) (backs := []) hE hmx s (cut_cons (by kernel_rfl) h1 .nil) (by kernel_rfl) (by kernel_rfl)
noncomputable def c : FnC P := ⟨s, ⟨by kernel_rfl, fun r => by kernel_rfl⟩, h⟩
end impl_lastConf_m

namespace impl_ConfOf_m
noncomputable def b : Code := (Tryz.f44.body).getD .skip
@[reducible] def ji : J := ⟨[(0, .agg (mk Y_impl_Node [(p 0, [p 1], []), (p 1, [p 1], []), (p 2, [p 1], []), (p 3, [p 1], [])]))], [], lb [p 1] []⟩
@[reducible] def jo : J := ⟨[(0, .leaf (.sl I (n 0) [n 0] []))], [], lb [] [n 0]⟩
noncomputable def E : Env := mkE (P := P) tab Tryz.f44.ntmps [] [impl_LogLast.c, impl_lastConf_m.c]
theorem hE : E.Ok P := mkE_ok tabOk eqs_nil
noncomputable def s : Sig := ⟨44, 1, ji, jo, fun x => impl_ConfOf.f x.1.1⟩
theorem h : s.Holds P := mkC (fn := Tryz.f44) (body := b) (cuts := []) (backs := []) hE hmx s .nil (by kernel_rfl) (by kernel_rfl)
noncomputable def c : FnC P := ⟨s, ⟨by kernel_rfl, fun r => by kernel_rfl⟩, h⟩
end impl_ConfOf_m

namespace impl_without_c1
noncomputable def b : Code := (Tryz.f136.body).getD .skip
@[reducible] def ji : J := ⟨[(0, .leaf i), (1, .ptr (p 0) 0)], [(p 0, true, [i])], []⟩
@[reducible] def jo : J := ⟨[(0, .leaf (.sc .bool))], [], []⟩
noncomputable def E : Env := mkE (P := P) tab Tryz.f136.ntmps [] []
theorem hE : E.Ok P := mkE_ok tabOk eqs_nil
noncomputable def s : Sig := ⟨136, 1, ji, jo, fun x => impl_without_c1.f x.1.1 x.2.1⟩
theorem h : s.Holds P := mkC (fn := Tryz.f136) (body := b) (cuts := []) (backs := []) hE hmx s .nil (by kernel_rfl) (by kernel_rfl)
noncomputable def c : FnC P := ⟨s, ⟨by kernel_rfl, fun r => by kernel_rfl⟩, h⟩
end impl_without_c1

namespace slices_IndexFunc_int__impl_without_c1
noncomputable def b : Code := (Tryz.f150.body).getD .skip
@[reducible] def ji : J := ⟨[(0, .leaf (.sl I (p 0) [p 1] [])), (1, .fn 136 [some (p 0, 0)])], [(p 0, true, [i])], lb [p 1] []⟩
@[reducible] def jo : J := ⟨[(0, .leaf i)], [], []⟩
noncomputable def E : Env := mkE (P := P) tab Tryz.f150.ntmps [] [impl_without_c1.c]
theorem hE : E.Ok P := mkE_ok tabOk eqs_nil
noncomputable def c0 : Code := (codeAt b 200 52).getD .skip
@[reducible] def i0 : J := ⟨[(0, .leaf (.sl I (p 0) [p 1] [])), (1, .fn 136 [some (p 0, 0)]), (7, .leaf i), (8, .leaf i)], [(p 0, true, [i])], lb [p 1] []⟩
@[reducible] def e0 : List (Ex × J) := [((.exit 0), ⟨[], [(p 0, true, [i])], []⟩), (.ret, ⟨[(4, .leaf i)], [(p 0, true, [i])], []⟩)]
noncomputable def k0 : Cut := ⟨i0, e0, slices_IndexFunc_int__impl_without_c1.L0⟩
theorem h0 : k0.Holds P E.nt (.loop c0) := loop_holds (cuts := []) hE hmx .nil (by kernel_rfl)
noncomputable def s : Sig := ⟨150, 1, ji, jo, fun x => slices_IndexFunc_int__impl_without_c1.f x.1.1 x.2.1⟩
theorem h : s.Holds P := mkC (fn := Tryz.f150) (body := b) (cuts := [(26, k0)]) (backs := []) hE hmx s (cut_cons (by kernel_rfl) h0 .nil) (by kernel_rfl) (by kernel_rfl)
noncomputable def c : FnC P := ⟨s, ⟨by kernel_rfl, fun r => by kernel_rfl⟩, h⟩
end slices_IndexFunc_int__impl_without_c1

namespace slices_DeleteFunc_int__impl_without_c1
noncomputable def b : Code := (Tryz.f135.body).getD .skip
@[reducible] def ji : J := ⟨[(0, .leaf (.sl I (p 0) [p 1] [])), (1, .fn 136 [some (p 0, 0)])], [(p 0, true, [i])], lb [] [p 1]⟩
@[reducible] def jo : J := ⟨[(0, .leaf (.sl I (n 0) [p 1] []))], [], lb [] [p 1]⟩
noncomputable def E : Env := mkE (P := P) tab Tryz.f135.ntmps [] [slices_IndexFunc_int__impl_without_c1.c, impl_without_c1.c]
theorem hE : E.Ok P := mkE_ok tabOk eqs_nil
noncomputable def c1 : Code := (codeAt b 200 244).getD .skip
noncomputable def c0 : Code := (codeAt c1 200 51).getD .skip
@[reducible] def i0 : J := ⟨[(0, .leaf (.sl I (p 0) [p 1] [])), (1, .fn 136 [some (p 0, 0)]), (5, .leaf i), (6, .leaf i), (7, .leaf i), (29, .leaf (.sc .bool))], [(p 0, true, [i])], lb [] [p 1]⟩
@[reducible] def e0 : List (Ex × J) := [(.normal, ⟨[(0, .leaf (.sl I (p 0) [p 1] [])), (1, .fn 136 [some (p 0, 0)]), (5, .leaf i), (6, .leaf i)], [(p 0, true, [i])], lb [] [p 1]⟩)]
noncomputable def k0 : Cut := ⟨i0, e0, slices_DeleteFunc_int__impl_without_c1.P0⟩
theorem h0 : k0.Holds P E.nt c0 := piece_holds (cuts := []) hE hmx .nil (by kernel_rfl)
@[reducible] def i1 : J := ⟨[(0, .leaf (.sl I (p 0) [p 1] [])), (1, .fn 136 [some (p 0, 0)]), (5, .leaf i), (6, .leaf i)], [(p 0, true, [i])], lb [] [p 1]⟩
@[reducible] def e1 : List (Ex × J) := [((.exit 0), ⟨[(0, .leaf (.sl I (p 0) [p 1] [])), (5, .leaf i)], [(p 0, true, [i])], lb [] [p 1]⟩)]
noncomputable def k1 : Cut := ⟨i1, e1, slices_DeleteFunc_int__impl_without_c1.L1⟩
theorem h1 : k1.Holds P E.nt (.loop c1) := loop_holds (cuts := [(51, k0)]) hE hmx (cut_cons (by kernel_rfl) h0 .nil) (by kernel_rfl)
noncomputable def s : Sig := ⟨135, 1, ji, jo, fun x => slices_DeleteFunc_int__impl_without_c1.f x.1.1 x.2.1⟩
theorem h : s.Holds P := mkC (fn := Tryz.f135) (body := b) (cuts := [(122, k1)]) (backs := []) hE hmx s (cut_cons (by kernel_rfl) h1 .nil) (by kernel_rfl) (by kernel_rfl)
noncomputable def c : FnC P := ⟨s, ⟨by kernel_rfl, fun r => by kernel_rfl⟩, h⟩
end slices_DeleteFunc_int__impl_without_c1

namespace impl_without
noncomputable def b : Code := (Tryz.f88.body).getD .skip
@[reducible] def ji : J := ⟨[(0, .leaf (.sl I (p 0) [p 1] [])), (1, .leaf i)], [], lb [p 1] []⟩
@[reducible] def jo : J := ⟨[(0, .leaf (.sl I (n 0) [n 0] []))], [], lb [] [n 0]⟩
noncomputable def E : Env := mkE (P := P) tab Tryz.f88.ntmps [] [impl_copyInts.c, slices_DeleteFunc_int__impl_without_c1.c]
theorem hE : E.Ok P := mkE_ok tabOk eqs_nil
noncomputable def s : Sig := ⟨88, 1, ji, jo, fun x => impl_without.f x.1.1 x.1.2.1⟩
theorem h : s.Holds P := mkC (fn := Tryz.f88) (body := b) (cuts := []) (backs := []) hE hmx s .nil (by kernel_rfl) (by kernel_rfl)
noncomputable def c : FnC P := ⟨s, ⟨by kernel_rfl, fun r => by kernel_rfl⟩, h⟩
end impl_without

namespace slices_Equal_int
noncomputable def b : Code := (Tryz.f87.body).getD .skip
@[reducible] def ji : J := ⟨[(0, .leaf (.sl I (p 0) [p 1] [])), (1, .leaf (.sl I (p 1) [p 2] []))], [], lb [p 1, p 2] []⟩
@[reducible] def jo : J := ⟨[(0, .leaf (.sc .bool))], [], []⟩
noncomputable def E : Env := mkE (P := P) tab Tryz.f87.ntmps [] []
theorem hE : E.Ok P := mkE_ok tabOk eqs_nil
noncomputable def c0 : Code := (codeAt b 200 116).getD .skip
@[reducible] def i0 : J := ⟨[(0, .leaf (.sl I (p 0) [p 1] [])), (1, .leaf (.sl I (p 1) [p 2] [])), (12, .leaf i), (13, .leaf i)], [], lb [p 1, p 2] []⟩
@[reducible] def e0 : List (Ex × J) := [((.exit 0), ⟨[], [], []⟩), (.ret, ⟨[(4, .leaf (.sc .bool))], [], []⟩)]
noncomputable def k0 : Cut := ⟨i0, e0, slices_Equal_int.L0⟩
theorem h0 : k0.Holds P E.nt (.loop c0) := loop_holds (cuts := []) hE hmx .nil (by kernel_rfl)
noncomputable def s : Sig := ⟨87, 1, ji, jo, fun x => slices_Equal_int.f x.1.1 x.1.2.1⟩
theorem h : s.Holds P := mkC (fn := Tryz.f87) (body := b) (cuts := [(58, k0)]) (backs := []) hE hmx s (cut_cons (by kernel_rfl) h0 .nil) (by kernel_rfl) (by kernel_rfl)
noncomputable def c : FnC P := ⟨s, ⟨by kernel_rfl, fun r => by kernel_rfl⟩, h⟩
end slices_Equal_int

namespace impl_peersOk_m
noncomputable def b : Code := (Tryz.f37.body).getD .skip
@[reducible] def ji : J := ⟨[(0, .agg (mk Y_impl_Node [(p 0, [p 1], []), (p 1, [p 1], []), (p 2, [p 1], []), (p 3, [p 1], [])]))], [], lb [p 1] []⟩
@[reducible] def jo : J := ⟨[(0, .leaf (.sc .bool))], [], []⟩
noncomputable def E : Env := mkE (P := P) tab Tryz.f37.ntmps [] [impl_LogLast.c, impl_within.c, impl_ConfOf_m.c, impl_without.c, slices_Equal_int.c]
theorem hE : E.Ok P := mkE_ok tabOk eqs_nil
noncomputable def c1 : Code := (codeAt b 200 244).getD .skip
noncomputable def c0 : Code := (codeAt c1 200 228).getD .skip
@[reducible] def i0 : J := ⟨[(1, .ptr 1 0), (3, .leaf i), (5, .leaf (.sl I (n 0) [n 0] [])), (7, .ptr 7 0), (16, .leaf (.sl (.of Y_impl_Peer) (p 3) [p 1] [])), (17, .leaf i), (18, .leaf i)], [(1, false, (mk Y_impl_Node [(p 0, [p 1], []), (p 1, [p 1], []), (p 2, [p 1], []), (n 5, [p 1], [])])), (7, false, (mk Y_impl_Peer []))], lb [p 1] [n 0]⟩
@[reducible] def e0 : List (Ex × J) := [(.normal, ⟨[(1, .ptr 1 0), (3, .leaf i), (5, .leaf (.sl I (n 0) [n 0] [])), (7, .ptr 7 0), (16, .leaf (.sl (.of Y_impl_Peer) (p 3) [p 1] [])), (17, .leaf i), (18, .leaf i), (42, .leaf (.sc .bool))], [(1, false, (mk Y_impl_Node [(p 0, [p 1], []), (p 1, [p 1], []), (p 2, [p 1], []), (n 5, [p 1], [])])), (7, false, (mk Y_impl_Peer []))], lb [p 1] [n 0]⟩)]
noncomputable def k0 : Cut := ⟨i0, e0, impl_peersOk.P0⟩
theorem h0 : k0.Holds P E.nt c0 := piece_holds (cuts := []) hE hmx .nil (by kernel_rfl)
@[reducible] def i1 : J := ⟨[(1, .ptr 1 0), (3, .leaf i), (5, .leaf (.sl I (n 0) [n 0] [])), (16, .leaf (.sl (.of Y_impl_Peer) (p 3) [p 1] [])), (17, .leaf i), (18, .leaf i)], [(1, false, (mk Y_impl_Node [(p 0, [p 1], []), (p 1, [p 1], []), (p 2, [p 1], []), (n 5, [p 1], [])]))], lb [p 1] [n 0]⟩
@[reducible] def e1 : List (Ex × J) := [((.exit 0), ⟨[(1, .ptr 1 0), (5, .leaf (.sl I (n 0) [n 0] []))], [(1, false, (mk Y_impl_Node [(p 0, [p 1], []), (p 1, [p 1], []), (p 2, [p 1], []), (n 4, [p 1], [])]))], lb [p 1] [n 0]⟩), (.ret, ⟨[(2, .leaf (.sc .bool))], [], []⟩)]
noncomputable def k1 : Cut := ⟨i1, e1, impl_peersOk.L1⟩
theorem h1 : k1.Holds P E.nt (.loop c1) := loop_holds (cuts := [(228, k0)]) hE hmx (cut_cons (by kernel_rfl) h0 .nil) (by kernel_rfl)
noncomputable def s : Sig := ⟨37, 1, ji, jo, fun x => impl_peersOk.f x.1.1⟩
theorem h : s.Holds P := mkC (fn := Tryz.f37) (body := b) (cuts := [(122, k1)]) (backs := []) hE hmx s (cut_cons (by kernel_rfl) h1 .nil) (by kernel_rfl) (by kernel_rfl)
noncomputable def c : FnC P := ⟨s, ⟨by kernel_rfl, fun r => by kernel_rfl⟩, h⟩
end impl_peersOk_m

namespace impl_NodeOk_m
noncomputable def b : Code := (Tryz.f7.body).getD .skip
@[reducible] def ji : J := ⟨[(0, .agg (mk Y_impl_Node [(p 0, [p 1], []), (p 1, [p 1], []), (p 2, [p 1], []), (p 3, [p 1], [])]))], [], lb [p 1] []⟩
@[reducible] def jo : J := ⟨[(0, .leaf (.sc .bool))], [], []⟩
noncomputable def E : Env := mkE (P := P) tab Tryz.f7.ntmps [] [impl_LogLast.c, impl_isNode.c, impl_ConfOk.c, impl_LogOk.c, impl_votesOk.c, impl_within.c, impl_nodesOk.c, impl_peersOk_m.c]
theorem hE : E.Ok P := mkE_ok tabOk eqs_nil
noncomputable def c0 : Code := (codeAt b 200 28).getD .skip
noncomputable def c1 : Code := (codeAt b 200 60).getD .skip
noncomputable def c3 : Code := (codeAt b 200 126).getD .skip
noncomputable def c2 : Code := (codeAt b 200 2004).getD .skip
@[reducible] def i0 : J := ⟨[(1, .ptr 1 0), (3, .leaf i), (4, .leaf i)], [(1, false, (mk Y_impl_Node [(p 0, [p 1], []), (p 1, [p 1], []), (p 2, [p 1], []), (p 3, [p 1], [])]))], lb [p 1] []⟩
@[reducible] def e0 : List (Ex × J) := [(.normal, ⟨[(1, .ptr 1 0), (3, .leaf i), (46, .leaf (.sc .bool))], [(1, false, (mk Y_impl_Node [(p 0, [p 1], []), (p 1, [p 1], []), (p 2, [p 1], []), (p 3, [p 1], [])]))], lb [p 1] []⟩)]
noncomputable def k0 : Cut := ⟨i0, e0, impl_NodeOk.P0⟩
theorem h0 : k0.Holds P E.nt c0 := piece_holds (cuts := []) hE hmx .nil (by kernel_rfl)
@[reducible] def i1 : J := ⟨[(1, .ptr 1 0), (3, .leaf i)], [(1, false, (mk Y_impl_Node [(p 0, [p 1], []), (p 1, [p 1], []), (p 2, [p 1], []), (p 3, [p 1], [])]))], lb [p 1] []⟩
@[reducible] def e1 : List (Ex × J) := [(.normal, ⟨[(1, .ptr 1 0), (72, .leaf (.sc .bool))], [(1, false, (mk Y_impl_Node [(p 0, [p 1], []), (p 1, [p 1], []), (p 2, [p 1], []), (p 3, [p 1], [])]))], lb [p 1] []⟩)]
noncomputable def k1 : Cut := ⟨i1, e1, impl_NodeOk.P1⟩
theorem h1 : k1.Holds P E.nt c1 := piece_holds (cuts := []) hE hmx .nil (by kernel_rfl)
@[reducible] def i3 : J := ⟨[(1, .ptr 1 0)], [(1, false, (mk Y_impl_Node [(p 0, [p 1], []), (p 1, [p 1], []), (p 2, [p 1], []), (p 3, [p 1], [])]))], lb [p 1] []⟩
@[reducible] def e3 : List (Ex × J) := [(.normal, ⟨[(2, .leaf (.sc .bool))], [], []⟩)]
noncomputable def k3 : Cut := ⟨i3, e3, impl_NodeOk.P3⟩
theorem h3 : k3.Holds P E.nt c3 := piece_holds (cuts := []) hE hmx .nil (by kernel_rfl)
@[reducible] def i2 : J := ⟨[(1, .ptr 1 0)], [(1, false, (mk Y_impl_Node [(p 0, [p 1], []), (p 1, [p 1], []), (p 2, [p 1], []), (p 3, [p 1], [])]))], lb [p 1] []⟩
@[reducible] def e2 : List (Ex × J) := [(.normal, ⟨[(2, .leaf (.sc .bool))], [], []⟩)]
noncomputable def k2 : Cut := ⟨i2, e2, impl_NodeOk.P2⟩
theorem h2 : k2.Holds P E.nt c2 := piece_holds (cuts := []) hE hmx .nil (by kernel_rfl)
noncomputable def s : Sig := ⟨7, 1, ji, jo, fun x => impl_NodeOk.f x.1.1⟩
theorem h : s.Holds P := mkC (fn := Tryz.f7) (body := b) (cuts := [(28, k0), (60, k1), (126, k3), (2004, k2)]) (backs := []) hE hmx s (cut_cons (by kernel_rfl) h0 (cut_cons (by kernel_rfl) h1 (cut_cons (by kernel_rfl) h3 (cut_cons (by kernel_rfl) h2 .nil)))) (by kernel_rfl) (by kernel_rfl)
noncomputable def c : FnC P := ⟨s, ⟨by kernel_rfl, fun r => by kernel_rfl⟩, h⟩
end impl_NodeOk_m

namespace impl_MessageOk_m
noncomputable def b : Code := (Tryz.f38.body).getD .skip
@[reducible] def ji : J := ⟨[(0, .agg (mk Y_impl_Message [(p 0, [p 1], []), (p 1, [p 1], [])]))], [], lb [p 1] []⟩
@[reducible] def jo : J := ⟨[(0, .leaf (.sc .bool))], [], []⟩
noncomputable def E : Env := mkE (P := P) tab Tryz.f38.ntmps [] [impl_within.c, impl_isNode.c, impl_isTerm.c, impl_EntryOk.c, impl_ConfOk.c, impl_isIndex.c]
theorem hE : E.Ok P := mkE_ok tabOk eqs_nil
noncomputable def c0 : Code := (codeAt b 200 12).getD .skip
noncomputable def c3 : Code := (codeAt b 200 62).getD .skip
noncomputable def c2 : Code := (codeAt b 200 244).getD .skip
noncomputable def c1 : Code := (codeAt c2 200 228).getD .skip
noncomputable def c4 : Code := (codeAt b 200 126).getD .skip
noncomputable def c5 : Code := (codeAt b 200 254).getD .skip
noncomputable def c6 : Code := (codeAt b 200 510).getD .skip
@[reducible] def i0 : J := ⟨[(1, .ptr 1 0)], [(1, false, (mk Y_impl_Message [(p 0, [p 1], []), (p 1, [p 1], [])]))], lb [p 1] []⟩
@[reducible] def e0 : List (Ex × J) := [(.normal, ⟨[(1, .ptr 1 0), (43, .leaf (.sc .bool))], [(1, false, (mk Y_impl_Message [(p 0, [p 1], []), (p 1, [p 1], [])]))], lb [p 1] []⟩)]
noncomputable def k0 : Cut := ⟨i0, e0, impl_MessageOk.P0⟩
theorem h0 : k0.Holds P E.nt c0 := piece_holds (cuts := []) hE hmx .nil (by kernel_rfl)
@[reducible] def i3 : J := ⟨[(1, .ptr 1 0)], [(1, false, (mk Y_impl_Message [(n 0, [p 1], []), (p 1, [p 1], [])]))], lb [p 1] []⟩
@[reducible] def e3 : List (Ex × J) := [(.normal, ⟨[(1, .ptr 1 0), (6, .leaf (.sc .bool))], [(1, false, (mk Y_impl_Message [(n 0, [p 1], []), (p 1, [p 1], [])]))], lb [p 1] []⟩)]
noncomputable def k3 : Cut := ⟨i3, e3, impl_MessageOk.P3⟩
theorem h3 : k3.Holds P E.nt c3 := piece_holds (cuts := []) hE hmx .nil (by kernel_rfl)
@[reducible] def i1 : J := ⟨[(1, .ptr 1 0), (3, .leaf i), (5, .ptr 5 0), (47, .leaf (.sl (.of Y_impl_Entry) (p 0) [p 1] [])), (48, .leaf i), (49, .leaf i)], [(1, false, (mk Y_impl_Message [(n 1, [p 1], []), (p 1, [p 1], [])])), (5, false, (mk Y_impl_Entry []))], lb [p 1] []⟩
@[reducible] def e1 : List (Ex × J) := [(.normal, ⟨[(1, .ptr 1 0), (5, .ptr 5 0), (47, .leaf (.sl (.of Y_impl_Entry) (p 0) [p 1] [])), (48, .leaf i), (49, .leaf i), (68, .leaf (.sc .bool))], [(1, false, (mk Y_impl_Message [(n 1, [p 1], []), (p 1, [p 1], [])])), (5, false, (mk Y_impl_Entry []))], lb [p 1] []⟩)]
noncomputable def k1 : Cut := ⟨i1, e1, impl_MessageOk.P1⟩
theorem h1 : k1.Holds P E.nt c1 := piece_holds (cuts := []) hE hmx .nil (by kernel_rfl)
@[reducible] def i2 : J := ⟨[(1, .ptr 1 0), (3, .leaf i), (47, .leaf (.sl (.of Y_impl_Entry) (p 0) [p 1] [])), (48, .leaf i), (49, .leaf i)], [(1, false, (mk Y_impl_Message [(n 1, [p 1], []), (p 1, [p 1], [])]))], lb [p 1] []⟩
@[reducible] def e2 : List (Ex × J) := [((.exit 0), ⟨[(1, .ptr 1 0)], [(1, false, (mk Y_impl_Message [(n 0, [p 1], []), (p 1, [p 1], [])]))], lb [p 1] []⟩), (.ret, ⟨[(2, .leaf (.sc .bool))], [], []⟩)]
noncomputable def k2 : Cut := ⟨i2, e2, impl_MessageOk.L2⟩
theorem h2 : k2.Holds P E.nt (.loop c2) := loop_holds (cuts := [(228, k1)]) hE hmx (cut_cons (by kernel_rfl) h1 .nil) (by kernel_rfl)
@[reducible] def i4 : J := ⟨[(1, .ptr 1 0), (6, .leaf (.sc .bool))], [(1, false, (mk Y_impl_Message [(n 0, [p 1], []), (p 1, [p 1], [])]))], lb [p 1] []⟩
@[reducible] def e4 : List (Ex × J) := [(.normal, ⟨[(1, .ptr 1 0), (6, .leaf (.sc .bool)), (7, .leaf (.sc .bool))], [(1, false, (mk Y_impl_Message [(n 0, [p 1], []), (p 1, [p 1], [])]))], lb [p 1] []⟩)]
noncomputable def k4 : Cut := ⟨i4, e4, impl_MessageOk.P4⟩
theorem h4 : k4.Holds P E.nt c4 := piece_holds (cuts := []) hE hmx .nil (by kernel_rfl)
@[reducible] def i5 : J := ⟨[(1, .ptr 1 0), (6, .leaf (.sc .bool)), (7, .leaf (.sc .bool))], [(1, false, (mk Y_impl_Message [(n 0, [p 1], []), (p 1, [p 1], [])]))], lb [p 1] []⟩
@[reducible] def e5 : List (Ex × J) := [(.normal, ⟨[(1, .ptr 1 0), (6, .leaf (.sc .bool)), (7, .leaf (.sc .bool)), (8, .leaf (.sc .bool))], [(1, false, (mk Y_impl_Message [(n 0, [p 1], []), (p 1, [p 1], [])]))], lb [p 1] []⟩)]
noncomputable def k5 : Cut := ⟨i5, e5, impl_MessageOk.P5⟩
theorem h5 : k5.Holds P E.nt c5 := piece_holds (cuts := []) hE hmx .nil (by kernel_rfl)
@[reducible] def i6 : J := ⟨[(1, .ptr 1 0), (6, .leaf (.sc .bool)), (7, .leaf (.sc .bool)), (8, .leaf (.sc .bool))], [(1, false, (mk Y_impl_Message [(n 0, [p 1], []), (p 1, [p 1], [])]))], lb [p 1] []⟩
@[reducible] def e6 : List (Ex × J) := [(.normal, ⟨[(2, .leaf (.sc .bool))], [], []⟩)]
noncomputable def k6 : Cut := ⟨i6, e6, impl_MessageOk.P6⟩
theorem h6 : k6.Holds P E.nt c6 := piece_holds (cuts := []) hE hmx .nil (by kernel_rfl)
noncomputable def s : Sig := ⟨38, 1, ji, jo, fun x => impl_MessageOk.f x.1.1⟩
theorem h : s.Holds P := mkC (fn := Tryz.f38) (body := b) (cuts := [(12, k0), (62, k3), (122, k2), (126, k4), (254, k5), (510, k6)]) (backs := []) hE hmx s (cut_cons (by kernel_rfl) h0 (cut_cons (by kernel_rfl) h3 (cut_cons (by kernel_rfl) h2 (cut_cons (by kernel_rfl) h4 (cut_cons (by kernel_rfl) h5 (cut_cons (by kernel_rfl) h6 .nil)))))) (by kernel_rfl) (by kernel_rfl)
noncomputable def c : FnC P := ⟨s, ⟨by kernel_rfl, fun r => by kernel_rfl⟩, h⟩
end impl_MessageOk_m

namespace impl_copyLog
noncomputable def b : Code := (Tryz.f90.body).getD .skip
@[reducible] def ji : J := ⟨[(0, .agg (mk Y_impl_Log [(p 0, [p 1], [])]))], [], lb [p 1] []⟩
@[reducible] def jo : J := ⟨[(0, .agg (mk Y_impl_Log [(n 0, [n 0], [])]))], [], lb [] [n 0]⟩
noncomputable def E : Env := mkE (P := P) tab Tryz.f90.ntmps [] []
theorem hE : E.Ok P := mkE_ok tabOk eqs_nil
noncomputable def s : Sig := ⟨90, 1, ji, jo, fun x => impl_copyLog.f x.1.1⟩
theorem h : s.Holds P := mkC (fn := Tryz.f90) (body := b) (cuts := []) (backs := []) hE hmx s .nil (by kernel_rfl) (by kernel_rfl)
noncomputable def c : FnC P := ⟨s, ⟨by kernel_rfl, fun r => by kernel_rfl⟩, h⟩
end impl_copyLog

namespace impl_copyNode_m
noncomputable def b : Code := (Tryz.f39.body).getD .skip
@[reducible] def ji : J := ⟨[(0, .agg (mk Y_impl_Node [(p 0, [p 1], []), (p 1, [p 1], []), (p 2, [p 1], []), (p 3, [p 1], [])]))], [], lb [p 1] []⟩
@[reducible] def jo : J := ⟨[(0, .agg (mk Y_impl_Node [(n 0, [n 0], []), (n 1, [n 1], []), (n 2, [n 2], []), (n 3, [n 3], [])]))], [], lb [] [n 0, n 1, n 2, n 3]⟩
noncomputable def E : Env := mkE (P := P) tab Tryz.f39.ntmps [] [impl_copyInts.c, impl_copyLog.c]
theorem hE : E.Ok P := mkE_ok tabOk eqs_nil
noncomputable def s : Sig := ⟨39, 1, ji, jo, fun x => impl_copyNode.f x.1.1⟩
theorem h : s.Holds P := mkC (fn := Tryz.f39) (body := b) (cuts := []) (backs := []) hE hmx s .nil (by kernel_rfl) (by kernel_rfl)
noncomputable def c : FnC P := ⟨s, ⟨by kernel_rfl, fun r => by kernel_rfl⟩, h⟩
end impl_copyNode_m

namespace impl_Node_follow
noncomputable def b : Code := (Tryz.f40.body).getD .skip
@[reducible] def ji : J := ⟨[(0, .ptr (p 0) 0), (1, .leaf i)], [(p 0, false, (mk Y_impl_Node [(p 0, [p 1], []), (p 1, [p 2], []), (p 2, [p 3], []), (p 3, [p 4], [])]))], lb [p 1, p 2, p 3, p 4] []⟩
@[reducible] def jo : J := ⟨[], [(p 0, false, (mk Y_impl_Node [(p 0, [p 1], []), (p 1, [p 2], []), (n 2, [], []), (n 3, [], [])]))], lb [p 1, p 2] []⟩
noncomputable def E : Env := mkE (P := P) tab Tryz.f40.ntmps [] []
theorem hE : E.Ok P := mkE_ok tabOk eqs_nil
noncomputable def s : Sig := ⟨40, 0, ji, jo, fun x => impl_Node_follow.f x.1.2.1 x.2.1⟩
theorem h : s.Holds P := mkC (fn := Tryz.f40) (body := b) (cuts := []) (backs := []) hE hmx s .nil (by kernel_rfl) (by kernel_rfl)
noncomputable def c : FnC P := ⟨s, ⟨by kernel_rfl, fun r => by kernel_rfl⟩, h⟩
end impl_Node_follow

namespace impl_Node_message
noncomputable def b : Code := (Tryz.f100.body).getD .skip
@[reducible] def ji : J := ⟨[(0, .ptr (p 0) 0), (1, .leaf i), (2, .leaf i)], [(p 0, true, (mk Y_impl_Node [(p 0, [p 1], []), (p 1, [p 2], []), (p 2, [p 3], []), (p 3, [p 4], [])]))], lb [p 1, p 2, p 3, p 4] []⟩
@[reducible] def jo : J := ⟨[(0, .agg (mk Y_impl_Message [(n 0, [], []), (n 1, [], [])]))], [], []⟩
noncomputable def E : Env := mkE (P := P) tab Tryz.f100.ntmps [] []
theorem hE : E.Ok P := mkE_ok tabOk eqs_nil
noncomputable def s : Sig := ⟨100, 1, ji, jo, fun x => impl_Node_message.f x.1.2.1 x.1.2.2.1 x.2.1⟩
theorem h : s.Holds P := mkC (fn := Tryz.f100) (body := b) (cuts := []) (backs := []) hE hmx s .nil (by kernel_rfl) (by kernel_rfl)
noncomputable def c : FnC P := ⟨s, ⟨by kernel_rfl, fun r => by kernel_rfl⟩, h⟩
end impl_Node_message

end Go.Proofs.YtnnnpppodblblaaGreat.Ct
