/-
What the program's functions compute, in plain Lean (printed by gen2.py).
-/
import Derived.Test.YtnnnpppodblblaaGreatV1
namespace Go.Proofs.YtnnnpppodblblaaGreat.Pu
open Go Go.Proofs.YtnnnpppodblblaaGreat.Ev
set_option linter.unusedVariables false

/-- impl_Command: Op, Token, Seq, Key, Val, Ver -/
abbrev T_impl_Command : Type := (Int × (Int × (Int × (ByteArray × (ByteArray × (Int × Unit))))))
abbrev Z_impl_Command : T_impl_Command := ((0 : Int), ((0 : Int), ((0 : Int), ((⟨#[]⟩ : ByteArray), ((⟨#[]⟩ : ByteArray), ((0 : Int), ()))))))
/-- Token -/
@[reducible] def impl_Command.u1 (x : T_impl_Command) (v : Int) : T_impl_Command := (x.1, v, x.2.2.1, x.2.2.2.1, x.2.2.2.2.1, x.2.2.2.2.2.1, ())
/-- Seq -/
@[reducible] def impl_Command.u2 (x : T_impl_Command) (v : Int) : T_impl_Command := (x.1, x.2.1, v, x.2.2.2.1, x.2.2.2.2.1, x.2.2.2.2.2.1, ())
/-- Val -/
@[reducible] def impl_Command.u4 (x : T_impl_Command) (v : ByteArray) : T_impl_Command := (x.1, x.2.1, x.2.2.1, x.2.2.2.1, v, x.2.2.2.2.2.1, ())
/-- Ver -/
@[reducible] def impl_Command.u5 (x : T_impl_Command) (v : Int) : T_impl_Command := (x.1, x.2.1, x.2.2.1, x.2.2.2.1, x.2.2.2.2.1, v, ())
/-- impl_Entry: Term, Kind, Data -/
abbrev T_impl_Entry : Type := (Int × (Int × (ByteArray × Unit)))
abbrev Z_impl_Entry : T_impl_Entry := ((0 : Int), ((0 : Int), ((⟨#[]⟩ : ByteArray), ())))
/-- impl_Item: Key, Val, Ver -/
abbrev T_impl_Item : Type := (ByteArray × (ByteArray × (Int × Unit)))
abbrev Z_impl_Item : T_impl_Item := ((⟨#[]⟩ : ByteArray), ((⟨#[]⟩ : ByteArray), ((0 : Int), ())))
/-- impl_Keep: Sessions, Items -/
abbrev T_impl_Keep : Type := ((List T_impl_Entry) × ((List T_impl_Item) × Unit))
abbrev Z_impl_Keep : T_impl_Keep := ([], ([], ()))
/-- impl_Log: Start, StartTerm, Entries -/
abbrev T_impl_Log : Type := (Int × (Int × ((List T_impl_Entry) × Unit)))
abbrev Z_impl_Log : T_impl_Log := ((0 : Int), ((0 : Int), ([], ())))
/-- impl_Message: Kind, From, To, Term, Index, LogTerm, Commit, Ok, Entries, Conf, Data, Last -/
abbrev T_impl_Message : Type := (Int × (Int × (Int × (Int × (Int × (Int × (Int × (Bool × ((List T_impl_Entry) × ((List Int) × (ByteArray × (Bool × Unit))))))))))))
abbrev Z_impl_Message : T_impl_Message := ((0 : Int), ((0 : Int), ((0 : Int), ((0 : Int), ((0 : Int), ((0 : Int), ((0 : Int), (false, ([], ([], ((⟨#[]⟩ : ByteArray), (false, ()))))))))))))
/-- From -/
@[reducible] def impl_Message.u1 (x : T_impl_Message) (v : Int) : T_impl_Message := (x.1, v, x.2.2.1, x.2.2.2.1, x.2.2.2.2.1, x.2.2.2.2.2.1, x.2.2.2.2.2.2.1, x.2.2.2.2.2.2.2.1, x.2.2.2.2.2.2.2.2.1, x.2.2.2.2.2.2.2.2.2.1, x.2.2.2.2.2.2.2.2.2.2.1, x.2.2.2.2.2.2.2.2.2.2.2.1, ())
/-- To -/
@[reducible] def impl_Message.u2 (x : T_impl_Message) (v : Int) : T_impl_Message := (x.1, x.2.1, v, x.2.2.2.1, x.2.2.2.2.1, x.2.2.2.2.2.1, x.2.2.2.2.2.2.1, x.2.2.2.2.2.2.2.1, x.2.2.2.2.2.2.2.2.1, x.2.2.2.2.2.2.2.2.2.1, x.2.2.2.2.2.2.2.2.2.2.1, x.2.2.2.2.2.2.2.2.2.2.2.1, ())
/-- Term -/
@[reducible] def impl_Message.u3 (x : T_impl_Message) (v : Int) : T_impl_Message := (x.1, x.2.1, x.2.2.1, v, x.2.2.2.2.1, x.2.2.2.2.2.1, x.2.2.2.2.2.2.1, x.2.2.2.2.2.2.2.1, x.2.2.2.2.2.2.2.2.1, x.2.2.2.2.2.2.2.2.2.1, x.2.2.2.2.2.2.2.2.2.2.1, x.2.2.2.2.2.2.2.2.2.2.2.1, ())
/-- Index -/
@[reducible] def impl_Message.u4 (x : T_impl_Message) (v : Int) : T_impl_Message := (x.1, x.2.1, x.2.2.1, x.2.2.2.1, v, x.2.2.2.2.2.1, x.2.2.2.2.2.2.1, x.2.2.2.2.2.2.2.1, x.2.2.2.2.2.2.2.2.1, x.2.2.2.2.2.2.2.2.2.1, x.2.2.2.2.2.2.2.2.2.2.1, x.2.2.2.2.2.2.2.2.2.2.2.1, ())
/-- LogTerm -/
@[reducible] def impl_Message.u5 (x : T_impl_Message) (v : Int) : T_impl_Message := (x.1, x.2.1, x.2.2.1, x.2.2.2.1, x.2.2.2.2.1, v, x.2.2.2.2.2.2.1, x.2.2.2.2.2.2.2.1, x.2.2.2.2.2.2.2.2.1, x.2.2.2.2.2.2.2.2.2.1, x.2.2.2.2.2.2.2.2.2.2.1, x.2.2.2.2.2.2.2.2.2.2.2.1, ())
/-- Commit -/
@[reducible] def impl_Message.u6 (x : T_impl_Message) (v : Int) : T_impl_Message := (x.1, x.2.1, x.2.2.1, x.2.2.2.1, x.2.2.2.2.1, x.2.2.2.2.2.1, v, x.2.2.2.2.2.2.2.1, x.2.2.2.2.2.2.2.2.1, x.2.2.2.2.2.2.2.2.2.1, x.2.2.2.2.2.2.2.2.2.2.1, x.2.2.2.2.2.2.2.2.2.2.2.1, ())
/-- Ok -/
@[reducible] def impl_Message.u7 (x : T_impl_Message) (v : Bool) : T_impl_Message := (x.1, x.2.1, x.2.2.1, x.2.2.2.1, x.2.2.2.2.1, x.2.2.2.2.2.1, x.2.2.2.2.2.2.1, v, x.2.2.2.2.2.2.2.2.1, x.2.2.2.2.2.2.2.2.2.1, x.2.2.2.2.2.2.2.2.2.2.1, x.2.2.2.2.2.2.2.2.2.2.2.1, ())
/-- Entries -/
@[reducible] def impl_Message.u8 (x : T_impl_Message) (v : (List T_impl_Entry)) : T_impl_Message := (x.1, x.2.1, x.2.2.1, x.2.2.2.1, x.2.2.2.2.1, x.2.2.2.2.2.1, x.2.2.2.2.2.2.1, x.2.2.2.2.2.2.2.1, v, x.2.2.2.2.2.2.2.2.2.1, x.2.2.2.2.2.2.2.2.2.2.1, x.2.2.2.2.2.2.2.2.2.2.2.1, ())
/-- Conf -/
@[reducible] def impl_Message.u9 (x : T_impl_Message) (v : (List Int)) : T_impl_Message := (x.1, x.2.1, x.2.2.1, x.2.2.2.1, x.2.2.2.2.1, x.2.2.2.2.2.1, x.2.2.2.2.2.2.1, x.2.2.2.2.2.2.2.1, x.2.2.2.2.2.2.2.2.1, v, x.2.2.2.2.2.2.2.2.2.2.1, x.2.2.2.2.2.2.2.2.2.2.2.1, ())
/-- Data -/
@[reducible] def impl_Message.u10 (x : T_impl_Message) (v : ByteArray) : T_impl_Message := (x.1, x.2.1, x.2.2.1, x.2.2.2.1, x.2.2.2.2.1, x.2.2.2.2.2.1, x.2.2.2.2.2.2.1, x.2.2.2.2.2.2.2.1, x.2.2.2.2.2.2.2.2.1, x.2.2.2.2.2.2.2.2.2.1, v, x.2.2.2.2.2.2.2.2.2.2.2.1, ())
/-- Last -/
@[reducible] def impl_Message.u11 (x : T_impl_Message) (v : Bool) : T_impl_Message := (x.1, x.2.1, x.2.2.1, x.2.2.2.1, x.2.2.2.2.1, x.2.2.2.2.2.1, x.2.2.2.2.2.2.1, x.2.2.2.2.2.2.2.1, x.2.2.2.2.2.2.2.2.1, x.2.2.2.2.2.2.2.2.2.1, x.2.2.2.2.2.2.2.2.2.2.1, v, ())
/-- impl_Peer: Id, Next, Match, Sent -/
abbrev T_impl_Peer : Type := (Int × (Int × (Int × (Int × Unit))))
abbrev Z_impl_Peer : T_impl_Peer := ((0 : Int), ((0 : Int), ((0 : Int), ((0 : Int), ()))))
/-- Next -/
@[reducible] def impl_Peer.u1 (x : T_impl_Peer) (v : Int) : T_impl_Peer := (x.1, v, x.2.2.1, x.2.2.2.1, ())
/-- Match -/
@[reducible] def impl_Peer.u2 (x : T_impl_Peer) (v : Int) : T_impl_Peer := (x.1, x.2.1, v, x.2.2.2.1, ())
/-- Sent -/
@[reducible] def impl_Peer.u3 (x : T_impl_Peer) (v : Int) : T_impl_Peer := (x.1, x.2.1, x.2.2.1, v, ())
/-- impl_Node: Id, Term, Vote, Role, Lead, Conf, Log.Start, Log.StartTerm, Log.Entries, Commit, Clock, Limit, Votes, Peers -/
abbrev T_impl_Node : Type := (Int × (Int × (Int × (Int × (Int × ((List Int) × (Int × (Int × ((List T_impl_Entry) × (Int × (Int × (Int × ((List Int) × ((List T_impl_Peer) × Unit))))))))))))))
abbrev Z_impl_Node : T_impl_Node := ((0 : Int), ((0 : Int), ((0 : Int), ((0 : Int), ((0 : Int), ([], ((0 : Int), ((0 : Int), ([], ((0 : Int), ((0 : Int), ((0 : Int), ([], ([], ()))))))))))))))
/-- Term -/
@[reducible] def impl_Node.u1 (x : T_impl_Node) (v : Int) : T_impl_Node := (x.1, v, x.2.2.1, x.2.2.2.1, x.2.2.2.2.1, x.2.2.2.2.2.1, x.2.2.2.2.2.2.1, x.2.2.2.2.2.2.2.1, x.2.2.2.2.2.2.2.2.1, x.2.2.2.2.2.2.2.2.2.1, x.2.2.2.2.2.2.2.2.2.2.1, x.2.2.2.2.2.2.2.2.2.2.2.1, x.2.2.2.2.2.2.2.2.2.2.2.2.1, x.2.2.2.2.2.2.2.2.2.2.2.2.2.1, ())
/-- Vote -/
@[reducible] def impl_Node.u2 (x : T_impl_Node) (v : Int) : T_impl_Node := (x.1, x.2.1, v, x.2.2.2.1, x.2.2.2.2.1, x.2.2.2.2.2.1, x.2.2.2.2.2.2.1, x.2.2.2.2.2.2.2.1, x.2.2.2.2.2.2.2.2.1, x.2.2.2.2.2.2.2.2.2.1, x.2.2.2.2.2.2.2.2.2.2.1, x.2.2.2.2.2.2.2.2.2.2.2.1, x.2.2.2.2.2.2.2.2.2.2.2.2.1, x.2.2.2.2.2.2.2.2.2.2.2.2.2.1, ())
/-- Role -/
@[reducible] def impl_Node.u3 (x : T_impl_Node) (v : Int) : T_impl_Node := (x.1, x.2.1, x.2.2.1, v, x.2.2.2.2.1, x.2.2.2.2.2.1, x.2.2.2.2.2.2.1, x.2.2.2.2.2.2.2.1, x.2.2.2.2.2.2.2.2.1, x.2.2.2.2.2.2.2.2.2.1, x.2.2.2.2.2.2.2.2.2.2.1, x.2.2.2.2.2.2.2.2.2.2.2.1, x.2.2.2.2.2.2.2.2.2.2.2.2.1, x.2.2.2.2.2.2.2.2.2.2.2.2.2.1, ())
/-- Lead -/
@[reducible] def impl_Node.u4 (x : T_impl_Node) (v : Int) : T_impl_Node := (x.1, x.2.1, x.2.2.1, x.2.2.2.1, v, x.2.2.2.2.2.1, x.2.2.2.2.2.2.1, x.2.2.2.2.2.2.2.1, x.2.2.2.2.2.2.2.2.1, x.2.2.2.2.2.2.2.2.2.1, x.2.2.2.2.2.2.2.2.2.2.1, x.2.2.2.2.2.2.2.2.2.2.2.1, x.2.2.2.2.2.2.2.2.2.2.2.2.1, x.2.2.2.2.2.2.2.2.2.2.2.2.2.1, ())
/-- Conf -/
@[reducible] def impl_Node.u5 (x : T_impl_Node) (v : (List Int)) : T_impl_Node := (x.1, x.2.1, x.2.2.1, x.2.2.2.1, x.2.2.2.2.1, v, x.2.2.2.2.2.2.1, x.2.2.2.2.2.2.2.1, x.2.2.2.2.2.2.2.2.1, x.2.2.2.2.2.2.2.2.2.1, x.2.2.2.2.2.2.2.2.2.2.1, x.2.2.2.2.2.2.2.2.2.2.2.1, x.2.2.2.2.2.2.2.2.2.2.2.2.1, x.2.2.2.2.2.2.2.2.2.2.2.2.2.1, ())
/-- Log.Start -/
@[reducible] def impl_Node.u6 (x : T_impl_Node) (v : Int) : T_impl_Node := (x.1, x.2.1, x.2.2.1, x.2.2.2.1, x.2.2.2.2.1, x.2.2.2.2.2.1, v, x.2.2.2.2.2.2.2.1, x.2.2.2.2.2.2.2.2.1, x.2.2.2.2.2.2.2.2.2.1, x.2.2.2.2.2.2.2.2.2.2.1, x.2.2.2.2.2.2.2.2.2.2.2.1, x.2.2.2.2.2.2.2.2.2.2.2.2.1, x.2.2.2.2.2.2.2.2.2.2.2.2.2.1, ())
/-- Log.StartTerm -/
@[reducible] def impl_Node.u7 (x : T_impl_Node) (v : Int) : T_impl_Node := (x.1, x.2.1, x.2.2.1, x.2.2.2.1, x.2.2.2.2.1, x.2.2.2.2.2.1, x.2.2.2.2.2.2.1, v, x.2.2.2.2.2.2.2.2.1, x.2.2.2.2.2.2.2.2.2.1, x.2.2.2.2.2.2.2.2.2.2.1, x.2.2.2.2.2.2.2.2.2.2.2.1, x.2.2.2.2.2.2.2.2.2.2.2.2.1, x.2.2.2.2.2.2.2.2.2.2.2.2.2.1, ())
/-- Log.Entries -/
@[reducible] def impl_Node.u8 (x : T_impl_Node) (v : (List T_impl_Entry)) : T_impl_Node := (x.1, x.2.1, x.2.2.1, x.2.2.2.1, x.2.2.2.2.1, x.2.2.2.2.2.1, x.2.2.2.2.2.2.1, x.2.2.2.2.2.2.2.1, v, x.2.2.2.2.2.2.2.2.2.1, x.2.2.2.2.2.2.2.2.2.2.1, x.2.2.2.2.2.2.2.2.2.2.2.1, x.2.2.2.2.2.2.2.2.2.2.2.2.1, x.2.2.2.2.2.2.2.2.2.2.2.2.2.1, ())
/-- Commit -/
@[reducible] def impl_Node.u9 (x : T_impl_Node) (v : Int) : T_impl_Node := (x.1, x.2.1, x.2.2.1, x.2.2.2.1, x.2.2.2.2.1, x.2.2.2.2.2.1, x.2.2.2.2.2.2.1, x.2.2.2.2.2.2.2.1, x.2.2.2.2.2.2.2.2.1, v, x.2.2.2.2.2.2.2.2.2.2.1, x.2.2.2.2.2.2.2.2.2.2.2.1, x.2.2.2.2.2.2.2.2.2.2.2.2.1, x.2.2.2.2.2.2.2.2.2.2.2.2.2.1, ())
/-- Clock -/
@[reducible] def impl_Node.u10 (x : T_impl_Node) (v : Int) : T_impl_Node := (x.1, x.2.1, x.2.2.1, x.2.2.2.1, x.2.2.2.2.1, x.2.2.2.2.2.1, x.2.2.2.2.2.2.1, x.2.2.2.2.2.2.2.1, x.2.2.2.2.2.2.2.2.1, x.2.2.2.2.2.2.2.2.2.1, v, x.2.2.2.2.2.2.2.2.2.2.2.1, x.2.2.2.2.2.2.2.2.2.2.2.2.1, x.2.2.2.2.2.2.2.2.2.2.2.2.2.1, ())
/-- Limit -/
@[reducible] def impl_Node.u11 (x : T_impl_Node) (v : Int) : T_impl_Node := (x.1, x.2.1, x.2.2.1, x.2.2.2.1, x.2.2.2.2.1, x.2.2.2.2.2.1, x.2.2.2.2.2.2.1, x.2.2.2.2.2.2.2.1, x.2.2.2.2.2.2.2.2.1, x.2.2.2.2.2.2.2.2.2.1, x.2.2.2.2.2.2.2.2.2.2.1, v, x.2.2.2.2.2.2.2.2.2.2.2.2.1, x.2.2.2.2.2.2.2.2.2.2.2.2.2.1, ())
/-- Votes -/
@[reducible] def impl_Node.u12 (x : T_impl_Node) (v : (List Int)) : T_impl_Node := (x.1, x.2.1, x.2.2.1, x.2.2.2.1, x.2.2.2.2.1, x.2.2.2.2.2.1, x.2.2.2.2.2.2.1, x.2.2.2.2.2.2.2.1, x.2.2.2.2.2.2.2.2.1, x.2.2.2.2.2.2.2.2.2.1, x.2.2.2.2.2.2.2.2.2.2.1, x.2.2.2.2.2.2.2.2.2.2.2.1, v, x.2.2.2.2.2.2.2.2.2.2.2.2.2.1, ())
/-- Peers -/
@[reducible] def impl_Node.u13 (x : T_impl_Node) (v : (List T_impl_Peer)) : T_impl_Node := (x.1, x.2.1, x.2.2.1, x.2.2.2.1, x.2.2.2.2.1, x.2.2.2.2.2.1, x.2.2.2.2.2.2.1, x.2.2.2.2.2.2.2.1, x.2.2.2.2.2.2.2.2.1, x.2.2.2.2.2.2.2.2.2.1, x.2.2.2.2.2.2.2.2.2.2.1, x.2.2.2.2.2.2.2.2.2.2.2.1, x.2.2.2.2.2.2.2.2.2.2.2.2.1, v, ())
/-- spec_l01Cur: b, i, h -/
abbrev T_spec_l01Cur : Type := ((List Int) × (Int × (Int × Unit)))
abbrev Z_spec_l01Cur : T_spec_l01Cur := ([], ((0 : Int), ((0 : Int), ())))
/-- spec_l18Cluster: nodes, net -/
abbrev T_spec_l18Cluster : Type := ((List T_impl_Node) × ((List T_impl_Message) × Unit))
abbrev Z_spec_l18Cluster : T_spec_l18Cluster := ([], ([], ()))
/-- spec_l18Run: n.Id, n.Term, n.Vote, n.Role, n.Lead, n.Conf, n.Log.Start, n.Log.StartTerm, n.Log.Entries, n.Commit, n.Clock, n.Limit, n.Votes, n.Peers, told -/
abbrev T_spec_l18Run : Type := (Int × (Int × (Int × (Int × (Int × ((List Int) × (Int × (Int × ((List T_impl_Entry) × (Int × (Int × (Int × ((List Int) × ((List T_impl_Peer) × ((List T_impl_Message) × Unit)))))))))))))))
abbrev Z_spec_l18Run : T_spec_l18Run := ((0 : Int), ((0 : Int), ((0 : Int), ((0 : Int), ((0 : Int), ([], ((0 : Int), ((0 : Int), ([], ((0 : Int), ((0 : Int), ((0 : Int), ([], ([], ([], ())))))))))))))))
/-- n.Term -/
@[reducible] def spec_l18Run.u1 (x : T_spec_l18Run) (v : Int) : T_spec_l18Run := (x.1, v, x.2.2.1, x.2.2.2.1, x.2.2.2.2.1, x.2.2.2.2.2.1, x.2.2.2.2.2.2.1, x.2.2.2.2.2.2.2.1, x.2.2.2.2.2.2.2.2.1, x.2.2.2.2.2.2.2.2.2.1, x.2.2.2.2.2.2.2.2.2.2.1, x.2.2.2.2.2.2.2.2.2.2.2.1, x.2.2.2.2.2.2.2.2.2.2.2.2.1, x.2.2.2.2.2.2.2.2.2.2.2.2.2.1, x.2.2.2.2.2.2.2.2.2.2.2.2.2.2.1, ())
/-- n.Vote -/
@[reducible] def spec_l18Run.u2 (x : T_spec_l18Run) (v : Int) : T_spec_l18Run := (x.1, x.2.1, v, x.2.2.2.1, x.2.2.2.2.1, x.2.2.2.2.2.1, x.2.2.2.2.2.2.1, x.2.2.2.2.2.2.2.1, x.2.2.2.2.2.2.2.2.1, x.2.2.2.2.2.2.2.2.2.1, x.2.2.2.2.2.2.2.2.2.2.1, x.2.2.2.2.2.2.2.2.2.2.2.1, x.2.2.2.2.2.2.2.2.2.2.2.2.1, x.2.2.2.2.2.2.2.2.2.2.2.2.2.1, x.2.2.2.2.2.2.2.2.2.2.2.2.2.2.1, ())
/-- n.Role -/
@[reducible] def spec_l18Run.u3 (x : T_spec_l18Run) (v : Int) : T_spec_l18Run := (x.1, x.2.1, x.2.2.1, v, x.2.2.2.2.1, x.2.2.2.2.2.1, x.2.2.2.2.2.2.1, x.2.2.2.2.2.2.2.1, x.2.2.2.2.2.2.2.2.1, x.2.2.2.2.2.2.2.2.2.1, x.2.2.2.2.2.2.2.2.2.2.1, x.2.2.2.2.2.2.2.2.2.2.2.1, x.2.2.2.2.2.2.2.2.2.2.2.2.1, x.2.2.2.2.2.2.2.2.2.2.2.2.2.1, x.2.2.2.2.2.2.2.2.2.2.2.2.2.2.1, ())
/-- n.Lead -/
@[reducible] def spec_l18Run.u4 (x : T_spec_l18Run) (v : Int) : T_spec_l18Run := (x.1, x.2.1, x.2.2.1, x.2.2.2.1, v, x.2.2.2.2.2.1, x.2.2.2.2.2.2.1, x.2.2.2.2.2.2.2.1, x.2.2.2.2.2.2.2.2.1, x.2.2.2.2.2.2.2.2.2.1, x.2.2.2.2.2.2.2.2.2.2.1, x.2.2.2.2.2.2.2.2.2.2.2.1, x.2.2.2.2.2.2.2.2.2.2.2.2.1, x.2.2.2.2.2.2.2.2.2.2.2.2.2.1, x.2.2.2.2.2.2.2.2.2.2.2.2.2.2.1, ())
/-- n.Conf -/
@[reducible] def spec_l18Run.u5 (x : T_spec_l18Run) (v : (List Int)) : T_spec_l18Run := (x.1, x.2.1, x.2.2.1, x.2.2.2.1, x.2.2.2.2.1, v, x.2.2.2.2.2.2.1, x.2.2.2.2.2.2.2.1, x.2.2.2.2.2.2.2.2.1, x.2.2.2.2.2.2.2.2.2.1, x.2.2.2.2.2.2.2.2.2.2.1, x.2.2.2.2.2.2.2.2.2.2.2.1, x.2.2.2.2.2.2.2.2.2.2.2.2.1, x.2.2.2.2.2.2.2.2.2.2.2.2.2.1, x.2.2.2.2.2.2.2.2.2.2.2.2.2.2.1, ())
/-- n.Log.Start -/
@[reducible] def spec_l18Run.u6 (x : T_spec_l18Run) (v : Int) : T_spec_l18Run := (x.1, x.2.1, x.2.2.1, x.2.2.2.1, x.2.2.2.2.1, x.2.2.2.2.2.1, v, x.2.2.2.2.2.2.2.1, x.2.2.2.2.2.2.2.2.1, x.2.2.2.2.2.2.2.2.2.1, x.2.2.2.2.2.2.2.2.2.2.1, x.2.2.2.2.2.2.2.2.2.2.2.1, x.2.2.2.2.2.2.2.2.2.2.2.2.1, x.2.2.2.2.2.2.2.2.2.2.2.2.2.1, x.2.2.2.2.2.2.2.2.2.2.2.2.2.2.1, ())
/-- n.Log.StartTerm -/
@[reducible] def spec_l18Run.u7 (x : T_spec_l18Run) (v : Int) : T_spec_l18Run := (x.1, x.2.1, x.2.2.1, x.2.2.2.1, x.2.2.2.2.1, x.2.2.2.2.2.1, x.2.2.2.2.2.2.1, v, x.2.2.2.2.2.2.2.2.1, x.2.2.2.2.2.2.2.2.2.1, x.2.2.2.2.2.2.2.2.2.2.1, x.2.2.2.2.2.2.2.2.2.2.2.1, x.2.2.2.2.2.2.2.2.2.2.2.2.1, x.2.2.2.2.2.2.2.2.2.2.2.2.2.1, x.2.2.2.2.2.2.2.2.2.2.2.2.2.2.1, ())
/-- n.Log.Entries -/
@[reducible] def spec_l18Run.u8 (x : T_spec_l18Run) (v : (List T_impl_Entry)) : T_spec_l18Run := (x.1, x.2.1, x.2.2.1, x.2.2.2.1, x.2.2.2.2.1, x.2.2.2.2.2.1, x.2.2.2.2.2.2.1, x.2.2.2.2.2.2.2.1, v, x.2.2.2.2.2.2.2.2.2.1, x.2.2.2.2.2.2.2.2.2.2.1, x.2.2.2.2.2.2.2.2.2.2.2.1, x.2.2.2.2.2.2.2.2.2.2.2.2.1, x.2.2.2.2.2.2.2.2.2.2.2.2.2.1, x.2.2.2.2.2.2.2.2.2.2.2.2.2.2.1, ())
/-- n.Commit -/
@[reducible] def spec_l18Run.u9 (x : T_spec_l18Run) (v : Int) : T_spec_l18Run := (x.1, x.2.1, x.2.2.1, x.2.2.2.1, x.2.2.2.2.1, x.2.2.2.2.2.1, x.2.2.2.2.2.2.1, x.2.2.2.2.2.2.2.1, x.2.2.2.2.2.2.2.2.1, v, x.2.2.2.2.2.2.2.2.2.2.1, x.2.2.2.2.2.2.2.2.2.2.2.1, x.2.2.2.2.2.2.2.2.2.2.2.2.1, x.2.2.2.2.2.2.2.2.2.2.2.2.2.1, x.2.2.2.2.2.2.2.2.2.2.2.2.2.2.1, ())
/-- n.Clock -/
@[reducible] def spec_l18Run.u10 (x : T_spec_l18Run) (v : Int) : T_spec_l18Run := (x.1, x.2.1, x.2.2.1, x.2.2.2.1, x.2.2.2.2.1, x.2.2.2.2.2.1, x.2.2.2.2.2.2.1, x.2.2.2.2.2.2.2.1, x.2.2.2.2.2.2.2.2.1, x.2.2.2.2.2.2.2.2.2.1, v, x.2.2.2.2.2.2.2.2.2.2.2.1, x.2.2.2.2.2.2.2.2.2.2.2.2.1, x.2.2.2.2.2.2.2.2.2.2.2.2.2.1, x.2.2.2.2.2.2.2.2.2.2.2.2.2.2.1, ())
/-- n.Votes -/
@[reducible] def spec_l18Run.u12 (x : T_spec_l18Run) (v : (List Int)) : T_spec_l18Run := (x.1, x.2.1, x.2.2.1, x.2.2.2.1, x.2.2.2.2.1, x.2.2.2.2.2.1, x.2.2.2.2.2.2.1, x.2.2.2.2.2.2.2.1, x.2.2.2.2.2.2.2.2.1, x.2.2.2.2.2.2.2.2.2.1, x.2.2.2.2.2.2.2.2.2.2.1, x.2.2.2.2.2.2.2.2.2.2.2.1, v, x.2.2.2.2.2.2.2.2.2.2.2.2.2.1, x.2.2.2.2.2.2.2.2.2.2.2.2.2.2.1, ())
/-- n.Peers -/
@[reducible] def spec_l18Run.u13 (x : T_spec_l18Run) (v : (List T_impl_Peer)) : T_spec_l18Run := (x.1, x.2.1, x.2.2.1, x.2.2.2.1, x.2.2.2.2.1, x.2.2.2.2.2.1, x.2.2.2.2.2.2.1, x.2.2.2.2.2.2.2.1, x.2.2.2.2.2.2.2.2.1, x.2.2.2.2.2.2.2.2.2.1, x.2.2.2.2.2.2.2.2.2.2.1, x.2.2.2.2.2.2.2.2.2.2.2.1, x.2.2.2.2.2.2.2.2.2.2.2.2.1, v, x.2.2.2.2.2.2.2.2.2.2.2.2.2.2.1, ())
/-- told -/
@[reducible] def spec_l18Run.u14 (x : T_spec_l18Run) (v : (List T_impl_Message)) : T_spec_l18Run := (x.1, x.2.1, x.2.2.1, x.2.2.2.1, x.2.2.2.2.1, x.2.2.2.2.2.1, x.2.2.2.2.2.2.1, x.2.2.2.2.2.2.2.1, x.2.2.2.2.2.2.2.2.1, x.2.2.2.2.2.2.2.2.2.1, x.2.2.2.2.2.2.2.2.2.2.1, x.2.2.2.2.2.2.2.2.2.2.2.1, x.2.2.2.2.2.2.2.2.2.2.2.2.1, x.2.2.2.2.2.2.2.2.2.2.2.2.2.1, v, ())

/-- laws.big -/
noncomputable def laws_big.f (code0 : (List Int)) : Option ((Bool × Unit) × Unit) :=
  some (((decide (((code0.length : Nat) : Int) > (1048576 : Int))), ()), ())

/-- spec.l01New -/
noncomputable def spec_l01New.P0 : (T_spec_l01Cur × Unit) → Option (((List Int) × (Int × (Int × (Bool × Unit)))) × Unit) := fun
  | ((code0, h0, i0, _), (_)) =>
  (bif (decide (i0 < ((code0.length : Nat) : Int))) then
  some ((code0, h0, i0, (decide (i0 < (4000 : Int))), ()), ())
  else
  some ((code0, h0, i0, false, ()), ()))
noncomputable def spec_l01New.S1 : (T_spec_l01Cur × Unit) → Option ((T_spec_l01Cur × Unit) ⊕ (((List Int) × (Int × Unit)) × Unit)) := fun
  | ((code0, h0, i0, _), (_)) =>
  (Option.bind (spec_l01New.P0 ((code0, h0, i0, ()), ())) fun
  | ((code1, h1, i1, t15_0, _), (_)) => (bif t15_0 then
   (bif (decide (0 ≤ i1) && decide (i1 < (code1.length : Int))) then
    (letv (IntKind.i64.wrap ((IntKind.i64.wrap (h1 * (131 : Int))) + (IntKind.i64.wrap (code1.getD (i1).toNat (0 : Int))))) fun v0 =>
     (letv (IntKind.i64.wrap ((BitVec.ofInt (IntKind.bits .i64) (IntKind.i64.wrap (v0 + (7 : Int))) &&& BitVec.ofInt (IntKind.bits .i64) (1073741823 : Int)).toNat)) fun v1 =>
      some (.inl ((code1, v1, (IntKind.i64.wrap (i1 + (1 : Int))), ()), ()))))
    else
    none)
   else
   some (.inr ((code1, h1, ()), ()))))
noncomputable def spec_l01New.L1 : (T_spec_l01Cur × Unit) → Option (((List Int) × (Int × Unit)) × Unit) := lim spec_l01New.S1
noncomputable def spec_l01New.f (code0 : (List Int)) : Option ((Unit × Unit) × (T_spec_l01Cur × Unit)) :=
  (Option.bind (spec_l01New.L1 ((code0, (IntKind.i64.wrap ((37401 : Int) + ((code0.length : Nat) : Int))), (0 : Int), ()), ())) fun
  | ((code1, h0, _), (_)) => some (((), ()), ((code1, (0 : Int), h0, ()), ())))

/-- spec.l18Steps -/
noncomputable def spec_l18Steps.f (code0 : (List Int)) : Option ((Int × Unit) × Unit) :=
  (bif ((4 : Int) == 0) then
  none
  else
  (letv (IntKind.i64.wrap ((10 : Int) + (IntKind.i64.wrap ((((code0.length : Nat) : Int)).tdiv (4 : Int))))) fun v0 =>
   (bif (decide (v0 > (70 : Int))) then
    some (((70 : Int), ()), ())
    else
    some ((v0, ()), ()))))

/-- spec.l01Byte -/
noncomputable def spec_l01Byte.P0 : ((Unit × (Int × (Bool × Unit))) × (T_spec_l01Cur × Unit)) → Option ((Int × Unit) × (T_spec_l01Cur × Unit)) := fun
  | ((_, x0, t34_0, _), (c0, _)) =>
  (bif t34_0 then
  (bif (decide (0 ≤ c0.2.1) && decide (c0.2.1 < (c0.1.length : Int))) then
   (letv (IntKind.i64.wrap ((BitVec.ofInt (IntKind.bits .i64) (IntKind.i64.wrap (x0 + (IntKind.i64.wrap (c0.1.getD (c0.2.1).toNat (0 : Int))))) &&& BitVec.ofInt (IntKind.bits .i64) (255 : Int)).toNat)) fun v0 =>
    some ((v0, ()), ((c0.1, (IntKind.i64.wrap (c0.2.1 + (1 : Int))), c0.2.2.1, ()), ())))
   else
   none)
  else
  some ((x0, ()), (c0, ())))
noncomputable def spec_l01Byte.f (c0 : T_spec_l01Cur) : Option ((Int × Unit) × (T_spec_l01Cur × Unit)) :=
  (letv (IntKind.i64.wrap ((IntKind.i64.wrap (c0.2.2.1 * (6364136223846793005 : Int))) + (1442695040888963407 : Int))) fun v0 =>
  (bif (decide ((33 : Int) < 0)) then
   none
   else
   (bif (decide ((45 : Int) < 0)) then
    none
    else
    (letv (IntKind.i64.wrap ((BitVec.ofInt (IntKind.bits .i64) ((v0).fdiv (2 ^ min ((33 : Int)).toNat (IntKind.bits .i64))) ^^^ BitVec.ofInt (IntKind.bits .i64) ((v0).fdiv (2 ^ min ((45 : Int)).toNat (IntKind.bits .i64)))).toNat)) fun v1 =>
     (letv (IntKind.i64.wrap ((BitVec.ofInt (IntKind.bits .i64) v1 &&& BitVec.ofInt (IntKind.bits .i64) (255 : Int)).toNat)) fun v2 =>
      (Option.bind (spec_l01Byte.P0 (((), v2, (decide (c0.2.1 < ((c0.1.length : Nat) : Int))), ()), ((c0.1, c0.2.1, v0, ()), ()))) fun
       | ((x0, _), (c1, _)) => some ((x0, ()), (c1, ()))))))))

/-- spec.l01Below -/
noncomputable def spec_l01Below.f (n0 : Int) (c0 : T_spec_l01Cur) : Option ((Int × Unit) × (T_spec_l01Cur × Unit)) :=
  (bif (decide (n0 ≤ (0 : Int))) then
  some (((0 : Int), ()), (c0, ()))
  else
  (bif (decide (n0 ≤ (256 : Int))) then
   (Option.bind (spec_l01Byte.f c0) fun
    | ((r0, _), (c1, _)) => (bif (n0 == 0) then
     none
     else
     some ((((r0).tmod n0), ()), ((c0.1, c1.2.1, c1.2.2.1, ()), ()))))
   else
   (Option.bind (spec_l01Byte.f c0) fun
    | ((r1, _), (c2, _)) => (Option.bind (spec_l01Byte.f (c0.1, c2.2.1, c2.2.2.1, ())) fun
     | ((r2, _), (c3, _)) => (Option.bind (spec_l01Byte.f (c0.1, c3.2.1, c3.2.2.1, ())) fun
      | ((r3, _), (c4, _)) => (Option.bind (spec_l01Byte.f (c0.1, c4.2.1, c4.2.2.1, ())) fun
       | ((r4, _), (c5, _)) => (letv (IntKind.i64.wrap ((IntKind.i64.wrap (r1 * (16777216 : Int))) + (IntKind.i64.wrap (r2 * (65536 : Int))))) fun v0 =>
        (bif (n0 == 0) then
         none
         else
         (letv (((IntKind.i64.wrap ((IntKind.i64.wrap (v0 + (IntKind.i64.wrap (r3 * (256 : Int))))) + r4))).tmod n0) fun v1 =>
          some ((v1, ()), ((c0.1, c5.2.1, c5.2.2.1, ()), ())))))))))))

/-- spec.l01Once -/
noncomputable def spec_l01Once.f (n0 : Int) (c0 : T_spec_l01Cur) : Option ((Bool × Unit) × (T_spec_l01Cur × Unit)) :=
  (Option.bind (spec_l01Below.f n0 c0) fun
  | ((r0, _), (c1, _)) => some (((r0 == (0 : Int)), ()), ((c0.1, c1.2.1, c1.2.2.1, ()), ())))

/-- spec.l05Conf -/
noncomputable def spec_l05Conf.P0 : ((Unit × ((List Int) × (Int × (Bool × Unit)))) × (T_spec_l01Cur × Unit)) → Option ((Unit × ((List Int) × (Int × Unit))) × (T_spec_l01Cur × Unit)) := fun
  | ((_, out0, i0, t11_0, _), (c0, _)) =>
  (bif t11_0 then
  (bif (decide ((out0.length + ([i0] : List Int).length) * 8 ≤ 140737488355328)) then
   some (((), (out0 ++ ([i0] : List Int)), i0, ()), (c0, ()))
   else
   none)
  else
  some (((), out0, i0, ()), (c0, ())))
noncomputable def spec_l05Conf.S1 : ((Unit × ((List Int) × (Int × Unit))) × (T_spec_l01Cur × Unit)) → Option (((Unit × ((List Int) × (Int × Unit))) × (T_spec_l01Cur × Unit)) ⊕ (((List Int) × Unit) × (T_spec_l01Cur × Unit))) := fun
  | ((_, out0, i0, _), (c0, _)) =>
  (bif (decide (i0 ≤ (4 : Int))) then
  (Option.bind (spec_l01Once.f (2 : Int) c0) fun
   | ((r0, _), (c1, _)) => (Option.bind (spec_l05Conf.P0 (((), out0, i0, r0, ()), ((c0.1, c1.2.1, c1.2.2.1, ()), ()))) fun
    | ((_, out1, i1, _), (c2, _)) => some (.inl (((), out1, (IntKind.i64.wrap (i1 + (1 : Int))), ()), (c2, ())))))
  else
  some (.inr ((out0, ()), (c0, ()))))
noncomputable def spec_l05Conf.L1 : ((Unit × ((List Int) × (Int × Unit))) × (T_spec_l01Cur × Unit)) → Option (((List Int) × Unit) × (T_spec_l01Cur × Unit)) := lim spec_l05Conf.S1
noncomputable def spec_l05Conf.P2 : (((List Int) × (Bool × Unit)) × (T_spec_l01Cur × Unit)) → Option (((List Int) × Unit) × (T_spec_l01Cur × Unit)) := fun
  | ((out0, t18_0, _), (c0, _)) =>
  (bif t18_0 then
  (bif (decide ((out0.length + ([(1 : Int)] : List Int).length) * 8 ≤ 140737488355328)) then
   some (((out0 ++ ([(1 : Int)] : List Int)), ()), (c0, ()))
   else
   none)
  else
  some ((out0, ()), (c0, ())))
noncomputable def spec_l05Conf.f (c0 : T_spec_l01Cur) : Option (((List Int) × Unit) × (T_spec_l01Cur × Unit)) :=
  (Option.bind (spec_l05Conf.L1 (((), ([] : List Int), (1 : Int), ()), (c0, ()))) fun
  | ((out0, _), (c1, _)) => (Option.bind (spec_l05Conf.P2 ((out0, (((out0.length : Nat) : Int) == (0 : Int)), ()), (c1, ()))) fun
   | ((out1, _), (c2, _)) => some ((out1, ()), (c2, ()))))

/-- spec.l01In -/
noncomputable def spec_l01In.P0 : ((Int × (Int × (Int × Unit))) × Unit) → Option ((Bool × Unit) × Unit) := fun
  | ((x0, least0, most0, _), (_)) =>
  (bif (decide (x0 ≥ least0)) then
  some (((decide (x0 ≤ most0)), ()), ())
  else
  some ((false, ()), ()))
noncomputable def spec_l01In.f (x0 : Int) (least0 : Int) (most0 : Int) : Option ((Bool × Unit) × Unit) :=
  (Option.bind (spec_l01In.P0 ((x0, least0, most0, ()), ())) fun
  | ((t6_0, _), (_)) => some ((t6_0, ()), ()))

/-- spec.l05Rise -/
noncomputable def spec_l05Rise.P0 : (((List Int) × (Int × (Int × (Int × Unit)))) × Unit) → Option (((List Int) × (Int × (Int × (Int × (Bool × Unit))))) × Unit) := fun
  | ((list0, least0, most0, i0, _), (_)) =>
  (bif (decide (0 ≤ i0) && decide (i0 < (list0.length : Int))) then
  (Option.bind (spec_l01In.f (list0.getD (i0).toNat (0 : Int)) least0 most0) fun
   | ((r0, _), (_)) => (bif (!r0) then
    some ((list0, least0, most0, i0, true, ()), ())
    else
    (bif (decide (i0 > (0 : Int))) then
     (bif (decide (0 ≤ (IntKind.i64.wrap (i0 - (1 : Int)))) && decide ((IntKind.i64.wrap (i0 - (1 : Int))) < (list0.length : Int))) then
      (bif (decide (0 ≤ i0) && decide (i0 < (list0.length : Int))) then
       (letv (decide ((list0.getD ((IntKind.i64.wrap (i0 - (1 : Int)))).toNat (0 : Int)) ≥ (list0.getD (i0).toNat (0 : Int)))) fun v0 =>
        some ((list0, least0, most0, i0, v0, ()), ()))
       else
       none)
      else
      none)
     else
     some ((list0, least0, most0, i0, false, ()), ()))))
  else
  none)
noncomputable def spec_l05Rise.S1 : (((List Int) × (Int × (Int × (Int × Unit)))) × Unit) → Option ((((List Int) × (Int × (Int × (Int × Unit)))) × Unit) ⊕ ((Unit × Unit) ⊕ ((Bool × Unit) × Unit))) := fun
  | ((list0, least0, most0, i0, _), (_)) =>
  (bif (decide (i0 < ((list0.length : Nat) : Int))) then
  (Option.bind (spec_l05Rise.P0 ((list0, least0, most0, i0, ()), ())) fun
   | ((list1, least1, most1, i1, t37_0, _), (_)) => (bif t37_0 then
    some (.inr (.inr ((false, ()), ())))
    else
    some (.inl ((list1, least1, most1, (IntKind.i64.wrap (i1 + (1 : Int))), ()), ()))))
  else
  some (.inr (.inl ((), ()))))
noncomputable def spec_l05Rise.L1 : (((List Int) × (Int × (Int × (Int × Unit)))) × Unit) → Option ((Unit × Unit) ⊕ ((Bool × Unit) × Unit)) := lim spec_l05Rise.S1
noncomputable def spec_l05Rise.f (list0 : (List Int)) (least0 : Int) (most0 : Int) : Option ((Bool × Unit) × Unit) :=
  (Option.bind (spec_l05Rise.L1 ((list0, least0, most0, (0 : Int), ()), ())) fun
  | (.inl ((_), (_))) => some ((true, ()), ())
  | (.inr ((t6_0, _), (_))) => some ((t6_0, ()), ()))

/-- spec.ConfOk -/
noncomputable def spec_ConfOk.P0 : (((List Int) × Unit) × Unit) → Option ((Bool × Unit) × Unit) := fun
  | ((conf0, _), (_)) =>
  (Option.bind (spec_l01In.f ((conf0.length : Nat) : Int) (1 : Int) (4 : Int)) fun
  | ((r0, _), (_)) => (bif r0 then
   (Option.bind (spec_l05Rise.f conf0 (1 : Int) (4 : Int)) fun
    | ((r1, _), (_)) => some ((r1, ()), ()))
   else
   some ((false, ()), ())))
noncomputable def spec_ConfOk.f (conf0 : (List Int)) : Option ((Bool × Unit) × Unit) :=
  (Option.bind (spec_ConfOk.P0 ((conf0, ()), ())) fun
  | ((t2_0, _), (_)) => some ((t2_0, ()), ()))

/-- spec.ReadConf -/
noncomputable def spec_ReadConf.P0 : ((ByteArray × ((List Int) × (Int × Unit))) × Unit) → Option ((ByteArray × ((List Int) × (Int × (Bool × Unit)))) × Unit) := fun
  | ((text0, out0, i0, _), (_)) =>
  (bif (decide (i0 < ((text0.size : Nat) : Int))) then
  some ((text0, out0, i0, (decide (i0 ≤ (4 : Int))), ()), ())
  else
  some ((text0, out0, i0, false, ()), ()))
noncomputable def spec_ReadConf.S1 : ((ByteArray × ((List Int) × (Int × Unit))) × Unit) → Option (((ByteArray × ((List Int) × (Int × Unit))) × Unit) ⊕ ((ByteArray × ((List Int) × Unit)) × Unit)) := fun
  | ((text0, out0, i0, _), (_)) =>
  (Option.bind (spec_ReadConf.P0 ((text0, out0, i0, ()), ())) fun
  | ((text1, out1, i1, t14_0, _), (_)) => (bif t14_0 then
   (bif (decide (0 ≤ i1) && decide (i1 < (text1.size : Int))) then
    (bif (decide ((out1.length + ([(IntKind.i64.wrap (byteAt text1 i1))] : List Int).length) * 8 ≤ 140737488355328)) then
     some (.inl ((text1, (out1 ++ ([(IntKind.i64.wrap (byteAt text1 i1))] : List Int)), (IntKind.i64.wrap (i1 + (1 : Int))), ()), ()))
     else
     none)
    else
    none)
   else
   some (.inr ((text1, out1, ()), ()))))
noncomputable def spec_ReadConf.L1 : ((ByteArray × ((List Int) × (Int × Unit))) × Unit) → Option ((ByteArray × ((List Int) × Unit)) × Unit) := lim spec_ReadConf.S1
noncomputable def spec_ReadConf.P2 : ((ByteArray × ((List Int) × Unit)) × Unit) → Option (((List Int) × (Bool × Unit)) × Unit) := fun
  | ((text0, out0, _), (_)) =>
  (bif (((out0.length : Nat) : Int) != ((text0.size : Nat) : Int)) then
  some ((out0, true, ()), ())
  else
  (Option.bind (spec_ConfOk.f out0) fun
   | ((r0, _), (_)) => some ((out0, (!r0), ()), ())))
noncomputable def spec_ReadConf.f (text0 : ByteArray) : Option (((List Int) × (Bool × Unit)) × Unit) :=
  (Option.bind (spec_ReadConf.L1 ((text0, ([] : List Int), (0 : Int), ()), ())) fun
  | ((text1, out0, _), (_)) => (Option.bind (spec_ReadConf.P2 ((text1, out0, ()), ())) fun
   | ((out1, t33_0, _), (_)) => (bif t33_0 then
    some ((([] : List Int), false, ()), ())
    else
    some ((out1, true, ()), ()))))

/-- spec.EntryOk -/
noncomputable def spec_EntryOk.f (e0 : T_impl_Entry) : Option ((Bool × Unit) × Unit) :=
  (Option.bind (spec_l01In.f e0.1 (0 : Int) (100000 : Int)) fun
  | ((r0, _), (_)) => (bif (!r0) then
   some ((false, ()), ())
   else
   (bif (e0.2.1 == (1 : Int)) then
    some (((e0.2.2.1.toList == (⟨#[]⟩ : ByteArray).toList), ()), ())
    else
    (bif (e0.2.1 == (2 : Int)) then
     (Option.bind (spec_ReadConf.f e0.2.2.1) fun
      | ((r1, r2, _), (_)) => some ((r2, ()), ()))
     else
     (bif (e0.2.1 == (3 : Int)) then
      some (((decide (((e0.2.2.1.size : Nat) : Int) ≤ (120 : Int))), ()), ())
      else
      some ((false, ()), ()))))))

/-- spec.LogOk -/
noncomputable def spec_LogOk.P0 : ((Unit × Unit) × (T_impl_Log × Unit)) → Option ((Unit × (Bool × Unit)) × (T_impl_Log × Unit)) := fun
  | ((_, _), (l0, _)) =>
  (Option.bind (spec_l01In.f l0.1 (0 : Int) (1000000 : Int)) fun
  | ((r0, _), (_)) => (bif (!r0) then
   some (((), true, ()), (l0, ()))
   else
   (Option.bind (spec_l01In.f l0.2.1 (0 : Int) (100000 : Int)) fun
    | ((r1, _), (_)) => (bif (!r1) then
     some (((), true, ()), (l0, ()))
     else
     (bif (decide (((l0.2.2.1.length : Nat) : Int) > (60 : Int))) then
      some (((), true, ()), (l0, ()))
      else
      some (((), (decide ((IntKind.i64.wrap (l0.1 + ((l0.2.2.1.length : Nat) : Int))) > (1000000 : Int))), ()), (l0, ())))))))
noncomputable def spec_LogOk.P1 : ((Unit × (Int × (Int × Unit))) × (T_impl_Log × Unit)) → Option ((Unit × (Int × (Bool × Unit))) × (T_impl_Log × Unit)) := fun
  | ((_, term0, i0, _), (l0, _)) =>
  (bif (decide (0 ≤ i0) && decide (i0 < (l0.2.2.1.length : Int))) then
  (Option.bind (spec_EntryOk.f (l0.2.2.1.getD (i0).toNat Z_impl_Entry)) fun
   | ((r0, _), (_)) => (bif (!r0) then
    some (((), i0, true, ()), (l0, ()))
    else
    (bif (decide (0 ≤ i0) && decide (i0 < (l0.2.2.1.length : Int))) then
     some (((), i0, (decide ((l0.2.2.1.getD (i0).toNat Z_impl_Entry).1 < term0)), ()), (l0, ()))
     else
     none)))
  else
  none)
noncomputable def spec_LogOk.S2 : ((Unit × (Int × (Int × Unit))) × (T_impl_Log × Unit)) → Option (((Unit × (Int × (Int × Unit))) × (T_impl_Log × Unit)) ⊕ ((Unit × Unit) ⊕ ((Bool × Unit) × Unit))) := fun
  | ((_, term0, i0, _), (l0, _)) =>
  (bif (decide (i0 < ((l0.2.2.1.length : Nat) : Int))) then
  (Option.bind (spec_LogOk.P1 (((), term0, i0, ()), (l0, ()))) fun
   | ((_, i1, t55_0, _), (l1, _)) => (bif t55_0 then
    some (.inr (.inr ((false, ()), ())))
    else
    (bif (decide (0 ≤ i1) && decide (i1 < (l1.2.2.1.length : Int))) then
     some (.inl (((), (l1.2.2.1.getD (i1).toNat Z_impl_Entry).1, (IntKind.i64.wrap (i1 + (1 : Int))), ()), (l1, ())))
     else
     none)))
  else
  some (.inr (.inl ((), ()))))
noncomputable def spec_LogOk.L2 : ((Unit × (Int × (Int × Unit))) × (T_impl_Log × Unit)) → Option ((Unit × Unit) ⊕ ((Bool × Unit) × Unit)) := lim spec_LogOk.S2
noncomputable def spec_LogOk.f (l0 : T_impl_Log) : Option ((Bool × Unit) × Unit) :=
  (Option.bind (spec_LogOk.P0 (((), ()), (l0, ()))) fun
  | ((_, t29_0, _), (l1, _)) => (bif t29_0 then
   some ((false, ()), ())
   else
   (Option.bind (spec_LogOk.L2 (((), l1.2.1, (0 : Int), ()), (l1, ()))) fun
    | (.inl ((_), (_))) => some ((true, ()), ())
    | (.inr ((t2_0, _), (_))) => some ((t2_0, ()), ()))))

/-- spec.LogLast -/
noncomputable def spec_LogLast.f (l0 : T_impl_Log) : Option ((Int × (Int × Unit)) × Unit) :=
  (bif (((l0.2.2.1.length : Nat) : Int) == (0 : Int)) then
  some ((l0.1, l0.2.1, ()), ())
  else
  (bif (decide (0 ≤ (IntKind.i64.wrap (((l0.2.2.1.length : Nat) : Int) - (1 : Int)))) && decide ((IntKind.i64.wrap (((l0.2.2.1.length : Nat) : Int) - (1 : Int))) < (l0.2.2.1.length : Int))) then
   some (((IntKind.i64.wrap (l0.1 + ((l0.2.2.1.length : Nat) : Int))), (l0.2.2.1.getD ((IntKind.i64.wrap (((l0.2.2.1.length : Nat) : Int) - (1 : Int)))).toNat Z_impl_Entry).1, ()), ())
   else
   none))

/-- spec.ConfAt -/
noncomputable def spec_ConfAt.P0 : ((Int × (Unit × ((List Int) × (Int × Unit)))) × (T_impl_Node × Unit)) → Option ((Int × (Unit × ((List Int) × (Int × (Bool × Unit))))) × (T_impl_Node × Unit)) := fun
  | ((index0, _, out0, i0, _), (n0, _)) =>
  (bif (decide (i0 < ((n0.2.2.2.2.2.2.2.2.1.length : Nat) : Int))) then
  (letv (decide ((IntKind.i64.wrap ((IntKind.i64.wrap (n0.2.2.2.2.2.2.1 + (1 : Int))) + i0)) ≤ index0)) fun v0 =>
   some ((index0, (), out0, i0, v0, ()), (n0, ())))
  else
  some ((index0, (), out0, i0, false, ()), (n0, ())))
noncomputable def spec_ConfAt.P1 : ((Int × (Unit × ((List Int) × (Int × ((List Int) × (Bool × Unit)))))) × (T_impl_Node × Unit)) → Option ((Int × (Unit × ((List Int) × (Int × Unit)))) × (T_impl_Node × Unit)) := fun
  | ((index0, _, out0, i0, conf0, t50_0, _), (n0, _)) =>
  (bif t50_0 then
  some ((index0, (), conf0, i0, ()), (n0, ()))
  else
  some ((index0, (), out0, i0, ()), (n0, ())))
noncomputable def spec_ConfAt.P2 : ((Int × (Unit × ((List Int) × (Int × (Bool × Unit))))) × (T_impl_Node × Unit)) → Option ((Int × (Unit × ((List Int) × (Int × Unit)))) × (T_impl_Node × Unit)) := fun
  | ((index0, _, out0, i0, t38_0, _), (n0, _)) =>
  (bif t38_0 then
  (bif (decide (0 ≤ i0) && decide (i0 < (n0.2.2.2.2.2.2.2.2.1.length : Int))) then
   (Option.bind (spec_ReadConf.f ((n0.2.2.2.2.2.2.2.2.1.getD (i0).toNat Z_impl_Entry).2.2.1)) fun
    | ((r0, r1, _), (_)) => (Option.bind (spec_ConfAt.P1 ((index0, (), out0, i0, r0, r1, ()), (n0, ()))) fun
     | ((index1, _, out1, i1, _), (n1, _)) => some ((index1, (), out1, i1, ()), (n1, ()))))
   else
   none)
  else
  some ((index0, (), out0, i0, ()), (n0, ())))
noncomputable def spec_ConfAt.S3 : ((Int × (Unit × ((List Int) × (Int × Unit)))) × (T_impl_Node × Unit)) → Option (((Int × (Unit × ((List Int) × (Int × Unit)))) × (T_impl_Node × Unit)) ⊕ (((List Int) × Unit) × Unit)) := fun
  | ((index0, _, out0, i0, _), (n0, _)) =>
  (Option.bind (spec_ConfAt.P0 ((index0, (), out0, i0, ()), (n0, ()))) fun
  | ((index1, _, out1, i1, t28_0, _), (n1, _)) => (bif t28_0 then
   (bif (decide (0 ≤ i1) && decide (i1 < (n1.2.2.2.2.2.2.2.2.1.length : Int))) then
    (Option.bind (spec_ConfAt.P2 ((index1, (), out1, i1, ((n1.2.2.2.2.2.2.2.2.1.getD (i1).toNat Z_impl_Entry).2.1 == (2 : Int)), ()), (n1, ()))) fun
     | ((index2, _, out2, i2, _), (n2, _)) => some (.inl ((index2, (), out2, (IntKind.i64.wrap (i2 + (1 : Int))), ()), (n2, ()))))
    else
    none)
   else
   some (.inr ((out1, ()), ()))))
noncomputable def spec_ConfAt.L3 : ((Int × (Unit × ((List Int) × (Int × Unit)))) × (T_impl_Node × Unit)) → Option (((List Int) × Unit) × Unit) := lim spec_ConfAt.S3
noncomputable def spec_ConfAt.f (n0 : T_impl_Node) (index0 : Int) : Option (((List Int) × Unit) × Unit) :=
  (bif (decide ((([] : List Int).length + n0.2.2.2.2.2.1.length) * 8 ≤ 140737488355328)) then
  (Option.bind (spec_ConfAt.L3 ((index0, (), (([] : List Int) ++ n0.2.2.2.2.2.1), (0 : Int), ()), (n0, ()))) fun
   | ((out0, _), (_)) => some ((out0, ()), ()))
  else
  none)

/-- spec.ConfOf -/
noncomputable def spec_ConfOf.f (n0 : T_impl_Node) : Option (((List Int) × Unit) × Unit) :=
  (Option.bind (spec_ConfAt.f n0 (1000060 : Int)) fun
  | ((r0, _), (_)) => some ((r0, ()), ()))

/-- spec.l18Others -/
noncomputable def spec_l18Others.P0 : (((List Int) × (Int × ((List Int) × (Int × (Bool × Unit))))) × Unit) → Option (((List Int) × (Int × ((List Int) × (Int × Unit)))) × Unit) := fun
  | ((conf0, id0, out0, i0, t19_0, _), (_)) =>
  (bif t19_0 then
  (bif (decide (0 ≤ i0) && decide (i0 < (conf0.length : Int))) then
   (bif (decide ((out0.length + ([(conf0.getD (i0).toNat (0 : Int))] : List Int).length) * 8 ≤ 140737488355328)) then
    some ((conf0, id0, (out0 ++ ([(conf0.getD (i0).toNat (0 : Int))] : List Int)), i0, ()), ())
    else
    none)
   else
   none)
  else
  some ((conf0, id0, out0, i0, ()), ()))
noncomputable def spec_l18Others.S1 : (((List Int) × (Int × ((List Int) × (Int × Unit)))) × Unit) → Option ((((List Int) × (Int × ((List Int) × (Int × Unit)))) × Unit) ⊕ (((List Int) × Unit) × Unit)) := fun
  | ((conf0, id0, out0, i0, _), (_)) =>
  (bif (decide (i0 < ((conf0.length : Nat) : Int))) then
  (bif (decide (0 ≤ i0) && decide (i0 < (conf0.length : Int))) then
   (Option.bind (spec_l18Others.P0 ((conf0, id0, out0, i0, ((conf0.getD (i0).toNat (0 : Int)) != id0), ()), ())) fun
    | ((conf1, id1, out1, i1, _), (_)) => some (.inl ((conf1, id1, out1, (IntKind.i64.wrap (i1 + (1 : Int))), ()), ())))
   else
   none)
  else
  some (.inr ((out0, ()), ())))
noncomputable def spec_l18Others.L1 : (((List Int) × (Int × ((List Int) × (Int × Unit)))) × Unit) → Option (((List Int) × Unit) × Unit) := lim spec_l18Others.S1
noncomputable def spec_l18Others.f (conf0 : (List Int)) (id0 : Int) : Option (((List Int) × Unit) × Unit) :=
  (Option.bind (spec_l18Others.L1 ((conf0, id0, ([] : List Int), (0 : Int), ()), ())) fun
  | ((out0, _), (_)) => some ((out0, ()), ()))

/-- spec.NodeOk -/
noncomputable def spec_NodeOk.P0 : ((Unit × Unit) × (T_impl_Node × Unit)) → Option ((Unit × (Bool × Unit)) × (T_impl_Node × Unit)) := fun
  | ((_, _), (n0, _)) =>
  (Option.bind (spec_l01In.f n0.1 (1 : Int) (4 : Int)) fun
  | ((r0, _), (_)) => (bif (!r0) then
   some (((), true, ()), (n0, ()))
   else
   (Option.bind (spec_ConfOk.f n0.2.2.2.2.2.1) fun
    | ((r1, _), (_)) => (bif (!r1) then
     some (((), true, ()), (n0, ()))
     else
     (Option.bind (spec_LogOk.f (n0.2.2.2.2.2.2.1, n0.2.2.2.2.2.2.2.1, n0.2.2.2.2.2.2.2.2.1, ())) fun
      | ((r2, _), (_)) => (bif (!r2) then
       some (((), true, ()), (n0, ()))
       else
       (Option.bind (spec_l01In.f n0.2.1 (0 : Int) (100000 : Int)) fun
        | ((r3, _), (_)) => (bif (!r3) then
         some (((), true, ()), (n0, ()))
         else
         (Option.bind (spec_l01In.f n0.2.2.1 (0 : Int) (4 : Int)) fun
          | ((r4, _), (_)) => (bif (!r4) then
           some (((), true, ()), (n0, ()))
           else
           (Option.bind (spec_l01In.f n0.2.2.2.2.1 (0 : Int) (4 : Int)) fun
            | ((r5, _), (_)) => (bif (!r5) then
             some (((), true, ()), (n0, ()))
             else
             (Option.bind (spec_l01In.f n0.2.2.2.1 (0 : Int) (2 : Int)) fun
              | ((r6, _), (_)) => some (((), (!r6), ()), (n0, ())))))))))))))))
noncomputable def spec_NodeOk.P1 : ((Unit × (Int × (Int × Unit))) × (T_impl_Node × Unit)) → Option ((Unit × (Int × (Bool × Unit))) × (T_impl_Node × Unit)) := fun
  | ((_, last0, term0, _), (n0, _)) =>
  (bif (decide (n0.2.1 < term0)) then
  some (((), last0, true, ()), (n0, ()))
  else
  (Option.bind (spec_l01In.f n0.2.2.2.2.2.2.2.2.2.1 n0.2.2.2.2.2.2.1 last0) fun
   | ((r0, _), (_)) => (bif (!r0) then
    some (((), last0, true, ()), (n0, ()))
    else
    (Option.bind (spec_l01In.f n0.2.2.2.2.2.2.2.2.2.2.1 (0 : Int) (20 : Int)) fun
     | ((r1, _), (_)) => (bif (!r1) then
      some (((), last0, true, ()), (n0, ()))
      else
      (Option.bind (spec_l01In.f n0.2.2.2.2.2.2.2.2.2.2.2.1 (1 : Int) (20 : Int)) fun
       | ((r2, _), (_)) => (bif (!r2) then
        some (((), last0, true, ()), (n0, ()))
        else
        (Option.bind (spec_l05Rise.f n0.2.2.2.2.2.2.2.2.2.2.2.2.1 (1 : Int) (4 : Int)) fun
         | ((r3, _), (_)) => (bif (!r3) then
          some (((), last0, true, ()), (n0, ()))
          else
          (bif (decide (((n0.2.2.2.2.2.2.2.2.2.2.2.2.1.length : Nat) : Int) > (0 : Int))) then
           some (((), last0, (n0.2.2.2.1 != (1 : Int)), ()), (n0, ()))
           else
           some (((), last0, false, ()), (n0, ()))))))))))))
noncomputable def spec_NodeOk.P2 : ((Unit × (Int × ((List Int) × (Bool × Unit)))) × (T_impl_Node × Unit)) → Option ((Unit × (Int × ((List Int) × Unit))) × (T_impl_Node × Unit)) := fun
  | ((_, last0, others0, t100_0, _), (n0, _)) =>
  (bif t100_0 then
  (Option.bind (spec_ConfOf.f n0) fun
   | ((r0, _), (_)) => (Option.bind (spec_l18Others.f r0 n0.1) fun
    | ((r1, _), (_)) => some (((), last0, r1, ()), (n0, ()))))
  else
  some (((), last0, others0, ()), (n0, ())))
noncomputable def spec_NodeOk.P3 : ((Unit × (Int × ((List Int) × (Int × (Unit × Unit))))) × (T_impl_Node × (T_impl_Peer × Unit))) → Option ((Unit × (Int × ((List Int) × (Int × (Bool × Unit))))) × (T_impl_Node × Unit)) := fun
  | ((_, last0, others0, i0, _, _), (n0, p0, _)) =>
  (bif (decide (0 ≤ i0) && decide (i0 < (others0.length : Int))) then
  (bif (p0.1 != (others0.getD (i0).toNat (0 : Int))) then
   some (((), last0, others0, i0, true, ()), (n0, ()))
   else
   (Option.bind (spec_l01In.f p0.2.1 (1 : Int) (IntKind.i64.wrap (last0 + (1 : Int)))) fun
    | ((r0, _), (_)) => (bif (!r0) then
     some (((), last0, others0, i0, true, ()), (n0, ()))
     else
     (Option.bind (spec_l01In.f p0.2.2.1 (0 : Int) (IntKind.i64.wrap (p0.2.1 - (1 : Int)))) fun
      | ((r1, _), (_)) => (bif (!r1) then
       some (((), last0, others0, i0, true, ()), (n0, ()))
       else
       (Option.bind (spec_l01In.f p0.2.2.2.1 (0 : Int) (20000 : Int)) fun
        | ((r2, _), (_)) => some (((), last0, others0, i0, (!r2), ()), (n0, ()))))))))
  else
  none)
noncomputable def spec_NodeOk.S4 : ((Unit × (Int × ((List Int) × (Int × Unit)))) × (T_impl_Node × Unit)) → Option (((Unit × (Int × ((List Int) × (Int × Unit)))) × (T_impl_Node × Unit)) ⊕ ((Unit × Unit) ⊕ ((Bool × Unit) × Unit))) := fun
  | ((_, last0, others0, i0, _), (n0, _)) =>
  (bif (decide (i0 < ((others0.length : Nat) : Int))) then
  (bif (decide (0 ≤ i0) && decide (i0 < (n0.2.2.2.2.2.2.2.2.2.2.2.2.2.1.length : Int))) then
   (Option.bind (spec_NodeOk.P3 (((), last0, others0, i0, (), ()), (n0, (n0.2.2.2.2.2.2.2.2.2.2.2.2.2.1.getD (i0).toNat Z_impl_Peer), ()))) fun
    | ((_, last1, others1, i1, t152_0, _), (n1, _)) => (bif t152_0 then
     some (.inr (.inr ((false, ()), ())))
     else
     some (.inl (((), last1, others1, (IntKind.i64.wrap (i1 + (1 : Int))), ()), (n1, ())))))
   else
   none)
  else
  some (.inr (.inl ((), ()))))
noncomputable def spec_NodeOk.L4 : ((Unit × (Int × ((List Int) × (Int × Unit)))) × (T_impl_Node × Unit)) → Option ((Unit × Unit) ⊕ ((Bool × Unit) × Unit)) := lim spec_NodeOk.S4
noncomputable def spec_NodeOk.f (n0 : T_impl_Node) : Option ((Bool × Unit) × Unit) :=
  (Option.bind (spec_NodeOk.P0 (((), ()), (n0, ()))) fun
  | ((_, t47_0, _), (n1, _)) => (bif t47_0 then
   some ((false, ()), ())
   else
   (Option.bind (spec_LogLast.f (n1.2.2.2.2.2.2.1, n1.2.2.2.2.2.2.2.1, n1.2.2.2.2.2.2.2.2.1, ())) fun
    | ((r0, r1, _), (_)) => (Option.bind (spec_NodeOk.P1 (((), r0, r1, ()), (n1, ()))) fun
     | ((_, last0, t96_0, _), (n2, _)) => (bif t96_0 then
      some ((false, ()), ())
      else
      (Option.bind (spec_NodeOk.P2 (((), last0, ([] : List Int), (n2.2.2.2.1 == (2 : Int)), ()), (n2, ()))) fun
       | ((_, last1, others0, _), (n3, _)) => (bif (((n3.2.2.2.2.2.2.2.2.2.2.2.2.2.1.length : Nat) : Int) != ((others0.length : Nat) : Int)) then
        some ((false, ()), ())
        else
        (Option.bind (spec_NodeOk.L4 (((), last1, others0, (0 : Int), ()), (n3, ()))) fun
         | (.inl ((_), (_))) => some ((true, ()), ())
         | (.inr ((t2_0, _), (_))) => some ((t2_0, ()), ())))))))))

/-- spec.NodeNew -/
noncomputable def spec_NodeNew.f (id0 : Int) (conf0 : (List Int)) : Option ((T_impl_Node × (Bool × Unit)) × Unit) :=
  (bif (decide ((([] : List Int).length + conf0.length) * 8 ≤ 140737488355328)) then
  (Option.bind (spec_NodeOk.f (id0, (0 : Int), (0 : Int), (0 : Int), (0 : Int), (([] : List Int) ++ conf0), (0 : Int), (0 : Int), ([] : List T_impl_Entry), (0 : Int), (0 : Int), (20 : Int), ([] : List Int), ([] : List T_impl_Peer), ())) fun
   | ((r0, _), (_)) => (bif (!r0) then
    some ((((0 : Int), (0 : Int), (0 : Int), (0 : Int), (0 : Int), ([] : List Int), (0 : Int), (0 : Int), ([] : List T_impl_Entry), (0 : Int), (0 : Int), (0 : Int), ([] : List Int), ([] : List T_impl_Peer), ()), false, ()), ())
    else
    some (((id0, (0 : Int), (0 : Int), (0 : Int), (0 : Int), (([] : List Int) ++ conf0), (0 : Int), (0 : Int), ([] : List T_impl_Entry), (0 : Int), (0 : Int), (20 : Int), ([] : List Int), ([] : List T_impl_Peer), ()), true, ()), ())))
  else
  none)

/-- spec.l18Copy -/
noncomputable def spec_l18Copy.f (n0 : T_impl_Node) : Option ((T_impl_Node × Unit) × Unit) :=
  (bif (decide ((([] : List Int).length + n0.2.2.2.2.2.1.length) * 8 ≤ 140737488355328)) then
  (bif (decide ((([] : List T_impl_Entry).length + n0.2.2.2.2.2.2.2.2.1.length) * 32 ≤ 140737488355328)) then
   (bif (decide ((([] : List Int).length + n0.2.2.2.2.2.2.2.2.2.2.2.2.1.length) * 8 ≤ 140737488355328)) then
    (bif (decide ((([] : List T_impl_Peer).length + n0.2.2.2.2.2.2.2.2.2.2.2.2.2.1.length) * 32 ≤ 140737488355328)) then
     some (((impl_Node.u13 (impl_Node.u12 (impl_Node.u8 (impl_Node.u5 n0 (([] : List Int) ++ n0.2.2.2.2.2.1)) (([] : List T_impl_Entry) ++ n0.2.2.2.2.2.2.2.2.1)) (([] : List Int) ++ n0.2.2.2.2.2.2.2.2.2.2.2.2.1)) (([] : List T_impl_Peer) ++ n0.2.2.2.2.2.2.2.2.2.2.2.2.2.1)), ()), ())
     else
     none)
    else
    none)
   else
   none)
  else
  none)

/-- spec.l18Tell -/
noncomputable def spec_l18Tell.f (m0 : T_impl_Message) (r0 : T_spec_l18Run) : Option (Unit × (T_spec_l18Run × Unit)) :=
  (bif (decide ((r0.2.2.2.2.2.2.2.2.2.2.2.2.2.2.1.length + ([(impl_Message.u3 (impl_Message.u1 m0 r0.1) r0.2.1)] : List T_impl_Message).length) * 136 ≤ 140737488355328)) then
  (letv (r0.2.2.2.2.2.2.2.2.2.2.2.2.2.2.1 ++ ([(impl_Message.u3 (impl_Message.u1 m0 r0.1) r0.2.1)] : List T_impl_Message)) fun l0 =>
   some ((), ((spec_l18Run.u14 r0 l0), ())))
  else
  none)

/-- spec.l06Last -/
noncomputable def spec_l06Last.f (l0 : T_impl_Log) : Option ((Int × Unit) × Unit) :=
  some (((IntKind.i64.wrap (l0.1 + ((l0.2.2.1.length : Nat) : Int))), ()), ())

/-- spec.LogTerm -/
noncomputable def spec_LogTerm.P0 : ((Int × (Unit × Unit)) × (T_impl_Log × Unit)) → Option ((Int × (Unit × (Bool × Unit))) × (T_impl_Log × Unit)) := fun
  | ((index0, _, _), (l0, _)) =>
  (bif (decide (index0 < l0.1)) then
  some ((index0, (), true, ()), (l0, ()))
  else
  (Option.bind (spec_l06Last.f l0) fun
   | ((r0, _), (_)) => some ((index0, (), (decide (index0 > r0)), ()), (l0, ()))))
noncomputable def spec_LogTerm.f (l0 : T_impl_Log) (index0 : Int) : Option ((Int × Unit) × Unit) :=
  (bif (index0 == l0.1) then
  some ((l0.2.1, ()), ())
  else
  (Option.bind (spec_LogTerm.P0 ((index0, (), ()), (l0, ()))) fun
   | ((index1, _, t20_0, _), (l1, _)) => (bif t20_0 then
    some (((-1 : Int), ()), ())
    else
    (bif (decide (0 ≤ (IntKind.i64.wrap ((IntKind.i64.wrap (index1 - l1.1)) - (1 : Int)))) && decide ((IntKind.i64.wrap ((IntKind.i64.wrap (index1 - l1.1)) - (1 : Int))) < (l1.2.2.1.length : Int))) then
     some (((l1.2.2.1.getD ((IntKind.i64.wrap ((IntKind.i64.wrap (index1 - l1.1)) - (1 : Int)))).toNat Z_impl_Entry).1, ()), ())
     else
     none))))

/-- spec.l18Send -/
noncomputable def spec_l18Send.P0 : ((Unit × (Unit × (Unit × (Int × Unit)))) × (T_impl_Log × (T_impl_Message × (T_spec_l18Run × Unit)))) → Option ((Unit × (Unit × (Unit × (Int × (Bool × Unit))))) × (T_impl_Log × (T_impl_Message × (T_spec_l18Run × Unit)))) := fun
  | ((_, _, _, i0, _), (l0, m0, r0, _)) =>
  (bif (decide (i0 < ((l0.2.2.1.length : Nat) : Int))) then
  some (((), (), (), i0, (decide (((m0.2.2.2.2.2.2.2.2.1.length : Nat) : Int) < (4 : Int))), ()), (l0, m0, r0, ()))
  else
  some (((), (), (), i0, false, ()), (l0, m0, r0, ())))
noncomputable def spec_l18Send.S1 : ((Unit × (Unit × (Unit × (Int × Unit)))) × (T_impl_Log × (T_impl_Message × (T_spec_l18Run × Unit)))) → Option (((Unit × (Unit × (Unit × (Int × Unit)))) × (T_impl_Log × (T_impl_Message × (T_spec_l18Run × Unit)))) ⊕ ((Unit × (Unit × Unit)) × (T_impl_Message × (T_spec_l18Run × Unit)))) := fun
  | ((_, _, _, i0, _), (l0, m0, r0, _)) =>
  (Option.bind (spec_l18Send.P0 (((), (), (), i0, ()), (l0, m0, r0, ()))) fun
  | ((_, _, _, i1, t67_0, _), (l1, m1, r1, _)) => (bif t67_0 then
   (bif (decide (0 ≤ i1) && decide (i1 < (l1.2.2.1.length : Int))) then
    (bif (decide ((m1.2.2.2.2.2.2.2.2.1.length + ([(l1.2.2.1.getD (i1).toNat Z_impl_Entry)] : List T_impl_Entry).length) * 32 ≤ 140737488355328)) then
     some (.inl (((), (), (), (IntKind.i64.wrap (i1 + (1 : Int))), ()), (l1, (impl_Message.u8 m1 (m1.2.2.2.2.2.2.2.2.1 ++ ([(l1.2.2.1.getD (i1).toNat Z_impl_Entry)] : List T_impl_Entry))), r1, ())))
     else
     none)
    else
    none)
   else
   some (.inr (((), (), ()), (m1, r1, ())))))
noncomputable def spec_l18Send.L1 : ((Unit × (Unit × (Unit × (Int × Unit)))) × (T_impl_Log × (T_impl_Message × (T_spec_l18Run × Unit)))) → Option ((Unit × (Unit × Unit)) × (T_impl_Message × (T_spec_l18Run × Unit))) := lim spec_l18Send.S1
noncomputable def spec_l18Send.f (p0 : T_impl_Peer) (r0 : T_spec_l18Run) : Option (Unit × (T_spec_l18Run × Unit)) :=
  (bif (decide (p0.2.1 ≤ r0.2.2.2.2.2.2.1)) then
  (bif (decide ((([] : List Int).length + r0.2.2.2.2.2.1.length) * 8 ≤ 140737488355328)) then
   (Option.bind (spec_l18Tell.f ((5 : Int), (0 : Int), p0.1, (0 : Int), r0.2.2.2.2.2.2.1, r0.2.2.2.2.2.2.2.1, p0.2.2.2.1, false, ([] : List T_impl_Entry), (([] : List Int) ++ r0.2.2.2.2.2.1), (⟨#[]⟩ : ByteArray), false, ()) r0) fun
    | ((_), (r1, _)) => some ((), ((spec_l18Run.u13 (spec_l18Run.u12 (spec_l18Run.u8 (spec_l18Run.u5 r1 r0.2.2.2.2.2.1) r0.2.2.2.2.2.2.2.2.1) r0.2.2.2.2.2.2.2.2.2.2.2.2.1) r0.2.2.2.2.2.2.2.2.2.2.2.2.2.1), ())))
   else
   none)
  else
  (Option.bind (spec_LogTerm.f (r0.2.2.2.2.2.2.1, r0.2.2.2.2.2.2.2.1, r0.2.2.2.2.2.2.2.2.1, ()) (IntKind.i64.wrap (p0.2.1 - (1 : Int)))) fun
   | ((r2, _), (_)) => (Option.bind (spec_l18Send.L1 (((), (), (), (IntKind.i64.wrap ((IntKind.i64.wrap (p0.2.1 - r0.2.2.2.2.2.2.1)) - (1 : Int))), ()), ((r0.2.2.2.2.2.2.1, r0.2.2.2.2.2.2.2.1, r0.2.2.2.2.2.2.2.2.1, ()), ((3 : Int), (0 : Int), p0.1, (0 : Int), (IntKind.i64.wrap (p0.2.1 - (1 : Int))), r2, r0.2.2.2.2.2.2.2.2.2.1, false, ([] : List T_impl_Entry), ([] : List Int), (⟨#[]⟩ : ByteArray), false, ()), r0, ()))) fun
    | ((_, _, _), (m0, r3, _)) => (Option.bind (spec_l18Tell.f m0 r3) fun
     | ((_), (r4, _)) => some ((), ((spec_l18Run.u13 (spec_l18Run.u12 (spec_l18Run.u8 (spec_l18Run.u5 r4 r3.2.2.2.2.2.1) r3.2.2.2.2.2.2.2.2.1) r3.2.2.2.2.2.2.2.2.2.2.2.2.1) r3.2.2.2.2.2.2.2.2.2.2.2.2.2.1), ()))))))

/-- spec.l18SendAll -/
noncomputable def spec_l18SendAll.S0 : ((Unit × (Int × Unit)) × (T_spec_l18Run × Unit)) → Option (((Unit × (Int × Unit)) × (T_spec_l18Run × Unit)) ⊕ (Unit × (T_spec_l18Run × Unit))) := fun
  | ((_, i0, _), (r0, _)) =>
  (bif (decide (i0 < ((r0.2.2.2.2.2.2.2.2.2.2.2.2.2.1.length : Nat) : Int))) then
  (bif (decide (0 ≤ i0) && decide (i0 < (r0.2.2.2.2.2.2.2.2.2.2.2.2.2.1.length : Int))) then
   (Option.bind (spec_l18Send.f (r0.2.2.2.2.2.2.2.2.2.2.2.2.2.1.getD (i0).toNat Z_impl_Peer) r0) fun
    | ((_), (r1, _)) => some (.inl (((), (IntKind.i64.wrap (i0 + (1 : Int))), ()), ((spec_l18Run.u13 (spec_l18Run.u12 (spec_l18Run.u5 r1 r0.2.2.2.2.2.1) r0.2.2.2.2.2.2.2.2.2.2.2.2.1) r0.2.2.2.2.2.2.2.2.2.2.2.2.2.1), ()))))
   else
   none)
  else
  some (.inr ((), (r0, ()))))
noncomputable def spec_l18SendAll.L0 : ((Unit × (Int × Unit)) × (T_spec_l18Run × Unit)) → Option (Unit × (T_spec_l18Run × Unit)) := lim spec_l18SendAll.S0
noncomputable def spec_l18SendAll.f (r0 : T_spec_l18Run) : Option (Unit × (T_spec_l18Run × Unit)) :=
  (Option.bind (spec_l18SendAll.L0 (((), (0 : Int), ()), (r0, ()))) fun
  | ((_), (r1, _)) => some ((), (r1, ())))

/-- spec.l05In -/
noncomputable def spec_l05In.S0 : (((List Int) × (Int × (Int × Unit))) × Unit) → Option ((((List Int) × (Int × (Int × Unit))) × Unit) ⊕ ((Unit × Unit) ⊕ ((Bool × Unit) × Unit))) := fun
  | ((list0, x0, i0, _), (_)) =>
  (bif (decide (i0 < ((list0.length : Nat) : Int))) then
  (bif (decide (0 ≤ i0) && decide (i0 < (list0.length : Int))) then
   (bif ((list0.getD (i0).toNat (0 : Int)) == x0) then
    some (.inr (.inr ((true, ()), ())))
    else
    some (.inl ((list0, x0, (IntKind.i64.wrap (i0 + (1 : Int))), ()), ())))
   else
   none)
  else
  some (.inr (.inl ((), ()))))
noncomputable def spec_l05In.L0 : (((List Int) × (Int × (Int × Unit))) × Unit) → Option ((Unit × Unit) ⊕ ((Bool × Unit) × Unit)) := lim spec_l05In.S0
noncomputable def spec_l05In.f (list0 : (List Int)) (x0 : Int) : Option ((Bool × Unit) × Unit) :=
  (Option.bind (spec_l05In.L0 ((list0, x0, (0 : Int), ()), ())) fun
  | (.inl ((_), (_))) => some ((false, ()), ())
  | (.inr ((t4_0, _), (_))) => some ((t4_0, ()), ()))

/-- spec.Most -/
noncomputable def spec_Most.P0 : (((List Int) × ((List Int) × (Int × (Int × (Bool × Unit))))) × Unit) → Option (((List Int) × ((List Int) × (Int × (Int × Unit)))) × Unit) := fun
  | ((conf0, list0, n0, i0, t18_0, _), (_)) =>
  (bif t18_0 then
  some ((conf0, list0, (IntKind.i64.wrap (n0 + (1 : Int))), i0, ()), ())
  else
  some ((conf0, list0, n0, i0, ()), ()))
noncomputable def spec_Most.S1 : (((List Int) × ((List Int) × (Int × (Int × Unit)))) × Unit) → Option ((((List Int) × ((List Int) × (Int × (Int × Unit)))) × Unit) ⊕ (((List Int) × (Int × Unit)) × Unit)) := fun
  | ((conf0, list0, n0, i0, _), (_)) =>
  (bif (decide (i0 < ((conf0.length : Nat) : Int))) then
  (bif (decide (0 ≤ i0) && decide (i0 < (conf0.length : Int))) then
   (Option.bind (spec_l05In.f list0 (conf0.getD (i0).toNat (0 : Int))) fun
    | ((r0, _), (_)) => (Option.bind (spec_Most.P0 ((conf0, list0, n0, i0, r0, ()), ())) fun
     | ((conf1, list1, n1, i1, _), (_)) => some (.inl ((conf1, list1, n1, (IntKind.i64.wrap (i1 + (1 : Int))), ()), ()))))
   else
   none)
  else
  some (.inr ((conf0, n0, ()), ())))
noncomputable def spec_Most.L1 : (((List Int) × ((List Int) × (Int × (Int × Unit)))) × Unit) → Option (((List Int) × (Int × Unit)) × Unit) := lim spec_Most.S1
noncomputable def spec_Most.P2 : (((List Int) × (Int × Unit)) × Unit) → Option ((Bool × Unit) × Unit) := fun
  | ((conf0, n0, _), (_)) =>
  (Option.bind (spec_ConfOk.f conf0) fun
  | ((r0, _), (_)) => (bif r0 then
   some (((decide ((IntKind.i64.wrap ((2 : Int) * n0)) > ((conf0.length : Nat) : Int))), ()), ())
   else
   some ((false, ()), ())))
noncomputable def spec_Most.f (conf0 : (List Int)) (list0 : (List Int)) : Option ((Bool × Unit) × Unit) :=
  (Option.bind (spec_Most.L1 ((conf0, list0, (0 : Int), (0 : Int), ()), ())) fun
  | ((conf1, n0, _), (_)) => (Option.bind (spec_Most.P2 ((conf1, n0, ()), ())) fun
   | ((t4_0, _), (_)) => some ((t4_0, ()), ())))

/-- spec.l18Elected -/
noncomputable def spec_l18Elected.f (r0 : T_spec_l18Run) : Option ((Bool × Unit) × Unit) :=
  (Option.bind (spec_ConfOf.f (r0.1, r0.2.1, r0.2.2.1, r0.2.2.2.1, r0.2.2.2.2.1, r0.2.2.2.2.2.1, r0.2.2.2.2.2.2.1, r0.2.2.2.2.2.2.2.1, r0.2.2.2.2.2.2.2.2.1, r0.2.2.2.2.2.2.2.2.2.1, r0.2.2.2.2.2.2.2.2.2.2.1, r0.2.2.2.2.2.2.2.2.2.2.2.1, r0.2.2.2.2.2.2.2.2.2.2.2.2.1, r0.2.2.2.2.2.2.2.2.2.2.2.2.2.1, ())) fun
  | ((r1, _), (_)) => (Option.bind (spec_Most.f r1 r0.2.2.2.2.2.2.2.2.2.2.2.2.1) fun
   | ((r2, _), (_)) => some ((r2, ()), ())))

/-- spec.l18Room -/
noncomputable def spec_l18Room.P0 : ((Unit × Unit) × (T_impl_Node × Unit)) → Option ((Bool × Unit) × Unit) := fun
  | ((_, _), (n0, _)) =>
  (bif (decide (((n0.2.2.2.2.2.2.2.2.1.length : Nat) : Int) < (60 : Int))) then
  (Option.bind (spec_l06Last.f (n0.2.2.2.2.2.2.1, n0.2.2.2.2.2.2.2.1, n0.2.2.2.2.2.2.2.2.1, ())) fun
   | ((r0, _), (_)) => some (((decide (r0 < (1000000 : Int))), ()), ()))
  else
  some ((false, ()), ()))
noncomputable def spec_l18Room.f (n0 : T_impl_Node) : Option ((Bool × Unit) × Unit) :=
  (Option.bind (spec_l18Room.P0 (((), ()), (n0, ()))) fun
  | ((t2_0, _), (_)) => some ((t2_0, ()), ()))

/-- spec.l18ConfIndex -/
noncomputable def spec_l18ConfIndex.P0 : ((Unit × (Int × (Int × (Bool × Unit)))) × (T_impl_Node × Unit)) → Option ((Unit × (Int × (Int × Unit))) × (T_impl_Node × Unit)) := fun
  | ((_, at0, i0, t23_0, _), (n0, _)) =>
  (bif t23_0 then
  some (((), (IntKind.i64.wrap ((IntKind.i64.wrap (n0.2.2.2.2.2.2.1 + (1 : Int))) + i0)), i0, ()), (n0, ()))
  else
  some (((), at0, i0, ()), (n0, ())))
noncomputable def spec_l18ConfIndex.S1 : ((Unit × (Int × (Int × Unit))) × (T_impl_Node × Unit)) → Option (((Unit × (Int × (Int × Unit))) × (T_impl_Node × Unit)) ⊕ ((Int × Unit) × Unit)) := fun
  | ((_, at0, i0, _), (n0, _)) =>
  (bif (decide (i0 < ((n0.2.2.2.2.2.2.2.2.1.length : Nat) : Int))) then
  (bif (decide (0 ≤ i0) && decide (i0 < (n0.2.2.2.2.2.2.2.2.1.length : Int))) then
   (Option.bind (spec_l18ConfIndex.P0 (((), at0, i0, ((n0.2.2.2.2.2.2.2.2.1.getD (i0).toNat Z_impl_Entry).2.1 == (2 : Int)), ()), (n0, ()))) fun
    | ((_, at1, i1, _), (n1, _)) => some (.inl (((), at1, (IntKind.i64.wrap (i1 + (1 : Int))), ()), (n1, ()))))
   else
   none)
  else
  some (.inr ((at0, ()), ())))
noncomputable def spec_l18ConfIndex.L1 : ((Unit × (Int × (Int × Unit))) × (T_impl_Node × Unit)) → Option ((Int × Unit) × Unit) := lim spec_l18ConfIndex.S1
noncomputable def spec_l18ConfIndex.f (n0 : T_impl_Node) : Option ((Int × Unit) × Unit) :=
  (Option.bind (spec_l18ConfIndex.L1 (((), n0.2.2.2.2.2.2.1, (0 : Int), ()), (n0, ()))) fun
  | ((at0, _), (_)) => some ((at0, ()), ()))

/-- spec.l18Follow -/
noncomputable def spec_l18Follow.f (lead0 : Int) (r0 : T_spec_l18Run) : Option (Unit × (T_spec_l18Run × Unit)) :=
  some ((), ((spec_l18Run.u13 (spec_l18Run.u12 (spec_l18Run.u4 (spec_l18Run.u3 r0 (0 : Int)) lead0) ([] : List Int)) ([] : List T_impl_Peer)), ()))

/-- spec.l18Commit -/
noncomputable def spec_l18Commit.P0 : ((Unit × ((List Int) × (Int × ((List Int) × (Int × (Bool × Unit)))))) × (T_spec_l18Run × Unit)) → Option ((Unit × ((List Int) × (Int × ((List Int) × (Int × Unit))))) × (T_spec_l18Run × Unit)) := fun
  | ((_, conf0, i0, have0, k0, t54_0, _), (r0, _)) =>
  (bif t54_0 then
  (bif (decide (0 ≤ k0) && decide (k0 < (r0.2.2.2.2.2.2.2.2.2.2.2.2.2.1.length : Int))) then
   (bif (decide ((have0.length + ([(r0.2.2.2.2.2.2.2.2.2.2.2.2.2.1.getD (k0).toNat Z_impl_Peer).1] : List Int).length) * 8 ≤ 140737488355328)) then
    some (((), conf0, i0, (have0 ++ ([(r0.2.2.2.2.2.2.2.2.2.2.2.2.2.1.getD (k0).toNat Z_impl_Peer).1] : List Int)), k0, ()), (r0, ()))
    else
    none)
   else
   none)
  else
  some (((), conf0, i0, have0, k0, ()), (r0, ())))
noncomputable def spec_l18Commit.S1 : ((Unit × ((List Int) × (Int × ((List Int) × (Int × Unit))))) × (T_spec_l18Run × Unit)) → Option (((Unit × ((List Int) × (Int × ((List Int) × (Int × Unit))))) × (T_spec_l18Run × Unit)) ⊕ ((Unit × ((List Int) × (Int × ((List Int) × Unit)))) × (T_spec_l18Run × Unit))) := fun
  | ((_, conf0, i0, have0, k0, _), (r0, _)) =>
  (bif (decide (k0 < ((r0.2.2.2.2.2.2.2.2.2.2.2.2.2.1.length : Nat) : Int))) then
  (bif (decide (0 ≤ k0) && decide (k0 < (r0.2.2.2.2.2.2.2.2.2.2.2.2.2.1.length : Int))) then
   (Option.bind (spec_l18Commit.P0 (((), conf0, i0, have0, k0, (decide ((r0.2.2.2.2.2.2.2.2.2.2.2.2.2.1.getD (k0).toNat Z_impl_Peer).2.2.1 ≥ i0)), ()), (r0, ()))) fun
    | ((_, conf1, i1, have1, k1, _), (r1, _)) => some (.inl (((), conf1, i1, have1, (IntKind.i64.wrap (k1 + (1 : Int))), ()), (r1, ()))))
   else
   none)
  else
  some (.inr (((), conf0, i0, have0, ()), (r0, ()))))
noncomputable def spec_l18Commit.L1 : ((Unit × ((List Int) × (Int × ((List Int) × (Int × Unit))))) × (T_spec_l18Run × Unit)) → Option ((Unit × ((List Int) × (Int × ((List Int) × Unit)))) × (T_spec_l18Run × Unit)) := lim spec_l18Commit.S1
noncomputable def spec_l18Commit.P2 : ((Unit × ((List Int) × (Int × ((List Int) × Unit)))) × (T_spec_l18Run × Unit)) → Option ((Unit × ((List Int) × (Int × (Bool × Unit)))) × (T_spec_l18Run × Unit)) := fun
  | ((_, conf0, i0, have0, _), (r0, _)) =>
  (Option.bind (spec_LogTerm.f (r0.2.2.2.2.2.2.1, r0.2.2.2.2.2.2.2.1, r0.2.2.2.2.2.2.2.2.1, ()) i0) fun
  | ((r1, _), (_)) => (bif (r1 == r0.2.1) then
   (Option.bind (spec_Most.f conf0 have0) fun
    | ((r2, _), (_)) => some (((), conf0, i0, r2, ()), (r0, ())))
   else
   some (((), conf0, i0, false, ()), (r0, ()))))
noncomputable def spec_l18Commit.P3 : ((Unit × ((List Int) × (Int × (Bool × Unit)))) × (T_spec_l18Run × Unit)) → Option ((Unit × ((List Int) × (Int × Unit))) × (T_spec_l18Run × Unit)) := fun
  | ((_, conf0, i0, t84_0, _), (r0, _)) =>
  (bif t84_0 then
  some (((), conf0, i0, ()), ((spec_l18Run.u9 r0 i0), ()))
  else
  some (((), conf0, i0, ()), (r0, ())))
noncomputable def spec_l18Commit.S4 : ((Unit × ((List Int) × (Int × Unit))) × (T_spec_l18Run × Unit)) → Option (((Unit × ((List Int) × (Int × Unit))) × (T_spec_l18Run × Unit)) ⊕ ((Unit × ((List Int) × Unit)) × (T_spec_l18Run × Unit))) := fun
  | ((_, conf0, i0, _), (r0, _)) =>
  (bif (decide (i0 > r0.2.2.2.2.2.2.2.2.2.1)) then
  (Option.bind (spec_l18Commit.L1 (((), conf0, i0, ([r0.1] : List Int), (0 : Int), ()), (r0, ()))) fun
   | ((_, conf1, i1, have0, _), (r1, _)) => (Option.bind (spec_l18Commit.P2 (((), conf1, i1, have0, ()), (r1, ()))) fun
    | ((_, conf2, i2, t84_0, _), (r2, _)) => (Option.bind (spec_l18Commit.P3 (((), conf2, i2, t84_0, ()), (r2, ()))) fun
     | ((_, conf3, i3, _), (r3, _)) => some (.inl (((), conf3, (IntKind.i64.wrap (i3 - (1 : Int))), ()), (r3, ()))))))
  else
  some (.inr (((), conf0, ()), (r0, ()))))
noncomputable def spec_l18Commit.L4 : ((Unit × ((List Int) × (Int × Unit))) × (T_spec_l18Run × Unit)) → Option ((Unit × ((List Int) × Unit)) × (T_spec_l18Run × Unit)) := lim spec_l18Commit.S4
noncomputable def spec_l18Commit.P5 : ((Unit × ((List Int) × Unit)) × (T_spec_l18Run × Unit)) → Option ((Unit × (Bool × Unit)) × (T_spec_l18Run × Unit)) := fun
  | ((_, conf0, _), (r0, _)) =>
  (bif (r0.2.2.2.1 == (2 : Int)) then
  (Option.bind (spec_l05In.f conf0 r0.1) fun
   | ((r1, _), (_)) => (bif (!r1) then
    (Option.bind (spec_l18ConfIndex.f (r0.1, r0.2.1, r0.2.2.1, r0.2.2.2.1, r0.2.2.2.2.1, r0.2.2.2.2.2.1, r0.2.2.2.2.2.2.1, r0.2.2.2.2.2.2.2.1, r0.2.2.2.2.2.2.2.2.1, r0.2.2.2.2.2.2.2.2.2.1, r0.2.2.2.2.2.2.2.2.2.2.1, r0.2.2.2.2.2.2.2.2.2.2.2.1, r0.2.2.2.2.2.2.2.2.2.2.2.2.1, r0.2.2.2.2.2.2.2.2.2.2.2.2.2.1, ())) fun
     | ((r2, _), (_)) => some (((), (decide (r2 ≤ r0.2.2.2.2.2.2.2.2.2.1)), ()), (r0, ())))
    else
    some (((), false, ()), (r0, ()))))
  else
  some (((), false, ()), (r0, ())))
noncomputable def spec_l18Commit.P6 : ((Unit × (Bool × Unit)) × (T_spec_l18Run × Unit)) → Option (Unit × (T_spec_l18Run × Unit)) := fun
  | ((_, t118_0, _), (r0, _)) =>
  (bif t118_0 then
  (Option.bind (spec_l18Follow.f (0 : Int) r0) fun
   | ((_), (r1, _)) => some ((), ((spec_l18Run.u14 (spec_l18Run.u8 (spec_l18Run.u5 r1 r0.2.2.2.2.2.1) r0.2.2.2.2.2.2.2.2.1) r0.2.2.2.2.2.2.2.2.2.2.2.2.2.2.1), ())))
  else
  some ((), (r0, ())))
noncomputable def spec_l18Commit.f (r0 : T_spec_l18Run) : Option (Unit × (T_spec_l18Run × Unit)) :=
  (Option.bind (spec_ConfOf.f (r0.1, r0.2.1, r0.2.2.1, r0.2.2.2.1, r0.2.2.2.2.1, r0.2.2.2.2.2.1, r0.2.2.2.2.2.2.1, r0.2.2.2.2.2.2.2.1, r0.2.2.2.2.2.2.2.2.1, r0.2.2.2.2.2.2.2.2.2.1, r0.2.2.2.2.2.2.2.2.2.2.1, r0.2.2.2.2.2.2.2.2.2.2.2.1, r0.2.2.2.2.2.2.2.2.2.2.2.2.1, r0.2.2.2.2.2.2.2.2.2.2.2.2.2.1, ())) fun
  | ((r1, _), (_)) => (Option.bind (spec_l06Last.f (r0.2.2.2.2.2.2.1, r0.2.2.2.2.2.2.2.1, r0.2.2.2.2.2.2.2.2.1, ())) fun
   | ((r2, _), (_)) => (Option.bind (spec_l18Commit.L4 (((), r1, r2, ()), (r0, ()))) fun
    | ((_, conf0, _), (r3, _)) => (Option.bind (spec_l18Commit.P5 (((), conf0, ()), (r3, ()))) fun
     | ((_, t118_0, _), (r4, _)) => (Option.bind (spec_l18Commit.P6 (((), t118_0, ()), (r4, ()))) fun
      | ((_), (r5, _)) => some ((), (r5, ())))))))

/-- spec.l18Lead -/
noncomputable def spec_l18Lead.P0 : ((Unit × (Int × (Bool × Unit))) × (T_spec_l18Run × Unit)) → Option ((Unit × (Int × Unit)) × (T_spec_l18Run × Unit)) := fun
  | ((_, last0, t33_0, _), (r0, _)) =>
  (bif t33_0 then
  (bif (decide ((r0.2.2.2.2.2.2.2.2.1.length + ([(r0.2.1, (1 : Int), (⟨#[]⟩ : ByteArray), ())] : List T_impl_Entry).length) * 32 ≤ 140737488355328)) then
   (letv (r0.2.2.2.2.2.2.2.2.1 ++ ([(r0.2.1, (1 : Int), (⟨#[]⟩ : ByteArray), ())] : List T_impl_Entry)) fun l0 =>
    some (((), last0, ()), ((spec_l18Run.u8 r0 l0), ())))
   else
   none)
  else
  some (((), last0, ()), (r0, ())))
noncomputable def spec_l18Lead.S1 : ((Unit × (Int × ((List Int) × (Int × Unit)))) × (T_spec_l18Run × Unit)) → Option (((Unit × (Int × ((List Int) × (Int × Unit)))) × (T_spec_l18Run × Unit)) ⊕ ((Unit × Unit) × (T_spec_l18Run × Unit))) := fun
  | ((_, last0, others0, i0, _), (r0, _)) =>
  (bif (decide (i0 < ((others0.length : Nat) : Int))) then
  (bif (decide (0 ≤ i0) && decide (i0 < (others0.length : Int))) then
   (letv ([((others0.getD (i0).toNat (0 : Int)), (IntKind.i64.wrap (last0 + (1 : Int))), (0 : Int), (0 : Int), ())] : List T_impl_Peer) fun l0 =>
    (bif (decide ((r0.2.2.2.2.2.2.2.2.2.2.2.2.2.1.length + l0.length) * 32 ≤ 140737488355328)) then
     some (.inl (((), last0, others0, (IntKind.i64.wrap (i0 + (1 : Int))), ()), ((spec_l18Run.u13 r0 (r0.2.2.2.2.2.2.2.2.2.2.2.2.2.1 ++ l0)), ())))
     else
     none))
   else
   none)
  else
  some (.inr (((), ()), (r0, ()))))
noncomputable def spec_l18Lead.L1 : ((Unit × (Int × ((List Int) × (Int × Unit)))) × (T_spec_l18Run × Unit)) → Option ((Unit × Unit) × (T_spec_l18Run × Unit)) := lim spec_l18Lead.S1
noncomputable def spec_l18Lead.f (r0 : T_spec_l18Run) : Option (Unit × (T_spec_l18Run × Unit)) :=
  (Option.bind (spec_l06Last.f (r0.2.2.2.2.2.2.1, r0.2.2.2.2.2.2.2.1, r0.2.2.2.2.2.2.2.2.1, ())) fun
  | ((r1, _), (_)) => (Option.bind (spec_l18Room.f (r0.1, r0.2.1, r0.2.2.1, (2 : Int), r0.1, r0.2.2.2.2.2.1, r0.2.2.2.2.2.2.1, r0.2.2.2.2.2.2.2.1, r0.2.2.2.2.2.2.2.2.1, r0.2.2.2.2.2.2.2.2.2.1, r0.2.2.2.2.2.2.2.2.2.2.1, r0.2.2.2.2.2.2.2.2.2.2.2.1, ([] : List Int), r0.2.2.2.2.2.2.2.2.2.2.2.2.2.1, ())) fun
   | ((r2, _), (_)) => (Option.bind (spec_l18Lead.P0 (((), r1, r2, ()), ((spec_l18Run.u12 (spec_l18Run.u4 (spec_l18Run.u3 r0 (2 : Int)) r0.1) ([] : List Int)), ()))) fun
    | ((_, last0, _), (r3, _)) => (Option.bind (spec_ConfOf.f (r3.1, r3.2.1, r3.2.2.1, r3.2.2.2.1, r3.2.2.2.2.1, r3.2.2.2.2.2.1, r3.2.2.2.2.2.2.1, r3.2.2.2.2.2.2.2.1, r3.2.2.2.2.2.2.2.2.1, r3.2.2.2.2.2.2.2.2.2.1, r3.2.2.2.2.2.2.2.2.2.2.1, r3.2.2.2.2.2.2.2.2.2.2.2.1, r3.2.2.2.2.2.2.2.2.2.2.2.2.1, r3.2.2.2.2.2.2.2.2.2.2.2.2.2.1, ())) fun
     | ((r4, _), (_)) => (Option.bind (spec_l18Others.f r4 r3.1) fun
      | ((r5, _), (_)) => (Option.bind (spec_l18Lead.L1 (((), last0, r5, (0 : Int), ()), ((spec_l18Run.u13 r3 ([] : List T_impl_Peer)), ()))) fun
       | ((_, _), (r6, _)) => (Option.bind (spec_l18Commit.f r6) fun
        | ((_), (r7, _)) => (Option.bind (spec_l18SendAll.f (spec_l18Run.u14 (spec_l18Run.u8 (spec_l18Run.u5 r7 r6.2.2.2.2.2.1) r6.2.2.2.2.2.2.2.2.1) r6.2.2.2.2.2.2.2.2.2.2.2.2.2.2.1)) fun
         | ((_), (r8, _)) => some ((), ((spec_l18Run.u13 (spec_l18Run.u12 (spec_l18Run.u5 r8 r6.2.2.2.2.2.1) r7.2.2.2.2.2.2.2.2.2.2.2.2.1) r7.2.2.2.2.2.2.2.2.2.2.2.2.2.1), ()))))))))))

/-- spec.Tick -/
noncomputable def spec_Tick.P0 : ((Int × (Unit × (Unit × Unit))) × (T_impl_Node × (T_impl_Node × Unit))) → Option ((Int × (Unit × (Unit × (Bool × Unit)))) × (T_impl_Node × (T_impl_Node × Unit))) := fun
  | ((limit0, _, _, _), (n0, t4_0, _)) =>
  (Option.bind (spec_NodeOk.f n0) fun
  | ((r0, _), (_)) => (bif (!r0) then
   some ((limit0, (), (), true, ()), (n0, t4_0, ()))
   else
   (Option.bind (spec_l01In.f limit0 (1 : Int) (20 : Int)) fun
    | ((r1, _), (_)) => some ((limit0, (), (), (!r1), ()), (n0, t4_0, ())))))
noncomputable def spec_Tick.P1 : ((Unit × (Unit × (Unit × ((List Int) × Unit)))) × (T_impl_Node × (T_impl_Node × (T_spec_l18Run × Unit)))) → Option ((Unit × (Unit × (Unit × ((List Int) × (Bool × Unit))))) × (T_impl_Node × (T_impl_Node × (T_spec_l18Run × Unit)))) := fun
  | ((_, _, _, conf0, _), (n0, t4_0, t26_0, _)) =>
  (Option.bind (spec_l05In.f conf0 n0.1) fun
  | ((r0, _), (_)) => (bif (!r0) then
   some (((), (), (), conf0, true, ()), (n0, t4_0, t26_0, ()))
   else
   some (((), (), (), conf0, (n0.2.1 == (100000 : Int)), ()), (n0, t4_0, t26_0, ()))))
noncomputable def spec_Tick.S2 : ((Unit × (Unit × (Int × (Int × ((List Int) × (Int × Unit)))))) × (T_impl_Node × (T_spec_l18Run × Unit))) → Option (((Unit × (Unit × (Int × (Int × ((List Int) × (Int × Unit)))))) × (T_impl_Node × (T_spec_l18Run × Unit))) ⊕ ((Unit × (Unit × Unit)) × (T_impl_Node × (T_spec_l18Run × Unit)))) := fun
  | ((_, _, last0, term0, others0, i0, _), (t4_0, t26_0, _)) =>
  (bif (decide (i0 < ((others0.length : Nat) : Int))) then
  (bif (decide (0 ≤ i0) && decide (i0 < (others0.length : Int))) then
   (Option.bind (spec_l18Tell.f ((1 : Int), (0 : Int), (others0.getD (i0).toNat (0 : Int)), (0 : Int), last0, term0, (0 : Int), false, ([] : List T_impl_Entry), ([] : List Int), (⟨#[]⟩ : ByteArray), false, ()) t26_0) fun
    | ((_), (t26_1, _)) => some (.inl (((), (), last0, term0, others0, (IntKind.i64.wrap (i0 + (1 : Int))), ()), (t4_0, (spec_l18Run.u13 (spec_l18Run.u12 (spec_l18Run.u8 (spec_l18Run.u5 t26_1 t26_0.2.2.2.2.2.1) t26_0.2.2.2.2.2.2.2.2.1) t26_0.2.2.2.2.2.2.2.2.2.2.2.2.1) t26_0.2.2.2.2.2.2.2.2.2.2.2.2.2.1), ()))))
   else
   none)
  else
  some (.inr (((), (), ()), (t4_0, t26_0, ()))))
noncomputable def spec_Tick.L2 : ((Unit × (Unit × (Int × (Int × ((List Int) × (Int × Unit)))))) × (T_impl_Node × (T_spec_l18Run × Unit))) → Option ((Unit × (Unit × Unit)) × (T_impl_Node × (T_spec_l18Run × Unit))) := lim spec_Tick.S2
noncomputable def spec_Tick.f (n0 : T_impl_Node) (limit0 : Int) : Option ((T_impl_Node × ((List T_impl_Message) × (Bool × Unit))) × Unit) :=
  (Option.bind (spec_Tick.P0 ((limit0, (), (), ()), (n0, ((0 : Int), (0 : Int), (0 : Int), (0 : Int), (0 : Int), ([] : List Int), (0 : Int), (0 : Int), ([] : List T_impl_Entry), (0 : Int), (0 : Int), (0 : Int), ([] : List Int), ([] : List T_impl_Peer), ()), ()))) fun
  | ((limit1, _, _, t20_0, _), (n1, t4_0, _)) => (bif t20_0 then
   some ((((0 : Int), (0 : Int), (0 : Int), (0 : Int), (0 : Int), ([] : List Int), (0 : Int), (0 : Int), ([] : List T_impl_Entry), (0 : Int), (0 : Int), (0 : Int), ([] : List Int), ([] : List T_impl_Peer), ()), ([] : List T_impl_Message), false, ()), ())
   else
   (Option.bind (spec_l18Copy.f n1) fun
    | ((r0, _), (_)) => (bif (n1.2.2.2.1 == (2 : Int)) then
     (Option.bind (spec_l18SendAll.f (r0.1, r0.2.1, r0.2.2.1, r0.2.2.2.1, r0.2.2.2.2.1, r0.2.2.2.2.2.1, r0.2.2.2.2.2.2.1, r0.2.2.2.2.2.2.2.1, r0.2.2.2.2.2.2.2.2.1, r0.2.2.2.2.2.2.2.2.2.1, r0.2.2.2.2.2.2.2.2.2.2.1, r0.2.2.2.2.2.2.2.2.2.2.2.1, r0.2.2.2.2.2.2.2.2.2.2.2.2.1, r0.2.2.2.2.2.2.2.2.2.2.2.2.2.1, ([] : List T_impl_Message), ())) fun
      | ((_), (t26_0, _)) => some (((t26_0.1, t26_0.2.1, t26_0.2.2.1, t26_0.2.2.2.1, t26_0.2.2.2.2.1, r0.2.2.2.2.2.1, t26_0.2.2.2.2.2.2.1, t26_0.2.2.2.2.2.2.2.1, t26_0.2.2.2.2.2.2.2.2.1, t26_0.2.2.2.2.2.2.2.2.2.1, t26_0.2.2.2.2.2.2.2.2.2.2.1, t26_0.2.2.2.2.2.2.2.2.2.2.2.1, r0.2.2.2.2.2.2.2.2.2.2.2.2.1, r0.2.2.2.2.2.2.2.2.2.2.2.2.2.1, ()), t26_0.2.2.2.2.2.2.2.2.2.2.2.2.2.2.1, true, ()), ()))
     else
     (letv (decide ((IntKind.i64.wrap (n1.2.2.2.2.2.2.2.2.2.2.1 + (1 : Int))) < r0.2.2.2.2.2.2.2.2.2.2.2.1)) fun v0 =>
      (bif v0 then
       some (((impl_Node.u10 r0 (IntKind.i64.wrap (n1.2.2.2.2.2.2.2.2.2.2.1 + (1 : Int)))), ([] : List T_impl_Message), true, ()), ())
       else
       (Option.bind (spec_ConfOf.f (impl_Node.u11 (impl_Node.u10 r0 (0 : Int)) limit1)) fun
        | ((r1, _), (_)) => (Option.bind (spec_Tick.P1 (((), (), (), r1, ()), (n1, t4_0, (r0.1, r0.2.1, r0.2.2.1, r0.2.2.2.1, r0.2.2.2.2.1, r0.2.2.2.2.2.1, r0.2.2.2.2.2.2.1, r0.2.2.2.2.2.2.2.1, r0.2.2.2.2.2.2.2.2.1, r0.2.2.2.2.2.2.2.2.2.1, (0 : Int), limit1, r0.2.2.2.2.2.2.2.2.2.2.2.2.1, r0.2.2.2.2.2.2.2.2.2.2.2.2.2.1, ([] : List T_impl_Message), ()), ()))) fun
         | ((_, _, _, conf0, t89_0, _), (n2, t4_1, t26_1, _)) => (bif t89_0 then
          some (((t26_1.1, t26_1.2.1, t26_1.2.2.1, t26_1.2.2.2.1, t26_1.2.2.2.2.1, t26_1.2.2.2.2.2.1, t26_1.2.2.2.2.2.2.1, t26_1.2.2.2.2.2.2.2.1, t26_1.2.2.2.2.2.2.2.2.1, t26_1.2.2.2.2.2.2.2.2.2.1, t26_1.2.2.2.2.2.2.2.2.2.2.1, t26_1.2.2.2.2.2.2.2.2.2.2.2.1, t26_1.2.2.2.2.2.2.2.2.2.2.2.2.1, t26_1.2.2.2.2.2.2.2.2.2.2.2.2.2.1, ()), t26_1.2.2.2.2.2.2.2.2.2.2.2.2.2.2.1, true, ()), ())
          else
          (Option.bind (spec_l18Elected.f (spec_l18Run.u12 (spec_l18Run.u4 (spec_l18Run.u3 (spec_l18Run.u2 (spec_l18Run.u1 t26_1 (IntKind.i64.wrap (n2.2.1 + (1 : Int)))) n2.1) (1 : Int)) (0 : Int)) ([n2.1] : List Int))) fun
           | ((r2, _), (_)) => (bif r2 then
            (Option.bind (spec_l18Lead.f (spec_l18Run.u12 (spec_l18Run.u4 (spec_l18Run.u3 (spec_l18Run.u2 (spec_l18Run.u1 t26_1 (IntKind.i64.wrap (n2.2.1 + (1 : Int)))) n2.1) (1 : Int)) (0 : Int)) ([n2.1] : List Int))) fun
             | ((_), (t26_2, _)) => some (((t26_2.1, t26_2.2.1, t26_2.2.2.1, t26_2.2.2.2.1, t26_2.2.2.2.2.1, t26_1.2.2.2.2.2.1, t26_2.2.2.2.2.2.2.1, t26_2.2.2.2.2.2.2.2.1, t26_2.2.2.2.2.2.2.2.2.1, t26_2.2.2.2.2.2.2.2.2.2.1, t26_2.2.2.2.2.2.2.2.2.2.2.1, t26_2.2.2.2.2.2.2.2.2.2.2.2.1, t26_2.2.2.2.2.2.2.2.2.2.2.2.2.1, t26_2.2.2.2.2.2.2.2.2.2.2.2.2.2.1, ()), t26_2.2.2.2.2.2.2.2.2.2.2.2.2.2.2.1, true, ()), ()))
            else
            (Option.bind (spec_LogLast.f (t26_1.2.2.2.2.2.2.1, t26_1.2.2.2.2.2.2.2.1, t26_1.2.2.2.2.2.2.2.2.1, ())) fun
             | ((r3, r4, _), (_)) => (Option.bind (spec_l18Others.f conf0 n2.1) fun
              | ((r5, _), (_)) => (Option.bind (spec_Tick.L2 (((), (), r3, r4, r5, (0 : Int), ()), (t4_1, (spec_l18Run.u12 (spec_l18Run.u4 (spec_l18Run.u3 (spec_l18Run.u2 (spec_l18Run.u1 t26_1 (IntKind.i64.wrap (n2.2.1 + (1 : Int)))) n2.1) (1 : Int)) (0 : Int)) ([n2.1] : List Int)), ()))) fun
               | ((_, _, _), (t4_2, t26_3, _)) => some (((t26_3.1, t26_3.2.1, t26_3.2.2.1, t26_3.2.2.2.1, t26_3.2.2.2.2.1, t26_3.2.2.2.2.2.1, t26_3.2.2.2.2.2.2.1, t26_3.2.2.2.2.2.2.2.1, t26_3.2.2.2.2.2.2.2.2.1, t26_3.2.2.2.2.2.2.2.2.2.1, t26_3.2.2.2.2.2.2.2.2.2.2.1, t26_3.2.2.2.2.2.2.2.2.2.2.2.1, t26_3.2.2.2.2.2.2.2.2.2.2.2.2.1, t26_3.2.2.2.2.2.2.2.2.2.2.2.2.2.1, ()), t26_3.2.2.2.2.2.2.2.2.2.2.2.2.2.2.1, true, ()), ())))))))))))))))

/-- spec.l18Take -/
noncomputable def spec_l18Take.P0 : ((Unit × ((List T_impl_Message) × (Int × Unit))) × (T_spec_l18Cluster × Unit)) → Option ((Unit × ((List T_impl_Message) × (Int × (Bool × Unit)))) × (T_spec_l18Cluster × Unit)) := fun
  | ((_, told0, i0, _), (k0, _)) =>
  (bif (decide (((k0.2.1.length : Nat) : Int) < (24 : Int))) then
  (bif (decide (0 ≤ i0) && decide (i0 < (told0.length : Int))) then
   some (((), told0, i0, ((told0.getD (i0).toNat Z_impl_Message).1 != (5 : Int)), ()), (k0, ()))
   else
   none)
  else
  some (((), told0, i0, false, ()), (k0, ())))
noncomputable def spec_l18Take.P1 : ((Unit × ((List T_impl_Message) × (Int × (Bool × Unit)))) × (T_spec_l18Cluster × Unit)) → Option ((Unit × ((List T_impl_Message) × (Int × Unit))) × (T_spec_l18Cluster × Unit)) := fun
  | ((_, told0, i0, t35_0, _), (k0, _)) =>
  (bif t35_0 then
  (bif (decide (0 ≤ i0) && decide (i0 < (told0.length : Int))) then
   (bif (decide ((k0.2.1.length + ([(told0.getD (i0).toNat Z_impl_Message)] : List T_impl_Message).length) * 136 ≤ 140737488355328)) then
    some (((), told0, i0, ()), ((k0.1, (k0.2.1 ++ ([(told0.getD (i0).toNat Z_impl_Message)] : List T_impl_Message)), ()), ()))
    else
    none)
   else
   none)
  else
  some (((), told0, i0, ()), (k0, ())))
noncomputable def spec_l18Take.S2 : ((Unit × ((List T_impl_Message) × (Int × Unit))) × (T_spec_l18Cluster × Unit)) → Option (((Unit × ((List T_impl_Message) × (Int × Unit))) × (T_spec_l18Cluster × Unit)) ⊕ (Unit × (T_spec_l18Cluster × Unit))) := fun
  | ((_, told0, i0, _), (k0, _)) =>
  (bif (decide (i0 < ((told0.length : Nat) : Int))) then
  (Option.bind (spec_l18Take.P0 (((), told0, i0, ()), (k0, ()))) fun
   | ((_, told1, i1, t35_0, _), (k1, _)) => (Option.bind (spec_l18Take.P1 (((), told1, i1, t35_0, ()), (k1, ()))) fun
    | ((_, told2, i2, _), (k2, _)) => some (.inl (((), told2, (IntKind.i64.wrap (i2 + (1 : Int))), ()), (k2, ())))))
  else
  some (.inr ((), (k0, ()))))
noncomputable def spec_l18Take.L2 : ((Unit × ((List T_impl_Message) × (Int × Unit))) × (T_spec_l18Cluster × Unit)) → Option (Unit × (T_spec_l18Cluster × Unit)) := lim spec_l18Take.S2
noncomputable def spec_l18Take.f (at0 : Int) (n0 : T_impl_Node) (told0 : (List T_impl_Message)) (k0 : T_spec_l18Cluster) : Option (Unit × (T_spec_l18Cluster × Unit)) :=
  (bif (decide (0 ≤ at0) && decide (at0 < (k0.1.length : Int))) then
  (letv (k0.1.set (at0).toNat (n0.1, (n0.2.1, (n0.2.2.1, (n0.2.2.2.1, (n0.2.2.2.2.1, (n0.2.2.2.2.2.1, (n0.2.2.2.2.2.2.1, (n0.2.2.2.2.2.2.2.1, (n0.2.2.2.2.2.2.2.2.1, (n0.2.2.2.2.2.2.2.2.2.1, (n0.2.2.2.2.2.2.2.2.2.2.1, (n0.2.2.2.2.2.2.2.2.2.2.2.1, (n0.2.2.2.2.2.2.2.2.2.2.2.2.1, (n0.2.2.2.2.2.2.2.2.2.2.2.2.2.1, ()))))))))))))))) fun l0 =>
   (Option.bind (spec_l18Take.L2 (((), told0, (0 : Int), ()), ((l0, k0.2.1, ()), ()))) fun
    | ((_), (k1, _)) => some ((), (k1, ()))))
  else
  none)

/-- spec.l01PickInt -/
noncomputable def spec_l01PickInt.f (list0 : (List Int)) (c0 : T_spec_l01Cur) : Option ((Int × Unit) × (T_spec_l01Cur × Unit)) :=
  (Option.bind (spec_l01Below.f ((list0.length : Nat) : Int) c0) fun
  | ((r0, _), (c1, _)) => (bif (decide (0 ≤ r0) && decide (r0 < (list0.length : Int))) then
   some (((list0.getD (r0).toNat (0 : Int)), ()), ((c0.1, c1.2.1, c1.2.2.1, ()), ()))
   else
   none))

/-- spec.ConfText -/
noncomputable def spec_ConfText.S0 : (((List Int) × ((List Int) × (Int × Unit))) × Unit) → Option ((((List Int) × ((List Int) × (Int × Unit))) × Unit) ⊕ (((List Int) × Unit) × Unit)) := fun
  | ((conf0, out0, i0, _), (_)) =>
  (bif (decide (i0 < ((conf0.length : Nat) : Int))) then
  (bif (decide (0 ≤ i0) && decide (i0 < (conf0.length : Int))) then
   (bif (decide ((out0.length + ([(IntKind.u8.wrap (conf0.getD (i0).toNat (0 : Int)))] : List Int).length) * 1 ≤ 140737488355328)) then
    some (.inl ((conf0, (out0 ++ ([(IntKind.u8.wrap (conf0.getD (i0).toNat (0 : Int)))] : List Int)), (IntKind.i64.wrap (i0 + (1 : Int))), ()), ()))
    else
    none)
   else
   none)
  else
  some (.inr ((out0, ()), ())))
noncomputable def spec_ConfText.L0 : (((List Int) × ((List Int) × (Int × Unit))) × Unit) → Option (((List Int) × Unit) × Unit) := lim spec_ConfText.S0
noncomputable def spec_ConfText.f (conf0 : (List Int)) : Option ((ByteArray × (Bool × Unit)) × Unit) :=
  (Option.bind (spec_ConfOk.f conf0) fun
  | ((r0, _), (_)) => (bif (!r0) then
   some (((⟨#[]⟩ : ByteArray), false, ()), ())
   else
   (Option.bind (spec_ConfText.L0 ((conf0, ([] : List Int), (0 : Int), ()), ())) fun
    | ((out0, _), (_)) => some (((strOfNums out0), true, ()), ()))))

/-- spec.KeepNew -/
noncomputable def spec_KeepNew.f : Option ((T_impl_Keep × Unit) × Unit) :=
  (letv ([((⟨#[114, 111, 111, 116]⟩ : ByteArray), (⟨#[]⟩ : ByteArray), (1 : Int), ())] : List T_impl_Item) fun l0 =>
  some (((([] : List T_impl_Entry), l0, ()), ()), ()))

/-- spec.l01Pick -/
noncomputable def spec_l01Pick.f (list0 : (List ByteArray)) (c0 : T_spec_l01Cur) : Option ((ByteArray × Unit) × (T_spec_l01Cur × Unit)) :=
  (Option.bind (spec_l01Below.f ((list0.length : Nat) : Int) c0) fun
  | ((r0, _), (c1, _)) => (bif (decide (0 ≤ r0) && decide (r0 < (list0.length : Int))) then
   some (((list0.getD (r0).toNat (⟨#[]⟩ : ByteArray)), ()), ((c0.1, c1.2.1, c1.2.2.1, ()), ()))
   else
   none))

/-- spec.ItemOf -/
noncomputable def spec_ItemOf.S0 : ((ByteArray × (Unit × (Unit × (Int × Unit)))) × (T_impl_Keep × (T_impl_Item × Unit))) → Option (((ByteArray × (Unit × (Unit × (Int × Unit)))) × (T_impl_Keep × (T_impl_Item × Unit))) ⊕ (((Unit × Unit) × (T_impl_Item × Unit)) ⊕ ((Unit × (Bool × Unit)) × (T_impl_Item × Unit)))) := fun
  | ((key0, _, _, i0, _), (k0, t4_0, _)) =>
  (bif (decide (i0 < ((k0.2.1.length : Nat) : Int))) then
  (bif (decide (0 ≤ i0) && decide (i0 < (k0.2.1.length : Int))) then
   (bif (((k0.2.1.getD (i0).toNat Z_impl_Item).1).toList == key0.toList) then
    (bif (decide (0 ≤ i0) && decide (i0 < (k0.2.1.length : Int))) then
     some (.inr (.inr (((), true, ()), ((k0.2.1.getD (i0).toNat Z_impl_Item), ()))))
     else
     none)
    else
    some (.inl ((key0, (), (), (IntKind.i64.wrap (i0 + (1 : Int))), ()), (k0, t4_0, ()))))
   else
   none)
  else
  some (.inr (.inl (((), ()), (t4_0, ())))))
noncomputable def spec_ItemOf.L0 : ((ByteArray × (Unit × (Unit × (Int × Unit)))) × (T_impl_Keep × (T_impl_Item × Unit))) → Option (((Unit × Unit) × (T_impl_Item × Unit)) ⊕ ((Unit × (Bool × Unit)) × (T_impl_Item × Unit))) := lim spec_ItemOf.S0
noncomputable def spec_ItemOf.f (k0 : T_impl_Keep) (key0 : ByteArray) : Option ((T_impl_Item × (Bool × Unit)) × Unit) :=
  (Option.bind (spec_ItemOf.L0 ((key0, (), (), (0 : Int), ()), (k0, ((⟨#[]⟩ : ByteArray), (⟨#[]⟩ : ByteArray), (0 : Int), ()), ()))) fun
  | (.inl ((_, _), (t4_0, _))) => some ((((⟨#[]⟩ : ByteArray), (⟨#[]⟩ : ByteArray), (0 : Int), ()), false, ()), ())
  | (.inr ((_, t5_0, _), (t4_1, _))) => some ((t4_1, t5_0, ()), ()))

/-- spec.l15Of -/
noncomputable def spec_l15Of.P0 : ((Unit × (Unit × (Unit × (Unit × (Bool × Unit))))) × (T_impl_Command × (T_impl_Command × (T_impl_Item × (T_spec_l01Cur × Unit))))) → Option ((Unit × (Unit × (Unit × (Unit × (Bool × (Bool × Unit)))))) × (T_impl_Command × (T_impl_Command × (T_impl_Item × (T_spec_l01Cur × Unit))))) := fun
  | ((_, _, _, _, has0, _), (t4_0, x0, item0, c0, _)) =>
  (bif (x0.1 == (2 : Int)) then
  some (((), (), (), (), has0, true, ()), (t4_0, x0, item0, c0, ()))
  else
  some (((), (), (), (), has0, (x0.1 == (5 : Int)), ()), (t4_0, x0, item0, c0, ())))
noncomputable def spec_l15Of.P1 : ((Unit × (Unit × (Unit × (Unit × (Bool × (Bool × Unit)))))) × (T_impl_Command × (T_impl_Command × (T_impl_Item × (T_spec_l01Cur × Unit))))) → Option ((Unit × (Unit × (Unit × (Unit × (Bool × Unit))))) × (T_impl_Command × (T_impl_Command × (T_impl_Item × (T_spec_l01Cur × Unit))))) := fun
  | ((_, _, _, _, has0, t29_0, _), (t4_0, x0, item0, c0, _)) =>
  (bif t29_0 then
  (letv ([(⟨#[]⟩ : ByteArray), (⟨#[49]⟩ : ByteArray), (⟨#[116, 119, 111]⟩ : ByteArray), (⟨#[116, 104, 114, 101, 101]⟩ : ByteArray)] : List ByteArray) fun l0 =>
   (Option.bind (spec_l01Pick.f l0 c0) fun
    | ((r0, _), (c1, _)) => some (((), (), (), (), has0, ()), (t4_0, (impl_Command.u4 x0 r0), item0, (c0.1, c1.2.1, c1.2.2.1, ()), ()))))
  else
  some (((), (), (), (), has0, ()), (t4_0, x0, item0, c0, ())))
noncomputable def spec_l15Of.P2 : ((Unit × (Unit × (Unit × (Unit × (Bool × Unit))))) × (T_impl_Command × (T_impl_Command × (T_impl_Item × (T_spec_l01Cur × Unit))))) → Option ((Unit × (Unit × (Unit × (Bool × Unit)))) × (T_impl_Command × (T_impl_Command × (T_impl_Item × (T_spec_l01Cur × Unit))))) := fun
  | ((_, _, _, _, has0, _), (t4_0, x0, item0, c0, _)) =>
  (bif has0 then
  (Option.bind (spec_l01Once.f (3 : Int) c0) fun
   | ((r0, _), (c1, _)) => some (((), (), (), (!r0), ()), (t4_0, x0, item0, (c0.1, c1.2.1, c1.2.2.1, ()), ())))
  else
  some (((), (), (), false, ()), (t4_0, x0, item0, c0, ())))
noncomputable def spec_l15Of.P3 : ((Unit × (Unit × (Unit × (Bool × Unit)))) × (T_impl_Command × (T_impl_Command × (T_impl_Item × (T_spec_l01Cur × Unit))))) → Option ((Unit × (Unit × Unit)) × (T_impl_Command × (T_impl_Command × (T_spec_l01Cur × Unit)))) := fun
  | ((_, _, _, t46_0, _), (t4_0, x0, item0, c0, _)) =>
  (bif t46_0 then
  some (((), (), ()), (t4_0, (impl_Command.u5 x0 item0.2.2.1), c0, ()))
  else
  some (((), (), ()), (t4_0, x0, c0, ())))
noncomputable def spec_l15Of.P4 : ((Unit × (Unit × (Unit × (Unit × (Bool × (Bool × Unit)))))) × (T_impl_Command × (T_impl_Command × (T_impl_Item × (T_spec_l01Cur × Unit))))) → Option ((Unit × (Unit × Unit)) × (T_impl_Command × (T_impl_Command × (T_spec_l01Cur × Unit)))) := fun
  | ((_, _, _, _, has0, t36_0, _), (t4_0, x0, item0, c0, _)) =>
  (bif t36_0 then
  (Option.bind (spec_l01Below.f (20 : Int) c0) fun
   | ((r0, _), (c1, _)) => (Option.bind (spec_l15Of.P2 (((), (), (), (), has0, ()), (t4_0, (impl_Command.u5 x0 (IntKind.i64.wrap ((1 : Int) + r0))), item0, (c0.1, c1.2.1, c1.2.2.1, ()), ()))) fun
    | ((_, _, _, t46_0, _), (t4_1, x1, item1, c2, _)) => (Option.bind (spec_l15Of.P3 (((), (), (), t46_0, ()), (t4_1, x1, item1, c2, ()))) fun
     | ((_, _, _), (t4_2, x2, c3, _)) => some (((), (), ()), (t4_2, x2, c3, ())))))
  else
  some (((), (), ()), (t4_0, x0, c0, ())))
noncomputable def spec_l15Of.f (k0 : T_impl_Keep) (c0 : T_spec_l01Cur) : Option ((T_impl_Command × Unit) × (T_spec_l01Cur × Unit)) :=
  (letv ([(2 : Int), (2 : Int), (2 : Int), (3 : Int), (3 : Int), (4 : Int), (5 : Int), (5 : Int)] : List Int) fun l0 =>
  (Option.bind (spec_l01PickInt.f l0 c0) fun
   | ((r0, _), (c1, _)) => (letv ([(⟨#[97]⟩ : ByteArray), (⟨#[98]⟩ : ByteArray), (⟨#[99]⟩ : ByteArray), (⟨#[114, 111, 111, 116]⟩ : ByteArray), (⟨#[120, 49]⟩ : ByteArray)] : List ByteArray) fun l1 =>
    (Option.bind (spec_l01Pick.f l1 (c0.1, c1.2.1, c1.2.2.1, ())) fun
     | ((r1, _), (c2, _)) => (Option.bind (spec_ItemOf.f k0 r1) fun
      | ((r2, r3, _), (_)) => (Option.bind (spec_l15Of.P0 (((), (), (), (), r3, ()), (((0 : Int), (0 : Int), (0 : Int), (⟨#[]⟩ : ByteArray), (⟨#[]⟩ : ByteArray), (0 : Int), ()), (r0, (0 : Int), (0 : Int), r1, (⟨#[]⟩ : ByteArray), (0 : Int), ()), r2, (c0.1, c2.2.1, c2.2.2.1, ()), ()))) fun
       | ((_, _, _, _, has0, t29_0, _), (t4_0, x0, item0, c3, _)) => (Option.bind (spec_l15Of.P1 (((), (), (), (), has0, t29_0, ()), (t4_0, x0, item0, c3, ()))) fun
        | ((_, _, _, _, has1, _), (t4_1, x1, item1, c4, _)) => (Option.bind (spec_l15Of.P4 (((), (), (), (), has1, (x1.1 == (5 : Int)), ()), (t4_1, x1, item1, c4, ()))) fun
         | ((_, _, _), (t4_2, x2, c5, _)) => some ((x2, ()), (c5, ()))))))))))

/-- spec.l15Command -/
noncomputable def spec_l15Command.P0 : ((Unit × (Unit × (Unit × Unit))) × (T_impl_Keep × (T_impl_Command × (T_spec_l01Cur × Unit)))) → Option ((Unit × (Unit × (Unit × (Bool × Unit)))) × (T_impl_Keep × (T_impl_Command × (T_spec_l01Cur × Unit)))) := fun
  | ((_, _, _, _), (k0, t4_0, c0, _)) =>
  (bif (((k0.1.length : Nat) : Int) == (0 : Int)) then
  some (((), (), (), true, ()), (k0, t4_0, c0, ()))
  else
  (Option.bind (spec_l01Once.f (16 : Int) c0) fun
   | ((r0, _), (c1, _)) => some (((), (), (), r0, ()), (k0, t4_0, (c0.1, c1.2.1, c1.2.2.1, ()), ()))))
noncomputable def spec_l15Command.P1 : ((Unit × (Unit × (Unit × (Unit × (Unit × (Bool × Unit)))))) × (T_impl_Keep × (T_impl_Command × (T_impl_Command × (T_impl_Entry × (T_spec_l01Cur × Unit)))))) → Option ((Unit × (Unit × (Unit × (Unit × Unit)))) × (T_impl_Command × (T_impl_Command × (T_impl_Entry × (T_spec_l01Cur × Unit))))) := fun
  | ((_, _, _, _, _, t28_0, _), (k0, t4_0, x0, s0, c0, _)) =>
  (bif t28_0 then
  (Option.bind (spec_l01Below.f ((k0.1.length : Nat) : Int) c0) fun
   | ((r0, _), (c1, _)) => (bif (decide (0 ≤ r0) && decide (r0 < (k0.1.length : Int))) then
    some (((), (), (), (), ()), (t4_0, x0, (k0.1.getD (r0).toNat Z_impl_Entry), (c0.1, c1.2.1, c1.2.2.1, ()), ()))
    else
    none))
  else
  some (((), (), (), (), ()), (t4_0, x0, s0, c0, ())))
noncomputable def spec_l15Command.P2 : ((Unit × (Unit × (Unit × (Bool × Unit)))) × (T_impl_Command × (T_impl_Command × (T_spec_l01Cur × Unit)))) → Option ((Unit × (Unit × Unit)) × (T_impl_Command × (T_impl_Command × (T_spec_l01Cur × Unit)))) := fun
  | ((_, _, _, t57_0, _), (t4_0, x0, c0, _)) =>
  (bif t57_0 then
  (Option.bind (spec_l01Below.f (9 : Int) c0) fun
   | ((r0, _), (c1, _)) => some (((), (), ()), (t4_0, (impl_Command.u1 x0 r0), (c0.1, c1.2.1, c1.2.2.1, ()), ())))
  else
  some (((), (), ()), (t4_0, x0, c0, ())))
noncomputable def spec_l15Command.P3 : ((Unit × (Unit × (Unit × (Int × (Bool × Unit))))) × (T_impl_Command × (T_impl_Command × (T_spec_l01Cur × Unit)))) → Option ((Unit × (Unit × Unit)) × (T_impl_Command × (T_impl_Command × (T_spec_l01Cur × Unit)))) := fun
  | ((_, _, _, t46_0, t52_0, _), (t4_0, x0, c0, _)) =>
  (bif t52_0 then
  (Option.bind (spec_l01Below.f (4 : Int) c0) fun
   | ((r0, _), (c1, _)) => some (((), (), ()), (t4_0, (impl_Command.u2 x0 r0), (c0.1, c1.2.1, c1.2.2.1, ()), ())))
  else
  (Option.bind (spec_l15Command.P2 (((), (), (), (t46_0 == (2 : Int)), ()), (t4_0, x0, c0, ()))) fun
   | ((_, _, _), (t4_1, x1, c2, _)) => some (((), (), ()), (t4_1, x1, c2, ()))))
noncomputable def spec_l15Command.P4 : ((Unit × (Unit × (Unit × (Unit × (Int × (Bool × Unit)))))) × (T_impl_Command × (T_impl_Command × (T_impl_Entry × (T_spec_l01Cur × Unit))))) → Option ((Unit × (Unit × Unit)) × (T_impl_Command × (T_impl_Command × (T_spec_l01Cur × Unit)))) := fun
  | ((_, _, _, _, t46_0, t47_0, _), (t4_0, x0, s0, c0, _)) =>
  (bif t47_0 then
  some (((), (), ()), (t4_0, (impl_Command.u2 x0 s0.2.1), c0, ()))
  else
  (Option.bind (spec_l15Command.P3 (((), (), (), t46_0, (t46_0 == (1 : Int)), ()), (t4_0, x0, c0, ()))) fun
   | ((_, _, _), (t4_1, x1, c1, _)) => some (((), (), ()), (t4_1, x1, c1, ()))))
noncomputable def spec_l15Command.f (k0 : T_impl_Keep) (c0 : T_spec_l01Cur) : Option ((T_impl_Command × Unit) × (T_spec_l01Cur × Unit)) :=
  (Option.bind (spec_l15Command.P0 (((), (), (), ()), (k0, ((0 : Int), (0 : Int), (0 : Int), (⟨#[]⟩ : ByteArray), (⟨#[]⟩ : ByteArray), (0 : Int), ()), c0, ()))) fun
  | ((_, _, _, t14_0, _), (k1, t4_0, c1, _)) => (bif t14_0 then
   some ((((1 : Int), (0 : Int), (0 : Int), (⟨#[]⟩ : ByteArray), (⟨#[]⟩ : ByteArray), (0 : Int), ()), ()), (c1, ()))
   else
   (Option.bind (spec_l15Of.f k1 c1) fun
    | ((r0, _), (c2, _)) => (bif (decide (0 ≤ (IntKind.i64.wrap (((k1.1.length : Nat) : Int) - (1 : Int)))) && decide ((IntKind.i64.wrap (((k1.1.length : Nat) : Int) - (1 : Int))) < (k1.1.length : Int))) then
     (Option.bind (spec_l01Once.f (4 : Int) (c1.1, c2.2.1, c2.2.2.1, ())) fun
      | ((r1, _), (c3, _)) => (Option.bind (spec_l15Command.P1 (((), (), (), (), (), r1, ()), (k1, t4_0, r0, (k1.1.getD ((IntKind.i64.wrap (((k1.1.length : Nat) : Int) - (1 : Int)))).toNat Z_impl_Entry), (c1.1, c3.2.1, c3.2.2.1, ()), ()))) fun
       | ((_, _, _, _, _), (t4_1, x0, s0, c4, _)) => (Option.bind (spec_l01Below.f (16 : Int) c4) fun
        | ((r2, _), (c5, _)) => (Option.bind (spec_l15Command.P4 (((), (), (), (), r2, (r2 == (0 : Int)), ()), (t4_1, (impl_Command.u2 (impl_Command.u1 x0 s0.1) (IntKind.i64.wrap (s0.2.1 + (1 : Int)))), s0, (c4.1, c5.2.1, c5.2.2.1, ()), ()))) fun
         | ((_, _, _), (t4_2, x1, c6, _)) => some ((x1, ()), (c6, ()))))))
     else
     none))))

/-- spec.CommandOk -/
noncomputable def spec_CommandOk.P0 : ((Unit × Unit) × (T_impl_Command × Unit)) → Option ((Unit × (Bool × Unit)) × (T_impl_Command × Unit)) := fun
  | ((_, _), (x0, _)) =>
  (Option.bind (spec_l01In.f x0.2.1 (0 : Int) (1000000 : Int)) fun
  | ((r0, _), (_)) => (bif (!r0) then
   some (((), true, ()), (x0, ()))
   else
   (Option.bind (spec_l01In.f x0.2.2.1 (0 : Int) (1000000 : Int)) fun
    | ((r1, _), (_)) => (bif (!r1) then
     some (((), true, ()), (x0, ()))
     else
     (Option.bind (spec_l01In.f x0.1 (1 : Int) (5 : Int)) fun
      | ((r2, _), (_)) => some (((), (!r2), ()), (x0, ())))))))
noncomputable def spec_CommandOk.P1 : ((Unit × Unit) × (T_impl_Command × Unit)) → Option ((Bool × Unit) × Unit) := fun
  | ((_, _), (x0, _)) =>
  (bif (x0.2.1 == (0 : Int)) then
  (bif (x0.2.2.1 == (0 : Int)) then
   (bif (x0.2.2.2.1.toList == (⟨#[]⟩ : ByteArray).toList) then
    (bif (x0.2.2.2.2.1.toList == (⟨#[]⟩ : ByteArray).toList) then
     some (((x0.2.2.2.2.2.1 == (0 : Int)), ()), ())
     else
     some ((false, ()), ()))
    else
    some ((false, ()), ()))
   else
   some ((false, ()), ()))
  else
  some ((false, ()), ()))
noncomputable def spec_CommandOk.P2 : ((Unit × Unit) × (T_impl_Command × Unit)) → Option ((Unit × (Bool × Unit)) × (T_impl_Command × Unit)) := fun
  | ((_, _), (x0, _)) =>
  (Option.bind (spec_l01In.f ((x0.2.2.2.1.size : Nat) : Int) (1 : Int) (8 : Int)) fun
  | ((r0, _), (_)) => (bif (!r0) then
   some (((), true, ()), (x0, ()))
   else
   some (((), (decide (((x0.2.2.2.2.1.size : Nat) : Int) > (20 : Int))), ()), (x0, ()))))
noncomputable def spec_CommandOk.P3 : ((Unit × Unit) × (T_impl_Command × Unit)) → Option ((Bool × Unit) × Unit) := fun
  | ((_, _), (x0, _)) =>
  (bif (x0.2.2.2.2.1.toList == (⟨#[]⟩ : ByteArray).toList) then
  some (((x0.2.2.2.2.2.1 == (0 : Int)), ()), ())
  else
  some ((false, ()), ()))
noncomputable def spec_CommandOk.f (x0 : T_impl_Command) : Option ((Bool × Unit) × Unit) :=
  (Option.bind (spec_CommandOk.P0 (((), ()), (x0, ()))) fun
  | ((_, t18_0, _), (x1, _)) => (bif t18_0 then
   some ((false, ()), ())
   else
   (bif (x1.1 == (1 : Int)) then
    (Option.bind (spec_CommandOk.P1 (((), ()), (x1, ()))) fun
     | ((t2_0, _), (_)) => some ((t2_0, ()), ()))
    else
    (Option.bind (spec_CommandOk.P2 (((), ()), (x1, ()))) fun
     | ((_, t55_0, _), (x2, _)) => (bif t55_0 then
      some ((false, ()), ())
      else
      (bif (x2.1 == (2 : Int)) then
       some (((x2.2.2.2.2.2.1 == (0 : Int)), ()), ())
       else
       (bif (x2.1 == (5 : Int)) then
        (Option.bind (spec_l01In.f x2.2.2.2.2.2.1 (1 : Int) (1000000000 : Int)) fun
         | ((r0, _), (_)) => some ((r0, ()), ()))
        else
        (Option.bind (spec_CommandOk.P3 (((), ()), (x2, ()))) fun
         | ((t2_1, _), (_)) => some ((t2_1, ()), ())))))))))

/-- spec.l16Right -/
noncomputable def spec_l16Right.f (c0 : T_spec_l01Cur) : Option ((T_impl_Command × Unit) × (T_spec_l01Cur × Unit)) :=
  (Option.bind (spec_KeepNew.f) fun
  | ((r0, _), (_)) => (Option.bind (spec_l01Below.f (5 : Int) c0) fun
   | ((r1, _), (c1, _)) => (Option.bind (spec_l01Below.f (4 : Int) (c0.1, c1.2.1, c1.2.2.1, ())) fun
    | ((r2, _), (c2, _)) => (Option.bind (spec_l15Command.f (([((IntKind.i64.wrap ((1 : Int) + r1)), r2, (⟨#[]⟩ : ByteArray), ())] : List T_impl_Entry), r0.2.1, ()) (c0.1, c2.2.1, c2.2.2.1, ())) fun
     | ((r3, _), (c3, _)) => (Option.bind (spec_CommandOk.f r3) fun
      | ((r4, _), (_)) => (bif (!r4) then
       some ((((3 : Int), (1 : Int), (1 : Int), (⟨#[97]⟩ : ByteArray), (⟨#[]⟩ : ByteArray), (0 : Int), ()), ()), ((c0.1, c3.2.1, c3.2.2.1, ()), ()))
       else
       some ((r3, ()), ((c0.1, c3.2.1, c3.2.2.1, ()), ()))))))))

/-- spec.l01Var -/
noncomputable def spec_l01Var.S0 : ((Int × ((List Int) × Unit)) × Unit) → Option (((Int × ((List Int) × Unit)) × Unit) ⊕ ((Int × ((List Int) × Unit)) × Unit)) := fun
  | ((n0, out0, _), (_)) =>
  (bif (decide (n0 > (127 : Int))) then
  (bif ((128 : Int) == 0) then
   none
   else
   (letv ([(IntKind.u8.wrap (IntKind.i64.wrap (((n0).tmod (128 : Int)) + (128 : Int))))] : List Int) fun l0 =>
    (bif (decide ((out0.length + l0.length) * 1 ≤ 140737488355328)) then
     (bif ((128 : Int) == 0) then
      none
      else
      some (.inl (((IntKind.i64.wrap ((n0).tdiv (128 : Int))), (out0 ++ l0), ()), ())))
     else
     none)))
  else
  some (.inr ((n0, out0, ()), ())))
noncomputable def spec_l01Var.L0 : ((Int × ((List Int) × Unit)) × Unit) → Option ((Int × ((List Int) × Unit)) × Unit) := lim spec_l01Var.S0
noncomputable def spec_l01Var.f (n0 : Int) : Option ((ByteArray × Unit) × Unit) :=
  (Option.bind (spec_l01Var.L0 ((n0, ([] : List Int), ()), ())) fun
  | ((n1, out0, _), (_)) => (bif (decide ((out0.length + ([(IntKind.u8.wrap n1)] : List Int).length) * 1 ≤ 140737488355328)) then
   some (((strOfNums (out0 ++ ([(IntKind.u8.wrap n1)] : List Int))), ()), ())
   else
   none))

/-- spec.l16Short -/
noncomputable def spec_l16Short.f (s0 : ByteArray) : Option ((ByteArray × Unit) × Unit) :=
  (Option.bind (spec_l01Var.f ((s0.size : Nat) : Int)) fun
  | ((r0, _), (_)) => (bif (decide (r0.size + s0.size ≤ 9223372036854775807)) then
   some (((r0 ++ s0), ()), ())
   else
   none))

/-- spec.CommandText -/
noncomputable def spec_CommandText.f (x0 : T_impl_Command) : Option ((ByteArray × (Bool × Unit)) × Unit) :=
  (Option.bind (spec_CommandOk.f x0) fun
  | ((r0, _), (_)) => (bif (!r0) then
   some (((⟨#[]⟩ : ByteArray), false, ()), ())
   else
   (Option.bind (spec_l01Var.f x0.2.1) fun
    | ((r1, _), (_)) => (bif (decide ((strOfNums ([(IntKind.u8.wrap x0.1)] : List Int)).size + r1.size ≤ 9223372036854775807)) then
     (Option.bind (spec_l01Var.f x0.2.2.1) fun
      | ((r2, _), (_)) => (bif (decide (((strOfNums ([(IntKind.u8.wrap x0.1)] : List Int)) ++ r1).size + r2.size ≤ 9223372036854775807)) then
       (Option.bind (spec_l16Short.f x0.2.2.2.1) fun
        | ((r3, _), (_)) => (bif (decide ((((strOfNums ([(IntKind.u8.wrap x0.1)] : List Int)) ++ r1) ++ r2).size + r3.size ≤ 9223372036854775807)) then
         (Option.bind (spec_l16Short.f x0.2.2.2.2.1) fun
          | ((r4, _), (_)) => (bif (decide (((((strOfNums ([(IntKind.u8.wrap x0.1)] : List Int)) ++ r1) ++ r2) ++ r3).size + r4.size ≤ 9223372036854775807)) then
           (Option.bind (spec_l01Var.f x0.2.2.2.2.2.1) fun
            | ((r5, _), (_)) => (bif (decide ((((((strOfNums ([(IntKind.u8.wrap x0.1)] : List Int)) ++ r1) ++ r2) ++ r3) ++ r4).size + r5.size ≤ 9223372036854775807)) then
             some ((((((((strOfNums ([(IntKind.u8.wrap x0.1)] : List Int)) ++ r1) ++ r2) ++ r3) ++ r4) ++ r5), true, ()), ())
             else
             none))
           else
           none))
         else
         none))
       else
       none))
     else
     none))))

/-- spec.l05Right -/
noncomputable def spec_l05Right.P0 : ((Unit × (Unit × (Unit × (Bool × Unit)))) × (T_impl_Entry × (T_impl_Entry × (T_spec_l01Cur × Unit)))) → Option ((Unit × (Unit × Unit)) × (T_impl_Entry × (T_impl_Entry × (T_spec_l01Cur × Unit)))) := fun
  | ((_, _, _, t22_0, _), (t4_0, e0, c0, _)) =>
  (bif t22_0 then
  (Option.bind (spec_l16Right.f c0) fun
   | ((r0, _), (c1, _)) => (Option.bind (spec_CommandText.f r0) fun
    | ((r1, r2, _), (_)) => some (((), (), ()), (t4_0, (e0.1, e0.2.1, r1, ()), (c0.1, c1.2.1, c1.2.2.1, ()), ()))))
  else
  some (((), (), ()), (t4_0, e0, c0, ())))
noncomputable def spec_l05Right.P1 : ((Unit × (Unit × (Unit × (Int × (Bool × Unit))))) × (T_impl_Entry × (T_impl_Entry × (T_spec_l01Cur × Unit)))) → Option ((Unit × (Unit × Unit)) × (T_impl_Entry × (T_impl_Entry × (T_spec_l01Cur × Unit)))) := fun
  | ((_, _, _, t12_0, t13_0, _), (t4_0, e0, c0, _)) =>
  (bif t13_0 then
  (Option.bind (spec_l05Conf.f c0) fun
   | ((r0, _), (c1, _)) => (Option.bind (spec_ConfText.f r0) fun
    | ((r1, r2, _), (_)) => some (((), (), ()), (t4_0, (e0.1, e0.2.1, r1, ()), (c0.1, c1.2.1, c1.2.2.1, ()), ()))))
  else
  (Option.bind (spec_l05Right.P0 (((), (), (), (t12_0 == (3 : Int)), ()), (t4_0, e0, c0, ()))) fun
   | ((_, _, _), (t4_1, e1, c2, _)) => some (((), (), ()), (t4_1, e1, c2, ()))))
noncomputable def spec_l05Right.f (term0 : Int) (c0 : T_spec_l01Cur) : Option ((T_impl_Entry × Unit) × (T_spec_l01Cur × Unit)) :=
  (Option.bind (spec_l01PickInt.f ([(1 : Int), (2 : Int), (3 : Int), (3 : Int), (3 : Int)] : List Int) c0) fun
  | ((r0, _), (c1, _)) => (Option.bind (spec_l05Right.P1 (((), (), (), r0, (r0 == (2 : Int)), ()), (((0 : Int), (0 : Int), (⟨#[]⟩ : ByteArray), ()), (term0, r0, (⟨#[]⟩ : ByteArray), ()), (c0.1, c1.2.1, c1.2.2.1, ()), ()))) fun
   | ((_, _, _), (t4_0, e0, c2, _)) => some ((e0, ()), (c2, ()))))

/-- spec.l18Near -/
noncomputable def spec_l18Near.P0 : (((List Int) × ((List Int) × (Int × (Int × (Bool × Unit))))) × Unit) → Option (((List Int) × ((List Int) × (Int × (Int × Unit)))) × Unit) := fun
  | ((a0, b0, n0, i0, t17_0, _), (_)) =>
  (bif t17_0 then
  some ((a0, b0, (IntKind.i64.wrap (n0 + (1 : Int))), i0, ()), ())
  else
  some ((a0, b0, n0, i0, ()), ()))
noncomputable def spec_l18Near.S1 : (((List Int) × ((List Int) × (Int × (Int × Unit)))) × Unit) → Option ((((List Int) × ((List Int) × (Int × (Int × Unit)))) × Unit) ⊕ ((Int × Unit) × Unit)) := fun
  | ((a0, b0, n0, i0, _), (_)) =>
  (bif (decide (i0 ≤ (4 : Int))) then
  (Option.bind (spec_l05In.f a0 i0) fun
   | ((r0, _), (_)) => (Option.bind (spec_l05In.f b0 i0) fun
    | ((r1, _), (_)) => (Option.bind (spec_l18Near.P0 ((a0, b0, n0, i0, (!(r0 == r1)), ()), ())) fun
     | ((a1, b1, n1, i1, _), (_)) => some (.inl ((a1, b1, n1, (IntKind.i64.wrap (i1 + (1 : Int))), ()), ())))))
  else
  some (.inr ((n0, ()), ())))
noncomputable def spec_l18Near.L1 : (((List Int) × ((List Int) × (Int × (Int × Unit)))) × Unit) → Option ((Int × Unit) × Unit) := lim spec_l18Near.S1
noncomputable def spec_l18Near.f (a0 : (List Int)) (b0 : (List Int)) : Option ((Bool × Unit) × Unit) :=
  (Option.bind (spec_l18Near.L1 ((a0, b0, (0 : Int), (1 : Int), ()), ())) fun
  | ((n0, _), (_)) => some (((n0 == (1 : Int)), ()), ()))

/-- spec.Propose -/
noncomputable def spec_Propose.P0 : ((Int × (ByteArray × (Unit × (Unit × (Unit × Unit))))) × (T_impl_Node × (T_impl_Node × (T_impl_Entry × Unit)))) → Option ((Int × (ByteArray × (Unit × (Unit × (Unit × (Bool × Unit)))))) × (T_impl_Node × (T_impl_Node × (T_impl_Entry × Unit)))) := fun
  | ((kind0, data0, _, _, _, _), (n0, t6_0, e0, _)) =>
  (Option.bind (spec_NodeOk.f n0) fun
  | ((r0, _), (_)) => (bif (!r0) then
   some ((kind0, data0, (), (), (), true, ()), (n0, t6_0, e0, ()))
   else
   (bif (n0.2.2.2.1 != (2 : Int)) then
    some ((kind0, data0, (), (), (), true, ()), (n0, t6_0, e0, ()))
    else
    (Option.bind (spec_EntryOk.f e0) fun
     | ((r1, _), (_)) => (bif (!r1) then
      some ((kind0, data0, (), (), (), true, ()), (n0, t6_0, e0, ()))
      else
      (Option.bind (spec_l18Room.f n0) fun
       | ((r2, _), (_)) => some ((kind0, data0, (), (), (), (!r2), ()), (n0, t6_0, e0, ()))))))))
noncomputable def spec_Propose.P1 : ((Unit × (Unit × (Unit × ((List Int) × Unit)))) × (T_impl_Node × (T_impl_Node × (T_impl_Entry × Unit)))) → Option ((Unit × (Unit × (Unit × (Bool × Unit)))) × (T_impl_Node × (T_impl_Node × (T_impl_Entry × Unit)))) := fun
  | ((_, _, _, conf0, _), (n0, t6_0, e0, _)) =>
  (Option.bind (spec_LogTerm.f (n0.2.2.2.2.2.2.1, n0.2.2.2.2.2.2.2.1, n0.2.2.2.2.2.2.2.2.1, ()) n0.2.2.2.2.2.2.2.2.2.1) fun
  | ((r0, _), (_)) => (bif (r0 != n0.2.1) then
   some (((), (), (), true, ()), (n0, t6_0, e0, ()))
   else
   (Option.bind (spec_l18ConfIndex.f n0) fun
    | ((r1, _), (_)) => (bif (decide (r1 > n0.2.2.2.2.2.2.2.2.2.1)) then
     some (((), (), (), true, ()), (n0, t6_0, e0, ()))
     else
     (Option.bind (spec_ConfOf.f n0) fun
      | ((r2, _), (_)) => (Option.bind (spec_l18Near.f r2 conf0) fun
       | ((r3, _), (_)) => some (((), (), (), (!r3), ()), (n0, t6_0, e0, ()))))))))
noncomputable def spec_Propose.P2 : ((ByteArray × (Unit × (Unit × (Unit × (Bool × Unit))))) × (T_impl_Node × (T_impl_Node × (T_impl_Entry × Unit)))) → Option (((Unit × (Unit × (Unit × Unit))) × (T_impl_Node × (T_impl_Node × (T_impl_Entry × Unit)))) ⊕ ((Unit × ((List T_impl_Message) × (Int × (Bool × Unit)))) × (T_impl_Node × Unit))) := fun
  | ((data0, _, _, _, t46_0, _), (n0, t6_0, e0, _)) =>
  (bif t46_0 then
  (Option.bind (spec_ReadConf.f data0) fun
   | ((r0, r1, _), (_)) => (Option.bind (spec_Propose.P1 (((), (), (), r0, ()), (n0, t6_0, e0, ()))) fun
    | ((_, _, _, t73_0, _), (n1, t6_1, e1, _)) => (bif t73_0 then
     some (.inr (((), ([] : List T_impl_Message), (0 : Int), false, ()), (((0 : Int), (0 : Int), (0 : Int), (0 : Int), (0 : Int), ([] : List Int), (0 : Int), (0 : Int), ([] : List T_impl_Entry), (0 : Int), (0 : Int), (0 : Int), ([] : List Int), ([] : List T_impl_Peer), ()), ())))
     else
     some (.inl (((), (), (), ()), (n1, t6_1, e1, ()))))))
  else
  some (.inl (((), (), (), ()), (n0, t6_0, e0, ()))))
noncomputable def spec_Propose.P3 : ((Unit × (Unit × (Unit × (Int × ((List Int) × ((List T_impl_Peer) × (Int × (Unit × (Int × (Bool × Unit)))))))))) × (T_impl_Node × (T_impl_Node × (T_impl_Peer × (T_spec_l18Run × Unit))))) → Option ((Unit × (Unit × (Unit × (Int × ((List Int) × ((List T_impl_Peer) × (Int × (Unit × (Int × Unit))))))))) × (T_impl_Node × (T_impl_Node × (T_impl_Peer × (T_spec_l18Run × Unit))))) := fun
  | ((_, _, _, index0, others0, peers0, i0, _, k0, t136_0, _), (n0, t6_0, p0, t79_0, _)) =>
  (bif t136_0 then
  (bif (decide (0 ≤ k0) && decide (k0 < (n0.2.2.2.2.2.2.2.2.2.2.2.2.2.1.length : Int))) then
   some (((), (), (), index0, others0, peers0, i0, (), k0, ()), (n0, t6_0, (n0.2.2.2.2.2.2.2.2.2.2.2.2.2.1.getD (k0).toNat Z_impl_Peer), t79_0, ()))
   else
   none)
  else
  some (((), (), (), index0, others0, peers0, i0, (), k0, ()), (n0, t6_0, p0, t79_0, ())))
noncomputable def spec_Propose.S4 : ((Unit × (Unit × (Unit × (Int × ((List Int) × ((List T_impl_Peer) × (Int × (Unit × (Int × Unit))))))))) × (T_impl_Node × (T_impl_Node × (T_impl_Peer × (T_spec_l18Run × Unit))))) → Option (((Unit × (Unit × (Unit × (Int × ((List Int) × ((List T_impl_Peer) × (Int × (Unit × (Int × Unit))))))))) × (T_impl_Node × (T_impl_Node × (T_impl_Peer × (T_spec_l18Run × Unit))))) ⊕ ((Unit × (Unit × (Unit × (Int × ((List Int) × ((List T_impl_Peer) × (Int × (Unit × Unit)))))))) × (T_impl_Node × (T_impl_Node × (T_impl_Peer × (T_spec_l18Run × Unit)))))) := fun
  | ((_, _, _, index0, others0, peers0, i0, _, k0, _), (n0, t6_0, p0, t79_0, _)) =>
  (bif (decide (k0 < ((n0.2.2.2.2.2.2.2.2.2.2.2.2.2.1.length : Nat) : Int))) then
  (bif (decide (0 ≤ k0) && decide (k0 < (n0.2.2.2.2.2.2.2.2.2.2.2.2.2.1.length : Int))) then
   (bif (decide (0 ≤ i0) && decide (i0 < (others0.length : Int))) then
    (letv ((n0.2.2.2.2.2.2.2.2.2.2.2.2.2.1.getD (k0).toNat Z_impl_Peer).1 == (others0.getD (i0).toNat (0 : Int))) fun v0 =>
     (Option.bind (spec_Propose.P3 (((), (), (), index0, others0, peers0, i0, (), k0, v0, ()), (n0, t6_0, p0, t79_0, ()))) fun
      | ((_, _, _, index1, others1, peers1, i1, _, k1, _), (n1, t6_1, p1, t79_1, _)) => some (.inl (((), (), (), index1, others1, peers1, i1, (), (IntKind.i64.wrap (k1 + (1 : Int))), ()), (n1, t6_1, p1, t79_1, ())))))
    else
    none)
   else
   none)
  else
  some (.inr (((), (), (), index0, others0, peers0, i0, (), ()), (n0, t6_0, p0, t79_0, ()))))
noncomputable def spec_Propose.L4 : ((Unit × (Unit × (Unit × (Int × ((List Int) × ((List T_impl_Peer) × (Int × (Unit × (Int × Unit))))))))) × (T_impl_Node × (T_impl_Node × (T_impl_Peer × (T_spec_l18Run × Unit))))) → Option ((Unit × (Unit × (Unit × (Int × ((List Int) × ((List T_impl_Peer) × (Int × (Unit × Unit)))))))) × (T_impl_Node × (T_impl_Node × (T_impl_Peer × (T_spec_l18Run × Unit))))) := lim spec_Propose.S4
noncomputable def spec_Propose.S5 : ((Unit × (Unit × (Unit × (Int × ((List Int) × ((List T_impl_Peer) × (Int × Unit))))))) × (T_impl_Node × (T_impl_Node × (T_spec_l18Run × Unit)))) → Option (((Unit × (Unit × (Unit × (Int × ((List Int) × ((List T_impl_Peer) × (Int × Unit))))))) × (T_impl_Node × (T_impl_Node × (T_spec_l18Run × Unit)))) ⊕ ((Unit × (Unit × (Int × ((List T_impl_Peer) × Unit)))) × (T_impl_Node × (T_spec_l18Run × Unit)))) := fun
  | ((_, _, _, index0, others0, peers0, i0, _), (n0, t6_0, t79_0, _)) =>
  (bif (decide (i0 < ((others0.length : Nat) : Int))) then
  (bif (decide (0 ≤ i0) && decide (i0 < (others0.length : Int))) then
   (Option.bind (spec_Propose.L4 (((), (), (), index0, others0, peers0, i0, (), (0 : Int), ()), (n0, t6_0, ((others0.getD (i0).toNat (0 : Int)), index0, (0 : Int), (0 : Int), ()), t79_0, ()))) fun
    | ((_, _, _, index1, others1, peers1, i1, _, _), (n1, t6_1, p0, t79_1, _)) => (bif (decide ((peers1.length + ([p0] : List T_impl_Peer).length) * 32 ≤ 140737488355328)) then
     some (.inl (((), (), (), index1, others1, (peers1 ++ ([p0] : List T_impl_Peer)), (IntKind.i64.wrap (i1 + (1 : Int))), ()), (n1, t6_1, t79_1, ())))
     else
     none))
   else
   none)
  else
  some (.inr (((), (), index0, peers0, ()), (t6_0, t79_0, ()))))
noncomputable def spec_Propose.L5 : ((Unit × (Unit × (Unit × (Int × ((List Int) × ((List T_impl_Peer) × (Int × Unit))))))) × (T_impl_Node × (T_impl_Node × (T_spec_l18Run × Unit)))) → Option ((Unit × (Unit × (Int × ((List T_impl_Peer) × Unit)))) × (T_impl_Node × (T_spec_l18Run × Unit))) := lim spec_Propose.S5
noncomputable def spec_Propose.f (n0 : T_impl_Node) (kind0 : Int) (data0 : ByteArray) : Option ((T_impl_Node × ((List T_impl_Message) × (Int × (Bool × Unit)))) × Unit) :=
  (Option.bind (spec_Propose.P0 ((kind0, data0, (), (), (), ()), (n0, ((0 : Int), (0 : Int), (0 : Int), (0 : Int), (0 : Int), ([] : List Int), (0 : Int), (0 : Int), ([] : List T_impl_Entry), (0 : Int), (0 : Int), (0 : Int), ([] : List Int), ([] : List T_impl_Peer), ()), (n0.2.1, kind0, data0, ()), ()))) fun
  | ((kind1, data1, _, _, _, t42_0, _), (n1, t6_0, e0, _)) => (bif t42_0 then
   some ((((0 : Int), (0 : Int), (0 : Int), (0 : Int), (0 : Int), ([] : List Int), (0 : Int), (0 : Int), ([] : List T_impl_Entry), (0 : Int), (0 : Int), (0 : Int), ([] : List Int), ([] : List T_impl_Peer), ()), ([] : List T_impl_Message), (0 : Int), false, ()), ())
   else
   (Option.bind (spec_Propose.P2 ((data1, (), (), (), (kind1 == (2 : Int)), ()), (n1, t6_0, e0, ()))) fun
    | (.inl ((_, _, _, _), (n2, t6_1, e1, _))) => (Option.bind (spec_l18Copy.f n2) fun
     | ((r0, _), (_)) => (Option.bind (spec_l06Last.f (n2.2.2.2.2.2.2.1, n2.2.2.2.2.2.2.2.1, n2.2.2.2.2.2.2.2.2.1, ())) fun
      | ((r1, _), (_)) => (bif (decide ((r0.2.2.2.2.2.2.2.2.1.length + ([e1] : List T_impl_Entry).length) * 32 ≤ 140737488355328)) then
       (Option.bind (spec_ConfOf.f (impl_Node.u8 r0 (r0.2.2.2.2.2.2.2.2.1 ++ ([e1] : List T_impl_Entry)))) fun
        | ((r2, _), (_)) => (Option.bind (spec_l18Others.f r2 n2.1) fun
         | ((r3, _), (_)) => (Option.bind (spec_Propose.L5 (((), (), (), (IntKind.i64.wrap (r1 + (1 : Int))), r3, ([] : List T_impl_Peer), (0 : Int), ()), (n2, t6_1, (r0.1, r0.2.1, r0.2.2.1, r0.2.2.2.1, r0.2.2.2.2.1, r0.2.2.2.2.2.1, r0.2.2.2.2.2.2.1, r0.2.2.2.2.2.2.2.1, (r0.2.2.2.2.2.2.2.2.1 ++ ([e1] : List T_impl_Entry)), r0.2.2.2.2.2.2.2.2.2.1, r0.2.2.2.2.2.2.2.2.2.2.1, r0.2.2.2.2.2.2.2.2.2.2.2.1, r0.2.2.2.2.2.2.2.2.2.2.2.2.1, r0.2.2.2.2.2.2.2.2.2.2.2.2.2.1, ([] : List T_impl_Message), ()), ()))) fun
          | ((_, _, index0, peers0, _), (t6_2, t79_0, _)) => (Option.bind (spec_l18Commit.f (spec_l18Run.u13 t79_0 peers0)) fun
           | ((_), (t79_1, _)) => (Option.bind (spec_l18SendAll.f (spec_l18Run.u14 (spec_l18Run.u8 (spec_l18Run.u5 t79_1 t79_0.2.2.2.2.2.1) t79_0.2.2.2.2.2.2.2.2.1) t79_0.2.2.2.2.2.2.2.2.2.2.2.2.2.2.1)) fun
            | ((_), (t79_2, _)) => some (((t79_2.1, t79_2.2.1, t79_2.2.2.1, t79_2.2.2.2.1, t79_2.2.2.2.2.1, t79_0.2.2.2.2.2.1, t79_2.2.2.2.2.2.2.1, t79_2.2.2.2.2.2.2.2.1, t79_2.2.2.2.2.2.2.2.2.1, t79_2.2.2.2.2.2.2.2.2.2.1, t79_2.2.2.2.2.2.2.2.2.2.2.1, t79_2.2.2.2.2.2.2.2.2.2.2.2.1, t79_1.2.2.2.2.2.2.2.2.2.2.2.2.1, t79_1.2.2.2.2.2.2.2.2.2.2.2.2.2.1, ()), t79_2.2.2.2.2.2.2.2.2.2.2.2.2.2.2.1, index0, true, ()), ()))))))
       else
       none)))
    | (.inr ((_, t7_0, t8_0, t9_0, _), (t6_3, _))) => some ((t6_3, t7_0, t8_0, t9_0, ()), ()))))

/-- spec.LogBehind -/
noncomputable def spec_LogBehind.P0 : ((Int × (Int × (Unit × (Unit × (Unit × Unit))))) × (T_impl_Log × (T_impl_Log × (T_impl_Log × Unit)))) → Option ((Int × (Unit × (Unit × (Unit × (Bool × Unit))))) × (T_impl_Log × (T_impl_Log × (T_impl_Log × Unit)))) := fun
  | ((base0, term0, _, _, _, _), (l0, t6_0, out0, _)) =>
  (Option.bind (spec_LogOk.f l0) fun
  | ((r0, _), (_)) => (bif r0 then
   (Option.bind (spec_l06Last.f l0) fun
    | ((r1, _), (_)) => (Option.bind (spec_l01In.f base0 l0.1 r1) fun
     | ((r2, _), (_)) => (bif r2 then
      (Option.bind (spec_LogTerm.f l0 base0) fun
       | ((r3, _), (_)) => some ((base0, (), (), (), (r3 == term0), ()), (l0, t6_0, out0, ())))
      else
      some ((base0, (), (), (), false, ()), (l0, t6_0, out0, ())))))
   else
   some ((base0, (), (), (), false, ()), (l0, t6_0, out0, ()))))
noncomputable def spec_LogBehind.P1 : ((Int × (Unit × (Unit × (Unit × (Bool × Unit))))) × (T_impl_Log × (T_impl_Log × (T_impl_Log × Unit)))) → Option ((Unit × (Unit × Unit)) × (T_impl_Log × (T_impl_Log × Unit))) := fun
  | ((base0, _, _, _, t27_0, _), (l0, t6_0, out0, _)) =>
  (bif t27_0 then
  (bif (true && (decide (0 ≤ ((IntKind.i64.wrap (base0 - l0.1)))) && decide (((IntKind.i64.wrap (base0 - l0.1))) ≤ ((l0.2.2.1.length : Nat) : Int)))) then
   (letv ((l0.2.2.1.take ((l0.2.2.1.length : Nat) : Int).toNat).drop ((IntKind.i64.wrap (base0 - l0.1))).toNat) fun l1 =>
    (bif (decide ((([] : List T_impl_Entry).length + l1.length) * 32 ≤ 140737488355328)) then
     some (((), (), ()), (t6_0, (out0.1, out0.2.1, (([] : List T_impl_Entry) ++ l1), ()), ()))
     else
     none))
   else
   none)
  else
  some (((), (), ()), (t6_0, out0, ())))
noncomputable def spec_LogBehind.f (l0 : T_impl_Log) (base0 : Int) (term0 : Int) : Option ((T_impl_Log × Unit) × Unit) :=
  (Option.bind (spec_LogBehind.P0 ((base0, term0, (), (), (), ()), (l0, ((0 : Int), (0 : Int), ([] : List T_impl_Entry), ()), (base0, term0, ([] : List T_impl_Entry), ()), ()))) fun
  | ((base1, _, _, _, t27_0, _), (l1, t6_0, out0, _)) => (Option.bind (spec_LogBehind.P1 ((base1, (), (), (), t27_0, ()), (l1, t6_0, out0, ()))) fun
   | ((_, _, _), (t6_1, out1, _)) => some ((out1, ()), ())))

/-- spec.Settle -/
noncomputable def spec_Settle.P0 : ((Int × (Unit × (Unit × Unit))) × (T_impl_Node × (T_impl_Node × Unit))) → Option ((Int × (Unit × (Unit × (Bool × Unit)))) × (T_impl_Node × (T_impl_Node × Unit))) := fun
  | ((index0, _, _, _), (n0, t4_0, _)) =>
  (Option.bind (spec_NodeOk.f n0) fun
  | ((r0, _), (_)) => (bif (!r0) then
   some ((index0, (), (), true, ()), (n0, t4_0, ()))
   else
   (Option.bind (spec_l01In.f index0 n0.2.2.2.2.2.2.1 n0.2.2.2.2.2.2.2.2.2.1) fun
    | ((r1, _), (_)) => some ((index0, (), (), (!r1), ()), (n0, t4_0, ())))))
noncomputable def spec_Settle.f (n0 : T_impl_Node) (index0 : Int) : Option ((T_impl_Node × (Bool × Unit)) × Unit) :=
  (Option.bind (spec_Settle.P0 ((index0, (), (), ()), (n0, ((0 : Int), (0 : Int), (0 : Int), (0 : Int), (0 : Int), ([] : List Int), (0 : Int), (0 : Int), ([] : List T_impl_Entry), (0 : Int), (0 : Int), (0 : Int), ([] : List Int), ([] : List T_impl_Peer), ()), ()))) fun
  | ((index1, _, _, t19_0, _), (n1, t4_0, _)) => (bif t19_0 then
   some ((((0 : Int), (0 : Int), (0 : Int), (0 : Int), (0 : Int), ([] : List Int), (0 : Int), (0 : Int), ([] : List T_impl_Entry), (0 : Int), (0 : Int), (0 : Int), ([] : List Int), ([] : List T_impl_Peer), ()), false, ()), ())
   else
   (Option.bind (spec_l18Copy.f n1) fun
    | ((r0, _), (_)) => (Option.bind (spec_ConfAt.f n1 index1) fun
     | ((r1, _), (_)) => (Option.bind (spec_LogTerm.f (n1.2.2.2.2.2.2.1, n1.2.2.2.2.2.2.2.1, n1.2.2.2.2.2.2.2.2.1, ()) index1) fun
      | ((r2, _), (_)) => (Option.bind (spec_LogBehind.f (n1.2.2.2.2.2.2.1, n1.2.2.2.2.2.2.2.1, n1.2.2.2.2.2.2.2.2.1, ()) index1 r2) fun
       | ((r3, _), (_)) => some (((impl_Node.u8 (impl_Node.u7 (impl_Node.u6 (impl_Node.u5 r0 r1) r3.1) r3.2.1) r3.2.2.1), true, ()), ())))))))

/-- spec.MessageOk -/
noncomputable def spec_MessageOk.P0 : ((Unit × Unit) × (T_impl_Message × Unit)) → Option ((Unit × (Bool × Unit)) × (T_impl_Message × Unit)) := fun
  | ((_, _), (m0, _)) =>
  (Option.bind (spec_l01In.f m0.1 (1 : Int) (6 : Int)) fun
  | ((r0, _), (_)) => (bif (!r0) then
   some (((), true, ()), (m0, ()))
   else
   (Option.bind (spec_l01In.f m0.2.1 (1 : Int) (4 : Int)) fun
    | ((r1, _), (_)) => (bif (!r1) then
     some (((), true, ()), (m0, ()))
     else
     (Option.bind (spec_l01In.f m0.2.2.1 (1 : Int) (4 : Int)) fun
      | ((r2, _), (_)) => (bif (!r2) then
       some (((), true, ()), (m0, ()))
       else
       some (((), (m0.2.1 == m0.2.2.1), ()), (m0, ()))))))))
noncomputable def spec_MessageOk.P1 : ((Unit × Unit) × (T_impl_Message × Unit)) → Option ((Unit × (Bool × Unit)) × (T_impl_Message × Unit)) := fun
  | ((_, _), (m0, _)) =>
  (Option.bind (spec_l01In.f m0.2.2.2.1 (0 : Int) (100000 : Int)) fun
  | ((r0, _), (_)) => (bif (!r0) then
   some (((), true, ()), (m0, ()))
   else
   (Option.bind (spec_l01In.f m0.2.2.2.2.2.1 (0 : Int) (100000 : Int)) fun
    | ((r1, _), (_)) => (bif (!r1) then
     some (((), true, ()), (m0, ()))
     else
     (Option.bind (spec_l01In.f m0.2.2.2.2.1 (0 : Int) (1000000 : Int)) fun
      | ((r2, _), (_)) => (bif (!r2) then
       some (((), true, ()), (m0, ()))
       else
       (Option.bind (spec_l01In.f m0.2.2.2.2.2.2.1 (0 : Int) (1000000 : Int)) fun
        | ((r3, _), (_)) => some (((), (!r3), ()), (m0, ())))))))))
noncomputable def spec_MessageOk.P2 : ((Unit × Unit) × (T_impl_Message × Unit)) → Option ((Unit × (Bool × Unit)) × (T_impl_Message × Unit)) := fun
  | ((_, _), (m0, _)) =>
  (bif (decide (((m0.2.2.2.2.2.2.2.2.1.length : Nat) : Int) > (4 : Int))) then
  some (((), true, ()), (m0, ()))
  else
  (bif (decide (((m0.2.2.2.2.2.2.2.2.1.length : Nat) : Int) > (0 : Int))) then
   some (((), (m0.1 != (3 : Int)), ()), (m0, ()))
   else
   some (((), false, ()), (m0, ()))))
noncomputable def spec_MessageOk.P3 : ((Unit × (Int × (Int × Unit))) × (T_impl_Message × Unit)) → Option ((Unit × (Int × (Bool × Unit))) × (T_impl_Message × Unit)) := fun
  | ((_, term0, i0, _), (m0, _)) =>
  (bif (decide (0 ≤ i0) && decide (i0 < (m0.2.2.2.2.2.2.2.2.1.length : Int))) then
  (Option.bind (spec_EntryOk.f (m0.2.2.2.2.2.2.2.2.1.getD (i0).toNat Z_impl_Entry)) fun
   | ((r0, _), (_)) => (bif (!r0) then
    some (((), i0, true, ()), (m0, ()))
    else
    (bif (decide (0 ≤ i0) && decide (i0 < (m0.2.2.2.2.2.2.2.2.1.length : Int))) then
     (bif (decide ((m0.2.2.2.2.2.2.2.2.1.getD (i0).toNat Z_impl_Entry).1 < term0)) then
      some (((), i0, true, ()), (m0, ()))
      else
      (bif (decide (0 ≤ i0) && decide (i0 < (m0.2.2.2.2.2.2.2.2.1.length : Int))) then
       some (((), i0, (decide ((m0.2.2.2.2.2.2.2.2.1.getD (i0).toNat Z_impl_Entry).1 > m0.2.2.2.1)), ()), (m0, ()))
       else
       none))
     else
     none)))
  else
  none)
noncomputable def spec_MessageOk.S4 : ((Unit × (Int × (Int × Unit))) × (T_impl_Message × Unit)) → Option (((Unit × (Int × (Int × Unit))) × (T_impl_Message × Unit)) ⊕ (((Unit × Unit) × (T_impl_Message × Unit)) ⊕ ((Bool × Unit) × Unit))) := fun
  | ((_, term0, i0, _), (m0, _)) =>
  (bif (decide (i0 < ((m0.2.2.2.2.2.2.2.2.1.length : Nat) : Int))) then
  (Option.bind (spec_MessageOk.P3 (((), term0, i0, ()), (m0, ()))) fun
   | ((_, i1, t101_0, _), (m1, _)) => (bif t101_0 then
    some (.inr (.inr ((false, ()), ())))
    else
    (bif (decide (0 ≤ i1) && decide (i1 < (m1.2.2.2.2.2.2.2.2.1.length : Int))) then
     some (.inl (((), (m1.2.2.2.2.2.2.2.2.1.getD (i1).toNat Z_impl_Entry).1, (IntKind.i64.wrap (i1 + (1 : Int))), ()), (m1, ())))
     else
     none)))
  else
  some (.inr (.inl (((), ()), (m0, ())))))
noncomputable def spec_MessageOk.L4 : ((Unit × (Int × (Int × Unit))) × (T_impl_Message × Unit)) → Option (((Unit × Unit) × (T_impl_Message × Unit)) ⊕ ((Bool × Unit) × Unit)) := lim spec_MessageOk.S4
noncomputable def spec_MessageOk.P5 : ((Unit × Unit) × (T_impl_Message × Unit)) → Option ((Bool × Unit) × Unit) := fun
  | ((_, _), (m0, _)) =>
  (Option.bind (spec_ConfOk.f m0.2.2.2.2.2.2.2.2.2.1) fun
  | ((r0, _), (_)) => (bif r0 then
   some (((decide (((m0.2.2.2.2.2.2.2.2.2.2.1.size : Nat) : Int) ≤ (60 : Int))), ()), ())
   else
   some ((false, ()), ())))
noncomputable def spec_MessageOk.P6 : ((Unit × Unit) × (T_impl_Message × Unit)) → Option ((Bool × Unit) × Unit) := fun
  | ((_, _), (m0, _)) =>
  (bif (((m0.2.2.2.2.2.2.2.2.2.1.length : Nat) : Int) == (0 : Int)) then
  (bif (m0.2.2.2.2.2.2.2.2.2.2.1.toList == (⟨#[]⟩ : ByteArray).toList) then
   some (((!m0.2.2.2.2.2.2.2.2.2.2.2.1), ()), ())
   else
   some ((false, ()), ()))
  else
  some ((false, ()), ()))
noncomputable def spec_MessageOk.f (m0 : T_impl_Message) : Option ((Bool × Unit) × Unit) :=
  (Option.bind (spec_MessageOk.P0 (((), ()), (m0, ()))) fun
  | ((_, t27_0, _), (m1, _)) => (bif t27_0 then
   some ((false, ()), ())
   else
   (Option.bind (spec_MessageOk.P1 (((), ()), (m1, ()))) fun
    | ((_, t49_0, _), (m2, _)) => (bif t49_0 then
     some ((false, ()), ())
     else
     (Option.bind (spec_MessageOk.P2 (((), ()), (m2, ()))) fun
      | ((_, t64_0, _), (m3, _)) => (bif t64_0 then
       some ((false, ()), ())
       else
       (Option.bind (spec_MessageOk.L4 (((), m3.2.2.2.2.2.1, (0 : Int), ()), (m3, ()))) fun
        | (.inl ((_, _), (m4, _))) => (bif (m4.1 == (5 : Int)) then
         (Option.bind (spec_MessageOk.P5 (((), ()), (m4, ()))) fun
          | ((t2_0, _), (_)) => some ((t2_0, ()), ()))
         else
         (Option.bind (spec_MessageOk.P6 (((), ()), (m4, ()))) fun
          | ((t2_1, _), (_)) => some ((t2_1, ()), ())))
        | (.inr ((t2_2, _), (_))) => some ((t2_2, ()), ()))))))))

/-- spec.l18AskVote -/
noncomputable def spec_l18AskVote.P0 : ((Unit × (Unit × (Int × (Int × Unit)))) × (T_impl_Message × (T_spec_l18Run × Unit))) → Option ((Unit × (Unit × (Bool × Unit))) × (T_impl_Message × (T_spec_l18Run × Unit))) := fun
  | ((_, _, last0, term0, _), (m0, r0, _)) =>
  (bif (decide (m0.2.2.2.2.2.1 > term0)) then
  some (((), (), true, ()), (m0, r0, ()))
  else
  (bif (m0.2.2.2.2.2.1 == term0) then
   some (((), (), (decide (m0.2.2.2.2.1 ≥ last0)), ()), (m0, r0, ()))
   else
   some (((), (), false, ()), (m0, r0, ()))))
noncomputable def spec_l18AskVote.P1 : ((Unit × (Unit × (Bool × Unit))) × (T_impl_Message × (T_spec_l18Run × Unit))) → Option ((Unit × (Unit × (Bool × Unit))) × (T_impl_Message × (T_spec_l18Run × Unit))) := fun
  | ((_, _, fresh0, _), (m0, r0, _)) =>
  (bif (m0.2.2.2.1 == r0.2.1) then
  (bif (r0.2.2.1 == (0 : Int)) then
   some (((), (), fresh0, ()), (m0, r0, ()))
   else
   (bif (r0.2.2.1 == m0.2.1) then
    some (((), (), fresh0, ()), (m0, r0, ()))
    else
    some (((), (), false, ()), (m0, r0, ()))))
  else
  some (((), (), false, ()), (m0, r0, ())))
noncomputable def spec_l18AskVote.P2 : ((Unit × (Unit × (Bool × (Bool × Unit)))) × (T_impl_Message × (T_spec_l18Run × Unit))) → Option ((Unit × (Unit × (Bool × Unit))) × (T_impl_Message × (T_spec_l18Run × Unit))) := fun
  | ((_, _, ok0, t62_0, _), (m0, r0, _)) =>
  (bif t62_0 then
  some (((), (), ok0, ()), (m0, (spec_l18Run.u10 (spec_l18Run.u2 r0 m0.2.1) (0 : Int)), ()))
  else
  some (((), (), ok0, ()), (m0, r0, ())))
noncomputable def spec_l18AskVote.f (m0 : T_impl_Message) (r0 : T_spec_l18Run) : Option (Unit × (T_spec_l18Run × Unit)) :=
  (Option.bind (spec_LogLast.f (r0.2.2.2.2.2.2.1, r0.2.2.2.2.2.2.2.1, r0.2.2.2.2.2.2.2.2.1, ())) fun
  | ((r1, r2, _), (_)) => (Option.bind (spec_l18AskVote.P0 (((), (), r1, r2, ()), (m0, r0, ()))) fun
   | ((_, _, fresh0, _), (m1, r3, _)) => (Option.bind (spec_l18AskVote.P1 (((), (), fresh0, ()), (m1, r3, ()))) fun
    | ((_, _, ok0, _), (m2, r4, _)) => (Option.bind (spec_l18AskVote.P2 (((), (), ok0, ok0, ()), (m2, r4, ()))) fun
     | ((_, _, ok1, _), (m3, r5, _)) => (Option.bind (spec_l18Tell.f ((2 : Int), (0 : Int), m3.2.1, (0 : Int), (0 : Int), (0 : Int), (0 : Int), ok1, ([] : List T_impl_Entry), ([] : List Int), (⟨#[]⟩ : ByteArray), false, ()) r5) fun
      | ((_), (r6, _)) => some ((), ((spec_l18Run.u13 (spec_l18Run.u12 (spec_l18Run.u8 (spec_l18Run.u5 r6 r5.2.2.2.2.2.1) r5.2.2.2.2.2.2.2.2.1) r5.2.2.2.2.2.2.2.2.2.2.2.2.1) r5.2.2.2.2.2.2.2.2.2.2.2.2.2.1), ())))))))

/-- spec.l18TellVote -/
noncomputable def spec_l18TellVote.P0 : ((Unit × (Unit × Unit)) × (T_impl_Message × (T_spec_l18Run × Unit))) → Option ((Unit × (Unit × (Bool × Unit))) × (T_impl_Message × (T_spec_l18Run × Unit))) := fun
  | ((_, _, _), (m0, r0, _)) =>
  (bif (!m0.2.2.2.2.2.2.2.1) then
  some (((), (), true, ()), (m0, r0, ()))
  else
  (bif (m0.2.2.2.1 != r0.2.1) then
   some (((), (), true, ()), (m0, r0, ()))
   else
   some (((), (), (r0.2.2.2.1 != (1 : Int)), ()), (m0, r0, ()))))
noncomputable def spec_l18TellVote.P1 : ((Unit × (Unit × ((List Int) × (Int × Unit)))) × (T_impl_Message × (T_spec_l18Run × Unit))) → Option ((Unit × (Unit × ((List Int) × (Int × (Bool × Unit))))) × (T_impl_Message × (T_spec_l18Run × Unit))) := fun
  | ((_, _, next0, i0, _), (m0, r0, _)) =>
  (bif (i0 == m0.2.1) then
  some (((), (), next0, i0, true, ()), (m0, r0, ()))
  else
  (Option.bind (spec_l05In.f r0.2.2.2.2.2.2.2.2.2.2.2.2.1 i0) fun
   | ((r1, _), (_)) => some (((), (), next0, i0, r1, ()), (m0, r0, ()))))
noncomputable def spec_l18TellVote.P2 : ((Unit × (Unit × ((List Int) × (Int × (Bool × Unit))))) × (T_impl_Message × (T_spec_l18Run × Unit))) → Option ((Unit × (Unit × ((List Int) × (Int × Unit)))) × (T_impl_Message × (T_spec_l18Run × Unit))) := fun
  | ((_, _, next0, i0, t44_0, _), (m0, r0, _)) =>
  (bif t44_0 then
  (bif (decide ((next0.length + ([i0] : List Int).length) * 8 ≤ 140737488355328)) then
   some (((), (), (next0 ++ ([i0] : List Int)), i0, ()), (m0, r0, ()))
   else
   none)
  else
  some (((), (), next0, i0, ()), (m0, r0, ())))
noncomputable def spec_l18TellVote.S3 : ((Unit × (Unit × ((List Int) × (Int × Unit)))) × (T_impl_Message × (T_spec_l18Run × Unit))) → Option (((Unit × (Unit × ((List Int) × (Int × Unit)))) × (T_impl_Message × (T_spec_l18Run × Unit))) ⊕ ((Unit × ((List Int) × Unit)) × (T_spec_l18Run × Unit))) := fun
  | ((_, _, next0, i0, _), (m0, r0, _)) =>
  (bif (decide (i0 ≤ (4 : Int))) then
  (Option.bind (spec_l18TellVote.P1 (((), (), next0, i0, ()), (m0, r0, ()))) fun
   | ((_, _, next1, i1, t44_0, _), (m1, r1, _)) => (Option.bind (spec_l18TellVote.P2 (((), (), next1, i1, t44_0, ()), (m1, r1, ()))) fun
    | ((_, _, next2, i2, _), (m2, r2, _)) => some (.inl (((), (), next2, (IntKind.i64.wrap (i2 + (1 : Int))), ()), (m2, r2, ())))))
  else
  some (.inr (((), next0, ()), (r0, ()))))
noncomputable def spec_l18TellVote.L3 : ((Unit × (Unit × ((List Int) × (Int × Unit)))) × (T_impl_Message × (T_spec_l18Run × Unit))) → Option ((Unit × ((List Int) × Unit)) × (T_spec_l18Run × Unit)) := lim spec_l18TellVote.S3
noncomputable def spec_l18TellVote.P4 : ((Unit × (Bool × Unit)) × (T_spec_l18Run × Unit)) → Option (Unit × (T_spec_l18Run × Unit)) := fun
  | ((_, t55_0, _), (r0, _)) =>
  (bif t55_0 then
  (Option.bind (spec_l18Lead.f r0) fun
   | ((_), (r1, _)) => some ((), ((spec_l18Run.u5 r1 r0.2.2.2.2.2.1), ())))
  else
  some ((), (r0, ())))
noncomputable def spec_l18TellVote.f (m0 : T_impl_Message) (r0 : T_spec_l18Run) : Option (Unit × (T_spec_l18Run × Unit)) :=
  (Option.bind (spec_l18TellVote.P0 (((), (), ()), (m0, r0, ()))) fun
  | ((_, _, t26_0, _), (m1, r1, _)) => (bif t26_0 then
   some ((), (r1, ()))
   else
   (Option.bind (spec_l18TellVote.L3 (((), (), ([] : List Int), (1 : Int), ()), (m1, r1, ()))) fun
    | ((_, next0, _), (r2, _)) => (Option.bind (spec_l18Elected.f (spec_l18Run.u12 r2 next0)) fun
     | ((r3, _), (_)) => (Option.bind (spec_l18TellVote.P4 (((), r3, ()), ((spec_l18Run.u12 r2 next0), ()))) fun
      | ((_), (r4, _)) => some ((), (r4, ())))))))

/-- spec.l18Refuse -/
noncomputable def spec_l18Refuse.f (m0 : T_impl_Message) (index0 : Int) (r0 : T_spec_l18Run) : Option (Unit × (T_spec_l18Run × Unit)) :=
  (Option.bind (spec_l18Tell.f ((4 : Int), (0 : Int), m0.2.1, (0 : Int), index0, (0 : Int), (0 : Int), false, ([] : List T_impl_Entry), ([] : List Int), (⟨#[]⟩ : ByteArray), false, ()) r0) fun
  | ((_), (r1, _)) => some ((), ((spec_l18Run.u13 (spec_l18Run.u12 (spec_l18Run.u8 (spec_l18Run.u5 r1 r0.2.2.2.2.2.1) r0.2.2.2.2.2.2.2.2.1) r0.2.2.2.2.2.2.2.2.2.2.2.2.1) r0.2.2.2.2.2.2.2.2.2.2.2.2.2.1), ())))

/-- spec.l18AskAppend -/
noncomputable def spec_l18AskAppend.P0 : ((Unit × (Unit × (Int × (Unit × (Int × (Bool × Unit)))))) × (T_impl_Message × (T_impl_Log × (T_spec_l18Run × Unit)))) → Option ((Unit × (Unit × (Int × (Unit × (Int × Unit))))) × (T_impl_Message × (T_impl_Log × (T_spec_l18Run × Unit)))) := fun
  | ((_, _, last0, _, skip0, t57_0, _), (m0, l0, r0, _)) =>
  (bif t57_0 then
  some (((), (), last0, (), ((m0.2.2.2.2.2.2.2.2.1.length : Nat) : Int), ()), (m0, l0, r0, ()))
  else
  some (((), (), last0, (), skip0, ()), (m0, l0, r0, ())))
noncomputable def spec_l18AskAppend.P1 : ((Unit × (Unit × (Int × (Unit × (Bool × Unit))))) × (T_impl_Message × (T_impl_Log × (T_spec_l18Run × Unit)))) → Option ((Unit × (Unit × (Int × (Unit × Unit)))) × (T_impl_Message × (T_impl_Log × (T_spec_l18Run × Unit)))) := fun
  | ((_, _, last0, _, t47_0, _), (m0, l0, r0, _)) =>
  (bif t47_0 then
  (letv (decide ((IntKind.i64.wrap (l0.1 - m0.2.2.2.2.1)) > ((m0.2.2.2.2.2.2.2.2.1.length : Nat) : Int))) fun v0 =>
   (Option.bind (spec_l18AskAppend.P0 (((), (), last0, (), (IntKind.i64.wrap (l0.1 - m0.2.2.2.2.1)), v0, ()), (m0, l0, r0, ()))) fun
    | ((_, _, last1, _, skip0, _), (m1, l1, r1, _)) => (bif (true && (decide (0 ≤ (skip0)) && decide ((skip0) ≤ ((m1.2.2.2.2.2.2.2.2.1.length : Nat) : Int)))) then
     (letv ((m1.2.2.2.2.2.2.2.2.1.take ((m1.2.2.2.2.2.2.2.2.1.length : Nat) : Int).toNat).drop (skip0).toNat) fun l2 =>
      some (((), (), last1, (), ()), ((impl_Message.u8 (impl_Message.u5 (impl_Message.u4 m1 l1.1) l1.2.1) l2), l1, r1, ())))
     else
     none)))
  else
  some (((), (), last0, (), ()), (m0, l0, r0, ())))
noncomputable def spec_l18AskAppend.P2 : ((Unit × (Unit × (Int × (Int × (Bool × Unit))))) × (T_impl_Message × (T_spec_l18Run × Unit))) → Option ((Unit × (Unit × (Int × (Int × Unit)))) × (T_impl_Message × (T_spec_l18Run × Unit))) := fun
  | ((_, _, last0, hint0, t83_0, _), (m0, r0, _)) =>
  (bif t83_0 then
  some (((), (), last0, (0 : Int), ()), (m0, r0, ()))
  else
  some (((), (), last0, hint0, ()), (m0, r0, ())))
noncomputable def spec_l18AskAppend.P3 : ((Unit × (Unit × (Int × (Int × (Bool × Unit))))) × (T_impl_Message × (T_spec_l18Run × Unit))) → Option ((Unit × (Unit × (Int × Unit))) × (T_impl_Message × (T_spec_l18Run × Unit))) := fun
  | ((_, _, last0, hint0, t86_0, _), (m0, r0, _)) =>
  (bif t86_0 then
  some (((), (), last0, ()), (m0, r0, ()))
  else
  some (((), (), hint0, ()), (m0, r0, ())))
noncomputable def spec_l18AskAppend.P4 : ((Unit × (Unit × (Int × (Unit × (Int × Unit))))) × (T_impl_Message × (T_impl_Log × (T_spec_l18Run × Unit)))) → Option ((Unit × (Unit × (Int × (Unit × (Int × (Bool × Unit)))))) × (T_impl_Message × (T_impl_Log × (T_spec_l18Run × Unit)))) := fun
  | ((_, _, last0, _, at0, _), (m0, l0, r0, _)) =>
  (bif (decide (at0 < ((m0.2.2.2.2.2.2.2.2.1.length : Nat) : Int))) then
  (Option.bind (spec_LogTerm.f l0 (IntKind.i64.wrap ((IntKind.i64.wrap (m0.2.2.2.2.1 + (1 : Int))) + at0))) fun
   | ((r1, _), (_)) => (bif (decide (0 ≤ at0) && decide (at0 < (m0.2.2.2.2.2.2.2.2.1.length : Int))) then
    some (((), (), last0, (), at0, (r1 == (m0.2.2.2.2.2.2.2.2.1.getD (at0).toNat Z_impl_Entry).1), ()), (m0, l0, r0, ()))
    else
    none))
  else
  some (((), (), last0, (), at0, false, ()), (m0, l0, r0, ())))
noncomputable def spec_l18AskAppend.S5 : ((Unit × (Unit × (Int × (Unit × (Int × Unit))))) × (T_impl_Message × (T_impl_Log × (T_spec_l18Run × Unit)))) → Option (((Unit × (Unit × (Int × (Unit × (Int × Unit))))) × (T_impl_Message × (T_impl_Log × (T_spec_l18Run × Unit)))) ⊕ ((Unit × (Unit × (Int × (Unit × (Int × Unit))))) × (T_impl_Message × (T_impl_Log × (T_spec_l18Run × Unit))))) := fun
  | ((_, _, last0, _, at0, _), (m0, l0, r0, _)) =>
  (Option.bind (spec_l18AskAppend.P4 (((), (), last0, (), at0, ()), (m0, l0, r0, ()))) fun
  | ((_, _, last1, _, at1, t112_0, _), (m1, l1, r1, _)) => (bif t112_0 then
   some (.inl (((), (), last1, (), (IntKind.i64.wrap (at1 + (1 : Int))), ()), (m1, l1, r1, ())))
   else
   some (.inr (((), (), last1, (), at1, ()), (m1, l1, r1, ())))))
noncomputable def spec_l18AskAppend.L5 : ((Unit × (Unit × (Int × (Unit × (Int × Unit))))) × (T_impl_Message × (T_impl_Log × (T_spec_l18Run × Unit)))) → Option ((Unit × (Unit × (Int × (Unit × (Int × Unit))))) × (T_impl_Message × (T_impl_Log × (T_spec_l18Run × Unit)))) := lim spec_l18AskAppend.S5
noncomputable def spec_l18AskAppend.P6 : ((Unit × (Unit × (Int × (Int × (Int × (Unit × Unit)))))) × (T_impl_Message × (T_impl_Log × (T_spec_l18Run × Unit)))) → Option ((Unit × (Unit × (Int × (Int × (Unit × (Bool × Unit)))))) × (T_impl_Message × (T_impl_Log × (T_spec_l18Run × Unit)))) := fun
  | ((_, _, last0, at0, end0, _, _), (m0, now0, r0, _)) =>
  (bif (decide ((IntKind.i64.wrap (m0.2.2.2.2.1 + at0)) < r0.2.2.2.2.2.2.2.2.2.1)) then
  some (((), (), last0, end0, (), true, ()), (m0, now0, r0, ()))
  else
  (Option.bind (spec_LogOk.f now0) fun
   | ((r1, _), (_)) => some (((), (), last0, end0, (), (!r1), ()), (m0, now0, r0, ()))))
noncomputable def spec_l18AskAppend.P7 : ((Unit × (Unit × (Int × (Unit × (Int × (Int × (Bool × Unit))))))) × (T_impl_Message × (T_impl_Log × (T_spec_l18Run × Unit)))) → Option (((Unit × (Unit × (Int × Unit))) × (T_impl_Message × (T_spec_l18Run × Unit))) ⊕ (Unit × (T_spec_l18Run × Unit))) := fun
  | ((_, _, last0, _, at0, end0, t125_0, _), (m0, l0, r0, _)) =>
  (bif t125_0 then
  (bif ((decide (0 ≤ ((IntKind.i64.wrap ((IntKind.i64.wrap (m0.2.2.2.2.1 + at0)) - l0.1)))) && decide (((IntKind.i64.wrap ((IntKind.i64.wrap (m0.2.2.2.2.1 + at0)) - l0.1))) ≤ ((l0.2.2.1.length : Nat) : Int))) && true) then
   (letv ((l0.2.2.1.take ((IntKind.i64.wrap ((IntKind.i64.wrap (m0.2.2.2.2.1 + at0)) - l0.1))).toNat).drop (0 : Int).toNat) fun l1 =>
    (bif (decide ((([] : List T_impl_Entry).length + l1.length) * 32 ≤ 140737488355328)) then
     (bif (true && (decide (0 ≤ (at0)) && decide ((at0) ≤ ((m0.2.2.2.2.2.2.2.2.1.length : Nat) : Int)))) then
      (letv ((m0.2.2.2.2.2.2.2.2.1.take ((m0.2.2.2.2.2.2.2.2.1.length : Nat) : Int).toNat).drop (at0).toNat) fun l2 =>
       (bif (decide (((([] : List T_impl_Entry) ++ l1).length + l2.length) * 32 ≤ 140737488355328)) then
        (Option.bind (spec_l18AskAppend.P6 (((), (), last0, at0, end0, (), ()), (m0, (l0.1, l0.2.1, ((([] : List T_impl_Entry) ++ l1) ++ l2), ()), r0, ()))) fun
         | ((_, _, last1, end1, _, t163_0, _), (m1, now0, r1, _)) => (bif t163_0 then
          (Option.bind (spec_l18Refuse.f m1 last1 r1) fun
           | ((_), (r2, _)) => some (.inr ((), ((spec_l18Run.u13 (spec_l18Run.u12 (spec_l18Run.u8 (spec_l18Run.u5 r2 r1.2.2.2.2.2.1) r1.2.2.2.2.2.2.2.2.1) r1.2.2.2.2.2.2.2.2.2.2.2.2.1) r1.2.2.2.2.2.2.2.2.2.2.2.2.2.1), ()))))
          else
          some (.inl (((), (), end1, ()), (m1, (spec_l18Run.u8 (spec_l18Run.u7 (spec_l18Run.u6 r1 now0.1) now0.2.1) now0.2.2.1), ())))))
        else
        none))
      else
      none)
     else
     none))
   else
   none)
  else
  some (.inl (((), (), end0, ()), (m0, r0, ()))))
noncomputable def spec_l18AskAppend.P8 : ((Unit × (Unit × (Int × (Int × (Bool × Unit))))) × (T_impl_Message × (T_spec_l18Run × Unit))) → Option ((Unit × (Unit × (Int × (Int × Unit)))) × (T_impl_Message × (T_spec_l18Run × Unit))) := fun
  | ((_, _, end0, commit0, t177_0, _), (m0, r0, _)) =>
  (bif t177_0 then
  some (((), (), end0, end0, ()), (m0, r0, ()))
  else
  some (((), (), end0, commit0, ()), (m0, r0, ())))
noncomputable def spec_l18AskAppend.P9 : ((Unit × (Unit × (Int × (Int × (Bool × Unit))))) × (T_impl_Message × (T_spec_l18Run × Unit))) → Option ((Unit × (Unit × (Int × Unit))) × (T_impl_Message × (T_spec_l18Run × Unit))) := fun
  | ((_, _, end0, commit0, t185_0, _), (m0, r0, _)) =>
  (bif t185_0 then
  some (((), (), end0, ()), (m0, (spec_l18Run.u9 r0 commit0), ()))
  else
  some (((), (), end0, ()), (m0, r0, ())))
noncomputable def spec_l18AskAppend.f (m0 : T_impl_Message) (r0 : T_spec_l18Run) : Option (Unit × (T_spec_l18Run × Unit)) :=
  (Option.bind (spec_l06Last.f (r0.2.2.2.2.2.2.1, r0.2.2.2.2.2.2.2.1, r0.2.2.2.2.2.2.2.2.1, ())) fun
  | ((r1, _), (_)) => (bif (decide (m0.2.2.2.1 < r0.2.1)) then
   (Option.bind (spec_l18Refuse.f m0 (0 : Int) r0) fun
    | ((_), (r2, _)) => some ((), ((spec_l18Run.u13 (spec_l18Run.u12 (spec_l18Run.u8 (spec_l18Run.u5 r2 r0.2.2.2.2.2.1) r0.2.2.2.2.2.2.2.2.1) r0.2.2.2.2.2.2.2.2.2.2.2.2.1) r0.2.2.2.2.2.2.2.2.2.2.2.2.2.1), ())))
   else
   (Option.bind (spec_l18Follow.f m0.2.1 r0) fun
    | ((_), (r3, _)) => (Option.bind (spec_l18AskAppend.P1 (((), (), r1, (), (decide (m0.2.2.2.2.1 < r3.2.2.2.2.2.2.1)), ()), (m0, (r3.2.2.2.2.2.2.1, r3.2.2.2.2.2.2.2.1, r0.2.2.2.2.2.2.2.2.1, ()), (spec_l18Run.u14 (spec_l18Run.u10 (spec_l18Run.u8 (spec_l18Run.u5 r3 r0.2.2.2.2.2.1) r0.2.2.2.2.2.2.2.2.1) (0 : Int)) r0.2.2.2.2.2.2.2.2.2.2.2.2.2.2.1), ()))) fun
     | ((_, _, last0, _, _), (m1, l0, r4, _)) => (Option.bind (spec_LogTerm.f l0 m1.2.2.2.2.1) fun
      | ((r5, _), (_)) => (bif (r5 != m1.2.2.2.2.2.1) then
       (Option.bind (spec_l18AskAppend.P2 (((), (), last0, (IntKind.i64.wrap (m1.2.2.2.2.1 - (1 : Int))), (decide ((IntKind.i64.wrap (m1.2.2.2.2.1 - (1 : Int))) < (0 : Int))), ()), (m1, r4, ()))) fun
        | ((_, _, last1, hint0, _), (m2, r6, _)) => (Option.bind (spec_l18AskAppend.P3 (((), (), last1, hint0, (decide (hint0 > last1)), ()), (m2, r6, ()))) fun
         | ((_, _, hint1, _), (m3, r7, _)) => (Option.bind (spec_l18Refuse.f m3 hint1 r7) fun
          | ((_), (r8, _)) => some ((), ((spec_l18Run.u13 (spec_l18Run.u12 (spec_l18Run.u8 (spec_l18Run.u5 r8 r7.2.2.2.2.2.1) r7.2.2.2.2.2.2.2.2.1) r7.2.2.2.2.2.2.2.2.2.2.2.2.1) r7.2.2.2.2.2.2.2.2.2.2.2.2.2.1), ())))))
       else
       (Option.bind (spec_l18AskAppend.L5 (((), (), last0, (), (0 : Int), ()), (m1, l0, r4, ()))) fun
        | ((_, _, last2, _, at0, _), (m4, l1, r9, _)) => (Option.bind (spec_l18AskAppend.P7 (((), (), last2, (), at0, (IntKind.i64.wrap (m4.2.2.2.2.1 + ((m4.2.2.2.2.2.2.2.2.1.length : Nat) : Int))), (decide (at0 < ((m4.2.2.2.2.2.2.2.2.1.length : Nat) : Int))), ()), (m4, l1, r9, ()))) fun
         | (.inl ((_, _, end0, _), (m5, r10, _))) => (Option.bind (spec_l18AskAppend.P8 (((), (), end0, m5.2.2.2.2.2.2.1, (decide (m5.2.2.2.2.2.2.1 > end0)), ()), (m5, r10, ()))) fun
          | ((_, _, end1, commit0, _), (m6, r11, _)) => (Option.bind (spec_l18AskAppend.P9 (((), (), end1, commit0, (decide (commit0 > r11.2.2.2.2.2.2.2.2.2.1)), ()), (m6, r11, ()))) fun
           | ((_, _, end2, _), (m7, r12, _)) => (Option.bind (spec_l18Tell.f ((4 : Int), (0 : Int), m7.2.1, (0 : Int), end2, (0 : Int), (0 : Int), true, ([] : List T_impl_Entry), ([] : List Int), (⟨#[]⟩ : ByteArray), false, ()) r12) fun
            | ((_), (r13, _)) => some ((), ((spec_l18Run.u13 (spec_l18Run.u12 (spec_l18Run.u8 (spec_l18Run.u5 r13 r12.2.2.2.2.2.1) r12.2.2.2.2.2.2.2.2.1) r12.2.2.2.2.2.2.2.2.2.2.2.2.1) r12.2.2.2.2.2.2.2.2.2.2.2.2.2.1), ())))))
         | (.inr ((_), (r14, _))) => some ((), (r14, ()))))))))))

/-- spec.l18Reply -/
noncomputable def spec_l18Reply.P0 : ((Unit × (Unit × Unit)) × (T_impl_Message × (T_spec_l18Run × Unit))) → Option ((Unit × (Unit × (Bool × Unit))) × (T_impl_Message × (T_spec_l18Run × Unit))) := fun
  | ((_, _, _), (m0, r0, _)) =>
  (bif (m0.2.2.2.1 != r0.2.1) then
  some (((), (), true, ()), (m0, r0, ()))
  else
  some (((), (), (r0.2.2.2.1 != (2 : Int)), ()), (m0, r0, ())))
noncomputable def spec_l18Reply.P1 : ((Unit × (Unit × (Int × (Int × (Bool × Unit))))) × (T_impl_Message × (T_spec_l18Run × Unit))) → Option ((Unit × (Unit × (Int × (Int × Unit)))) × (T_impl_Message × (T_spec_l18Run × Unit))) := fun
  | ((_, _, at0, i0, t47_0, _), (m0, r0, _)) =>
  (bif t47_0 then
  some (((), (), i0, i0, ()), (m0, r0, ()))
  else
  some (((), (), at0, i0, ()), (m0, r0, ())))
noncomputable def spec_l18Reply.S2 : ((Unit × (Unit × (Int × (Int × Unit)))) × (T_impl_Message × (T_spec_l18Run × Unit))) → Option (((Unit × (Unit × (Int × (Int × Unit)))) × (T_impl_Message × (T_spec_l18Run × Unit))) ⊕ ((Unit × (Unit × (Int × Unit))) × (T_impl_Message × (T_spec_l18Run × Unit)))) := fun
  | ((_, _, at0, i0, _), (m0, r0, _)) =>
  (bif (decide (i0 < ((r0.2.2.2.2.2.2.2.2.2.2.2.2.2.1.length : Nat) : Int))) then
  (bif (decide (0 ≤ i0) && decide (i0 < (r0.2.2.2.2.2.2.2.2.2.2.2.2.2.1.length : Int))) then
   (Option.bind (spec_l18Reply.P1 (((), (), at0, i0, ((r0.2.2.2.2.2.2.2.2.2.2.2.2.2.1.getD (i0).toNat Z_impl_Peer).1 == m0.2.1), ()), (m0, r0, ()))) fun
    | ((_, _, at1, i1, _), (m1, r1, _)) => some (.inl (((), (), at1, (IntKind.i64.wrap (i1 + (1 : Int))), ()), (m1, r1, ()))))
   else
   none)
  else
  some (.inr (((), (), at0, ()), (m0, r0, ()))))
noncomputable def spec_l18Reply.L2 : ((Unit × (Unit × (Int × (Int × Unit)))) × (T_impl_Message × (T_spec_l18Run × Unit))) → Option ((Unit × (Unit × (Int × Unit))) × (T_impl_Message × (T_spec_l18Run × Unit))) := lim spec_l18Reply.S2
noncomputable def spec_l18Reply.P3 : ((Unit × (Unit × (Int × (Int × (Unit × (Int × (Bool × Unit))))))) × (T_impl_Message × (T_impl_Peer × (T_spec_l18Run × Unit)))) → Option ((Unit × (Unit × (Int × (Int × (Unit × (Int × Unit)))))) × (T_impl_Message × (T_impl_Peer × (T_spec_l18Run × Unit)))) := fun
  | ((_, _, at0, last0, _, x0, t71_0, _), (m0, p0, r0, _)) =>
  (bif t71_0 then
  some (((), (), at0, last0, (), last0, ()), (m0, p0, r0, ()))
  else
  some (((), (), at0, last0, (), x0, ()), (m0, p0, r0, ())))
noncomputable def spec_l18Reply.P4 : ((Unit × (Unit × (Int × (Int × (Unit × (Int × (Bool × Unit))))))) × (T_impl_Message × (T_impl_Peer × (T_spec_l18Run × Unit)))) → Option ((Unit × (Unit × (Int × (Int × (Unit × Unit))))) × (T_impl_Message × (T_impl_Peer × (T_spec_l18Run × Unit)))) := fun
  | ((_, _, at0, last0, _, x0, t76_0, _), (m0, p0, r0, _)) =>
  (bif t76_0 then
  some (((), (), at0, last0, (), ()), (m0, (impl_Peer.u2 p0 x0), r0, ()))
  else
  some (((), (), at0, last0, (), ()), (m0, p0, r0, ())))
noncomputable def spec_l18Reply.P5 : ((Unit × (Int × (Int × (Unit × (Bool × Unit))))) × (T_impl_Peer × (T_spec_l18Run × Unit))) → Option ((Unit × (Int × (Int × (Unit × Unit)))) × (T_impl_Peer × (T_spec_l18Run × Unit))) := fun
  | ((_, at0, last0, _, t85_0, _), (p0, r0, _)) =>
  (bif t85_0 then
  some (((), at0, last0, (), ()), ((impl_Peer.u3 p0 (0 : Int)), r0, ()))
  else
  some (((), at0, last0, (), ()), (p0, r0, ())))
noncomputable def spec_l18Reply.P6 : ((Unit × (Int × (Unit × Unit))) × (T_impl_Peer × (T_spec_l18Run × Unit))) → Option ((Unit × (Unit × (Bool × Unit))) × (T_impl_Peer × (T_spec_l18Run × Unit))) := fun
  | ((_, last0, _, _), (p0, r0, _)) =>
  (bif (r0.2.2.2.1 == (2 : Int)) then
  some (((), (), (decide (p0.2.1 ≤ last0)), ()), (p0, r0, ()))
  else
  some (((), (), false, ()), (p0, r0, ())))
noncomputable def spec_l18Reply.P7 : ((Unit × (Unit × (Bool × Unit))) × (T_impl_Peer × (T_spec_l18Run × Unit))) → Option (Unit × (T_spec_l18Run × Unit)) := fun
  | ((_, _, t108_0, _), (p0, r0, _)) =>
  (bif t108_0 then
  (Option.bind (spec_l18Send.f p0 r0) fun
   | ((_), (r1, _)) => some ((), ((spec_l18Run.u13 (spec_l18Run.u12 (spec_l18Run.u5 r1 r0.2.2.2.2.2.1) r0.2.2.2.2.2.2.2.2.2.2.2.2.1) r0.2.2.2.2.2.2.2.2.2.2.2.2.2.1), ())))
  else
  some ((), (r0, ())))
noncomputable def spec_l18Reply.P8 : ((Unit × (Unit × (Int × (Unit × Unit)))) × (T_impl_Message × (T_impl_Peer × (T_spec_l18Run × Unit)))) → Option ((Unit × (Unit × (Int × (Unit × (Bool × Unit))))) × (T_impl_Message × (T_impl_Peer × (T_spec_l18Run × Unit)))) := fun
  | ((_, _, at0, _, _), (m0, p0, r0, _)) =>
  (bif (m0.2.2.2.2.1 == r0.2.2.2.2.2.2.1) then
  some (((), (), at0, (), (decide (m0.2.2.2.2.2.2.1 ≤ (20000 : Int))), ()), (m0, p0, r0, ()))
  else
  some (((), (), at0, (), false, ()), (m0, p0, r0, ())))
noncomputable def spec_l18Reply.P9 : ((Unit × (Unit × (Int × (Unit × (Bool × Unit))))) × (T_impl_Message × (T_impl_Peer × (T_spec_l18Run × Unit)))) → Option ((Unit × (Int × (Unit × Unit))) × (T_impl_Peer × (T_spec_l18Run × Unit))) := fun
  | ((_, _, at0, _, t129_0, _), (m0, p0, r0, _)) =>
  (bif t129_0 then
  some (((), at0, (), ()), ((impl_Peer.u3 p0 m0.2.2.2.2.2.2.1), r0, ()))
  else
  some (((), at0, (), ()), (p0, r0, ())))
noncomputable def spec_l18Reply.P10 : ((Unit × (Int × (Unit × (Int × (Bool × Unit))))) × (T_impl_Peer × (T_spec_l18Run × Unit))) → Option ((Unit × (Int × (Unit × (Int × Unit)))) × (T_impl_Peer × (T_spec_l18Run × Unit))) := fun
  | ((_, at0, _, x0, t140_0, _), (p0, r0, _)) =>
  (bif t140_0 then
  some (((), at0, (), (IntKind.i64.wrap (p0.2.2.1 + (1 : Int))), ()), (p0, r0, ()))
  else
  some (((), at0, (), x0, ()), (p0, r0, ())))
noncomputable def spec_l18Reply.P11 : ((Unit × (Int × (Unit × (Int × (Bool × Unit))))) × (T_impl_Peer × (T_spec_l18Run × Unit))) → Option ((Unit × (Int × (Unit × Unit))) × (T_impl_Peer × (T_spec_l18Run × Unit))) := fun
  | ((_, at0, _, x0, t147_0, _), (p0, r0, _)) =>
  (bif t147_0 then
  some (((), at0, (), ()), ((impl_Peer.u1 p0 x0), r0, ()))
  else
  some (((), at0, (), ()), (p0, r0, ())))
noncomputable def spec_l18Reply.P12 : ((Unit × (Unit × (Int × (Unit × (Bool × Unit))))) × (T_impl_Message × (T_impl_Peer × (T_spec_l18Run × Unit)))) → Option ((Unit × (Int × (Unit × Unit))) × (T_impl_Peer × (T_spec_l18Run × Unit))) := fun
  | ((_, _, at0, _, t114_0, _), (m0, p0, r0, _)) =>
  (bif t114_0 then
  (Option.bind (spec_l18Reply.P8 (((), (), at0, (), ()), (m0, (impl_Peer.u3 p0 (0 : Int)), r0, ()))) fun
   | ((_, _, at1, _, t129_0, _), (m1, p1, r1, _)) => (Option.bind (spec_l18Reply.P9 (((), (), at1, (), t129_0, ()), (m1, p1, r1, ()))) fun
    | ((_, at2, _, _), (p2, r2, _)) => some (((), at2, (), ()), (p2, r2, ()))))
  else
  (letv (decide ((IntKind.i64.wrap (m0.2.2.2.2.1 + (1 : Int))) < (IntKind.i64.wrap (p0.2.2.1 + (1 : Int))))) fun v0 =>
   (Option.bind (spec_l18Reply.P10 (((), at0, (), (IntKind.i64.wrap (m0.2.2.2.2.1 + (1 : Int))), v0, ()), (p0, r0, ()))) fun
    | ((_, at3, _, x0, _), (p3, r3, _)) => (Option.bind (spec_l18Reply.P11 (((), at3, (), x0, (decide (x0 < p3.2.1)), ()), (p3, r3, ()))) fun
     | ((_, at4, _, _), (p4, r4, _)) => some (((), at4, (), ()), (p4, r4, ()))))))
noncomputable def spec_l18Reply.f (m0 : T_impl_Message) (r0 : T_spec_l18Run) : Option (Unit × (T_spec_l18Run × Unit)) :=
  (Option.bind (spec_l18Reply.P0 (((), (), ()), (m0, r0, ()))) fun
  | ((_, _, t25_0, _), (m1, r1, _)) => (bif t25_0 then
   some ((), (r1, ()))
   else
   (Option.bind (spec_l18Reply.L2 (((), (), (-1 : Int), (0 : Int), ()), (m1, r1, ()))) fun
    | ((_, _, at0, _), (m2, r2, _)) => (bif (decide (at0 < (0 : Int))) then
     some ((), (r2, ()))
     else
     (Option.bind (spec_l06Last.f (r2.2.2.2.2.2.2.1, r2.2.2.2.2.2.2.2.1, r2.2.2.2.2.2.2.2.2.1, ())) fun
      | ((r3, _), (_)) => (bif (decide (0 ≤ at0) && decide (at0 < (r2.2.2.2.2.2.2.2.2.2.2.2.2.2.1.length : Int))) then
       (bif m2.2.2.2.2.2.2.2.1 then
        (Option.bind (spec_l18Reply.P3 (((), (), at0, r3, (), m2.2.2.2.2.1, (decide (m2.2.2.2.2.1 > r3)), ()), (m2, (r2.2.2.2.2.2.2.2.2.2.2.2.2.2.1.getD (at0).toNat Z_impl_Peer), r2, ()))) fun
         | ((_, _, at1, last0, _, x0, _), (m3, p0, r4, _)) => (Option.bind (spec_l18Reply.P4 (((), (), at1, last0, (), x0, (decide (x0 > p0.2.2.1)), ()), (m3, p0, r4, ()))) fun
          | ((_, _, at2, last1, _, _), (m4, p1, r5, _)) => (Option.bind (spec_l18Reply.P5 (((), at2, last1, (), (m4.1 == (6 : Int)), ()), ((impl_Peer.u1 p1 (IntKind.i64.wrap (p1.2.2.1 + (1 : Int)))), r5, ()))) fun
           | ((_, at3, last2, _, _), (p2, r6, _)) => (bif (decide (0 ≤ at3) && decide (at3 < (r6.2.2.2.2.2.2.2.2.2.2.2.2.2.1.length : Int))) then
            (letv (r6.2.2.2.2.2.2.2.2.2.2.2.2.2.1.set (at3).toNat (p2.1, (p2.2.1, (p2.2.2.1, (p2.2.2.2.1, ()))))) fun l0 =>
             (Option.bind (spec_l18Commit.f (spec_l18Run.u13 r6 l0)) fun
              | ((_), (r7, _)) => (Option.bind (spec_l18Reply.P6 (((), last2, (), ()), (p2, (spec_l18Run.u14 (spec_l18Run.u8 (spec_l18Run.u5 r7 r6.2.2.2.2.2.1) r6.2.2.2.2.2.2.2.2.1) r6.2.2.2.2.2.2.2.2.2.2.2.2.2.2.1), ()))) fun
               | ((_, _, t108_0, _), (p3, r8, _)) => (Option.bind (spec_l18Reply.P7 (((), (), t108_0, ()), (p3, r8, ()))) fun
                | ((_), (r9, _)) => some ((), (r9, ()))))))
            else
            none))))
        else
        (Option.bind (spec_l18Reply.P12 (((), (), at0, (), (m2.1 == (6 : Int)), ()), (m2, (r2.2.2.2.2.2.2.2.2.2.2.2.2.2.1.getD (at0).toNat Z_impl_Peer), r2, ()))) fun
         | ((_, at4, _, _), (p4, r10, _)) => (bif (decide (0 ≤ at4) && decide (at4 < (r10.2.2.2.2.2.2.2.2.2.2.2.2.2.1.length : Int))) then
          (letv (r10.2.2.2.2.2.2.2.2.2.2.2.2.2.1.set (at4).toNat (p4.1, (p4.2.1, (p4.2.2.1, (p4.2.2.2.1, ()))))) fun l1 =>
           (Option.bind (spec_l18Send.f p4 (spec_l18Run.u13 r10 l1)) fun
            | ((_), (r11, _)) => some ((), ((spec_l18Run.u13 (spec_l18Run.u12 (spec_l18Run.u5 r11 r10.2.2.2.2.2.1) r10.2.2.2.2.2.2.2.2.2.2.2.2.1) l1), ()))))
          else
          none)))
       else
       none))))))

/-- spec.Receive -/
noncomputable def spec_Receive.P0 : ((Unit × (Unit × (Unit × Unit))) × (T_impl_Node × (T_impl_Message × (T_impl_Node × Unit)))) → Option ((Unit × (Unit × (Unit × (Bool × Unit)))) × (T_impl_Node × (T_impl_Message × (T_impl_Node × Unit)))) := fun
  | ((_, _, _, _), (n0, m0, t4_0, _)) =>
  (Option.bind (spec_NodeOk.f n0) fun
  | ((r0, _), (_)) => (bif (!r0) then
   some (((), (), (), true, ()), (n0, m0, t4_0, ()))
   else
   (Option.bind (spec_MessageOk.f m0) fun
    | ((r1, _), (_)) => (bif (!r1) then
     some (((), (), (), true, ()), (n0, m0, t4_0, ()))
     else
     some (((), (), (), (m0.2.2.1 != n0.1), ()), (n0, m0, t4_0, ()))))))
noncomputable def spec_Receive.P1 : ((Unit × (Unit × (Unit × (Bool × Unit)))) × (T_impl_Message × (T_impl_Node × (T_spec_l18Run × Unit)))) → Option ((Unit × (Unit × (Unit × Unit))) × (T_impl_Message × (T_impl_Node × (T_spec_l18Run × Unit)))) := fun
  | ((_, _, _, t33_0, _), (m0, t4_0, t28_0, _)) =>
  (bif t33_0 then
  (Option.bind (spec_l18Follow.f (0 : Int) (spec_l18Run.u2 (spec_l18Run.u1 t28_0 m0.2.2.2.1) (0 : Int))) fun
   | ((_), (t28_1, _)) => some (((), (), (), ()), (m0, t4_0, (spec_l18Run.u14 (spec_l18Run.u8 (spec_l18Run.u5 t28_1 t28_0.2.2.2.2.2.1) t28_0.2.2.2.2.2.2.2.2.1) t28_0.2.2.2.2.2.2.2.2.2.2.2.2.2.2.1), ())))
  else
  some (((), (), (), ()), (m0, t4_0, t28_0, ())))
noncomputable def spec_Receive.P2 : ((Unit × (Unit × (Unit × (Int × (Bool × Unit))))) × (T_impl_Message × (T_impl_Node × (T_spec_l18Run × Unit)))) → Option ((Unit × (Unit × (Unit × (Int × (Bool × Unit))))) × (T_impl_Message × (T_impl_Node × (T_spec_l18Run × Unit)))) := fun
  | ((_, _, _, t47_0, t63_0, _), (m0, t4_0, t28_0, _)) =>
  (bif t63_0 then
  some (((), (), (), t47_0, t63_0, ()), (m0, t4_0, t28_0, ()))
  else
  some (((), (), (), t47_0, (t47_0 == (6 : Int)), ()), (m0, t4_0, t28_0, ())))
noncomputable def spec_Receive.P3 : ((Unit × (Unit × (Unit × (Bool × Unit)))) × (T_impl_Message × (T_impl_Node × (T_spec_l18Run × Unit)))) → Option ((Unit × (Unit × Unit)) × (T_impl_Node × (T_spec_l18Run × Unit))) := fun
  | ((_, _, _, t78_0, _), (m0, t4_0, t28_0, _)) =>
  (bif t78_0 then
  (Option.bind (spec_l18Follow.f m0.2.1 t28_0) fun
   | ((_), (t28_1, _)) => some (((), (), ()), (t4_0, (spec_l18Run.u14 (spec_l18Run.u10 (spec_l18Run.u8 (spec_l18Run.u5 t28_1 t28_0.2.2.2.2.2.1) t28_0.2.2.2.2.2.2.2.2.1) (0 : Int)) t28_0.2.2.2.2.2.2.2.2.2.2.2.2.2.2.1), ())))
  else
  some (((), (), ()), (t4_0, t28_0, ())))
noncomputable def spec_Receive.P4 : ((Unit × (Unit × (Unit × (Bool × Unit)))) × (T_impl_Message × (T_impl_Node × (T_spec_l18Run × Unit)))) → Option ((Unit × (Unit × Unit)) × (T_impl_Node × (T_spec_l18Run × Unit))) := fun
  | ((_, _, _, t69_0, _), (m0, t4_0, t28_0, _)) =>
  (bif t69_0 then
  (Option.bind (spec_Receive.P3 (((), (), (), (decide (m0.2.2.2.1 ≥ t28_0.2.1)), ()), (m0, t4_0, t28_0, ()))) fun
   | ((_, _, _), (t4_1, t28_1, _)) => some (((), (), ()), (t4_1, t28_1, ())))
  else
  some (((), (), ()), (t4_0, t28_0, ())))
noncomputable def spec_Receive.P5 : ((Unit × (Unit × (Unit × (Int × (Bool × Unit))))) × (T_impl_Message × (T_impl_Node × (T_spec_l18Run × Unit)))) → Option ((Unit × (Unit × Unit)) × (T_impl_Node × (T_spec_l18Run × Unit))) := fun
  | ((_, _, _, t47_0, t63_0, _), (m0, t4_0, t28_0, _)) =>
  (bif t63_0 then
  (Option.bind (spec_l18Reply.f m0 t28_0) fun
   | ((_), (t28_1, _)) => some (((), (), ()), (t4_0, (spec_l18Run.u5 t28_1 t28_0.2.2.2.2.2.1), ())))
  else
  (Option.bind (spec_Receive.P4 (((), (), (), (t47_0 == (5 : Int)), ()), (m0, t4_0, t28_0, ()))) fun
   | ((_, _, _), (t4_1, t28_2, _)) => some (((), (), ()), (t4_1, t28_2, ()))))
noncomputable def spec_Receive.P6 : ((Unit × (Unit × (Unit × (Int × (Bool × Unit))))) × (T_impl_Message × (T_impl_Node × (T_spec_l18Run × Unit)))) → Option ((Unit × (Unit × Unit)) × (T_impl_Node × (T_spec_l18Run × Unit))) := fun
  | ((_, _, _, t47_0, t58_0, _), (m0, t4_0, t28_0, _)) =>
  (bif t58_0 then
  (Option.bind (spec_l18AskAppend.f m0 t28_0) fun
   | ((_), (t28_1, _)) => some (((), (), ()), (t4_0, (spec_l18Run.u5 t28_1 t28_0.2.2.2.2.2.1), ())))
  else
  (Option.bind (spec_Receive.P2 (((), (), (), t47_0, (t47_0 == (4 : Int)), ()), (m0, t4_0, t28_0, ()))) fun
   | ((_, _, _, t47_1, t63_0, _), (m1, t4_1, t28_2, _)) => (Option.bind (spec_Receive.P5 (((), (), (), t47_1, t63_0, ()), (m1, t4_1, t28_2, ()))) fun
    | ((_, _, _), (t4_2, t28_3, _)) => some (((), (), ()), (t4_2, t28_3, ())))))
noncomputable def spec_Receive.P7 : ((Unit × (Unit × (Unit × (Int × (Bool × Unit))))) × (T_impl_Message × (T_impl_Node × (T_spec_l18Run × Unit)))) → Option ((Unit × (Unit × Unit)) × (T_impl_Node × (T_spec_l18Run × Unit))) := fun
  | ((_, _, _, t47_0, t53_0, _), (m0, t4_0, t28_0, _)) =>
  (bif t53_0 then
  (Option.bind (spec_l18TellVote.f m0 t28_0) fun
   | ((_), (t28_1, _)) => some (((), (), ()), (t4_0, (spec_l18Run.u5 t28_1 t28_0.2.2.2.2.2.1), ())))
  else
  (Option.bind (spec_Receive.P6 (((), (), (), t47_0, (t47_0 == (3 : Int)), ()), (m0, t4_0, t28_0, ()))) fun
   | ((_, _, _), (t4_1, t28_2, _)) => some (((), (), ()), (t4_1, t28_2, ()))))
noncomputable def spec_Receive.P8 : ((Unit × (Unit × (Unit × (Int × (Bool × Unit))))) × (T_impl_Message × (T_impl_Node × (T_spec_l18Run × Unit)))) → Option ((Unit × (Unit × Unit)) × (T_impl_Node × (T_spec_l18Run × Unit))) := fun
  | ((_, _, _, t47_0, t48_0, _), (m0, t4_0, t28_0, _)) =>
  (bif t48_0 then
  (Option.bind (spec_l18AskVote.f m0 t28_0) fun
   | ((_), (t28_1, _)) => some (((), (), ()), (t4_0, (spec_l18Run.u13 (spec_l18Run.u12 (spec_l18Run.u8 (spec_l18Run.u5 t28_1 t28_0.2.2.2.2.2.1) t28_0.2.2.2.2.2.2.2.2.1) t28_0.2.2.2.2.2.2.2.2.2.2.2.2.1) t28_0.2.2.2.2.2.2.2.2.2.2.2.2.2.1), ())))
  else
  (Option.bind (spec_Receive.P7 (((), (), (), t47_0, (t47_0 == (2 : Int)), ()), (m0, t4_0, t28_0, ()))) fun
   | ((_, _, _), (t4_1, t28_2, _)) => some (((), (), ()), (t4_1, t28_2, ()))))
noncomputable def spec_Receive.f (n0 : T_impl_Node) (m0 : T_impl_Message) : Option ((T_impl_Node × ((List T_impl_Message) × (Bool × Unit))) × Unit) :=
  (Option.bind (spec_Receive.P0 (((), (), (), ()), (n0, m0, ((0 : Int), (0 : Int), (0 : Int), (0 : Int), (0 : Int), ([] : List Int), (0 : Int), (0 : Int), ([] : List T_impl_Entry), (0 : Int), (0 : Int), (0 : Int), ([] : List Int), ([] : List T_impl_Peer), ()), ()))) fun
  | ((_, _, _, t22_0, _), (n1, m1, t4_0, _)) => (bif t22_0 then
   some ((((0 : Int), (0 : Int), (0 : Int), (0 : Int), (0 : Int), ([] : List Int), (0 : Int), (0 : Int), ([] : List T_impl_Entry), (0 : Int), (0 : Int), (0 : Int), ([] : List Int), ([] : List T_impl_Peer), ()), ([] : List T_impl_Message), false, ()), ())
   else
   (Option.bind (spec_l18Copy.f n1) fun
    | ((r0, _), (_)) => (Option.bind (spec_Receive.P1 (((), (), (), (decide (m1.2.2.2.1 > n1.2.1)), ()), (m1, t4_0, (r0.1, r0.2.1, r0.2.2.1, r0.2.2.2.1, r0.2.2.2.2.1, r0.2.2.2.2.2.1, r0.2.2.2.2.2.2.1, r0.2.2.2.2.2.2.2.1, r0.2.2.2.2.2.2.2.2.1, r0.2.2.2.2.2.2.2.2.2.1, r0.2.2.2.2.2.2.2.2.2.2.1, r0.2.2.2.2.2.2.2.2.2.2.2.1, r0.2.2.2.2.2.2.2.2.2.2.2.2.1, r0.2.2.2.2.2.2.2.2.2.2.2.2.2.1, ([] : List T_impl_Message), ()), ()))) fun
     | ((_, _, _, _), (m2, t4_1, t28_0, _)) => (Option.bind (spec_Receive.P8 (((), (), (), m2.1, (m2.1 == (1 : Int)), ()), (m2, t4_1, t28_0, ()))) fun
      | ((_, _, _), (t4_2, t28_1, _)) => some (((t28_1.1, t28_1.2.1, t28_1.2.2.1, t28_1.2.2.2.1, t28_1.2.2.2.2.1, t28_1.2.2.2.2.2.1, t28_1.2.2.2.2.2.2.1, t28_1.2.2.2.2.2.2.2.1, t28_1.2.2.2.2.2.2.2.2.1, t28_1.2.2.2.2.2.2.2.2.2.1, t28_1.2.2.2.2.2.2.2.2.2.2.1, t28_1.2.2.2.2.2.2.2.2.2.2.2.1, t28_1.2.2.2.2.2.2.2.2.2.2.2.2.1, t28_1.2.2.2.2.2.2.2.2.2.2.2.2.2.1, ()), t28_1.2.2.2.2.2.2.2.2.2.2.2.2.2.2.1, true, ()), ()))))))

/-- spec.l18Play -/
noncomputable def spec_l18Play.P0 : ((Unit × (Int × (Unit × ((List Int) × (Bool × Unit))))) × (T_spec_l18Cluster × (T_spec_l01Cur × Unit))) → Option ((Unit × (Int × (Unit × ((List Int) × Unit)))) × (T_spec_l18Cluster × (T_spec_l01Cur × Unit))) := fun
  | ((_, steps0, _, conf0, t32_0, _), (t29_0, c0, _)) =>
  (bif t32_0 then
  (Option.bind (spec_l05Conf.f c0) fun
   | ((r0, _), (c1, _)) => some (((), steps0, (), r0, ()), (t29_0, (c0.1, c1.2.1, c1.2.2.1, ()), ())))
  else
  some (((), steps0, (), conf0, ()), (t29_0, c0, ())))
noncomputable def spec_l18Play.S1 : ((Unit × (Int × (Unit × ((List Int) × (Int × Unit))))) × (T_spec_l18Cluster × (T_spec_l01Cur × Unit))) → Option (((Unit × (Int × (Unit × ((List Int) × (Int × Unit))))) × (T_spec_l18Cluster × (T_spec_l01Cur × Unit))) ⊕ ((Unit × (Int × (Unit × Unit))) × (T_spec_l18Cluster × (T_spec_l01Cur × Unit)))) := fun
  | ((_, steps0, _, conf0, i0, _), (t29_0, c0, _)) =>
  (bif (decide (i0 ≤ (4 : Int))) then
  (Option.bind (spec_NodeNew.f i0 conf0) fun
   | ((r0, r1, _), (_)) => (Option.bind (spec_l01Below.f (4 : Int) c0) fun
    | ((r2, _), (c1, _)) => (bif (decide ((t29_0.1.length + ([(impl_Node.u11 r0 (IntKind.i64.wrap ((1 : Int) + r2)))] : List T_impl_Node).length) * 176 ≤ 140737488355328)) then
     some (.inl (((), steps0, (), conf0, (IntKind.i64.wrap (i0 + (1 : Int))), ()), (((t29_0.1 ++ ([(impl_Node.u11 r0 (IntKind.i64.wrap ((1 : Int) + r2)))] : List T_impl_Node)), t29_0.2.1, ()), (c0.1, c1.2.1, c1.2.2.1, ()), ())))
     else
     none)))
  else
  some (.inr (((), steps0, (), ()), (t29_0, c0, ()))))
noncomputable def spec_l18Play.L1 : ((Unit × (Int × (Unit × ((List Int) × (Int × Unit))))) × (T_spec_l18Cluster × (T_spec_l01Cur × Unit))) → Option ((Unit × (Int × (Unit × Unit))) × (T_spec_l18Cluster × (T_spec_l01Cur × Unit))) := lim spec_l18Play.S1
noncomputable def spec_l18Play.P2 : ((Unit × (Int × (Unit × (Int × (Int × (Int × (Bool × Unit))))))) × (T_spec_l18Cluster × (T_spec_l01Cur × Unit))) → Option ((Unit × (Int × (Unit × (Int × (Int × (Int × (Bool × Unit))))))) × (T_spec_l18Cluster × (T_spec_l01Cur × Unit))) := fun
  | ((_, steps0, _, i0, at0, t67_0, t133_0, _), (t29_0, c0, _)) =>
  (bif t133_0 then
  some (((), steps0, (), i0, at0, t67_0, t133_0, ()), (t29_0, c0, ()))
  else
  some (((), steps0, (), i0, at0, t67_0, (t67_0 == (1 : Int)), ()), (t29_0, c0, ())))
noncomputable def spec_l18Play.P3 : ((Unit × (Int × (Unit × (Int × (Int × (Unit × ((List T_impl_Message) × (Bool × Unit)))))))) × (T_impl_Node × (T_spec_l18Cluster × (T_spec_l01Cur × Unit)))) → Option ((Unit × (Int × (Unit × (Int × Unit)))) × (T_spec_l18Cluster × (T_spec_l01Cur × Unit))) := fun
  | ((_, steps0, _, i0, at0, _, told0, t151_0, _), (n0, t29_0, c0, _)) =>
  (bif t151_0 then
  (Option.bind (spec_l18Take.f at0 n0 told0 t29_0) fun
   | ((_), (t29_1, _)) => some (((), steps0, (), i0, ()), (t29_1, c0, ())))
  else
  some (((), steps0, (), i0, ()), (t29_0, c0, ())))
noncomputable def spec_l18Play.P4 : ((Unit × (Int × (Unit × (Int × (Int × (Int × (Bool × Unit))))))) × (T_spec_l18Cluster × (T_spec_l01Cur × Unit))) → Option ((Unit × (Int × (Unit × (Int × (Int × (Int × Unit)))))) × (T_spec_l18Cluster × (T_spec_l01Cur × Unit))) := fun
  | ((_, steps0, _, i0, at0, j0, t171_0, _), (t29_0, c0, _)) =>
  (bif t171_0 then
  some (((), steps0, (), i0, j0, j0, ()), (t29_0, c0, ()))
  else
  some (((), steps0, (), i0, at0, j0, ()), (t29_0, c0, ())))
noncomputable def spec_l18Play.S5 : ((Unit × (Int × (Unit × (Int × (Int × (Int × Unit)))))) × (T_spec_l18Cluster × (T_spec_l01Cur × Unit))) → Option (((Unit × (Int × (Unit × (Int × (Int × (Int × Unit)))))) × (T_spec_l18Cluster × (T_spec_l01Cur × Unit))) ⊕ ((Unit × (Int × (Unit × (Int × (Int × Unit))))) × (T_spec_l18Cluster × (T_spec_l01Cur × Unit)))) := fun
  | ((_, steps0, _, i0, at0, j0, _), (t29_0, c0, _)) =>
  (bif (decide (j0 < (4 : Int))) then
  (bif (decide (0 ≤ j0) && decide (j0 < (t29_0.1.length : Int))) then
   (Option.bind (spec_l18Play.P4 (((), steps0, (), i0, at0, j0, ((t29_0.1.getD (j0).toNat Z_impl_Node).2.2.2.1 == (2 : Int)), ()), (t29_0, c0, ()))) fun
    | ((_, steps1, _, i1, at1, j1, _), (t29_1, c1, _)) => some (.inl (((), steps1, (), i1, at1, (IntKind.i64.wrap (j1 + (1 : Int))), ()), (t29_1, c1, ()))))
   else
   none)
  else
  some (.inr (((), steps0, (), i0, at0, ()), (t29_0, c0, ()))))
noncomputable def spec_l18Play.L5 : ((Unit × (Int × (Unit × (Int × (Int × (Int × Unit)))))) × (T_spec_l18Cluster × (T_spec_l01Cur × Unit))) → Option ((Unit × (Int × (Unit × (Int × (Int × Unit))))) × (T_spec_l18Cluster × (T_spec_l01Cur × Unit))) := lim spec_l18Play.S5
noncomputable def spec_l18Play.P6 : ((Unit × (Int × (Unit × (Int × (Int × (Unit × ((List T_impl_Message) × (Bool × Unit)))))))) × (T_impl_Node × (T_spec_l18Cluster × (T_spec_l01Cur × Unit)))) → Option ((Unit × (Int × (Unit × (Int × Unit)))) × (T_spec_l18Cluster × (T_spec_l01Cur × Unit))) := fun
  | ((_, steps0, _, i0, at0, _, told0, t200_0, _), (n0, t29_0, c0, _)) =>
  (bif t200_0 then
  (Option.bind (spec_l18Take.f at0 n0 told0 t29_0) fun
   | ((_), (t29_1, _)) => some (((), steps0, (), i0, ()), (t29_1, c0, ())))
  else
  some (((), steps0, (), i0, ()), (t29_0, c0, ())))
noncomputable def spec_l18Play.P7 : ((Unit × (Int × (Unit × (Int × (Int × (Unit × (Bool × Unit))))))) × (T_impl_Node × (T_spec_l18Cluster × (T_spec_l01Cur × Unit)))) → Option ((Unit × (Int × (Unit × (Int × Unit)))) × (T_spec_l18Cluster × (T_spec_l01Cur × Unit))) := fun
  | ((_, steps0, _, i0, at0, _, t232_0, _), (n0, t29_0, c0, _)) =>
  (bif t232_0 then
  (bif (decide (0 ≤ at0) && decide (at0 < (t29_0.1.length : Int))) then
   (letv (t29_0.1.set (at0).toNat (n0.1, (n0.2.1, (n0.2.2.1, (n0.2.2.2.1, (n0.2.2.2.2.1, (n0.2.2.2.2.2.1, (n0.2.2.2.2.2.2.1, (n0.2.2.2.2.2.2.2.1, (n0.2.2.2.2.2.2.2.2.1, (n0.2.2.2.2.2.2.2.2.2.1, (n0.2.2.2.2.2.2.2.2.2.2.1, (n0.2.2.2.2.2.2.2.2.2.2.2.1, (n0.2.2.2.2.2.2.2.2.2.2.2.2.1, (n0.2.2.2.2.2.2.2.2.2.2.2.2.2.1, ()))))))))))))))) fun l0 =>
    some (((), steps0, (), i0, ()), ((l0, t29_0.2.1, ()), c0, ())))
   else
   none)
  else
  some (((), steps0, (), i0, ()), (t29_0, c0, ())))
noncomputable def spec_l18Play.P8 : ((Unit × (Int × (Unit × (Int × (Int × (Bool × Unit)))))) × (T_spec_l18Cluster × (T_spec_l01Cur × Unit))) → Option ((Unit × (Int × (Unit × (Int × Unit)))) × (T_spec_l18Cluster × (T_spec_l01Cur × Unit))) := fun
  | ((_, steps0, _, i0, at0, t209_0, _), (t29_0, c0, _)) =>
  (bif t209_0 then
  (bif (decide (0 ≤ at0) && decide (at0 < (t29_0.1.length : Int))) then
   (bif (decide (0 ≤ at0) && decide (at0 < (t29_0.1.length : Int))) then
    (Option.bind (spec_l01Below.f (2 : Int) c0) fun
     | ((r0, _), (c1, _)) => (Option.bind (spec_Settle.f (t29_0.1.getD (at0).toNat Z_impl_Node) (IntKind.i64.wrap ((t29_0.1.getD (at0).toNat Z_impl_Node).2.2.2.2.2.2.2.2.2.1 - r0))) fun
      | ((r1, r2, _), (_)) => (Option.bind (spec_l18Play.P7 (((), steps0, (), i0, at0, (), r2, ()), (r1, t29_0, (c0.1, c1.2.1, c1.2.2.1, ()), ()))) fun
       | ((_, steps1, _, i1, _), (t29_1, c2, _)) => some (((), steps1, (), i1, ()), (t29_1, c2, ())))))
    else
    none)
   else
   none)
  else
  some (((), steps0, (), i0, ()), (t29_0, c0, ())))
noncomputable def spec_l18Play.P9 : ((Unit × (Int × (Unit × (Int × (Int × (Unit × (Bool × Unit))))))) × (T_impl_Message × (T_spec_l18Cluster × (T_spec_l01Cur × Unit)))) → Option ((Unit × (Int × (Unit × (Int × (Unit × Unit))))) × (T_impl_Message × (T_spec_l18Cluster × (T_spec_l01Cur × Unit)))) := fun
  | ((_, steps0, _, i0, j0, _, t90_0, _), (m0, t29_0, c0, _)) =>
  (bif t90_0 then
  (bif ((decide (0 ≤ (j0)) && decide ((j0) ≤ ((t29_0.2.1.length : Nat) : Int))) && true) then
   (bif (decide ((([] : List T_impl_Message).length + ((t29_0.2.1.take (j0).toNat).drop (0 : Int).toNat).length) * 136 ≤ 140737488355328)) then
    (bif (true && (decide (0 ≤ ((IntKind.i64.wrap (j0 + (1 : Int))))) && decide (((IntKind.i64.wrap (j0 + (1 : Int)))) ≤ ((t29_0.2.1.length : Nat) : Int)))) then
     (letv ((t29_0.2.1.take ((t29_0.2.1.length : Nat) : Int).toNat).drop ((IntKind.i64.wrap (j0 + (1 : Int)))).toNat) fun l0 =>
      (bif (decide (((([] : List T_impl_Message) ++ ((t29_0.2.1.take (j0).toNat).drop (0 : Int).toNat)).length + l0.length) * 136 ≤ 140737488355328)) then
       some (((), steps0, (), i0, (), ()), (m0, (t29_0.1, ((([] : List T_impl_Message) ++ ((t29_0.2.1.take (j0).toNat).drop (0 : Int).toNat)) ++ l0), ()), c0, ()))
       else
       none))
     else
     none)
    else
    none)
   else
   none)
  else
  some (((), steps0, (), i0, (), ()), (m0, t29_0, c0, ())))
noncomputable def spec_l18Play.P10 : ((Unit × (Int × (Unit × (Int × (Unit × (Unit × ((List T_impl_Message) × (Bool × Unit)))))))) × (T_impl_Message × (T_impl_Node × (T_spec_l18Cluster × (T_spec_l01Cur × Unit))))) → Option ((Unit × (Int × (Unit × (Int × Unit)))) × (T_spec_l18Cluster × (T_spec_l01Cur × Unit))) := fun
  | ((_, steps0, _, i0, _, _, told0, t125_0, _), (m0, n0, t29_0, c0, _)) =>
  (bif t125_0 then
  (Option.bind (spec_l18Take.f (IntKind.i64.wrap (m0.2.2.1 - (1 : Int))) n0 told0 t29_0) fun
   | ((_), (t29_1, _)) => some (((), steps0, (), i0, ()), (t29_1, c0, ())))
  else
  some (((), steps0, (), i0, ()), (t29_0, c0, ())))
noncomputable def spec_l18Play.P11 : ((Unit × (Int × (Unit × (Int × (Bool × Unit))))) × (T_spec_l18Cluster × (T_spec_l01Cur × Unit))) → Option ((Unit × (Int × (Unit × (Int × Unit)))) × (T_spec_l18Cluster × (T_spec_l01Cur × Unit))) := fun
  | ((_, steps0, _, i0, t73_0, _), (t29_0, c0, _)) =>
  (bif t73_0 then
  (Option.bind (spec_l01Below.f ((t29_0.2.1.length : Nat) : Int) c0) fun
   | ((r0, _), (c1, _)) => (bif (decide (0 ≤ r0) && decide (r0 < (t29_0.2.1.length : Int))) then
    (Option.bind (spec_l01Once.f (8 : Int) (c0.1, c1.2.1, c1.2.2.1, ())) fun
     | ((r1, _), (c2, _)) => (Option.bind (spec_l18Play.P9 (((), steps0, (), i0, r0, (), (!r1), ()), ((t29_0.2.1.getD (r0).toNat Z_impl_Message), t29_0, (c0.1, c2.2.1, c2.2.2.1, ()), ()))) fun
      | ((_, steps1, _, i1, _, _), (m0, t29_1, c3, _)) => (bif (decide (0 ≤ (IntKind.i64.wrap (m0.2.2.1 - (1 : Int)))) && decide ((IntKind.i64.wrap (m0.2.2.1 - (1 : Int))) < (t29_1.1.length : Int))) then
       (Option.bind (spec_Receive.f (t29_1.1.getD ((IntKind.i64.wrap (m0.2.2.1 - (1 : Int)))).toNat Z_impl_Node) m0) fun
        | ((r2, r3, r4, _), (_)) => (Option.bind (spec_l18Play.P10 (((), steps1, (), i1, (), (), r3, r4, ()), (m0, r2, t29_1, c3, ()))) fun
         | ((_, steps2, _, i2, _), (t29_2, c4, _)) => some (((), steps2, (), i2, ()), (t29_2, c4, ()))))
       else
       none)))
    else
    none))
  else
  some (((), steps0, (), i0, ()), (t29_0, c0, ())))
noncomputable def spec_l18Play.P12 : ((Unit × (Int × (Unit × (Int × (Int × (Bool × Unit)))))) × (T_spec_l18Cluster × (T_spec_l01Cur × Unit))) → Option ((Unit × (Int × (Unit × (Int × Unit)))) × (T_spec_l18Cluster × (T_spec_l01Cur × Unit))) := fun
  | ((_, steps0, _, i0, at0, t206_0, _), (t29_0, c0, _)) =>
  (bif t206_0 then
  (Option.bind (spec_l01Once.f (3 : Int) c0) fun
   | ((r0, _), (c1, _)) => (Option.bind (spec_l18Play.P8 (((), steps0, (), i0, at0, r0, ()), (t29_0, (c0.1, c1.2.1, c1.2.2.1, ()), ()))) fun
    | ((_, steps1, _, i1, _), (t29_1, c2, _)) => some (((), steps1, (), i1, ()), (t29_1, c2, ()))))
  else
  (Option.bind (spec_l18Play.P11 (((), steps0, (), i0, (decide (((t29_0.2.1.length : Nat) : Int) > (0 : Int))), ()), (t29_0, c0, ()))) fun
   | ((_, steps2, _, i2, _), (t29_2, c3, _)) => some (((), steps2, (), i2, ()), (t29_2, c3, ()))))
noncomputable def spec_l18Play.P13 : ((Unit × (Int × (Unit × (Int × (Int × (Int × (Bool × Unit))))))) × (T_spec_l18Cluster × (T_spec_l01Cur × Unit))) → Option ((Unit × (Int × (Unit × (Int × Unit)))) × (T_spec_l18Cluster × (T_spec_l01Cur × Unit))) := fun
  | ((_, steps0, _, i0, at0, t67_0, t157_0, _), (t29_0, c0, _)) =>
  (bif t157_0 then
  (Option.bind (spec_l18Play.L5 (((), steps0, (), i0, at0, (0 : Int), ()), (t29_0, c0, ()))) fun
   | ((_, steps1, _, i1, at1, _), (t29_1, c1, _)) => (bif (decide (0 ≤ at1) && decide (at1 < (t29_1.1.length : Int))) then
    (Option.bind (spec_l05Right.f ((t29_1.1.getD (at1).toNat Z_impl_Node).2.1) c1) fun
     | ((r0, _), (c2, _)) => (bif (decide (0 ≤ at1) && decide (at1 < (t29_1.1.length : Int))) then
      (Option.bind (spec_Propose.f (t29_1.1.getD (at1).toNat Z_impl_Node) r0.2.1 r0.2.2.1) fun
       | ((r1, r2, r3, r4, _), (_)) => (Option.bind (spec_l18Play.P6 (((), steps1, (), i1, at1, (), r2, r4, ()), (r1, t29_1, (c1.1, c2.2.1, c2.2.2.1, ()), ()))) fun
        | ((_, steps2, _, i2, _), (t29_2, c3, _)) => some (((), steps2, (), i2, ()), (t29_2, c3, ()))))
      else
      none))
    else
    none))
  else
  (Option.bind (spec_l18Play.P12 (((), steps0, (), i0, at0, (t67_0 == (3 : Int)), ()), (t29_0, c0, ()))) fun
   | ((_, steps3, _, i3, _), (t29_3, c4, _)) => some (((), steps3, (), i3, ()), (t29_3, c4, ()))))
noncomputable def spec_l18Play.P14 : ((Unit × (Int × (Unit × (Int × (Int × (Int × (Bool × Unit))))))) × (T_spec_l18Cluster × (T_spec_l01Cur × Unit))) → Option ((Unit × (Int × (Unit × (Int × Unit)))) × (T_spec_l18Cluster × (T_spec_l01Cur × Unit))) := fun
  | ((_, steps0, _, i0, at0, t67_0, t133_0, _), (t29_0, c0, _)) =>
  (bif t133_0 then
  (bif (decide (0 ≤ at0) && decide (at0 < (t29_0.1.length : Int))) then
   (Option.bind (spec_l01Below.f (6 : Int) c0) fun
    | ((r0, _), (c1, _)) => (Option.bind (spec_Tick.f (t29_0.1.getD (at0).toNat Z_impl_Node) (IntKind.i64.wrap ((1 : Int) + r0))) fun
     | ((r1, r2, r3, _), (_)) => (Option.bind (spec_l18Play.P3 (((), steps0, (), i0, at0, (), r2, r3, ()), (r1, t29_0, (c0.1, c1.2.1, c1.2.2.1, ()), ()))) fun
      | ((_, steps1, _, i1, _), (t29_1, c2, _)) => some (((), steps1, (), i1, ()), (t29_1, c2, ())))))
   else
   none)
  else
  (Option.bind (spec_l18Play.P13 (((), steps0, (), i0, at0, t67_0, (t67_0 == (2 : Int)), ()), (t29_0, c0, ()))) fun
   | ((_, steps2, _, i2, _), (t29_2, c3, _)) => some (((), steps2, (), i2, ()), (t29_2, c3, ()))))
noncomputable def spec_l18Play.S15 : ((Unit × (Int × (Unit × (Int × Unit)))) × (T_spec_l18Cluster × (T_spec_l01Cur × Unit))) → Option (((Unit × (Int × (Unit × (Int × Unit)))) × (T_spec_l18Cluster × (T_spec_l01Cur × Unit))) ⊕ ((Unit × Unit) × (T_spec_l18Cluster × (T_spec_l01Cur × Unit)))) := fun
  | ((_, steps0, _, i0, _), (t29_0, c0, _)) =>
  (bif (decide (i0 < steps0)) then
  (Option.bind (spec_l01Below.f (4 : Int) c0) fun
   | ((r0, _), (c1, _)) => (Option.bind (spec_l01Below.f (9 : Int) (c0.1, c1.2.1, c1.2.2.1, ())) fun
    | ((r1, _), (c2, _)) => (Option.bind (spec_l18Play.P2 (((), steps0, (), i0, r0, r1, (r1 == (0 : Int)), ()), (t29_0, (c0.1, c2.2.1, c2.2.2.1, ()), ()))) fun
     | ((_, steps1, _, i1, at0, t67_0, t133_0, _), (t29_1, c3, _)) => (Option.bind (spec_l18Play.P14 (((), steps1, (), i1, at0, t67_0, t133_0, ()), (t29_1, c3, ()))) fun
      | ((_, steps2, _, i2, _), (t29_2, c4, _)) => some (.inl (((), steps2, (), (IntKind.i64.wrap (i2 + (1 : Int))), ()), (t29_2, c4, ())))))))
  else
  some (.inr (((), ()), (t29_0, c0, ()))))
noncomputable def spec_l18Play.L15 : ((Unit × (Int × (Unit × (Int × Unit)))) × (T_spec_l18Cluster × (T_spec_l01Cur × Unit))) → Option ((Unit × Unit) × (T_spec_l18Cluster × (T_spec_l01Cur × Unit))) := lim spec_l18Play.S15
noncomputable def spec_l18Play.f (steps0 : Int) (c0 : T_spec_l01Cur) : Option ((Unit × Unit) × (T_spec_l18Cluster × (T_spec_l01Cur × Unit))) :=
  (Option.bind (spec_l01Once.f (3 : Int) c0) fun
  | ((r0, _), (c1, _)) => (Option.bind (spec_l18Play.P0 (((), steps0, (), ([(1 : Int), (2 : Int), (3 : Int)] : List Int), r0, ()), ((([] : List T_impl_Node), ([] : List T_impl_Message), ()), (c0.1, c1.2.1, c1.2.2.1, ()), ()))) fun
   | ((_, steps1, _, conf0, _), (t29_0, c2, _)) => (Option.bind (spec_l18Play.L1 (((), steps1, (), conf0, (1 : Int), ()), (t29_0, c2, ()))) fun
    | ((_, steps2, _, _), (t29_1, c3, _)) => (Option.bind (spec_l18Play.L15 (((), steps2, (), (0 : Int), ()), (t29_1, c3, ()))) fun
     | ((_, _), (t29_2, c4, _)) => some (((), ()), (t29_2, c4, ()))))))

/-- spec.l01Text -/
noncomputable def spec_l01Text.P0 : ((Unit × (Int × (Bool × Unit))) × (T_spec_l01Cur × Unit)) → Option ((Unit × (Int × Unit)) × (T_spec_l01Cur × Unit)) := fun
  | ((_, n0, t8_0, _), (c0, _)) =>
  (bif t8_0 then
  some (((), (5000 : Int), ()), (c0, ()))
  else
  some (((), n0, ()), (c0, ())))
noncomputable def spec_l01Text.S1 : ((Unit × (Int × ((List Int) × (Int × Unit)))) × (T_spec_l01Cur × Unit)) → Option (((Unit × (Int × ((List Int) × (Int × Unit)))) × (T_spec_l01Cur × Unit)) ⊕ (((List Int) × Unit) × (T_spec_l01Cur × Unit))) := fun
  | ((_, n0, out0, i0, _), (c0, _)) =>
  (bif (decide (i0 < n0)) then
  (Option.bind (spec_l01Byte.f c0) fun
   | ((r0, _), (c1, _)) => (bif (decide ((out0.length + ([(IntKind.u8.wrap r0)] : List Int).length) * 1 ≤ 140737488355328)) then
    some (.inl (((), n0, (out0 ++ ([(IntKind.u8.wrap r0)] : List Int)), (IntKind.i64.wrap (i0 + (1 : Int))), ()), ((c0.1, c1.2.1, c1.2.2.1, ()), ())))
    else
    none))
  else
  some (.inr ((out0, ()), (c0, ()))))
noncomputable def spec_l01Text.L1 : ((Unit × (Int × ((List Int) × (Int × Unit)))) × (T_spec_l01Cur × Unit)) → Option (((List Int) × Unit) × (T_spec_l01Cur × Unit)) := lim spec_l01Text.S1
noncomputable def spec_l01Text.f (n0 : Int) (c0 : T_spec_l01Cur) : Option ((ByteArray × Unit) × (T_spec_l01Cur × Unit)) :=
  (Option.bind (spec_l01Text.P0 (((), n0, (decide (n0 > (5000 : Int))), ()), (c0, ()))) fun
  | ((_, n1, _), (c1, _)) => (Option.bind (spec_l01Text.L1 (((), n1, ([] : List Int), (0 : Int), ()), (c1, ()))) fun
   | ((out0, _), (c2, _)) => some (((strOfNums out0), ()), (c2, ()))))

/-- spec.l17Right -/
noncomputable def spec_l17Right.S0 : ((Unit × (Unit × (Unit × (Int × (Int × Unit))))) × (T_impl_Message × (T_impl_Message × (T_spec_l01Cur × Unit)))) → Option (((Unit × (Unit × (Unit × (Int × (Int × Unit))))) × (T_impl_Message × (T_impl_Message × (T_spec_l01Cur × Unit)))) ⊕ ((Unit × (Unit × Unit)) × (T_impl_Message × (T_impl_Message × (T_spec_l01Cur × Unit))))) := fun
  | ((_, _, _, term0, i0, _), (t2_0, m0, c0, _)) =>
  (Option.bind (spec_l01Below.f (5 : Int) c0) fun
  | ((r0, _), (c1, _)) => (bif (decide (i0 < r0)) then
   (Option.bind (spec_l01Below.f (IntKind.i64.wrap ((IntKind.i64.wrap (m0.2.2.2.1 - term0)) + (1 : Int))) (c0.1, c1.2.1, c1.2.2.1, ())) fun
    | ((r1, _), (c2, _)) => (Option.bind (spec_l05Right.f (IntKind.i64.wrap (term0 + r1)) (c0.1, c2.2.1, c2.2.2.1, ())) fun
     | ((r2, _), (c3, _)) => (bif (decide ((m0.2.2.2.2.2.2.2.2.1.length + ([r2] : List T_impl_Entry).length) * 32 ≤ 140737488355328)) then
      some (.inl (((), (), (), (IntKind.i64.wrap (term0 + r1)), (IntKind.i64.wrap (i0 + (1 : Int))), ()), (t2_0, (impl_Message.u8 m0 (m0.2.2.2.2.2.2.2.2.1 ++ ([r2] : List T_impl_Entry))), (c0.1, c3.2.1, c3.2.2.1, ()), ())))
      else
      none)))
   else
   some (.inr (((), (), ()), (t2_0, m0, (c0.1, c1.2.1, c1.2.2.1, ()), ())))))
noncomputable def spec_l17Right.L0 : ((Unit × (Unit × (Unit × (Int × (Int × Unit))))) × (T_impl_Message × (T_impl_Message × (T_spec_l01Cur × Unit)))) → Option ((Unit × (Unit × Unit)) × (T_impl_Message × (T_impl_Message × (T_spec_l01Cur × Unit)))) := lim spec_l17Right.S0
noncomputable def spec_l17Right.P1 : ((Unit × (Unit × (Unit × (Bool × Unit)))) × (T_impl_Message × (T_impl_Message × (T_spec_l01Cur × Unit)))) → Option ((Unit × (Unit × Unit)) × (T_impl_Message × (T_impl_Message × (T_spec_l01Cur × Unit)))) := fun
  | ((_, _, _, t63_0, _), (t2_0, m0, c0, _)) =>
  (bif t63_0 then
  (Option.bind (spec_l05Conf.f c0) fun
   | ((r0, _), (c1, _)) => (Option.bind (spec_l01Below.f (9 : Int) (c0.1, c1.2.1, c1.2.2.1, ())) fun
    | ((r1, _), (c2, _)) => (Option.bind (spec_l01Text.f r1 (c0.1, c2.2.1, c2.2.2.1, ())) fun
     | ((r2, _), (c3, _)) => (Option.bind (spec_l01Once.f (2 : Int) (c0.1, c3.2.1, c3.2.2.1, ())) fun
      | ((r3, _), (c4, _)) => some (((), (), ()), (t2_0, (impl_Message.u11 (impl_Message.u10 (impl_Message.u9 m0 r0) r2) r3), (c0.1, c4.2.1, c4.2.2.1, ()), ()))))))
  else
  some (((), (), ()), (t2_0, m0, c0, ())))
noncomputable def spec_l17Right.P2 : ((Unit × (Unit × (Unit × (Int × (Bool × Unit))))) × (T_impl_Message × (T_impl_Message × (T_spec_l01Cur × Unit)))) → Option ((Unit × (Unit × Unit)) × (T_impl_Message × (T_impl_Message × (T_spec_l01Cur × Unit)))) := fun
  | ((_, _, _, t29_0, t30_0, _), (t2_0, m0, c0, _)) =>
  (bif t30_0 then
  (Option.bind (spec_l01Below.f (IntKind.i64.wrap (m0.2.2.2.1 + (1 : Int))) c0) fun
   | ((r0, _), (c1, _)) => (Option.bind (spec_l17Right.L0 (((), (), (), r0, (0 : Int), ()), (t2_0, (impl_Message.u5 m0 r0), (c0.1, c1.2.1, c1.2.2.1, ()), ()))) fun
    | ((_, _, _), (t2_1, m1, c2, _)) => some (((), (), ()), (t2_1, m1, c2, ()))))
  else
  (Option.bind (spec_l17Right.P1 (((), (), (), (t29_0 == (5 : Int)), ()), (t2_0, m0, c0, ()))) fun
   | ((_, _, _), (t2_2, m2, c3, _)) => some (((), (), ()), (t2_2, m2, c3, ()))))
noncomputable def spec_l17Right.f (c0 : T_spec_l01Cur) : Option ((T_impl_Message × Unit) × (T_spec_l01Cur × Unit)) :=
  (Option.bind (spec_l01Below.f (6 : Int) c0) fun
  | ((r0, _), (c1, _)) => (Option.bind (spec_l01Below.f (4 : Int) (c0.1, c1.2.1, c1.2.2.1, ())) fun
   | ((r1, _), (c2, _)) => (Option.bind (spec_l01Below.f (8 : Int) (c0.1, c2.2.1, c2.2.2.1, ())) fun
    | ((r2, _), (c3, _)) => (Option.bind (spec_l01Below.f (12 : Int) (c0.1, c3.2.1, c3.2.2.1, ())) fun
     | ((r3, _), (c4, _)) => (Option.bind (spec_l01Below.f (5 : Int) (c0.1, c4.2.1, c4.2.2.1, ())) fun
      | ((r4, _), (c5, _)) => (Option.bind (spec_l01Below.f (9 : Int) (c0.1, c5.2.1, c5.2.2.1, ())) fun
       | ((r5, _), (c6, _)) => (Option.bind (spec_l01Once.f (2 : Int) (c0.1, c6.2.1, c6.2.2.1, ())) fun
        | ((r6, _), (c7, _)) => (bif ((4 : Int) == 0) then
         none
         else
         (Option.bind (spec_l17Right.P2 (((), (), (), (IntKind.i64.wrap ((1 : Int) + r0)), ((IntKind.i64.wrap ((1 : Int) + r0)) == (3 : Int)), ()), (((0 : Int), (0 : Int), (0 : Int), (0 : Int), (0 : Int), (0 : Int), (0 : Int), false, ([] : List T_impl_Entry), ([] : List Int), (⟨#[]⟩ : ByteArray), false, ()), ((IntKind.i64.wrap ((1 : Int) + r0)), (IntKind.i64.wrap ((1 : Int) + r1)), (IntKind.i64.wrap ((((IntKind.i64.wrap ((1 : Int) + r1))).tmod (4 : Int)) + (1 : Int))), r2, r3, r4, r5, r6, ([] : List T_impl_Entry), ([] : List Int), (⟨#[]⟩ : ByteArray), false, ()), (c0.1, c7.2.1, c7.2.2.1, ()), ()))) fun
          | ((_, _, _), (t2_0, m0, c8, _)) => some ((m0, ()), (c8, ())))))))))))

/-- spec.DrawRightNode -/
noncomputable def spec_DrawRightNode.P0 : ((Unit × (Unit × (Unit × (Unit × (Int × (Unit × Unit)))))) × (T_impl_Node × (T_impl_Message × (T_impl_Message × (T_spec_l01Cur × (T_spec_l18Cluster × Unit)))))) → Option ((Unit × (Unit × (Unit × (Unit × (Int × (Unit × (Bool × Unit))))))) × (T_impl_Node × (T_impl_Message × (T_impl_Message × (T_spec_l01Cur × (T_spec_l18Cluster × Unit)))))) := fun
  | ((_, _, _, _, at0, _, _), (t2_0, t3_0, m0, q0, q1, _)) =>
  (bif (decide (((q1.2.1.length : Nat) : Int) > (0 : Int))) then
  (Option.bind (spec_l01Once.f (3 : Int) q0) fun
   | ((r0, _), (q2, _)) => some (((), (), (), (), at0, (), (!r0), ()), (t2_0, t3_0, m0, (q0.1, q2.2.1, q2.2.2.1, ()), q1, ())))
  else
  some (((), (), (), (), at0, (), false, ()), (t2_0, t3_0, m0, q0, q1, ())))
noncomputable def spec_DrawRightNode.P1 : ((Unit × (Unit × (Unit × (Unit × (Int × (Unit × (Bool × Unit))))))) × (T_impl_Node × (T_impl_Message × (T_impl_Message × (T_spec_l01Cur × (T_spec_l18Cluster × Unit)))))) → Option ((Unit × (Unit × (Unit × (Int × (Unit × Unit))))) × (T_impl_Node × (T_impl_Message × (T_impl_Message × (T_spec_l18Cluster × Unit))))) := fun
  | ((_, _, _, _, at0, _, t28_0, _), (t2_0, t3_0, m0, q0, q1, _)) =>
  (bif t28_0 then
  (Option.bind (spec_l01Below.f ((q1.2.1.length : Nat) : Int) q0) fun
   | ((r0, _), (q2, _)) => (bif (decide (0 ≤ r0) && decide (r0 < (q1.2.1.length : Int))) then
    some (((), (), (), (IntKind.i64.wrap ((q1.2.1.getD (r0).toNat Z_impl_Message).2.2.1 - (1 : Int))), (), ()), (t2_0, t3_0, (q1.2.1.getD (r0).toNat Z_impl_Message), q1, ()))
    else
    none))
  else
  some (((), (), (), at0, (), ()), (t2_0, t3_0, m0, q1, ())))
noncomputable def spec_DrawRightNode.P2 : ((Unit × (Unit × (Unit × (Int × (Unit × (Bool × Unit)))))) × (T_impl_Node × (T_impl_Message × (T_impl_Message × (T_spec_l18Cluster × Unit))))) → Option ((Unit × (Unit × (Unit × (Int × (Unit × Unit))))) × (T_impl_Node × (T_impl_Message × (T_impl_Message × (T_spec_l18Cluster × Unit))))) := fun
  | ((_, _, _, at0, _, t52_0, _), (t2_0, t3_0, m0, q0, _)) =>
  (bif t52_0 then
  (bif ((4 : Int) == 0) then
   none
   else
   some (((), (), (), at0, (), ()), (t2_0, t3_0, (impl_Message.u1 m0 (IntKind.i64.wrap (((m0.2.2.1).tmod (4 : Int)) + (1 : Int)))), q0, ())))
  else
  some (((), (), (), at0, (), ()), (t2_0, t3_0, m0, q0, ())))
noncomputable def spec_DrawRightNode.f (code0 : (List Int)) : Option ((T_impl_Node × (T_impl_Message × Unit)) × Unit) :=
  (Option.bind (spec_l01New.f code0) fun
  | ((_, _), (q0, _)) => (Option.bind (spec_l18Steps.f code0) fun
   | ((r0, _), (_)) => (Option.bind (spec_l18Play.f r0 (code0, q0.2.1, q0.2.2.1, ())) fun
    | ((_, _), (q1, q2, _)) => (Option.bind (spec_l01Below.f (4 : Int) (code0, q2.2.1, q2.2.2.1, ())) fun
     | ((r1, _), (q3, _)) => (Option.bind (spec_l17Right.f (code0, q3.2.1, q3.2.2.1, ())) fun
      | ((r2, _), (q4, _)) => (Option.bind (spec_DrawRightNode.P0 (((), (), (), (), r1, (), ()), (((0 : Int), (0 : Int), (0 : Int), (0 : Int), (0 : Int), ([] : List Int), (0 : Int), (0 : Int), ([] : List T_impl_Entry), (0 : Int), (0 : Int), (0 : Int), ([] : List Int), ([] : List T_impl_Peer), ()), ((0 : Int), (0 : Int), (0 : Int), (0 : Int), (0 : Int), (0 : Int), (0 : Int), false, ([] : List T_impl_Entry), ([] : List Int), (⟨#[]⟩ : ByteArray), false, ()), r2, (code0, q4.2.1, q4.2.2.1, ()), q1, ()))) fun
       | ((_, _, _, _, at0, _, t28_0, _), (t2_0, t3_0, m0, q5, q6, _)) => (Option.bind (spec_DrawRightNode.P1 (((), (), (), (), at0, (), t28_0, ()), (t2_0, t3_0, m0, q5, q6, ()))) fun
        | ((_, _, _, at1, _, _), (t2_1, t3_1, m1, q7, _)) => (Option.bind (spec_DrawRightNode.P2 (((), (), (), at1, (), (m1.2.1 == (IntKind.i64.wrap (at1 + (1 : Int)))), ()), (t2_1, t3_1, (impl_Message.u2 m1 (IntKind.i64.wrap (at1 + (1 : Int)))), q7, ()))) fun
         | ((_, _, _, at2, _, _), (t2_2, t3_2, m2, q8, _)) => (bif (decide (0 ≤ at2) && decide (at2 < (q8.1.length : Int))) then
          some (((q8.1.getD (at2).toNat Z_impl_Node), m2, ()), ())
          else
          none)))))))))

/-- impl.LogLast -/
noncomputable def impl_LogLast.f (l0 : T_impl_Log) : Option ((Int × (Int × Unit)) × Unit) :=
  (bif (((l0.2.2.1.length : Nat) : Int) == (0 : Int)) then
  some ((l0.1, l0.2.1, ()), ())
  else
  (bif (decide (0 ≤ (IntKind.i64.wrap (((l0.2.2.1.length : Nat) : Int) - (1 : Int)))) && decide ((IntKind.i64.wrap (((l0.2.2.1.length : Nat) : Int) - (1 : Int))) < (l0.2.2.1.length : Int))) then
   some (((IntKind.i64.wrap (l0.1 + ((l0.2.2.1.length : Nat) : Int))), (l0.2.2.1.getD ((IntKind.i64.wrap (((l0.2.2.1.length : Nat) : Int) - (1 : Int)))).toNat Z_impl_Entry).1, ()), ())
   else
   none))

/-- impl.within -/
noncomputable def impl_within.P0 : ((Int × (Int × (Int × Unit))) × Unit) → Option ((Bool × Unit) × Unit) := fun
  | ((n0, low0, high0, _), (_)) =>
  (bif (decide (n0 ≥ low0)) then
  some (((decide (n0 ≤ high0)), ()), ())
  else
  some ((false, ()), ()))
noncomputable def impl_within.f (n0 : Int) (low0 : Int) (high0 : Int) : Option ((Bool × Unit) × Unit) :=
  (Option.bind (impl_within.P0 ((n0, low0, high0, ()), ())) fun
  | ((t6_0, _), (_)) => some ((t6_0, ()), ()))

/-- impl.isNode -/
noncomputable def impl_isNode.f (n0 : Int) : Option ((Bool × Unit) × Unit) :=
  (Option.bind (impl_within.f n0 (1 : Int) (4 : Int)) fun
  | ((r0, _), (_)) => some ((r0, ()), ()))

/-- impl.nodesOk -/
noncomputable def impl_nodesOk.P0 : (((List Int) × (Int × (Int × ((List Int) × (Int × (Int × Unit)))))) × Unit) → Option (((List Int) × ((List Int) × (Int × (Int × (Bool × Unit))))) × Unit) := fun
  | ((list0, i0, n0, t5_0, t6_0, t7_0, _), (_)) =>
  (Option.bind (impl_isNode.f n0) fun
  | ((r0, _), (_)) => (bif (!r0) then
   some ((list0, t5_0, t6_0, t7_0, true, ()), ())
   else
   (bif (decide (i0 > (0 : Int))) then
    (bif (decide (0 ≤ (IntKind.i64.wrap (i0 - (1 : Int)))) && decide ((IntKind.i64.wrap (i0 - (1 : Int))) < (list0.length : Int))) then
     some ((list0, t5_0, t6_0, t7_0, (decide ((list0.getD ((IntKind.i64.wrap (i0 - (1 : Int)))).toNat (0 : Int)) ≥ n0)), ()), ())
     else
     none)
    else
    some ((list0, t5_0, t6_0, t7_0, false, ()), ()))))
noncomputable def impl_nodesOk.S1 : (((List Int) × ((List Int) × (Int × (Int × Unit)))) × Unit) → Option ((((List Int) × ((List Int) × (Int × (Int × Unit)))) × Unit) ⊕ ((Unit × Unit) ⊕ ((Bool × Unit) × Unit))) := fun
  | ((list0, t5_0, t6_0, t7_0, _), (_)) =>
  (bif (decide (t7_0 < t6_0)) then
  (bif (decide (0 ≤ t7_0) && decide (t7_0 < (t5_0.length : Int))) then
   (Option.bind (impl_nodesOk.P0 ((list0, t7_0, (t5_0.getD (t7_0).toNat (0 : Int)), t5_0, t6_0, t7_0, ()), ())) fun
    | ((list1, t5_1, t6_1, t7_1, t27_0, _), (_)) => (bif t27_0 then
     some (.inr (.inr ((false, ()), ())))
     else
     some (.inl ((list1, t5_1, t6_1, (IntKind.i64.wrap (t7_1 + (1 : Int))), ()), ()))))
   else
   none)
  else
  some (.inr (.inl ((), ()))))
noncomputable def impl_nodesOk.L1 : (((List Int) × ((List Int) × (Int × (Int × Unit)))) × Unit) → Option ((Unit × Unit) ⊕ ((Bool × Unit) × Unit)) := lim impl_nodesOk.S1
noncomputable def impl_nodesOk.f (list0 : (List Int)) : Option ((Bool × Unit) × Unit) :=
  (Option.bind (impl_nodesOk.L1 ((list0, list0, ((list0.length : Nat) : Int), (0 : Int), ()), ())) fun
  | (.inl ((_), (_))) => some ((true, ()), ())
  | (.inr ((t2_0, _), (_))) => some ((t2_0, ()), ()))

/-- impl.ConfOk -/
noncomputable def impl_ConfOk.P0 : (((List Int) × Unit) × Unit) → Option ((Bool × Unit) × Unit) := fun
  | ((conf0, _), (_)) =>
  (bif (decide (((conf0.length : Nat) : Int) > (0 : Int))) then
  (Option.bind (impl_nodesOk.f conf0) fun
   | ((r0, _), (_)) => some ((r0, ()), ()))
  else
  some ((false, ()), ()))
noncomputable def impl_ConfOk.f (conf0 : (List Int)) : Option ((Bool × Unit) × Unit) :=
  (Option.bind (impl_ConfOk.P0 ((conf0, ()), ())) fun
  | ((t2_0, _), (_)) => some ((t2_0, ()), ()))

/-- impl.isTerm -/
noncomputable def impl_isTerm.f (n0 : Int) : Option ((Bool × Unit) × Unit) :=
  (Option.bind (impl_within.f n0 (0 : Int) (100000 : Int)) fun
  | ((r0, _), (_)) => some ((r0, ()), ()))

/-- impl.ReadConf -/
noncomputable def impl_ReadConf.S0 : ((ByteArray × ((List Int) × (Int × Unit))) × Unit) → Option (((ByteArray × ((List Int) × (Int × Unit))) × Unit) ⊕ (((List Int) × Unit) × Unit)) := fun
  | ((text0, conf0, i0, _), (_)) =>
  (bif (decide (i0 < ((text0.size : Nat) : Int))) then
  (bif (decide (0 ≤ i0) && decide (i0 < (text0.size : Int))) then
   (bif (decide ((conf0.length + ([(IntKind.i64.wrap (byteAt text0 i0))] : List Int).length) * 8 ≤ 140737488355328)) then
    some (.inl ((text0, (conf0 ++ ([(IntKind.i64.wrap (byteAt text0 i0))] : List Int)), (IntKind.i64.wrap (i0 + (1 : Int))), ()), ()))
    else
    none)
   else
   none)
  else
  some (.inr ((conf0, ()), ())))
noncomputable def impl_ReadConf.L0 : ((ByteArray × ((List Int) × (Int × Unit))) × Unit) → Option (((List Int) × Unit) × Unit) := lim impl_ReadConf.S0
noncomputable def impl_ReadConf.f (text0 : ByteArray) : Option (((List Int) × (Bool × Unit)) × Unit) :=
  (Option.bind (impl_ReadConf.L0 ((text0, ([] : List Int), (0 : Int), ()), ())) fun
  | ((conf0, _), (_)) => (Option.bind (impl_ConfOk.f conf0) fun
   | ((r0, _), (_)) => (bif (!r0) then
    some ((([] : List Int), false, ()), ())
    else
    some ((conf0, true, ()), ()))))

/-- impl.EntryOk -/
noncomputable def impl_EntryOk.P0 : ((Unit × Unit) × (T_impl_Entry × Unit)) → Option ((Bool × Unit) × Unit) := fun
  | ((_, _), (e0, _)) =>
  (Option.bind (impl_isTerm.f e0.1) fun
  | ((r0, _), (_)) => (bif r0 then
   some (((e0.2.2.1.toList == (⟨#[]⟩ : ByteArray).toList), ()), ())
   else
   some ((false, ()), ())))
noncomputable def impl_EntryOk.P1 : ((Unit × (Bool × Unit)) × (T_impl_Entry × Unit)) → Option ((Bool × Unit) × Unit) := fun
  | ((_, ok0, _), (e0, _)) =>
  (Option.bind (impl_isTerm.f e0.1) fun
  | ((r0, _), (_)) => (bif r0 then
   some ((ok0, ()), ())
   else
   some ((false, ()), ())))
noncomputable def impl_EntryOk.P2 : ((Unit × Unit) × (T_impl_Entry × Unit)) → Option ((Bool × Unit) × Unit) := fun
  | ((_, _), (e0, _)) =>
  (bif (e0.2.1 == (3 : Int)) then
  (Option.bind (impl_isTerm.f e0.1) fun
   | ((r0, _), (_)) => (bif r0 then
    some (((decide (((e0.2.2.1.size : Nat) : Int) ≤ (120 : Int))), ()), ())
    else
    some ((false, ()), ())))
  else
  some ((false, ()), ()))
noncomputable def impl_EntryOk.f (e0 : T_impl_Entry) : Option ((Bool × Unit) × Unit) :=
  (bif (e0.2.1 == (1 : Int)) then
  (Option.bind (impl_EntryOk.P0 (((), ()), (e0, ()))) fun
   | ((t2_0, _), (_)) => some ((t2_0, ()), ()))
  else
  (bif (e0.2.1 == (2 : Int)) then
   (Option.bind (impl_ReadConf.f e0.2.2.1) fun
    | ((r0, r1, _), (_)) => (Option.bind (impl_EntryOk.P1 (((), r1, ()), (e0, ()))) fun
     | ((t2_1, _), (_)) => some ((t2_1, ()), ())))
   else
   (Option.bind (impl_EntryOk.P2 (((), ()), (e0, ()))) fun
    | ((t2_2, _), (_)) => some ((t2_2, ()), ()))))

/-- impl.isIndex -/
noncomputable def impl_isIndex.f (n0 : Int) : Option ((Bool × Unit) × Unit) :=
  (Option.bind (impl_within.f n0 (0 : Int) (1000000 : Int)) fun
  | ((r0, _), (_)) => some ((r0, ()), ()))

/-- impl.LogOk -/
noncomputable def impl_LogOk.P0 : ((Unit × (Int × (Unit × ((List T_impl_Entry) × (Int × (Int × Unit)))))) × (T_impl_Log × (T_impl_Entry × Unit))) → Option ((Unit × (Unit × ((List T_impl_Entry) × (Int × (Int × (Bool × Unit)))))) × (T_impl_Log × (T_impl_Entry × Unit))) := fun
  | ((_, term0, _, t9_0, t10_0, t11_0, _), (l0, e0, _)) =>
  (Option.bind (impl_EntryOk.f e0) fun
  | ((r0, _), (_)) => (bif (!r0) then
   some (((), (), t9_0, t10_0, t11_0, true, ()), (l0, e0, ()))
   else
   some (((), (), t9_0, t10_0, t11_0, (decide (e0.1 < term0)), ()), (l0, e0, ()))))
noncomputable def impl_LogOk.S1 : ((Unit × (Int × ((List T_impl_Entry) × (Int × (Int × Unit))))) × (T_impl_Log × Unit)) → Option (((Unit × (Int × ((List T_impl_Entry) × (Int × (Int × Unit))))) × (T_impl_Log × Unit)) ⊕ (((Unit × Unit) × (T_impl_Log × Unit)) ⊕ ((Bool × Unit) × Unit))) := fun
  | ((_, term0, t9_0, t10_0, t11_0, _), (l0, _)) =>
  (bif (decide (t11_0 < t10_0)) then
  (bif (decide (0 ≤ t11_0) && decide (t11_0 < (t9_0.length : Int))) then
   (Option.bind (impl_LogOk.P0 (((), term0, (), t9_0, t10_0, t11_0, ()), (l0, (t9_0.getD (t11_0).toNat Z_impl_Entry), ()))) fun
    | ((_, _, t9_1, t10_1, t11_1, t23_0, _), (l1, e0, _)) => (bif t23_0 then
     some (.inr (.inr ((false, ()), ())))
     else
     some (.inl (((), e0.1, t9_1, t10_1, (IntKind.i64.wrap (t11_1 + (1 : Int))), ()), (l1, ())))))
   else
   none)
  else
  some (.inr (.inl (((), ()), (l0, ())))))
noncomputable def impl_LogOk.L1 : ((Unit × (Int × ((List T_impl_Entry) × (Int × (Int × Unit))))) × (T_impl_Log × Unit)) → Option (((Unit × Unit) × (T_impl_Log × Unit)) ⊕ ((Bool × Unit) × Unit)) := lim impl_LogOk.S1
noncomputable def impl_LogOk.P2 : ((Unit × Unit) × (T_impl_Log × Unit)) → Option ((Bool × Unit) × Unit) := fun
  | ((_, _), (l0, _)) =>
  (Option.bind (impl_isIndex.f l0.1) fun
  | ((r0, _), (_)) => (bif r0 then
   (Option.bind (impl_isTerm.f l0.2.1) fun
    | ((r1, _), (_)) => (bif r1 then
     (bif (decide (((l0.2.2.1.length : Nat) : Int) ≤ (60 : Int))) then
      some (((decide ((IntKind.i64.wrap (l0.1 + ((l0.2.2.1.length : Nat) : Int))) ≤ (1000000 : Int))), ()), ())
      else
      some ((false, ()), ()))
     else
     some ((false, ()), ())))
   else
   some ((false, ()), ())))
noncomputable def impl_LogOk.f (l0 : T_impl_Log) : Option ((Bool × Unit) × Unit) :=
  (Option.bind (impl_LogOk.L1 (((), l0.2.1, l0.2.2.1, ((l0.2.2.1.length : Nat) : Int), (0 : Int), ()), (l0, ()))) fun
  | (.inl ((_, _), (l1, _))) => (Option.bind (impl_LogOk.P2 (((), ()), (l1, ()))) fun
   | ((t2_0, _), (_)) => some ((t2_0, ()), ()))
  | (.inr ((t2_1, _), (_))) => some ((t2_1, ()), ()))

/-- impl.votesOk -/
noncomputable def impl_votesOk.P0 : ((Int × (Int × Unit)) × Unit) → Option ((Bool × Unit) × Unit) := fun
  | ((term0, vote0, _), (_)) =>
  (Option.bind (impl_isTerm.f term0) fun
  | ((r0, _), (_)) => (bif r0 then
   (Option.bind (impl_within.f vote0 (0 : Int) (4 : Int)) fun
    | ((r1, _), (_)) => some ((r1, ()), ()))
   else
   some ((false, ()), ())))
noncomputable def impl_votesOk.f (term0 : Int) (vote0 : Int) : Option ((Bool × Unit) × Unit) :=
  (Option.bind (impl_votesOk.P0 ((term0, vote0, ()), ())) fun
  | ((t4_0, _), (_)) => some ((t4_0, ()), ()))

/-- impl.copyInts -/
noncomputable def impl_copyInts.f (l0 : (List Int)) : Option (((List Int) × Unit) × Unit) :=
  (bif (decide ((([] : List Int).length + l0.length) * 8 ≤ 140737488355328)) then
  some (((([] : List Int) ++ l0), ()), ())
  else
  none)

/-- impl.lastConf -/
noncomputable def impl_lastConf.P0 : ((Int × (Unit × (Int × (Unit × ((List Int) × (Bool × Unit)))))) × (T_impl_Node × (T_impl_Entry × Unit))) → Option ((Int × (Unit × (Int × ((List Int) × (Bool × Unit))))) × (T_impl_Node × Unit)) := fun
  | ((index0, _, i0, _, conf0, ok0, _), (n0, e0, _)) =>
  (bif ok0 then
  (bif (e0.2.1 == (2 : Int)) then
   (letv (decide ((IntKind.i64.wrap ((IntKind.i64.wrap (n0.2.2.2.2.2.2.1 + i0)) + (1 : Int))) ≤ index0)) fun v0 =>
    some ((index0, (), i0, conf0, v0, ()), (n0, ())))
   else
   some ((index0, (), i0, conf0, false, ()), (n0, ())))
  else
  some ((index0, (), i0, conf0, false, ()), (n0, ())))
noncomputable def impl_lastConf.S1 : ((Int × (Unit × (Int × Unit))) × (T_impl_Node × Unit)) → Option (((Int × (Unit × (Int × Unit))) × (T_impl_Node × Unit)) ⊕ (((Unit × Unit) × (T_impl_Node × Unit)) ⊕ ((Int × ((List Int) × Unit)) × Unit))) := fun
  | ((index0, _, i0, _), (n0, _)) =>
  (bif (decide (i0 ≥ (0 : Int))) then
  (bif (decide (0 ≤ i0) && decide (i0 < (n0.2.2.2.2.2.2.2.2.1.length : Int))) then
   (Option.bind (impl_ReadConf.f ((n0.2.2.2.2.2.2.2.2.1.getD (i0).toNat Z_impl_Entry).2.2.1)) fun
    | ((r0, r1, _), (_)) => (Option.bind (impl_lastConf.P0 ((index0, (), i0, (), r0, r1, ()), (n0, (n0.2.2.2.2.2.2.2.2.1.getD (i0).toNat Z_impl_Entry), ()))) fun
     | ((index1, _, i1, conf0, t46_0, _), (n1, _)) => (bif t46_0 then
      some (.inr (.inr (((IntKind.i64.wrap ((IntKind.i64.wrap (n1.2.2.2.2.2.2.1 + i1)) + (1 : Int))), conf0, ()), ())))
      else
      some (.inl ((index1, (), (IntKind.i64.wrap (i1 - (1 : Int))), ()), (n1, ()))))))
   else
   none)
  else
  some (.inr (.inl (((), ()), (n0, ())))))
noncomputable def impl_lastConf.L1 : ((Int × (Unit × (Int × Unit))) × (T_impl_Node × Unit)) → Option (((Unit × Unit) × (T_impl_Node × Unit)) ⊕ ((Int × ((List Int) × Unit)) × Unit)) := lim impl_lastConf.S1
noncomputable def impl_lastConf.f (n0 : T_impl_Node) (index0 : Int) : Option ((Int × ((List Int) × Unit)) × Unit) :=
  (Option.bind (impl_lastConf.L1 ((index0, (), (IntKind.i64.wrap (((n0.2.2.2.2.2.2.2.2.1.length : Nat) : Int) - (1 : Int))), ()), (n0, ()))) fun
  | (.inl ((_, _), (n1, _))) => (Option.bind (impl_copyInts.f n1.2.2.2.2.2.1) fun
   | ((r0, _), (_)) => some (((-1 : Int), r0, ()), ()))
  | (.inr ((t4_0, t5_0, _), (_))) => some ((t4_0, t5_0, ()), ()))

/-- impl.ConfOf -/
noncomputable def impl_ConfOf.f (n0 : T_impl_Node) : Option (((List Int) × Unit) × Unit) :=
  (Option.bind (impl_LogLast.f (n0.2.2.2.2.2.2.1, n0.2.2.2.2.2.2.2.1, n0.2.2.2.2.2.2.2.2.1, ())) fun
  | ((r0, r1, _), (_)) => (Option.bind (impl_lastConf.f n0 r0) fun
   | ((r2, r3, _), (_)) => some ((r3, ()), ())))

/-- impl.without$1 -/
noncomputable def impl_without_c1.f (x0 : Int) (t1_0 : (Int × Unit)) : Option ((Bool × Unit) × Unit) :=
  some (((x0 == t1_0.1), ()), ())

/-- slices.IndexFunc[[]int,int] -/
noncomputable def slices_IndexFunc_int__impl_without_c1.S0 : (((List Int) × (Unit × (Int × (Int × Unit)))) × ((Int × Unit) × Unit)) → Option ((((List Int) × (Unit × (Int × (Int × Unit)))) × ((Int × Unit) × Unit)) ⊕ ((Unit × ((Int × Unit) × Unit)) ⊕ ((Int × Unit) × ((Int × Unit) × Unit)))) := fun
  | ((s0, _, t7_0, t8_0, _), (b0_0, _)) =>
  (bif (decide (t8_0 < t7_0)) then
  (bif (decide (0 ≤ t8_0) && decide (t8_0 < (s0.length : Int))) then
   (Option.bind (impl_without_c1.f (s0.getD (t8_0).toNat (0 : Int)) b0_0) fun
    | ((r0, _), (_)) => (bif r0 then
     some (.inr (.inr ((t8_0, ()), (b0_0, ()))))
     else
     some (.inl ((s0, (), t7_0, (IntKind.i64.wrap (t8_0 + (1 : Int))), ()), (b0_0, ())))))
   else
   none)
  else
  some (.inr (.inl ((), (b0_0, ())))))
noncomputable def slices_IndexFunc_int__impl_without_c1.L0 : (((List Int) × (Unit × (Int × (Int × Unit)))) × ((Int × Unit) × Unit)) → Option ((Unit × ((Int × Unit) × Unit)) ⊕ ((Int × Unit) × ((Int × Unit) × Unit))) := lim slices_IndexFunc_int__impl_without_c1.S0
noncomputable def slices_IndexFunc_int__impl_without_c1.f (s0 : (List Int)) (b0_0 : (Int × Unit)) : Option ((Int × Unit) × Unit) :=
  (Option.bind (slices_IndexFunc_int__impl_without_c1.L0 ((s0, (), ((s0.length : Nat) : Int), (0 : Int), ()), (b0_0, ()))) fun
  | (.inl ((_), (b0_1, _))) => some (((-1 : Int), ()), ())
  | (.inr ((t4_0, _), (b0_2, _))) => some ((t4_0, ()), ()))

/-- slices.DeleteFunc[[]int,int] -/
noncomputable def slices_DeleteFunc_int__impl_without_c1.P0 : (((List Int) × (Unit × (Int × (Int × (Int × (Bool × Unit)))))) × ((Int × Unit) × Unit)) → Option (((List Int) × (Unit × (Int × (Int × Unit)))) × ((Int × Unit) × Unit)) := fun
  | ((s0, _, i0, j0, v0, t29_0, _), (b0_0, _)) =>
  (bif t29_0 then
  (bif (decide (0 ≤ i0) && decide (i0 < (s0.length : Int))) then
   (letv (s0.set (i0).toNat v0) fun l0 =>
    some ((l0, (), (IntKind.i64.wrap (i0 + (1 : Int))), j0, ()), (b0_0, ())))
   else
   none)
  else
  some ((s0, (), i0, j0, ()), (b0_0, ())))
noncomputable def slices_DeleteFunc_int__impl_without_c1.S1 : (((List Int) × (Unit × (Int × (Int × Unit)))) × ((Int × Unit) × Unit)) → Option ((((List Int) × (Unit × (Int × (Int × Unit)))) × ((Int × Unit) × Unit)) ⊕ (((List Int) × (Int × Unit)) × ((Int × Unit) × Unit))) := fun
  | ((s0, _, i0, j0, _), (b0_0, _)) =>
  (bif (decide (j0 < ((s0.length : Nat) : Int))) then
  (bif (decide (0 ≤ j0) && decide (j0 < (s0.length : Int))) then
   (Option.bind (impl_without_c1.f (s0.getD (j0).toNat (0 : Int)) b0_0) fun
    | ((r0, _), (_)) => (Option.bind (slices_DeleteFunc_int__impl_without_c1.P0 ((s0, (), i0, j0, (s0.getD (j0).toNat (0 : Int)), (!r0), ()), (b0_0, ()))) fun
     | ((s1, _, i1, j1, _), (b0_1, _)) => some (.inl ((s1, (), i1, (IntKind.i64.wrap (j1 + (1 : Int))), ()), (b0_1, ())))))
   else
   none)
  else
  some (.inr ((s0, i0, ()), (b0_0, ()))))
noncomputable def slices_DeleteFunc_int__impl_without_c1.L1 : (((List Int) × (Unit × (Int × (Int × Unit)))) × ((Int × Unit) × Unit)) → Option (((List Int) × (Int × Unit)) × ((Int × Unit) × Unit)) := lim slices_DeleteFunc_int__impl_without_c1.S1
noncomputable def slices_DeleteFunc_int__impl_without_c1.f (s0 : (List Int)) (b0_0 : (Int × Unit)) : Option (((List Int) × Unit) × Unit) :=
  (Option.bind (slices_IndexFunc_int__impl_without_c1.f s0 b0_0) fun
  | ((r0, _), (_)) => (bif (r0 == (-1 : Int)) then
   some ((s0, ()), ())
   else
   (Option.bind (slices_DeleteFunc_int__impl_without_c1.L1 ((s0, (), r0, (IntKind.i64.wrap (r0 + (1 : Int))), ()), (b0_0, ()))) fun
    | ((s1, i0, _), (b0_1, _)) => (bif (true && (decide (0 ≤ (i0)) && decide ((i0) ≤ ((s1.length : Nat) : Int)))) then
     (letv (s1.take (i0).toNat ++ List.replicate (s1.length - (i0).toNat) (0 : Int)) fun l0 =>
      (bif ((decide (0 ≤ (i0)) && decide ((i0) ≤ ((l0.length : Nat) : Int))) && true) then
       some ((((l0.take (i0).toNat).drop (0 : Int).toNat), ()), ())
       else
       none))
     else
     none))))

/-- impl.without -/
noncomputable def impl_without.f (list0 : (List Int)) (n0 : Int) : Option (((List Int) × Unit) × Unit) :=
  (Option.bind (impl_copyInts.f list0) fun
  | ((r0, _), (_)) => (Option.bind (slices_DeleteFunc_int__impl_without_c1.f r0 (n0, ())) fun
   | ((r1, _), (_)) => some ((r1, ()), ())))

/-- slices.Equal[[]int,int] -/
noncomputable def slices_Equal_int.S0 : (((List Int) × ((List Int) × (Int × (Int × Unit)))) × Unit) → Option ((((List Int) × ((List Int) × (Int × (Int × Unit)))) × Unit) ⊕ ((Unit × Unit) ⊕ ((Bool × Unit) × Unit))) := fun
  | ((s0, s1, t12_0, t13_0, _), (_)) =>
  (bif (decide (t13_0 < t12_0)) then
  (bif (decide (0 ≤ t13_0) && decide (t13_0 < (s0.length : Int))) then
   (bif (decide (0 ≤ t13_0) && decide (t13_0 < (s1.length : Int))) then
    (bif ((s0.getD (t13_0).toNat (0 : Int)) != (s1.getD (t13_0).toNat (0 : Int))) then
     some (.inr (.inr ((false, ()), ())))
     else
     some (.inl ((s0, s1, t12_0, (IntKind.i64.wrap (t13_0 + (1 : Int))), ()), ())))
    else
    none)
   else
   none)
  else
  some (.inr (.inl ((), ()))))
noncomputable def slices_Equal_int.L0 : (((List Int) × ((List Int) × (Int × (Int × Unit)))) × Unit) → Option ((Unit × Unit) ⊕ ((Bool × Unit) × Unit)) := lim slices_Equal_int.S0
noncomputable def slices_Equal_int.f (s0 : (List Int)) (s1 : (List Int)) : Option ((Bool × Unit) × Unit) :=
  (bif (((s0.length : Nat) : Int) != ((s1.length : Nat) : Int)) then
  some ((false, ()), ())
  else
  (Option.bind (slices_Equal_int.L0 ((s0, s1, ((s0.length : Nat) : Int), (0 : Int), ()), ())) fun
   | (.inl ((_), (_))) => some ((true, ()), ())
   | (.inr ((t4_0, _), (_))) => some ((t4_0, ()), ())))

/-- impl.peersOk -/
noncomputable def impl_peersOk.P0 : ((Unit × (Int × ((List Int) × (Unit × ((List T_impl_Peer) × (Int × (Int × Unit))))))) × (T_impl_Node × (T_impl_Peer × Unit))) → Option ((Unit × (Int × ((List Int) × (Unit × ((List T_impl_Peer) × (Int × (Int × (Bool × Unit)))))))) × (T_impl_Node × (T_impl_Peer × Unit))) := fun
  | ((_, last0, ids0, _, t16_0, t17_0, t18_0, _), (n0, p0, _)) =>
  (Option.bind (impl_within.f p0.2.1 (1 : Int) (IntKind.i64.wrap (last0 + (1 : Int)))) fun
  | ((r0, _), (_)) => (bif (!r0) then
   some (((), last0, ids0, (), t16_0, t17_0, t18_0, true, ()), (n0, p0, ()))
   else
   (Option.bind (impl_within.f p0.2.2.1 (0 : Int) (IntKind.i64.wrap (p0.2.1 - (1 : Int)))) fun
    | ((r1, _), (_)) => (bif (!r1) then
     some (((), last0, ids0, (), t16_0, t17_0, t18_0, true, ()), (n0, p0, ()))
     else
     (Option.bind (impl_within.f p0.2.2.2.1 (0 : Int) (20000 : Int)) fun
      | ((r2, _), (_)) => some (((), last0, ids0, (), t16_0, t17_0, t18_0, (!r2), ()), (n0, p0, ())))))))
noncomputable def impl_peersOk.S1 : ((Unit × (Int × ((List Int) × ((List T_impl_Peer) × (Int × (Int × Unit)))))) × (T_impl_Node × Unit)) → Option (((Unit × (Int × ((List Int) × ((List T_impl_Peer) × (Int × (Int × Unit)))))) × (T_impl_Node × Unit)) ⊕ (((Unit × ((List Int) × Unit)) × (T_impl_Node × Unit)) ⊕ ((Bool × Unit) × Unit))) := fun
  | ((_, last0, ids0, t16_0, t17_0, t18_0, _), (n0, _)) =>
  (bif (decide (t18_0 < t17_0)) then
  (bif (decide (0 ≤ t18_0) && decide (t18_0 < (t16_0.length : Int))) then
   (Option.bind (impl_peersOk.P0 (((), last0, ids0, (), t16_0, t17_0, t18_0, ()), (n0, (t16_0.getD (t18_0).toNat Z_impl_Peer), ()))) fun
    | ((_, last1, ids1, _, t16_1, t17_1, t18_1, t42_0, _), (n1, p0, _)) => (bif t42_0 then
     some (.inr (.inr ((false, ()), ())))
     else
     (bif (decide ((ids1.length + ([p0.1] : List Int).length) * 8 ≤ 140737488355328)) then
      some (.inl (((), last1, (ids1 ++ ([p0.1] : List Int)), t16_1, t17_1, (IntKind.i64.wrap (t18_1 + (1 : Int))), ()), (n1, ())))
      else
      none)))
   else
   none)
  else
  some (.inr (.inl (((), ids0, ()), (n0, ())))))
noncomputable def impl_peersOk.L1 : ((Unit × (Int × ((List Int) × ((List T_impl_Peer) × (Int × (Int × Unit)))))) × (T_impl_Node × Unit)) → Option (((Unit × ((List Int) × Unit)) × (T_impl_Node × Unit)) ⊕ ((Bool × Unit) × Unit)) := lim impl_peersOk.S1
noncomputable def impl_peersOk.f (n0 : T_impl_Node) : Option ((Bool × Unit) × Unit) :=
  (Option.bind (impl_LogLast.f (n0.2.2.2.2.2.2.1, n0.2.2.2.2.2.2.2.1, n0.2.2.2.2.2.2.2.2.1, ())) fun
  | ((r0, r1, _), (_)) => (Option.bind (impl_peersOk.L1 (((), r0, ([] : List Int), n0.2.2.2.2.2.2.2.2.2.2.2.2.2.1, ((n0.2.2.2.2.2.2.2.2.2.2.2.2.2.1.length : Nat) : Int), (0 : Int), ()), (n0, ()))) fun
   | (.inl ((_, ids0, _), (n1, _))) => (Option.bind (impl_ConfOf.f n1) fun
    | ((r2, _), (_)) => (Option.bind (impl_without.f r2 n1.1) fun
     | ((r3, _), (_)) => (Option.bind (slices_Equal_int.f ids0 r3) fun
      | ((r4, _), (_)) => some ((r4, ()), ()))))
   | (.inr ((t2_0, _), (_))) => some ((t2_0, ()), ())))

/-- impl.NodeOk -/
noncomputable def impl_NodeOk.P0 : ((Unit × (Int × (Int × Unit))) × (T_impl_Node × Unit)) → Option ((Unit × (Int × (Bool × Unit))) × (T_impl_Node × Unit)) := fun
  | ((_, last0, lastTerm0, _), (n0, _)) =>
  (Option.bind (impl_isNode.f n0.1) fun
  | ((r0, _), (_)) => (bif (!r0) then
   some (((), last0, true, ()), (n0, ()))
   else
   (Option.bind (impl_ConfOk.f n0.2.2.2.2.2.1) fun
    | ((r1, _), (_)) => (bif (!r1) then
     some (((), last0, true, ()), (n0, ()))
     else
     (Option.bind (impl_LogOk.f (n0.2.2.2.2.2.2.1, n0.2.2.2.2.2.2.2.1, n0.2.2.2.2.2.2.2.2.1, ())) fun
      | ((r2, _), (_)) => (bif (!r2) then
       some (((), last0, true, ()), (n0, ()))
       else
       (Option.bind (impl_votesOk.f n0.2.1 n0.2.2.1) fun
        | ((r3, _), (_)) => (bif (!r3) then
         some (((), last0, true, ()), (n0, ()))
         else
         (bif (decide (n0.2.1 < lastTerm0)) then
          some (((), last0, true, ()), (n0, ()))
          else
          (Option.bind (impl_within.f n0.2.2.2.2.1 (0 : Int) (4 : Int)) fun
           | ((r4, _), (_)) => some (((), last0, (!r4), ()), (n0, ()))))))))))))
noncomputable def impl_NodeOk.P1 : ((Unit × (Int × Unit)) × (T_impl_Node × Unit)) → Option ((Unit × (Bool × Unit)) × (T_impl_Node × Unit)) := fun
  | ((_, last0, _), (n0, _)) =>
  (Option.bind (impl_within.f n0.2.2.2.2.2.2.2.2.2.1 n0.2.2.2.2.2.2.1 last0) fun
  | ((r0, _), (_)) => (bif (!r0) then
   some (((), true, ()), (n0, ()))
   else
   (Option.bind (impl_within.f n0.2.2.2.2.2.2.2.2.2.2.1 (0 : Int) (20 : Int)) fun
    | ((r1, _), (_)) => (bif (!r1) then
     some (((), true, ()), (n0, ()))
     else
     (Option.bind (impl_within.f n0.2.2.2.2.2.2.2.2.2.2.2.1 (1 : Int) (20 : Int)) fun
      | ((r2, _), (_)) => (bif (!r2) then
       some (((), true, ()), (n0, ()))
       else
       (Option.bind (impl_nodesOk.f n0.2.2.2.2.2.2.2.2.2.2.2.2.1) fun
        | ((r3, _), (_)) => some (((), (!r3), ()), (n0, ())))))))))
noncomputable def impl_NodeOk.P2 : ((Unit × Unit) × (T_impl_Node × Unit)) → Option ((Bool × Unit) × Unit) := fun
  | ((_, _), (n0, _)) =>
  (bif (((n0.2.2.2.2.2.2.2.2.2.2.2.2.1.length : Nat) : Int) == (0 : Int)) then
  some (((((n0.2.2.2.2.2.2.2.2.2.2.2.2.2.1.length : Nat) : Int) == (0 : Int)), ()), ())
  else
  some ((false, ()), ()))
noncomputable def impl_NodeOk.P3 : ((Unit × Unit) × (T_impl_Node × Unit)) → Option ((Bool × Unit) × Unit) := fun
  | ((_, _), (n0, _)) =>
  (bif (n0.2.2.2.1 == (2 : Int)) then
  (bif (((n0.2.2.2.2.2.2.2.2.2.2.2.2.1.length : Nat) : Int) == (0 : Int)) then
   (Option.bind (impl_peersOk.f n0) fun
    | ((r0, _), (_)) => some ((r0, ()), ()))
   else
   some ((false, ()), ()))
  else
  some ((false, ()), ()))
noncomputable def impl_NodeOk.f (n0 : T_impl_Node) : Option ((Bool × Unit) × Unit) :=
  (Option.bind (impl_LogLast.f (n0.2.2.2.2.2.2.1, n0.2.2.2.2.2.2.2.1, n0.2.2.2.2.2.2.2.2.1, ())) fun
  | ((r0, r1, _), (_)) => (Option.bind (impl_NodeOk.P0 (((), r0, r1, ()), (n0, ()))) fun
   | ((_, last0, t46_0, _), (n1, _)) => (bif t46_0 then
    some ((false, ()), ())
    else
    (Option.bind (impl_NodeOk.P1 (((), last0, ()), (n1, ()))) fun
     | ((_, t72_0, _), (n2, _)) => (bif t72_0 then
      some ((false, ()), ())
      else
      (bif (n2.2.2.2.1 == (0 : Int)) then
       (Option.bind (impl_NodeOk.P2 (((), ()), (n2, ()))) fun
        | ((t2_0, _), (_)) => some ((t2_0, ()), ()))
       else
       (bif (n2.2.2.2.1 == (1 : Int)) then
        some (((((n2.2.2.2.2.2.2.2.2.2.2.2.2.2.1.length : Nat) : Int) == (0 : Int)), ()), ())
        else
        (Option.bind (impl_NodeOk.P3 (((), ()), (n2, ()))) fun
         | ((t2_1, _), (_)) => some ((t2_1, ()), ())))))))))

/-- impl.MessageOk -/
noncomputable def impl_MessageOk.P0 : ((Unit × Unit) × (T_impl_Message × Unit)) → Option ((Unit × (Bool × Unit)) × (T_impl_Message × Unit)) := fun
  | ((_, _), (m0, _)) =>
  (Option.bind (impl_within.f m0.1 (1 : Int) (6 : Int)) fun
  | ((r0, _), (_)) => (bif (!r0) then
   some (((), true, ()), (m0, ()))
   else
   (Option.bind (impl_isNode.f m0.2.1) fun
    | ((r1, _), (_)) => (bif (!r1) then
     some (((), true, ()), (m0, ()))
     else
     (Option.bind (impl_isNode.f m0.2.2.1) fun
      | ((r2, _), (_)) => (bif (!r2) then
       some (((), true, ()), (m0, ()))
       else
       (bif (m0.2.1 == m0.2.2.1) then
        some (((), true, ()), (m0, ()))
        else
        (Option.bind (impl_isTerm.f m0.2.2.2.1) fun
         | ((r3, _), (_)) => (bif (!r3) then
          some (((), true, ()), (m0, ()))
          else
          (Option.bind (impl_isTerm.f m0.2.2.2.2.2.1) fun
           | ((r4, _), (_)) => some (((), (!r4), ()), (m0, ()))))))))))))
noncomputable def impl_MessageOk.P1 : ((Unit × (Int × (Unit × ((List T_impl_Entry) × (Int × (Int × Unit)))))) × (T_impl_Message × (T_impl_Entry × Unit))) → Option ((Unit × (Unit × ((List T_impl_Entry) × (Int × (Int × (Bool × Unit)))))) × (T_impl_Message × (T_impl_Entry × Unit))) := fun
  | ((_, term0, _, t47_0, t48_0, t49_0, _), (m0, e0, _)) =>
  (Option.bind (impl_EntryOk.f e0) fun
  | ((r0, _), (_)) => (bif (!r0) then
   some (((), (), t47_0, t48_0, t49_0, true, ()), (m0, e0, ()))
   else
   (bif (decide (e0.1 < term0)) then
    some (((), (), t47_0, t48_0, t49_0, true, ()), (m0, e0, ()))
    else
    some (((), (), t47_0, t48_0, t49_0, (decide (e0.1 > m0.2.2.2.1)), ()), (m0, e0, ())))))
noncomputable def impl_MessageOk.S2 : ((Unit × (Int × ((List T_impl_Entry) × (Int × (Int × Unit))))) × (T_impl_Message × Unit)) → Option (((Unit × (Int × ((List T_impl_Entry) × (Int × (Int × Unit))))) × (T_impl_Message × Unit)) ⊕ (((Unit × Unit) × (T_impl_Message × Unit)) ⊕ ((Bool × Unit) × Unit))) := fun
  | ((_, term0, t47_0, t48_0, t49_0, _), (m0, _)) =>
  (bif (decide (t49_0 < t48_0)) then
  (bif (decide (0 ≤ t49_0) && decide (t49_0 < (t47_0.length : Int))) then
   (Option.bind (impl_MessageOk.P1 (((), term0, (), t47_0, t48_0, t49_0, ()), (m0, (t47_0.getD (t49_0).toNat Z_impl_Entry), ()))) fun
    | ((_, _, t47_1, t48_1, t49_1, t68_0, _), (m1, e0, _)) => (bif t68_0 then
     some (.inr (.inr ((false, ()), ())))
     else
     some (.inl (((), e0.1, t47_1, t48_1, (IntKind.i64.wrap (t49_1 + (1 : Int))), ()), (m1, ())))))
   else
   none)
  else
  some (.inr (.inl (((), ()), (m0, ())))))
noncomputable def impl_MessageOk.L2 : ((Unit × (Int × ((List T_impl_Entry) × (Int × (Int × Unit))))) × (T_impl_Message × Unit)) → Option (((Unit × Unit) × (T_impl_Message × Unit)) ⊕ ((Bool × Unit) × Unit)) := lim impl_MessageOk.S2
noncomputable def impl_MessageOk.P3 : ((Unit × Unit) × (T_impl_Message × Unit)) → Option ((Unit × (Bool × Unit)) × (T_impl_Message × Unit)) := fun
  | ((_, _), (m0, _)) =>
  (bif (m0.1 == (5 : Int)) then
  (Option.bind (impl_ConfOk.f m0.2.2.2.2.2.2.2.2.2.1) fun
   | ((r0, _), (_)) => (bif r0 then
    some (((), (decide (((m0.2.2.2.2.2.2.2.2.2.2.1.size : Nat) : Int) ≤ (60 : Int))), ()), (m0, ()))
    else
    some (((), false, ()), (m0, ()))))
  else
  some (((), false, ()), (m0, ())))
noncomputable def impl_MessageOk.P4 : ((Unit × (Bool × Unit)) × (T_impl_Message × Unit)) → Option ((Unit × (Bool × (Bool × Unit))) × (T_impl_Message × Unit)) := fun
  | ((_, install0, _), (m0, _)) =>
  (bif (m0.1 != (5 : Int)) then
  (bif (((m0.2.2.2.2.2.2.2.2.2.1.length : Nat) : Int) == (0 : Int)) then
   (bif (m0.2.2.2.2.2.2.2.2.2.2.1.toList == (⟨#[]⟩ : ByteArray).toList) then
    some (((), install0, (!m0.2.2.2.2.2.2.2.2.2.2.2.1), ()), (m0, ()))
    else
    some (((), install0, false, ()), (m0, ())))
   else
   some (((), install0, false, ()), (m0, ())))
  else
  some (((), install0, false, ()), (m0, ())))
noncomputable def impl_MessageOk.P5 : ((Unit × (Bool × (Bool × Unit))) × (T_impl_Message × Unit)) → Option ((Unit × (Bool × (Bool × (Bool × Unit)))) × (T_impl_Message × Unit)) := fun
  | ((_, install0, none0, _), (m0, _)) =>
  (bif (((m0.2.2.2.2.2.2.2.2.1.length : Nat) : Int) == (0 : Int)) then
  some (((), install0, none0, true, ()), (m0, ()))
  else
  (bif (m0.1 == (3 : Int)) then
   some (((), install0, none0, (decide (((m0.2.2.2.2.2.2.2.2.1.length : Nat) : Int) ≤ (4 : Int))), ()), (m0, ()))
   else
   some (((), install0, none0, false, ()), (m0, ()))))
noncomputable def impl_MessageOk.P6 : ((Unit × (Bool × (Bool × (Bool × Unit)))) × (T_impl_Message × Unit)) → Option ((Bool × Unit) × Unit) := fun
  | ((_, install0, none0, entries0, _), (m0, _)) =>
  (Option.bind (impl_isIndex.f m0.2.2.2.2.1) fun
  | ((r0, _), (_)) => (bif r0 then
   (Option.bind (impl_isIndex.f m0.2.2.2.2.2.2.1) fun
    | ((r1, _), (_)) => (bif r1 then
     (bif entries0 then
      (bif install0 then
       some ((true, ()), ())
       else
       some ((none0, ()), ()))
      else
      some ((false, ()), ()))
     else
     some ((false, ()), ())))
   else
   some ((false, ()), ())))
noncomputable def impl_MessageOk.f (m0 : T_impl_Message) : Option ((Bool × Unit) × Unit) :=
  (Option.bind (impl_MessageOk.P0 (((), ()), (m0, ()))) fun
  | ((_, t43_0, _), (m1, _)) => (bif t43_0 then
   some ((false, ()), ())
   else
   (Option.bind (impl_MessageOk.L2 (((), m1.2.2.2.2.2.1, m1.2.2.2.2.2.2.2.2.1, ((m1.2.2.2.2.2.2.2.2.1.length : Nat) : Int), (0 : Int), ()), (m1, ()))) fun
    | (.inl ((_, _), (m2, _))) => (Option.bind (impl_MessageOk.P3 (((), ()), (m2, ()))) fun
     | ((_, install0, _), (m3, _)) => (Option.bind (impl_MessageOk.P4 (((), install0, ()), (m3, ()))) fun
      | ((_, install1, none0, _), (m4, _)) => (Option.bind (impl_MessageOk.P5 (((), install1, none0, ()), (m4, ()))) fun
       | ((_, install2, none1, entries0, _), (m5, _)) => (Option.bind (impl_MessageOk.P6 (((), install2, none1, entries0, ()), (m5, ()))) fun
        | ((t2_0, _), (_)) => some ((t2_0, ()), ())))))
    | (.inr ((t2_1, _), (_))) => some ((t2_1, ()), ()))))

/-- impl.copyLog -/
noncomputable def impl_copyLog.f (l0 : T_impl_Log) : Option ((T_impl_Log × Unit) × Unit) :=
  (bif (decide ((([] : List T_impl_Entry).length + l0.2.2.1.length) * 32 ≤ 140737488355328)) then
  some (((l0.1, l0.2.1, (([] : List T_impl_Entry) ++ l0.2.2.1), ()), ()), ())
  else
  none)

/-- impl.copyNode -/
noncomputable def impl_copyNode.f (n0 : T_impl_Node) : Option ((T_impl_Node × Unit) × Unit) :=
  (Option.bind (impl_copyInts.f n0.2.2.2.2.2.1) fun
  | ((r0, _), (_)) => (Option.bind (impl_copyLog.f (n0.2.2.2.2.2.2.1, n0.2.2.2.2.2.2.2.1, n0.2.2.2.2.2.2.2.2.1, ())) fun
   | ((r1, _), (_)) => (Option.bind (impl_copyInts.f n0.2.2.2.2.2.2.2.2.2.2.2.2.1) fun
    | ((r2, _), (_)) => (bif (decide ((([] : List T_impl_Peer).length + n0.2.2.2.2.2.2.2.2.2.2.2.2.2.1.length) * 32 ≤ 140737488355328)) then
     some (((n0.1, n0.2.1, n0.2.2.1, n0.2.2.2.1, n0.2.2.2.2.1, r0, r1.1, r1.2.1, r1.2.2.1, n0.2.2.2.2.2.2.2.2.2.1, n0.2.2.2.2.2.2.2.2.2.2.1, n0.2.2.2.2.2.2.2.2.2.2.2.1, r2, (([] : List T_impl_Peer) ++ n0.2.2.2.2.2.2.2.2.2.2.2.2.2.1), ()), ()), ())
     else
     none))))

/-- (*impl.Node).follow -/
noncomputable def impl_Node_follow.f (lead0 : Int) (n0 : T_impl_Node) : Option (Unit × (T_impl_Node × Unit)) :=
  some ((), ((impl_Node.u13 (impl_Node.u12 (impl_Node.u4 (impl_Node.u3 n0 (0 : Int)) lead0) ([] : List Int)) ([] : List T_impl_Peer)), ()))

/-- (*impl.Node).message -/
noncomputable def impl_Node_message.f (kind0 : Int) (to0 : Int) (n0 : T_impl_Node) : Option ((T_impl_Message × Unit) × Unit) :=
  some (((kind0, n0.1, to0, n0.2.1, (0 : Int), (0 : Int), (0 : Int), false, ([] : List T_impl_Entry), ([] : List Int), (⟨#[]⟩ : ByteArray), false, ()), ()), ())

/-- (*impl.Node).askedVote -/
noncomputable def impl_Node_askedVote.P0 : ((Unit × (Unit × (Unit × (Int × (Int × (Unit × Unit)))))) × (T_impl_Message × (T_impl_Message × (T_impl_Message × (T_impl_Node × Unit))))) → Option ((Unit × (Unit × (Unit × (Unit × (Bool × Unit))))) × (T_impl_Message × (T_impl_Message × (T_impl_Message × (T_impl_Node × Unit))))) := fun
  | ((_, _, _, last0, term0, _, _), (m0, t4_0, answer0, n0, _)) =>
  (bif (decide (m0.2.2.2.2.2.1 > term0)) then
  some (((), (), (), (), true, ()), (m0, t4_0, answer0, n0, ()))
  else
  (bif (m0.2.2.2.2.2.1 == term0) then
   some (((), (), (), (), (decide (m0.2.2.2.2.1 ≥ last0)), ()), (m0, t4_0, answer0, n0, ()))
   else
   some (((), (), (), (), false, ()), (m0, t4_0, answer0, n0, ()))))
noncomputable def impl_Node_askedVote.P1 : ((Unit × (Unit × (Unit × (Unit × (Bool × Unit))))) × (T_impl_Message × (T_impl_Message × (T_impl_Message × (T_impl_Node × Unit))))) → Option ((Unit × (Unit × (Unit × (Unit × (Bool × Unit))))) × (T_impl_Message × (T_impl_Message × (T_impl_Message × (T_impl_Node × Unit))))) := fun
  | ((_, _, _, _, fresh0, _), (m0, t4_0, answer0, n0, _)) =>
  (bif (m0.2.2.2.1 == n0.2.1) then
  (bif (n0.2.2.1 == (0 : Int)) then
   some (((), (), (), (), fresh0, ()), (m0, t4_0, answer0, n0, ()))
   else
   (bif (n0.2.2.1 == m0.2.1) then
    some (((), (), (), (), fresh0, ()), (m0, t4_0, answer0, n0, ()))
    else
    some (((), (), (), (), false, ()), (m0, t4_0, answer0, n0, ()))))
  else
  some (((), (), (), (), false, ()), (m0, t4_0, answer0, n0, ())))
noncomputable def impl_Node_askedVote.P2 : ((Unit × (Unit × (Unit × (Unit × (Bool × Unit))))) × (T_impl_Message × (T_impl_Message × (T_impl_Message × (T_impl_Node × Unit))))) → Option ((Unit × (Unit × Unit)) × (T_impl_Message × (T_impl_Message × (T_impl_Node × Unit)))) := fun
  | ((_, _, _, _, t62_0, _), (m0, t4_0, answer0, n0, _)) =>
  (bif t62_0 then
  some (((), (), ()), (t4_0, (impl_Message.u7 answer0 true), (impl_Node.u10 (impl_Node.u2 n0 m0.2.1) (0 : Int)), ()))
  else
  some (((), (), ()), (t4_0, answer0, n0, ())))
noncomputable def impl_Node_askedVote.f (m0 : T_impl_Message) (n0 : T_impl_Node) : Option ((T_impl_Message × Unit) × (T_impl_Node × Unit)) :=
  (Option.bind (impl_LogLast.f (n0.2.2.2.2.2.2.1, n0.2.2.2.2.2.2.2.1, n0.2.2.2.2.2.2.2.2.1, ())) fun
  | ((r0, r1, _), (_)) => (Option.bind (impl_Node_message.f (2 : Int) m0.2.1 n0) fun
   | ((r2, _), (_)) => (Option.bind (impl_Node_askedVote.P0 (((), (), (), r0, r1, (), ()), (m0, ((0 : Int), (0 : Int), (0 : Int), (0 : Int), (0 : Int), (0 : Int), (0 : Int), false, ([] : List T_impl_Entry), ([] : List Int), (⟨#[]⟩ : ByteArray), false, ()), r2, n0, ()))) fun
    | ((_, _, _, _, fresh0, _), (m1, t4_0, answer0, n1, _)) => (Option.bind (impl_Node_askedVote.P1 (((), (), (), (), fresh0, ()), (m1, t4_0, answer0, n1, ()))) fun
     | ((_, _, _, _, t62_0, _), (m2, t4_1, answer1, n2, _)) => (Option.bind (impl_Node_askedVote.P2 (((), (), (), (), t62_0, ()), (m2, t4_1, answer1, n2, ()))) fun
      | ((_, _, _), (t4_2, answer2, n3, _)) => some ((answer2, ()), (n3, ())))))))

/-- math/bits.Len64 -/
noncomputable def math_bits_Len64.P0 : ((Int × (Int × (Bool × Unit))) × Unit) → Option ((Int × (Int × Unit)) × Unit) := fun
  | ((x0, n0, t4_0, _), (_)) =>
  (bif t4_0 then
  (bif (decide ((32 : Int) < 0)) then
   none
   else
   some ((((x0).fdiv (2 ^ min ((32 : Int)).toNat (IntKind.bits .u64))), (32 : Int), ()), ()))
  else
  some ((x0, n0, ()), ()))
noncomputable def math_bits_Len64.P1 : ((Int × (Int × (Bool × Unit))) × Unit) → Option ((Int × (Int × Unit)) × Unit) := fun
  | ((x0, n0, t8_0, _), (_)) =>
  (bif t8_0 then
  (bif (decide ((16 : Int) < 0)) then
   none
   else
   some ((((x0).fdiv (2 ^ min ((16 : Int)).toNat (IntKind.bits .u64))), (IntKind.i64.wrap (n0 + (16 : Int))), ()), ()))
  else
  some ((x0, n0, ()), ()))
noncomputable def math_bits_Len64.P2 : ((Int × (Int × (Bool × Unit))) × Unit) → Option ((Int × (Int × Unit)) × Unit) := fun
  | ((x0, n0, t14_0, _), (_)) =>
  (bif t14_0 then
  (bif (decide ((8 : Int) < 0)) then
   none
   else
   some ((((x0).fdiv (2 ^ min ((8 : Int)).toNat (IntKind.bits .u64))), (IntKind.i64.wrap (n0 + (8 : Int))), ()), ()))
  else
  some ((x0, n0, ()), ()))
noncomputable def math_bits_Len64.f (x0 : Int) : Option ((Int × Unit) × Unit) :=
  (Option.bind (math_bits_Len64.P0 ((x0, (0 : Int), (decide (x0 ≥ (4294967296 : Int))), ()), ())) fun
  | ((x1, n0, _), (_)) => (Option.bind (math_bits_Len64.P1 ((x1, n0, (decide (x1 ≥ (65536 : Int))), ()), ())) fun
   | ((x2, n1, _), (_)) => (Option.bind (math_bits_Len64.P2 ((x2, n1, (decide (x2 ≥ (256 : Int))), ()), ())) fun
    | ((x3, n2, _), (_)) => (bif (decide (0 ≤ (IntKind.u8.wrap x3)) && decide ((IntKind.u8.wrap x3) < ((⟨#[0, 1, 2, 2, 3, 3, 3, 3, 4, 4, 4, 4, 4, 4, 4, 4, 5, 5, 5, 5, 5, 5, 5, 5, 5, 5, 5, 5, 5, 5, 5, 5, 6, 6, 6, 6, 6, 6, 6, 6, 6, 6, 6, 6, 6, 6, 6, 6, 6, 6, 6, 6, 6, 6, 6, 6, 6, 6, 6, 6, 6, 6, 6, 6, 7, 7, 7, 7, 7, 7, 7, 7, 7, 7, 7, 7, 7, 7, 7, 7, 7, 7, 7, 7, 7, 7, 7, 7, 7, 7, 7, 7, 7, 7, 7, 7, 7, 7, 7, 7, 7, 7, 7, 7, 7, 7, 7, 7, 7, 7, 7, 7, 7, 7, 7, 7, 7, 7, 7, 7, 7, 7, 7, 7, 7, 7, 7, 7, 8, 8, 8, 8, 8, 8, 8, 8, 8, 8, 8, 8, 8, 8, 8, 8, 8, 8, 8, 8, 8, 8, 8, 8, 8, 8, 8, 8, 8, 8, 8, 8, 8, 8, 8, 8, 8, 8, 8, 8, 8, 8, 8, 8, 8, 8, 8, 8, 8, 8, 8, 8, 8, 8, 8, 8, 8, 8, 8, 8, 8, 8, 8, 8, 8, 8, 8, 8, 8, 8, 8, 8, 8, 8, 8, 8, 8, 8, 8, 8, 8, 8, 8, 8, 8, 8, 8, 8, 8, 8, 8, 8, 8, 8, 8, 8, 8, 8, 8, 8, 8, 8, 8, 8, 8, 8, 8, 8, 8, 8, 8, 8, 8, 8, 8, 8, 8, 8, 8, 8, 8, 8, 8, 8, 8, 8, 8, 8]⟩ : ByteArray).size : Int))) then
     (letv (byteAt (⟨#[0, 1, 2, 2, 3, 3, 3, 3, 4, 4, 4, 4, 4, 4, 4, 4, 5, 5, 5, 5, 5, 5, 5, 5, 5, 5, 5, 5, 5, 5, 5, 5, 6, 6, 6, 6, 6, 6, 6, 6, 6, 6, 6, 6, 6, 6, 6, 6, 6, 6, 6, 6, 6, 6, 6, 6, 6, 6, 6, 6, 6, 6, 6, 6, 7, 7, 7, 7, 7, 7, 7, 7, 7, 7, 7, 7, 7, 7, 7, 7, 7, 7, 7, 7, 7, 7, 7, 7, 7, 7, 7, 7, 7, 7, 7, 7, 7, 7, 7, 7, 7, 7, 7, 7, 7, 7, 7, 7, 7, 7, 7, 7, 7, 7, 7, 7, 7, 7, 7, 7, 7, 7, 7, 7, 7, 7, 7, 7, 8, 8, 8, 8, 8, 8, 8, 8, 8, 8, 8, 8, 8, 8, 8, 8, 8, 8, 8, 8, 8, 8, 8, 8, 8, 8, 8, 8, 8, 8, 8, 8, 8, 8, 8, 8, 8, 8, 8, 8, 8, 8, 8, 8, 8, 8, 8, 8, 8, 8, 8, 8, 8, 8, 8, 8, 8, 8, 8, 8, 8, 8, 8, 8, 8, 8, 8, 8, 8, 8, 8, 8, 8, 8, 8, 8, 8, 8, 8, 8, 8, 8, 8, 8, 8, 8, 8, 8, 8, 8, 8, 8, 8, 8, 8, 8, 8, 8, 8, 8, 8, 8, 8, 8, 8, 8, 8, 8, 8, 8, 8, 8, 8, 8, 8, 8, 8, 8, 8, 8, 8, 8, 8, 8, 8, 8, 8, 8]⟩ : ByteArray) (IntKind.u8.wrap x3)) fun v0 =>
      some (((IntKind.i64.wrap (n2 + (IntKind.i64.wrap v0))), ()), ()))
     else
     none))))

/-- math/bits.Len -/
noncomputable def math_bits_Len.f (x0 : Int) : Option ((Int × Unit) × Unit) :=
  (Option.bind (math_bits_Len64.f x0) fun
  | ((r0, _), (_)) => some ((r0, ()), ()))

/-- cmp.isNaN[int] -/
noncomputable def cmp_isNaN_int.f (x0 : Int) : Option ((Bool × Unit) × Unit) :=
  some (((x0 != x0), ()), ())

/-- cmp.Less[int] -/
noncomputable def cmp_Less_int.P0 : ((Int × (Int × Unit)) × Unit) → Option ((Bool × Unit) × Unit) := fun
  | ((x0, y0, _), (_)) =>
  (Option.bind (cmp_isNaN_int.f x0) fun
  | ((r0, _), (_)) => (bif r0 then
   (Option.bind (cmp_isNaN_int.f y0) fun
    | ((r1, _), (_)) => (bif (!r1) then
     some ((true, ()), ())
     else
     some (((decide (x0 < y0)), ()), ())))
   else
   some (((decide (x0 < y0)), ()), ())))
noncomputable def cmp_Less_int.f (x0 : Int) (y0 : Int) : Option ((Bool × Unit) × Unit) :=
  (Option.bind (cmp_Less_int.P0 ((x0, y0, ()), ())) fun
  | ((t4_0, _), (_)) => some ((t4_0, ()), ()))

/-- slices.insertionSortOrdered[int] -/
noncomputable def slices_insertionSortOrdered_int.P0 : (((List Int) × T_impl_Peer) × Unit) → Option (((List Int) × (Int × (Int × (Int × (Int × (Bool × Unit)))))) × Unit) := fun
  | ((data0, a0, b0, i0, j0, _), (_)) =>
  (bif (decide (j0 > a0)) then
  (bif (decide (0 ≤ j0) && decide (j0 < (data0.length : Int))) then
   (bif (decide (0 ≤ (IntKind.i64.wrap (j0 - (1 : Int)))) && decide ((IntKind.i64.wrap (j0 - (1 : Int))) < (data0.length : Int))) then
    (Option.bind (cmp_Less_int.f (data0.getD (j0).toNat (0 : Int)) (data0.getD ((IntKind.i64.wrap (j0 - (1 : Int)))).toNat (0 : Int))) fun
     | ((r0, _), (_)) => some ((data0, a0, b0, i0, j0, r0, ()), ()))
    else
    none)
   else
   none)
  else
  some ((data0, a0, b0, i0, j0, false, ()), ()))
noncomputable def slices_insertionSortOrdered_int.S1 : (((List Int) × T_impl_Peer) × Unit) → Option ((((List Int) × T_impl_Peer) × Unit) ⊕ (((List Int) × (Int × (Int × (Int × Unit)))) × Unit)) := fun
  | ((data0, a0, b0, i0, j0, _), (_)) =>
  (Option.bind (slices_insertionSortOrdered_int.P0 ((data0, a0, b0, i0, j0, ()), ())) fun
  | ((data1, a1, b1, i1, j1, t30_0, _), (_)) => (bif t30_0 then
   (bif (decide (0 ≤ (IntKind.i64.wrap (j1 - (1 : Int)))) && decide ((IntKind.i64.wrap (j1 - (1 : Int))) < (data1.length : Int))) then
    (bif (decide (0 ≤ j1) && decide (j1 < (data1.length : Int))) then
     (bif (decide (0 ≤ j1) && decide (j1 < (data1.length : Int))) then
      (letv (data1.set (j1).toNat (data1.getD ((IntKind.i64.wrap (j1 - (1 : Int)))).toNat (0 : Int))) fun l0 =>
       (bif (decide (0 ≤ (IntKind.i64.wrap (j1 - (1 : Int)))) && decide ((IntKind.i64.wrap (j1 - (1 : Int))) < (l0.length : Int))) then
        (letv (l0.set ((IntKind.i64.wrap (j1 - (1 : Int)))).toNat (data1.getD (j1).toNat (0 : Int))) fun l1 =>
         some (.inl ((l1, a1, b1, i1, (IntKind.i64.wrap (j1 - (1 : Int))), ()), ())))
        else
        none))
      else
      none)
     else
     none)
    else
    none)
   else
   some (.inr ((data1, a1, b1, i1, ()), ()))))
noncomputable def slices_insertionSortOrdered_int.L1 : (((List Int) × T_impl_Peer) × Unit) → Option (((List Int) × (Int × (Int × (Int × Unit)))) × Unit) := lim slices_insertionSortOrdered_int.S1
noncomputable def slices_insertionSortOrdered_int.S2 : (((List Int) × (Int × (Int × (Int × Unit)))) × Unit) → Option ((((List Int) × (Int × (Int × (Int × Unit)))) × Unit) ⊕ (((List Int) × Unit) × Unit)) := fun
  | ((data0, a0, b0, i0, _), (_)) =>
  (bif (decide (i0 < b0)) then
  (Option.bind (slices_insertionSortOrdered_int.L1 ((data0, a0, b0, i0, i0, ()), ())) fun
   | ((data1, a1, b1, i1, _), (_)) => some (.inl ((data1, a1, b1, (IntKind.i64.wrap (i1 + (1 : Int))), ()), ())))
  else
  some (.inr ((data0, ()), ())))
noncomputable def slices_insertionSortOrdered_int.L2 : (((List Int) × (Int × (Int × (Int × Unit)))) × Unit) → Option (((List Int) × Unit) × Unit) := lim slices_insertionSortOrdered_int.S2
noncomputable def slices_insertionSortOrdered_int.f (data0 : (List Int)) (a0 : Int) (b0 : Int) : Option (((List Int) × Unit) × Unit) :=
  (Option.bind (slices_insertionSortOrdered_int.L2 ((data0, a0, b0, (IntKind.i64.wrap (a0 + (1 : Int))), ()), ())) fun
  | ((data1, _), (_)) => some ((data1, ()), ()))

/-- slices.pdqsortOrdered[int] -/
noncomputable def slices_pdqsortOrdered_int.P0 : (((List Int) × (Int × (Int × (Int × (Bool × (Bool × (Int × (Bool × Unit)))))))) × Unit) → Option (((List Int) × (Int × (Int × (Int × (Bool × (Bool × (Int × Unit))))))) × Unit) := fun
  | ((data0, a0, b0, limit0, wasBalanced0, wasPartitioned0, length0, t35_0, _), (_)) =>
  (bif t35_0 then
  none
  else
  some ((data0, a0, b0, limit0, wasBalanced0, wasPartitioned0, length0, ()), ()))
noncomputable def slices_pdqsortOrdered_int.S1 : (((List Int) × (Int × (Int × (Int × (Bool × (Bool × Unit)))))) × Unit) → Option ((((List Int) × (Int × (Int × (Int × (Bool × (Bool × Unit)))))) × Unit) ⊕ (((List Int) × Unit) × Unit)) := fun
  | ((data0, a0, b0, limit0, wasBalanced0, wasPartitioned0, _), (_)) =>
  (bif (decide ((IntKind.i64.wrap (b0 - a0)) ≤ (12 : Int))) then
  (Option.bind (slices_insertionSortOrdered_int.f data0 a0 b0) fun
   | ((r0, _), (_)) => some (.inr ((r0, ()), ())))
  else
  (bif (limit0 == (0 : Int)) then
   none
   else
   (Option.bind (slices_pdqsortOrdered_int.P0 ((data0, a0, b0, limit0, wasBalanced0, wasPartitioned0, (IntKind.i64.wrap (b0 - a0)), (!wasBalanced0), ()), ())) fun
    | ((data1, a1, b1, limit1, wasBalanced1, wasPartitioned1, length0, _), (_)) => none)))
noncomputable def slices_pdqsortOrdered_int.L1 : (((List Int) × (Int × (Int × (Int × (Bool × (Bool × Unit)))))) × Unit) → Option (((List Int) × Unit) × Unit) := lim slices_pdqsortOrdered_int.S1
noncomputable def slices_pdqsortOrdered_int.f (data0 : (List Int)) (a0 : Int) (b0 : Int) (limit0 : Int) : Option (((List Int) × Unit) × Unit) :=
  (Option.bind (slices_pdqsortOrdered_int.L1 ((data0, a0, b0, limit0, true, true, ()), ())) fun
  | ((data1, _), (_)) => some ((data1, ()), ()))

/-- slices.Sort[[]int,int] -/
noncomputable def slices_Sort_int.f (x0 : (List Int)) : Option (((List Int) × Unit) × Unit) :=
  (Option.bind (math_bits_Len.f (IntKind.u64.wrap ((x0.length : Nat) : Int))) fun
  | ((r0, _), (_)) => (Option.bind (slices_pdqsortOrdered_int.f x0 (0 : Int) ((x0.length : Nat) : Int) r0) fun
   | ((r1, _), (_)) => some ((r1, ()), ())))

/-- slices.Index[[]int,int] -/
noncomputable def slices_Index_int.S0 : (((List Int) × (Int × (Int × (Int × Unit)))) × Unit) → Option ((((List Int) × (Int × (Int × (Int × Unit)))) × Unit) ⊕ ((Unit × Unit) ⊕ ((Int × Unit) × Unit))) := fun
  | ((s0, v0, t7_0, t8_0, _), (_)) =>
  (bif (decide (t8_0 < t7_0)) then
  (bif (decide (0 ≤ t8_0) && decide (t8_0 < (s0.length : Int))) then
   (bif (v0 == (s0.getD (t8_0).toNat (0 : Int))) then
    some (.inr (.inr ((t8_0, ()), ())))
    else
    some (.inl ((s0, v0, t7_0, (IntKind.i64.wrap (t8_0 + (1 : Int))), ()), ())))
   else
   none)
  else
  some (.inr (.inl ((), ()))))
noncomputable def slices_Index_int.L0 : (((List Int) × (Int × (Int × (Int × Unit)))) × Unit) → Option ((Unit × Unit) ⊕ ((Int × Unit) × Unit)) := lim slices_Index_int.S0
noncomputable def slices_Index_int.f (s0 : (List Int)) (v0 : Int) : Option ((Int × Unit) × Unit) :=
  (Option.bind (slices_Index_int.L0 ((s0, v0, ((s0.length : Nat) : Int), (0 : Int), ()), ())) fun
  | (.inl ((_), (_))) => some (((-1 : Int), ()), ())
  | (.inr ((t4_0, _), (_))) => some ((t4_0, ()), ()))

/-- slices.Contains[[]int,int] -/
noncomputable def slices_Contains_int.f (s0 : (List Int)) (v0 : Int) : Option ((Bool × Unit) × Unit) :=
  (Option.bind (slices_Index_int.f s0 v0) fun
  | ((r0, _), (_)) => some (((decide (r0 ≥ (0 : Int))), ()), ()))

/-- impl.Most -/
noncomputable def impl_Most.P0 : (((List Int) × ((List Int) × (Int × ((List Int) × (Int × (Int × (Bool × Unit))))))) × Unit) → Option (((List Int) × ((List Int) × (Int × ((List Int) × (Int × (Int × Unit)))))) × Unit) := fun
  | ((conf0, list0, count0, t8_0, t9_0, t10_0, t16_0, _), (_)) =>
  (bif t16_0 then
  some ((conf0, list0, (IntKind.i64.wrap (count0 + (1 : Int))), t8_0, t9_0, t10_0, ()), ())
  else
  some ((conf0, list0, count0, t8_0, t9_0, t10_0, ()), ()))
noncomputable def impl_Most.S1 : (((List Int) × ((List Int) × (Int × ((List Int) × (Int × (Int × Unit)))))) × Unit) → Option ((((List Int) × ((List Int) × (Int × ((List Int) × (Int × (Int × Unit)))))) × Unit) ⊕ (((List Int) × (Int × Unit)) × Unit)) := fun
  | ((conf0, list0, count0, t8_0, t9_0, t10_0, _), (_)) =>
  (bif (decide (t10_0 < t9_0)) then
  (bif (decide (0 ≤ t10_0) && decide (t10_0 < (t8_0.length : Int))) then
   (Option.bind (slices_Contains_int.f list0 (t8_0.getD (t10_0).toNat (0 : Int))) fun
    | ((r0, _), (_)) => (Option.bind (impl_Most.P0 ((conf0, list0, count0, t8_0, t9_0, t10_0, r0, ()), ())) fun
     | ((conf1, list1, count1, t8_1, t9_1, t10_1, _), (_)) => some (.inl ((conf1, list1, count1, t8_1, t9_1, (IntKind.i64.wrap (t10_1 + (1 : Int))), ()), ()))))
   else
   none)
  else
  some (.inr ((conf0, count0, ()), ())))
noncomputable def impl_Most.L1 : (((List Int) × ((List Int) × (Int × ((List Int) × (Int × (Int × Unit)))))) × Unit) → Option (((List Int) × (Int × Unit)) × Unit) := lim impl_Most.S1
noncomputable def impl_Most.P2 : (((List Int) × (Int × Unit)) × Unit) → Option ((Bool × Unit) × Unit) := fun
  | ((conf0, count0, _), (_)) =>
  (Option.bind (impl_ConfOk.f conf0) fun
  | ((r0, _), (_)) => (bif r0 then
   some (((decide ((IntKind.i64.wrap ((2 : Int) * count0)) > ((conf0.length : Nat) : Int))), ()), ())
   else
   some ((false, ()), ())))
noncomputable def impl_Most.f (conf0 : (List Int)) (list0 : (List Int)) : Option ((Bool × Unit) × Unit) :=
  (Option.bind (impl_Most.L1 ((conf0, list0, (0 : Int), conf0, ((conf0.length : Nat) : Int), (0 : Int), ()), ())) fun
  | ((conf1, count0, _), (_)) => (Option.bind (impl_Most.P2 ((conf1, count0, ()), ())) fun
   | ((t4_0, _), (_)) => some ((t4_0, ()), ())))

/-- impl.LogTerm -/
noncomputable def impl_LogTerm.P0 : ((Int × (Unit × Unit)) × (T_impl_Log × Unit)) → Option ((Int × (Unit × (Bool × Unit))) × (T_impl_Log × Unit)) := fun
  | ((index0, _, _), (l0, _)) =>
  (bif (decide (index0 > l0.1)) then
  some ((index0, (), (decide ((IntKind.i64.wrap (index0 - l0.1)) ≤ ((l0.2.2.1.length : Nat) : Int))), ()), (l0, ()))
  else
  some ((index0, (), false, ()), (l0, ())))
noncomputable def impl_LogTerm.f (l0 : T_impl_Log) (index0 : Int) : Option ((Int × Unit) × Unit) :=
  (bif (index0 == l0.1) then
  some ((l0.2.1, ()), ())
  else
  (Option.bind (impl_LogTerm.P0 ((index0, (), ()), (l0, ()))) fun
   | ((index1, _, t12_0, _), (l1, _)) => (bif t12_0 then
    (bif (decide (0 ≤ (IntKind.i64.wrap ((IntKind.i64.wrap (index1 - l1.1)) - (1 : Int)))) && decide ((IntKind.i64.wrap ((IntKind.i64.wrap (index1 - l1.1)) - (1 : Int))) < (l1.2.2.1.length : Int))) then
     some (((l1.2.2.1.getD ((IntKind.i64.wrap ((IntKind.i64.wrap (index1 - l1.1)) - (1 : Int)))).toNat Z_impl_Entry).1, ()), ())
     else
     none)
    else
    some (((-1 : Int), ()), ()))))

/-- (*impl.Node).commit -/
noncomputable def impl_Node_commit.P0 : ((Unit × (Int × ((List Int) × (Int × Unit)))) × (T_impl_Node × Unit)) → Option ((Unit × (Int × ((List Int) × (Int × (Bool × Unit))))) × (T_impl_Node × Unit)) := fun
  | ((_, last0, conf0, index0, _), (n0, _)) =>
  (bif (decide (index0 > n0.2.2.2.2.2.2.2.2.2.1)) then
  (Option.bind (impl_LogTerm.f (n0.2.2.2.2.2.2.1, n0.2.2.2.2.2.2.2.1, n0.2.2.2.2.2.2.2.2.1, ()) index0) fun
   | ((r0, _), (_)) => some (((), last0, conf0, index0, (r0 == n0.2.1), ()), (n0, ())))
  else
  some (((), last0, conf0, index0, false, ()), (n0, ())))
noncomputable def impl_Node_commit.P1 : ((Unit × (Int × ((List Int) × (Int × ((List Int) × (Unit × ((List T_impl_Peer) × (Int × (Int × (Bool × Unit)))))))))) × (T_impl_Peer × (T_impl_Node × Unit))) → Option ((Unit × (Int × ((List Int) × (Int × ((List Int) × ((List T_impl_Peer) × (Int × (Int × Unit)))))))) × (T_impl_Node × Unit)) := fun
  | ((_, last0, conf0, index0, list0, _, t53_0, t54_0, t55_0, t62_0, _), (p0, n0, _)) =>
  (bif t62_0 then
  (bif (decide ((list0.length + ([p0.1] : List Int).length) * 8 ≤ 140737488355328)) then
   some (((), last0, conf0, index0, (list0 ++ ([p0.1] : List Int)), t53_0, t54_0, t55_0, ()), (n0, ()))
   else
   none)
  else
  some (((), last0, conf0, index0, list0, t53_0, t54_0, t55_0, ()), (n0, ())))
noncomputable def impl_Node_commit.S2 : ((Unit × (Int × ((List Int) × (Int × ((List Int) × ((List T_impl_Peer) × (Int × (Int × Unit)))))))) × (T_impl_Node × Unit)) → Option (((Unit × (Int × ((List Int) × (Int × ((List Int) × ((List T_impl_Peer) × (Int × (Int × Unit)))))))) × (T_impl_Node × Unit)) ⊕ ((Unit × (Int × ((List Int) × (Int × ((List Int) × Unit))))) × (T_impl_Node × Unit))) := fun
  | ((_, last0, conf0, index0, list0, t53_0, t54_0, t55_0, _), (n0, _)) =>
  (bif (decide (t55_0 < t54_0)) then
  (bif (decide (0 ≤ t55_0) && decide (t55_0 < (t53_0.length : Int))) then
   (Option.bind (impl_Node_commit.P1 (((), last0, conf0, index0, list0, (), t53_0, t54_0, t55_0, (decide ((t53_0.getD (t55_0).toNat Z_impl_Peer).2.2.1 ≥ index0)), ()), ((t53_0.getD (t55_0).toNat Z_impl_Peer), n0, ()))) fun
    | ((_, last1, conf1, index1, list1, t53_1, t54_1, t55_1, _), (n1, _)) => some (.inl (((), last1, conf1, index1, list1, t53_1, t54_1, (IntKind.i64.wrap (t55_1 + (1 : Int))), ()), (n1, ()))))
   else
   none)
  else
  some (.inr (((), last0, conf0, index0, list0, ()), (n0, ()))))
noncomputable def impl_Node_commit.L2 : ((Unit × (Int × ((List Int) × (Int × ((List Int) × ((List T_impl_Peer) × (Int × (Int × Unit)))))))) × (T_impl_Node × Unit)) → Option ((Unit × (Int × ((List Int) × (Int × ((List Int) × Unit))))) × (T_impl_Node × Unit)) := lim impl_Node_commit.S2
noncomputable def impl_Node_commit.P3 : ((Unit × (Int × ((List Int) × (Int × (Bool × Unit))))) × (T_impl_Node × Unit)) → Option ((Unit × (Int × ((List Int) × (Int × Unit)))) × (T_impl_Node × Unit)) := fun
  | ((_, last0, conf0, index0, t71_0, _), (n0, _)) =>
  (bif t71_0 then
  some (((), last0, conf0, index0, ()), ((impl_Node.u9 n0 index0), ()))
  else
  some (((), last0, conf0, index0, ()), (n0, ())))
noncomputable def impl_Node_commit.S4 : ((Unit × (Int × ((List Int) × (Int × Unit)))) × (T_impl_Node × Unit)) → Option (((Unit × (Int × ((List Int) × (Int × Unit)))) × (T_impl_Node × Unit)) ⊕ ((Unit × (Int × ((List Int) × Unit))) × (T_impl_Node × Unit))) := fun
  | ((_, last0, conf0, index0, _), (n0, _)) =>
  (Option.bind (impl_Node_commit.P0 (((), last0, conf0, index0, ()), (n0, ()))) fun
  | ((_, last1, conf1, index1, t42_0, _), (n1, _)) => (bif t42_0 then
   (Option.bind (impl_Node_commit.L2 (((), last1, conf1, index1, ([n1.1] : List Int), n1.2.2.2.2.2.2.2.2.2.2.2.2.2.1, ((n1.2.2.2.2.2.2.2.2.2.2.2.2.2.1.length : Nat) : Int), (0 : Int), ()), (n1, ()))) fun
    | ((_, last2, conf2, index2, list0, _), (n2, _)) => (Option.bind (impl_Most.f conf2 list0) fun
     | ((r0, _), (_)) => (Option.bind (impl_Node_commit.P3 (((), last2, conf2, index2, r0, ()), (n2, ()))) fun
      | ((_, last3, conf3, index3, _), (n3, _)) => some (.inl (((), last3, conf3, (IntKind.i64.wrap (index3 - (1 : Int))), ()), (n3, ()))))))
   else
   some (.inr (((), last1, conf1, ()), (n1, ())))))
noncomputable def impl_Node_commit.L4 : ((Unit × (Int × ((List Int) × (Int × Unit)))) × (T_impl_Node × Unit)) → Option ((Unit × (Int × ((List Int) × Unit))) × (T_impl_Node × Unit)) := lim impl_Node_commit.S4
noncomputable def impl_Node_commit.P5 : ((Unit × ((List Int) × (Int × Unit))) × (T_impl_Node × Unit)) → Option ((Unit × (Bool × Unit)) × (T_impl_Node × Unit)) := fun
  | ((_, conf0, at0, _), (n0, _)) =>
  (bif (n0.2.2.2.1 == (2 : Int)) then
  (Option.bind (slices_Contains_int.f conf0 n0.1) fun
   | ((r0, _), (_)) => (bif (!r0) then
    some (((), (decide (at0 ≤ n0.2.2.2.2.2.2.2.2.2.1)), ()), (n0, ()))
    else
    some (((), false, ()), (n0, ()))))
  else
  some (((), false, ()), (n0, ())))
noncomputable def impl_Node_commit.P6 : ((Unit × (Bool × Unit)) × (T_impl_Node × Unit)) → Option (Unit × (T_impl_Node × Unit)) := fun
  | ((_, t105_0, _), (n0, _)) =>
  (bif t105_0 then
  (Option.bind (impl_Node_follow.f (0 : Int) n0) fun
   | ((_), (n1, _)) => some ((), ((impl_Node.u8 (impl_Node.u5 n1 n0.2.2.2.2.2.1) n0.2.2.2.2.2.2.2.2.1), ())))
  else
  some ((), (n0, ())))
noncomputable def impl_Node_commit.f (n0 : T_impl_Node) : Option (Unit × (T_impl_Node × Unit)) :=
  (Option.bind (impl_LogLast.f (n0.2.2.2.2.2.2.1, n0.2.2.2.2.2.2.2.1, n0.2.2.2.2.2.2.2.2.1, ())) fun
  | ((r0, r1, _), (_)) => (Option.bind (impl_ConfOf.f n0) fun
   | ((r2, _), (_)) => (Option.bind (impl_Node_commit.L4 (((), r0, r2, r0, ()), (n0, ()))) fun
    | ((_, last0, conf0, _), (n1, _)) => (Option.bind (impl_lastConf.f n1 last0) fun
     | ((r3, r4, _), (_)) => (Option.bind (impl_Node_commit.P5 (((), conf0, r3, ()), (n1, ()))) fun
      | ((_, t105_0, _), (n2, _)) => (Option.bind (impl_Node_commit.P6 (((), t105_0, ()), (n2, ()))) fun
       | ((_), (n3, _)) => some ((), (n3, ()))))))))

/-- (*impl.Node).send -/
noncomputable def impl_Node_send.f (p0 : T_impl_Peer) (n0 : T_impl_Node) : Option ((T_impl_Message × Unit) × Unit) :=
  (bif (decide (p0.2.1 ≤ n0.2.2.2.2.2.2.1)) then
  (Option.bind (impl_Node_message.f (5 : Int) p0.1 n0) fun
   | ((r0, _), (_)) => (Option.bind (impl_copyInts.f n0.2.2.2.2.2.1) fun
    | ((r1, _), (_)) => some (((impl_Message.u9 (impl_Message.u6 (impl_Message.u5 (impl_Message.u4 r0 n0.2.2.2.2.2.2.1) n0.2.2.2.2.2.2.2.1) p0.2.2.2.1) r1), ()), ())))
  else
  (Option.bind (impl_Node_message.f (3 : Int) p0.1 n0) fun
   | ((r2, _), (_)) => (Option.bind (impl_LogTerm.f (n0.2.2.2.2.2.2.1, n0.2.2.2.2.2.2.2.1, n0.2.2.2.2.2.2.2.2.1, ()) (IntKind.i64.wrap (p0.2.1 - (1 : Int)))) fun
    | ((r3, _), (_)) => (bif (true && (decide (0 ≤ ((IntKind.i64.wrap ((IntKind.i64.wrap (p0.2.1 - (1 : Int))) - n0.2.2.2.2.2.2.1)))) && decide (((IntKind.i64.wrap ((IntKind.i64.wrap (p0.2.1 - (1 : Int))) - n0.2.2.2.2.2.2.1))) ≤ ((n0.2.2.2.2.2.2.2.2.1.length : Nat) : Int)))) then
     (letv ((n0.2.2.2.2.2.2.2.2.1.take ((n0.2.2.2.2.2.2.2.2.1.length : Nat) : Int).toNat).drop ((IntKind.i64.wrap ((IntKind.i64.wrap (p0.2.1 - (1 : Int))) - n0.2.2.2.2.2.2.1))).toNat) fun l0 =>
      (bif ((decide (0 ≤ ((if ((l0.length : Nat) : Int) < (4 : Int) then ((l0.length : Nat) : Int) else (4 : Int)))) && decide (((if ((l0.length : Nat) : Int) < (4 : Int) then ((l0.length : Nat) : Int) else (4 : Int))) ≤ ((l0.length : Nat) : Int))) && true) then
       (letv ((l0.take ((if ((l0.length : Nat) : Int) < (4 : Int) then ((l0.length : Nat) : Int) else (4 : Int))).toNat).drop (0 : Int).toNat) fun l1 =>
        (bif (decide ((r2.2.2.2.2.2.2.2.2.1.length + l1.length) * 32 ≤ 140737488355328)) then
         some (((impl_Message.u8 (impl_Message.u6 (impl_Message.u5 (impl_Message.u4 r2 (IntKind.i64.wrap (p0.2.1 - (1 : Int)))) r3) n0.2.2.2.2.2.2.2.2.2.1) (r2.2.2.2.2.2.2.2.2.1 ++ l1)), ()), ())
         else
         none))
       else
       none))
     else
     none))))

/-- (*impl.Node).sendAll -/
noncomputable def impl_Node_sendAll.S0 : ((Unit × ((List T_impl_Message) × ((List T_impl_Peer) × (Int × (Int × Unit))))) × (T_impl_Node × Unit)) → Option (((Unit × ((List T_impl_Message) × ((List T_impl_Peer) × (Int × (Int × Unit))))) × (T_impl_Node × Unit)) ⊕ (((List T_impl_Message) × Unit) × (T_impl_Node × Unit))) := fun
  | ((_, list0, t10_0, t11_0, t12_0, _), (n0, _)) =>
  (bif (decide (t12_0 < t11_0)) then
  (bif (decide (0 ≤ t12_0) && decide (t12_0 < (t10_0.length : Int))) then
   (Option.bind (impl_Node_send.f (t10_0.getD (t12_0).toNat Z_impl_Peer) n0) fun
    | ((r0, _), (_)) => (bif (decide ((list0.length + ([r0] : List T_impl_Message).length) * 136 ≤ 140737488355328)) then
     some (.inl (((), (list0 ++ ([r0] : List T_impl_Message)), t10_0, t11_0, (IntKind.i64.wrap (t12_0 + (1 : Int))), ()), (n0, ())))
     else
     none))
   else
   none)
  else
  some (.inr ((list0, ()), (n0, ()))))
noncomputable def impl_Node_sendAll.L0 : ((Unit × ((List T_impl_Message) × ((List T_impl_Peer) × (Int × (Int × Unit))))) × (T_impl_Node × Unit)) → Option (((List T_impl_Message) × Unit) × (T_impl_Node × Unit)) := lim impl_Node_sendAll.S0
noncomputable def impl_Node_sendAll.f (n0 : T_impl_Node) : Option (((List T_impl_Message) × Unit) × Unit) :=
  (Option.bind (impl_Node_sendAll.L0 (((), ([] : List T_impl_Message), n0.2.2.2.2.2.2.2.2.2.2.2.2.2.1, ((n0.2.2.2.2.2.2.2.2.2.2.2.2.2.1.length : Nat) : Int), (0 : Int), ()), (n0, ()))) fun
  | ((list0, _), (n1, _)) => some ((list0, ()), ()))

/-- (*impl.Node).lead -/
noncomputable def impl_Node_lead.S0 : ((Unit × (Int × ((List Int) × (Int × (Int × Unit))))) × (T_impl_Node × Unit)) → Option (((Unit × (Int × ((List Int) × (Int × (Int × Unit))))) × (T_impl_Node × Unit)) ⊕ ((Unit × (Int × Unit)) × (T_impl_Node × Unit))) := fun
  | ((_, last0, t39_0, t40_0, t41_0, _), (n0, _)) =>
  (bif (decide (t41_0 < t40_0)) then
  (bif (decide (0 ≤ t41_0) && decide (t41_0 < (t39_0.length : Int))) then
   (letv ([((t39_0.getD (t41_0).toNat (0 : Int)), (IntKind.i64.wrap (last0 + (1 : Int))), (0 : Int), (0 : Int), ())] : List T_impl_Peer) fun l0 =>
    (bif (decide ((n0.2.2.2.2.2.2.2.2.2.2.2.2.2.1.length + l0.length) * 32 ≤ 140737488355328)) then
     some (.inl (((), last0, t39_0, t40_0, (IntKind.i64.wrap (t41_0 + (1 : Int))), ()), ((impl_Node.u13 n0 (n0.2.2.2.2.2.2.2.2.2.2.2.2.2.1 ++ l0)), ())))
     else
     none))
   else
   none)
  else
  some (.inr (((), last0, ()), (n0, ()))))
noncomputable def impl_Node_lead.L0 : ((Unit × (Int × ((List Int) × (Int × (Int × Unit))))) × (T_impl_Node × Unit)) → Option ((Unit × (Int × Unit)) × (T_impl_Node × Unit)) := lim impl_Node_lead.S0
noncomputable def impl_Node_lead.P1 : ((Unit × (Int × Unit)) × (T_impl_Node × Unit)) → Option ((Unit × (Bool × Unit)) × (T_impl_Node × Unit)) := fun
  | ((_, last0, _), (n0, _)) =>
  (bif (decide (((n0.2.2.2.2.2.2.2.2.1.length : Nat) : Int) < (60 : Int))) then
  some (((), (decide (last0 < (1000000 : Int))), ()), (n0, ()))
  else
  some (((), false, ()), (n0, ())))
noncomputable def impl_Node_lead.P2 : ((Unit × (Bool × Unit)) × (T_impl_Node × Unit)) → Option ((Unit × Unit) × (T_impl_Node × Unit)) := fun
  | ((_, t69_0, _), (n0, _)) =>
  (bif t69_0 then
  (bif (decide ((n0.2.2.2.2.2.2.2.2.1.length + ([(n0.2.1, (1 : Int), (⟨#[]⟩ : ByteArray), ())] : List T_impl_Entry).length) * 32 ≤ 140737488355328)) then
   (letv (n0.2.2.2.2.2.2.2.2.1 ++ ([(n0.2.1, (1 : Int), (⟨#[]⟩ : ByteArray), ())] : List T_impl_Entry)) fun l0 =>
    some (((), ()), ((impl_Node.u8 n0 l0), ())))
   else
   none)
  else
  some (((), ()), (n0, ())))
noncomputable def impl_Node_lead.f (n0 : T_impl_Node) : Option (((List T_impl_Message) × Unit) × (T_impl_Node × Unit)) :=
  (Option.bind (impl_LogLast.f (n0.2.2.2.2.2.2.1, n0.2.2.2.2.2.2.2.1, n0.2.2.2.2.2.2.2.2.1, ())) fun
  | ((r0, r1, _), (_)) => (Option.bind (impl_ConfOf.f (impl_Node.u13 (impl_Node.u12 (impl_Node.u4 (impl_Node.u3 n0 (2 : Int)) n0.1) ([] : List Int)) ([] : List T_impl_Peer))) fun
   | ((r2, _), (_)) => (Option.bind (impl_without.f r2 n0.1) fun
    | ((r3, _), (_)) => (Option.bind (impl_Node_lead.L0 (((), r0, r3, ((r3.length : Nat) : Int), (0 : Int), ()), ((impl_Node.u13 (impl_Node.u12 (impl_Node.u4 (impl_Node.u3 n0 (2 : Int)) n0.1) ([] : List Int)) ([] : List T_impl_Peer)), ()))) fun
     | ((_, last0, _), (n1, _)) => (Option.bind (impl_Node_lead.P1 (((), last0, ()), (n1, ()))) fun
      | ((_, t69_0, _), (n2, _)) => (Option.bind (impl_Node_lead.P2 (((), t69_0, ()), (n2, ()))) fun
       | ((_, _), (n3, _)) => (Option.bind (impl_Node_commit.f n3) fun
        | ((_), (n4, _)) => (Option.bind (impl_Node_sendAll.f (impl_Node.u8 (impl_Node.u5 n4 n3.2.2.2.2.2.1) n3.2.2.2.2.2.2.2.2.1)) fun
         | ((r4, _), (_)) => some ((r4, ()), ((impl_Node.u8 (impl_Node.u5 n4 n3.2.2.2.2.2.1) n3.2.2.2.2.2.2.2.2.1), ()))))))))))

/-- impl.appended -/
noncomputable def impl_appended.S0 : ((Int × ((List T_impl_Entry) × (Int × (Unit × (Unit × (Unit × ((List T_impl_Entry) × (Int × (Int × Unit))))))))) × (T_impl_Log × (T_impl_Log × (T_impl_Log × Unit)))) → Option (((Int × ((List T_impl_Entry) × (Int × (Unit × (Unit × (Unit × ((List T_impl_Entry) × (Int × (Int × Unit))))))))) × (T_impl_Log × (T_impl_Log × (T_impl_Log × Unit)))) ⊕ (((Unit × (Unit × Unit)) × (T_impl_Log × (T_impl_Log × Unit))) ⊕ ((Unit × (Bool × Unit)) × (T_impl_Log × Unit)))) := fun
  | ((index0, entries0, commit0, _, _, _, t16_0, t17_0, t18_0, _), (l0, t8_0, out0, _)) =>
  (bif (decide (t18_0 < t17_0)) then
  (bif (decide (0 ≤ t18_0) && decide (t18_0 < (t16_0.length : Int))) then
   (Option.bind (impl_LogTerm.f l0 (IntKind.i64.wrap ((IntKind.i64.wrap (index0 + t18_0)) + (1 : Int)))) fun
    | ((r0, _), (_)) => (bif (r0 == (t16_0.getD (t18_0).toNat Z_impl_Entry).1) then
     some (.inl ((index0, entries0, commit0, (), (), (), t16_0, t17_0, (IntKind.i64.wrap (t18_0 + (1 : Int))), ()), (l0, t8_0, out0, ())))
     else
     (bif (decide ((IntKind.i64.wrap ((IntKind.i64.wrap (index0 + t18_0)) + (1 : Int))) ≤ commit0)) then
      some (.inr (.inr (((), false, ()), (((0 : Int), (0 : Int), ([] : List T_impl_Entry), ()), ()))))
      else
      (letv (IntKind.i64.wrap ((IntKind.i64.wrap ((IntKind.i64.wrap (index0 + t18_0)) + (1 : Int))) - l0.1)) fun v0 =>
       (bif ((decide (0 ≤ ((IntKind.i64.wrap (v0 - (1 : Int))))) && decide (((IntKind.i64.wrap (v0 - (1 : Int)))) ≤ ((out0.2.2.1.length : Nat) : Int))) && true) then
        (bif (true && (decide (0 ≤ (t18_0)) && decide ((t18_0) ≤ ((entries0.length : Nat) : Int)))) then
         (bif (decide ((((out0.2.2.1.take ((IntKind.i64.wrap (v0 - (1 : Int)))).toNat).drop (0 : Int).toNat).length + ((entries0.take ((entries0.length : Nat) : Int).toNat).drop (t18_0).toNat).length) * 32 ≤ 140737488355328)) then
          (letv (((out0.2.2.1.take ((IntKind.i64.wrap (v0 - (1 : Int)))).toNat).drop (0 : Int).toNat) ++ ((entries0.take ((entries0.length : Nat) : Int).toNat).drop (t18_0).toNat)) fun l1 =>
           some (.inr (.inl (((), (), ()), (t8_0, (out0.1, out0.2.1, l1, ()), ())))))
          else
          none)
         else
         none)
        else
        none)))))
   else
   none)
  else
  some (.inr (.inl (((), (), ()), (t8_0, out0, ())))))
noncomputable def impl_appended.L0 : ((Int × ((List T_impl_Entry) × (Int × (Unit × (Unit × (Unit × ((List T_impl_Entry) × (Int × (Int × Unit))))))))) × (T_impl_Log × (T_impl_Log × (T_impl_Log × Unit)))) → Option (((Unit × (Unit × Unit)) × (T_impl_Log × (T_impl_Log × Unit))) ⊕ ((Unit × (Bool × Unit)) × (T_impl_Log × Unit))) := lim impl_appended.S0
noncomputable def impl_appended.f (l0 : T_impl_Log) (index0 : Int) (entries0 : (List T_impl_Entry)) (commit0 : Int) : Option ((T_impl_Log × (Bool × Unit)) × Unit) :=
  (Option.bind (impl_copyLog.f l0) fun
  | ((r0, _), (_)) => (Option.bind (impl_appended.L0 ((index0, entries0, commit0, (), (), (), entries0, ((entries0.length : Nat) : Int), (0 : Int), ()), (l0, ((0 : Int), (0 : Int), ([] : List T_impl_Entry), ()), r0, ()))) fun
   | (.inl ((_, _, _), (t8_0, out0, _))) => (Option.bind (impl_LogOk.f out0) fun
    | ((r1, _), (_)) => some ((out0, r1, ()), ()))
   | (.inr ((_, t9_0, _), (t8_1, _))) => some ((t8_1, t9_0, ()), ())))

/-- (*impl.Node).askedAppend -/
noncomputable def impl_Node_askedAppend.P0 : ((Unit × (Unit × (Unit × (Unit × (Int × (Int × (Int × ((List T_impl_Entry) × (Bool × Unit))))))))) × (T_impl_Message × (T_impl_Message × (T_impl_Message × (T_impl_Node × Unit))))) → Option ((Unit × (Unit × (Unit × (Unit × (Int × T_impl_Log))))) × (T_impl_Message × (T_impl_Message × (T_impl_Message × (T_impl_Node × Unit))))) := fun
  | ((_, _, _, _, last0, index0, term0, entries0, t53_0, _), (m0, t4_0, answer0, n0, _)) =>
  (bif t53_0 then
  (letv (if ((entries0.length : Nat) : Int) < (IntKind.i64.wrap (n0.2.2.2.2.2.2.1 - index0)) then ((entries0.length : Nat) : Int) else (IntKind.i64.wrap (n0.2.2.2.2.2.2.1 - index0))) fun v0 =>
   (bif (true && (decide (0 ≤ (v0)) && decide ((v0) ≤ ((entries0.length : Nat) : Int)))) then
    some (((), (), (), (), last0, n0.2.2.2.2.2.2.1, n0.2.2.2.2.2.2.2.1, ((entries0.take ((entries0.length : Nat) : Int).toNat).drop (v0).toNat), ()), (m0, t4_0, answer0, n0, ()))
    else
    none))
  else
  some (((), (), (), (), last0, index0, term0, entries0, ()), (m0, t4_0, answer0, n0, ())))
noncomputable def impl_Node_askedAppend.f (m0 : T_impl_Message) (n0 : T_impl_Node) : Option ((T_impl_Message × Unit) × (T_impl_Node × Unit)) :=
  (Option.bind (impl_Node_message.f (4 : Int) m0.2.1 n0) fun
  | ((r0, _), (_)) => (bif (decide (m0.2.2.2.1 < n0.2.1)) then
   some ((r0, ()), (n0, ()))
   else
   (Option.bind (impl_Node_follow.f m0.2.1 n0) fun
    | ((_), (n1, _)) => (Option.bind (impl_LogLast.f (n1.2.2.2.2.2.2.1, n1.2.2.2.2.2.2.2.1, n0.2.2.2.2.2.2.2.2.1, ())) fun
     | ((r1, r2, _), (_)) => (Option.bind (impl_Node_askedAppend.P0 (((), (), (), (), r1, m0.2.2.2.2.1, m0.2.2.2.2.2.1, m0.2.2.2.2.2.2.2.2.1, (decide (m0.2.2.2.2.1 < n1.2.2.2.2.2.2.1)), ()), (m0, ((0 : Int), (0 : Int), (0 : Int), (0 : Int), (0 : Int), (0 : Int), (0 : Int), false, ([] : List T_impl_Entry), ([] : List Int), (⟨#[]⟩ : ByteArray), false, ()), r0, (impl_Node.u10 (impl_Node.u8 (impl_Node.u5 n1 n0.2.2.2.2.2.1) n0.2.2.2.2.2.2.2.2.1) (0 : Int)), ()))) fun
      | ((_, _, _, _, last0, index0, term0, entries0, _), (m1, t4_0, answer0, n2, _)) => (Option.bind (impl_LogTerm.f (n2.2.2.2.2.2.2.1, n2.2.2.2.2.2.2.2.1, n2.2.2.2.2.2.2.2.2.1, ()) index0) fun
       | ((r3, _), (_)) => (bif (r3 != term0) then
        (letv (if (0 : Int) > (IntKind.i64.wrap (index0 - (1 : Int))) then (0 : Int) else (IntKind.i64.wrap (index0 - (1 : Int)))) fun v0 =>
         some (((impl_Message.u4 answer0 (if last0 < v0 then last0 else v0)), ()), (n2, ())))
        else
        (Option.bind (impl_appended.f (n2.2.2.2.2.2.2.1, n2.2.2.2.2.2.2.2.1, n2.2.2.2.2.2.2.2.2.1, ()) index0 entries0 n2.2.2.2.2.2.2.2.2.2.1) fun
         | ((r4, r5, _), (_)) => (bif (!r5) then
          some (((impl_Message.u4 answer0 last0), ()), (n2, ()))
          else
          (letv (if (IntKind.i64.wrap (index0 + ((entries0.length : Nat) : Int))) < m1.2.2.2.2.2.2.1 then (IntKind.i64.wrap (index0 + ((entries0.length : Nat) : Int))) else m1.2.2.2.2.2.2.1) fun v1 =>
           some (((impl_Message.u7 (impl_Message.u4 answer0 (IntKind.i64.wrap (index0 + ((entries0.length : Nat) : Int)))) true), ()), ((impl_Node.u9 (impl_Node.u8 (impl_Node.u7 (impl_Node.u6 n2 r4.1) r4.2.1) r4.2.2.1) (if v1 > n2.2.2.2.2.2.2.2.2.2.1 then v1 else n2.2.2.2.2.2.2.2.2.2.1)), ()))))))))))))

/-- (*impl.Node).heard$1 -/
noncomputable def impl_Node_heard_c1.f (p0 : T_impl_Peer) (t1_0 : T_impl_Message) : Option ((Bool × Unit) × Unit) :=
  some (((p0.1 == t1_0.2.1), ()), ())

/-- slices.IndexFunc[[]impl.Peer,impl.Peer] -/
noncomputable def slices_IndexFunc_Peer__impl_Node_heard_c1.S0 : (((List T_impl_Peer) × (Unit × (Int × (Int × Unit)))) × (T_impl_Message × Unit)) → Option ((((List T_impl_Peer) × (Unit × (Int × (Int × Unit)))) × (T_impl_Message × Unit)) ⊕ ((Unit × (T_impl_Message × Unit)) ⊕ ((Int × Unit) × (T_impl_Message × Unit)))) := fun
  | ((s0, _, t7_0, t8_0, _), (b0_0, _)) =>
  (bif (decide (t8_0 < t7_0)) then
  (bif (decide (0 ≤ t8_0) && decide (t8_0 < (s0.length : Int))) then
   (Option.bind (impl_Node_heard_c1.f (s0.getD (t8_0).toNat Z_impl_Peer) b0_0) fun
    | ((r0, _), (_)) => (bif r0 then
     some (.inr (.inr ((t8_0, ()), (b0_0, ()))))
     else
     some (.inl ((s0, (), t7_0, (IntKind.i64.wrap (t8_0 + (1 : Int))), ()), (b0_0, ())))))
   else
   none)
  else
  some (.inr (.inl ((), (b0_0, ())))))
noncomputable def slices_IndexFunc_Peer__impl_Node_heard_c1.L0 : (((List T_impl_Peer) × (Unit × (Int × (Int × Unit)))) × (T_impl_Message × Unit)) → Option ((Unit × (T_impl_Message × Unit)) ⊕ ((Int × Unit) × (T_impl_Message × Unit))) := lim slices_IndexFunc_Peer__impl_Node_heard_c1.S0
noncomputable def slices_IndexFunc_Peer__impl_Node_heard_c1.f (s0 : (List T_impl_Peer)) (b0_0 : T_impl_Message) : Option ((Int × Unit) × Unit) :=
  (Option.bind (slices_IndexFunc_Peer__impl_Node_heard_c1.L0 ((s0, (), ((s0.length : Nat) : Int), (0 : Int), ()), (b0_0, ()))) fun
  | (.inl ((_), (b0_1, _))) => some (((-1 : Int), ()), ())
  | (.inr ((t4_0, _), (b0_2, _))) => some ((t4_0, ()), ()))

/-- (*impl.Node).heard -/
noncomputable def impl_Node_heard.P0 : ((Unit × (Unit × (Int × Unit))) × (T_impl_Message × (T_impl_Node × Unit))) → Option ((Unit × (Unit × (Int × (Bool × Unit)))) × (T_impl_Message × (T_impl_Node × Unit))) := fun
  | ((_, _, i0, _), (m0, n0, _)) =>
  (bif (m0.2.2.2.1 != n0.2.1) then
  some (((), (), i0, true, ()), (m0, n0, ()))
  else
  (bif (n0.2.2.2.1 != (2 : Int)) then
   some (((), (), i0, true, ()), (m0, n0, ()))
   else
   some (((), (), i0, (decide (i0 < (0 : Int))), ()), (m0, n0, ()))))
noncomputable def impl_Node_heard.P1 : ((Unit × (Int × (Unit × Unit))) × (T_impl_Peer × (T_impl_Node × Unit))) → Option ((Unit × (Unit × (Bool × Unit))) × (T_impl_Peer × (T_impl_Node × Unit))) := fun
  | ((_, last0, _, _), (peer0, n0, _)) =>
  (bif (n0.2.2.2.1 != (2 : Int)) then
  some (((), (), true, ()), (peer0, n0, ()))
  else
  some (((), (), (decide (peer0.2.1 > last0)), ()), (peer0, n0, ())))
noncomputable def impl_Node_heard.f (m0 : T_impl_Message) (n0 : T_impl_Node) : Option (((List T_impl_Message) × Unit) × (T_impl_Node × Unit)) :=
  (Option.bind (slices_IndexFunc_Peer__impl_Node_heard_c1.f n0.2.2.2.2.2.2.2.2.2.2.2.2.2.1 m0) fun
  | ((r0, _), (_)) => (Option.bind (impl_Node_heard.P0 (((), (), r0, ()), (m0, n0, ()))) fun
   | ((_, _, i0, t33_0, _), (m1, n1, _)) => (bif t33_0 then
    some ((([] : List T_impl_Message), ()), (n1, ()))
    else
    (Option.bind (impl_LogLast.f (n1.2.2.2.2.2.2.1, n1.2.2.2.2.2.2.2.1, n1.2.2.2.2.2.2.2.2.1, ())) fun
     | ((r1, r2, _), (_)) => (bif (decide (0 ≤ i0) && decide (i0 < (n1.2.2.2.2.2.2.2.2.2.2.2.2.2.1.length : Int))) then
      (bif m1.2.2.2.2.2.2.2.1 then
       (bif (m1.1 == (6 : Int)) then
        (letv (n1.2.2.2.2.2.2.2.2.2.2.2.2.2.1.set (i0).toNat ((n1.2.2.2.2.2.2.2.2.2.2.2.2.2.1.getD (i0).toNat Z_impl_Peer).1, ((n1.2.2.2.2.2.2.2.2.2.2.2.2.2.1.getD (i0).toNat Z_impl_Peer).2.1, ((n1.2.2.2.2.2.2.2.2.2.2.2.2.2.1.getD (i0).toNat Z_impl_Peer).2.2.1, ((0 : Int), ()))))) fun l0 =>
         (letv (if (if r1 < m1.2.2.2.2.1 then r1 else m1.2.2.2.2.1) > (l0.getD (i0).toNat Z_impl_Peer).2.2.1 then (if r1 < m1.2.2.2.2.1 then r1 else m1.2.2.2.2.1) else (l0.getD (i0).toNat Z_impl_Peer).2.2.1) fun v0 =>
          (letv (l0.set (i0).toNat ((l0.getD (i0).toNat Z_impl_Peer).1, ((l0.getD (i0).toNat Z_impl_Peer).2.1, (v0, ((l0.getD (i0).toNat Z_impl_Peer).2.2.2.1, ()))))) fun l1 =>
           (letv (l1.set (i0).toNat ((l1.getD (i0).toNat Z_impl_Peer).1, ((IntKind.i64.wrap ((l1.getD (i0).toNat Z_impl_Peer).2.2.1 + (1 : Int))), ((l1.getD (i0).toNat Z_impl_Peer).2.2.1, ((l1.getD (i0).toNat Z_impl_Peer).2.2.2.1, ()))))) fun l2 =>
            (Option.bind (impl_Node_commit.f (impl_Node.u13 n1 l2)) fun
             | ((_), (n2, _)) => (Option.bind (impl_Node_heard.P1 (((), r1, (), ()), ((l2.getD (i0).toNat Z_impl_Peer), (impl_Node.u8 (impl_Node.u5 n2 n1.2.2.2.2.2.1) n1.2.2.2.2.2.2.2.2.1), ()))) fun
              | ((_, _, t91_0, _), (peer0, n3, _)) => (bif t91_0 then
               some ((([] : List T_impl_Message), ()), (n3, ()))
               else
               (Option.bind (impl_Node_send.f peer0 n3) fun
                | ((r3, _), (_)) => some ((([r3] : List T_impl_Message), ()), (n3, ()))))))))))
        else
        (letv (if (if r1 < m1.2.2.2.2.1 then r1 else m1.2.2.2.2.1) > (n1.2.2.2.2.2.2.2.2.2.2.2.2.2.1.getD (i0).toNat Z_impl_Peer).2.2.1 then (if r1 < m1.2.2.2.2.1 then r1 else m1.2.2.2.2.1) else (n1.2.2.2.2.2.2.2.2.2.2.2.2.2.1.getD (i0).toNat Z_impl_Peer).2.2.1) fun v1 =>
         (letv (n1.2.2.2.2.2.2.2.2.2.2.2.2.2.1.set (i0).toNat ((n1.2.2.2.2.2.2.2.2.2.2.2.2.2.1.getD (i0).toNat Z_impl_Peer).1, ((n1.2.2.2.2.2.2.2.2.2.2.2.2.2.1.getD (i0).toNat Z_impl_Peer).2.1, (v1, ((n1.2.2.2.2.2.2.2.2.2.2.2.2.2.1.getD (i0).toNat Z_impl_Peer).2.2.2.1, ()))))) fun l3 =>
          (letv (l3.set (i0).toNat ((l3.getD (i0).toNat Z_impl_Peer).1, ((IntKind.i64.wrap ((l3.getD (i0).toNat Z_impl_Peer).2.2.1 + (1 : Int))), ((l3.getD (i0).toNat Z_impl_Peer).2.2.1, ((l3.getD (i0).toNat Z_impl_Peer).2.2.2.1, ()))))) fun l4 =>
           (Option.bind (impl_Node_commit.f (impl_Node.u13 n1 l4)) fun
            | ((_), (n4, _)) => (Option.bind (impl_Node_heard.P1 (((), r1, (), ()), ((l4.getD (i0).toNat Z_impl_Peer), (impl_Node.u8 (impl_Node.u5 n4 n1.2.2.2.2.2.1) n1.2.2.2.2.2.2.2.2.1), ()))) fun
             | ((_, _, t91_1, _), (peer1, n5, _)) => (bif t91_1 then
              some ((([] : List T_impl_Message), ()), (n5, ()))
              else
              (Option.bind (impl_Node_send.f peer1 n5) fun
               | ((r4, _), (_)) => some ((([r4] : List T_impl_Message), ()), (n5, ()))))))))))
       else
       (bif (m1.1 == (4 : Int)) then
        (letv (if (n1.2.2.2.2.2.2.2.2.2.2.2.2.2.1.getD (i0).toNat Z_impl_Peer).2.2.1 > m1.2.2.2.2.1 then (n1.2.2.2.2.2.2.2.2.2.2.2.2.2.1.getD (i0).toNat Z_impl_Peer).2.2.1 else m1.2.2.2.2.1) fun v2 =>
         (letv (if (IntKind.i64.wrap (v2 + (1 : Int))) < (n1.2.2.2.2.2.2.2.2.2.2.2.2.2.1.getD (i0).toNat Z_impl_Peer).2.1 then (IntKind.i64.wrap (v2 + (1 : Int))) else (n1.2.2.2.2.2.2.2.2.2.2.2.2.2.1.getD (i0).toNat Z_impl_Peer).2.1) fun v3 =>
          (letv (n1.2.2.2.2.2.2.2.2.2.2.2.2.2.1.set (i0).toNat ((n1.2.2.2.2.2.2.2.2.2.2.2.2.2.1.getD (i0).toNat Z_impl_Peer).1, (v3, ((n1.2.2.2.2.2.2.2.2.2.2.2.2.2.1.getD (i0).toNat Z_impl_Peer).2.2.1, ((n1.2.2.2.2.2.2.2.2.2.2.2.2.2.1.getD (i0).toNat Z_impl_Peer).2.2.2.1, ()))))) fun l5 =>
           (Option.bind (impl_Node_send.f (l5.getD (i0).toNat Z_impl_Peer) (impl_Node.u13 n1 l5)) fun
            | ((r5, _), (_)) => some ((([r5] : List T_impl_Message), ()), ((impl_Node.u13 n1 l5), ()))))))
        else
        (letv (n1.2.2.2.2.2.2.2.2.2.2.2.2.2.1.set (i0).toNat ((n1.2.2.2.2.2.2.2.2.2.2.2.2.2.1.getD (i0).toNat Z_impl_Peer).1, ((n1.2.2.2.2.2.2.2.2.2.2.2.2.2.1.getD (i0).toNat Z_impl_Peer).2.1, ((n1.2.2.2.2.2.2.2.2.2.2.2.2.2.1.getD (i0).toNat Z_impl_Peer).2.2.1, ((0 : Int), ()))))) fun l6 =>
         (bif (m1.2.2.2.2.1 == n1.2.2.2.2.2.2.1) then
          (letv (l6.set (i0).toNat ((l6.getD (i0).toNat Z_impl_Peer).1, ((l6.getD (i0).toNat Z_impl_Peer).2.1, ((l6.getD (i0).toNat Z_impl_Peer).2.2.1, (m1.2.2.2.2.2.2.1, ()))))) fun l7 =>
           (Option.bind (impl_Node_send.f (l7.getD (i0).toNat Z_impl_Peer) (impl_Node.u13 n1 l7)) fun
            | ((r6, _), (_)) => some ((([r6] : List T_impl_Message), ()), ((impl_Node.u13 n1 l7), ()))))
          else
          (Option.bind (impl_Node_send.f (l6.getD (i0).toNat Z_impl_Peer) (impl_Node.u13 n1 l6)) fun
           | ((r7, _), (_)) => some ((([r7] : List T_impl_Message), ()), ((impl_Node.u13 n1 l6), ())))))))
      else
      none)))))

/-- (*impl.Node).receive -/
noncomputable def impl_Node_receive.P0 : ((Unit × (Unit × Unit)) × (T_impl_Message × (T_impl_Node × Unit))) → Option ((Unit × (Unit × (Bool × Unit))) × (T_impl_Message × (T_impl_Node × Unit))) := fun
  | ((_, _, _), (m0, n0, _)) =>
  (bif (!m0.2.2.2.2.2.2.2.1) then
  some (((), (), true, ()), (m0, n0, ()))
  else
  (bif (m0.2.2.2.1 != n0.2.1) then
   some (((), (), true, ()), (m0, n0, ()))
   else
   some (((), (), (n0.2.2.2.1 != (1 : Int)), ()), (m0, n0, ()))))
noncomputable def impl_Node_receive.P1 : ((Unit × (Unit × (Bool × Unit))) × (T_impl_Message × (T_impl_Node × Unit))) → Option (Unit × (T_impl_Node × Unit)) := fun
  | ((_, _, t81_0, _), (m0, n0, _)) =>
  (bif t81_0 then
  (Option.bind (impl_Node_follow.f m0.2.1 n0) fun
   | ((_), (n1, _)) => some ((), ((impl_Node.u10 (impl_Node.u8 (impl_Node.u5 n1 n0.2.2.2.2.2.1) n0.2.2.2.2.2.2.2.2.1) (0 : Int)), ())))
  else
  some ((), (n0, ())))
noncomputable def impl_Node_receive.P2 : ((Unit × (Unit × (Int × (Bool × Unit)))) × (T_impl_Message × (T_impl_Node × Unit))) → Option ((Unit × (T_impl_Node × Unit)) ⊕ (((List T_impl_Message) × Unit) × (T_impl_Node × Unit))) := fun
  | ((_, _, t6_0, t16_0, _), (m0, n0, _)) =>
  (bif t16_0 then
  (Option.bind (impl_Node_receive.P0 (((), (), ()), (m0, n0, ()))) fun
   | ((_, _, t36_0, _), (m1, n1, _)) => (bif t36_0 then
    some (.inr ((([] : List T_impl_Message), ()), (n1, ())))
    else
    (Option.bind (impl_without.f n1.2.2.2.2.2.2.2.2.2.2.2.2.1 m1.2.1) fun
     | ((r0, _), (_)) => (bif (decide ((r0.length + ([m1.2.1] : List Int).length) * 8 ≤ 140737488355328)) then
      (Option.bind (slices_Sort_int.f (r0 ++ ([m1.2.1] : List Int))) fun
       | ((r1, _), (_)) => (Option.bind (impl_ConfOf.f (impl_Node.u12 n1 r1)) fun
        | ((r2, _), (_)) => (Option.bind (impl_Most.f r2 r1) fun
         | ((r3, _), (_)) => (bif r3 then
          (Option.bind (impl_Node_lead.f (impl_Node.u12 n1 r1)) fun
           | ((r4, _), (n2, _)) => some (.inr ((r4, ()), ((impl_Node.u5 n2 n1.2.2.2.2.2.1), ()))))
          else
          some (.inl ((), ((impl_Node.u12 n1 r1), ())))))))
      else
      none))))
  else
  (bif (t6_0 == (3 : Int)) then
   (Option.bind (impl_Node_askedAppend.f m0 n0) fun
    | ((r5, _), (n3, _)) => some (.inr ((([r5] : List T_impl_Message), ()), ((impl_Node.u5 n3 n0.2.2.2.2.2.1), ()))))
   else
   (bif (t6_0 == (5 : Int)) then
    (Option.bind (impl_Node_receive.P1 (((), (), (m0.2.2.2.1 == n0.2.1), ()), (m0, n0, ()))) fun
     | ((_), (n4, _)) => some (.inl ((), (n4, ()))))
    else
    (Option.bind (impl_Node_heard.f m0 n0) fun
     | ((r6, _), (n5, _)) => some (.inr ((r6, ()), ((impl_Node.u8 (impl_Node.u5 n5 n0.2.2.2.2.2.1) n0.2.2.2.2.2.2.2.2.1), ())))))))
noncomputable def impl_Node_receive.f (m0 : T_impl_Message) (n0 : T_impl_Node) : Option (((List T_impl_Message) × Unit) × (T_impl_Node × Unit)) :=
  (bif (m0.1 == (1 : Int)) then
  (Option.bind (impl_Node_askedVote.f m0 n0) fun
   | ((r0, _), (n1, _)) => some ((([r0] : List T_impl_Message), ()), ((impl_Node.u13 (impl_Node.u12 (impl_Node.u8 (impl_Node.u5 n1 n0.2.2.2.2.2.1) n0.2.2.2.2.2.2.2.2.1) n0.2.2.2.2.2.2.2.2.2.2.2.2.1) n0.2.2.2.2.2.2.2.2.2.2.2.2.2.1), ())))
  else
  (Option.bind (impl_Node_receive.P2 (((), (), m0.1, (m0.1 == (2 : Int)), ()), (m0, n0, ()))) fun
   | (.inl ((_), (n2, _))) => some ((([] : List T_impl_Message), ()), (n2, ()))
   | (.inr ((t4_0, _), (n3, _))) => some ((t4_0, ()), (n3, ()))))

/-- impl.Receive -/
noncomputable def impl_Receive.P0 : ((Unit × (Unit × (Unit × Unit))) × (T_impl_Node × (T_impl_Message × (T_impl_Node × Unit)))) → Option ((Unit × (Unit × (Unit × (Bool × Unit)))) × (T_impl_Node × (T_impl_Message × (T_impl_Node × Unit)))) := fun
  | ((_, _, _, _), (n0, m0, t4_0, _)) =>
  (Option.bind (impl_NodeOk.f n0) fun
  | ((r0, _), (_)) => (bif (!r0) then
   some (((), (), (), true, ()), (n0, m0, t4_0, ()))
   else
   (Option.bind (impl_MessageOk.f m0) fun
    | ((r1, _), (_)) => (bif (!r1) then
     some (((), (), (), true, ()), (n0, m0, t4_0, ()))
     else
     some (((), (), (), (m0.2.2.1 != n0.1), ()), (n0, m0, t4_0, ()))))))
noncomputable def impl_Receive.P1 : ((Unit × (Unit × (Unit × (Bool × Unit)))) × (T_impl_Message × (T_impl_Node × (T_impl_Node × Unit)))) → Option ((Unit × (Unit × (Unit × Unit))) × (T_impl_Message × (T_impl_Node × (T_impl_Node × Unit)))) := fun
  | ((_, _, _, t31_0, _), (m0, t4_0, out0, _)) =>
  (bif t31_0 then
  (Option.bind (impl_Node_follow.f (0 : Int) (impl_Node.u2 (impl_Node.u1 out0 m0.2.2.2.1) (0 : Int))) fun
   | ((_), (out1, _)) => some (((), (), (), ()), (m0, t4_0, (impl_Node.u8 (impl_Node.u5 out1 out0.2.2.2.2.2.1) out0.2.2.2.2.2.2.2.2.1), ())))
  else
  some (((), (), (), ()), (m0, t4_0, out0, ())))
noncomputable def impl_Receive.f (n0 : T_impl_Node) (m0 : T_impl_Message) : Option ((T_impl_Node × ((List T_impl_Message) × (Bool × Unit))) × Unit) :=
  (Option.bind (impl_Receive.P0 (((), (), (), ()), (n0, m0, ((0 : Int), (0 : Int), (0 : Int), (0 : Int), (0 : Int), ([] : List Int), (0 : Int), (0 : Int), ([] : List T_impl_Entry), (0 : Int), (0 : Int), (0 : Int), ([] : List Int), ([] : List T_impl_Peer), ()), ()))) fun
  | ((_, _, _, t23_0, _), (n1, m1, t4_0, _)) => (bif t23_0 then
   some ((((0 : Int), (0 : Int), (0 : Int), (0 : Int), (0 : Int), ([] : List Int), (0 : Int), (0 : Int), ([] : List T_impl_Entry), (0 : Int), (0 : Int), (0 : Int), ([] : List Int), ([] : List T_impl_Peer), ()), ([] : List T_impl_Message), false, ()), ())
   else
   (Option.bind (impl_copyNode.f n1) fun
    | ((r0, _), (_)) => (Option.bind (impl_Receive.P1 (((), (), (), (decide (m1.2.2.2.1 > n1.2.1)), ()), (m1, t4_0, r0, ()))) fun
     | ((_, _, _, _), (m2, t4_1, out0, _)) => (Option.bind (impl_Node_receive.f m2 out0) fun
      | ((r1, _), (out1, _)) => some (((impl_Node.u5 out1 out0.2.2.2.2.2.1), r1, true, ()), ()))))))

/-- spec.DrawPlaces -/
noncomputable def spec_DrawPlaces.S0 : ((Unit × ((List Int) × (Int × Unit))) × (T_spec_l01Cur × Unit)) → Option (((Unit × ((List Int) × (Int × Unit))) × (T_spec_l01Cur × Unit)) ⊕ (((List Int) × Unit) × Unit)) := fun
  | ((_, out0, i0, _), (q0, _)) =>
  (bif (decide (i0 < (12 : Int))) then
  (Option.bind (spec_l01Below.f (10000 : Int) q0) fun
   | ((r0, _), (q1, _)) => (bif (decide ((out0.length + ([r0] : List Int).length) * 8 ≤ 140737488355328)) then
    some (.inl (((), (out0 ++ ([r0] : List Int)), (IntKind.i64.wrap (i0 + (1 : Int))), ()), ((q0.1, q1.2.1, q1.2.2.1, ()), ())))
    else
    none))
  else
  some (.inr ((out0, ()), ())))
noncomputable def spec_DrawPlaces.L0 : ((Unit × ((List Int) × (Int × Unit))) × (T_spec_l01Cur × Unit)) → Option (((List Int) × Unit) × Unit) := lim spec_DrawPlaces.S0
noncomputable def spec_DrawPlaces.f (code0 : (List Int)) : Option (((List Int) × Unit) × Unit) :=
  (Option.bind (spec_l01New.f code0) fun
  | ((_, _), (q0, _)) => (Option.bind (spec_l01Byte.f (code0, q0.2.1, q0.2.2.1, ())) fun
   | ((r0, _), (q1, _)) => (Option.bind (spec_DrawPlaces.L0 (((), ([] : List Int), (0 : Int), ()), ((code0, q1.2.1, q1.2.2.1, ()), ()))) fun
    | ((out0, _), (_)) => some ((out0, ()), ()))))

/-- (*impl.Node).stand -/
noncomputable def impl_Node_stand.S0 : ((Unit × ((List T_impl_Message) × ((List Int) × (Int × (Int × Unit))))) × (T_impl_Node × Unit)) → Option (((Unit × ((List T_impl_Message) × ((List Int) × (Int × (Int × Unit))))) × (T_impl_Node × Unit)) ⊕ (((List T_impl_Message) × Unit) × (T_impl_Node × Unit))) := fun
  | ((_, list0, t54_0, t55_0, t56_0, _), (n0, _)) =>
  (bif (decide (t56_0 < t55_0)) then
  (bif (decide (0 ≤ t56_0) && decide (t56_0 < (t54_0.length : Int))) then
   (Option.bind (impl_Node_message.f (1 : Int) (t54_0.getD (t56_0).toNat (0 : Int)) n0) fun
    | ((r0, _), (_)) => (Option.bind (impl_LogLast.f (n0.2.2.2.2.2.2.1, n0.2.2.2.2.2.2.2.1, n0.2.2.2.2.2.2.2.2.1, ())) fun
     | ((r1, r2, _), (_)) => (bif (decide ((list0.length + ([(impl_Message.u5 (impl_Message.u4 r0 r1) r2)] : List T_impl_Message).length) * 136 ≤ 140737488355328)) then
      some (.inl (((), (list0 ++ ([(impl_Message.u5 (impl_Message.u4 r0 r1) r2)] : List T_impl_Message)), t54_0, t55_0, (IntKind.i64.wrap (t56_0 + (1 : Int))), ()), (n0, ())))
      else
      none)))
   else
   none)
  else
  some (.inr ((list0, ()), (n0, ()))))
noncomputable def impl_Node_stand.L0 : ((Unit × ((List T_impl_Message) × ((List Int) × (Int × (Int × Unit))))) × (T_impl_Node × Unit)) → Option (((List T_impl_Message) × Unit) × (T_impl_Node × Unit)) := lim impl_Node_stand.S0
noncomputable def impl_Node_stand.f (n0 : T_impl_Node) : Option (((List T_impl_Message) × Unit) × (T_impl_Node × Unit)) :=
  (Option.bind (impl_ConfOf.f (n0.1, (IntKind.i64.wrap (n0.2.1 + (1 : Int))), n0.1, (1 : Int), (0 : Int), n0.2.2.2.2.2.1, n0.2.2.2.2.2.2.1, n0.2.2.2.2.2.2.2.1, n0.2.2.2.2.2.2.2.2.1, n0.2.2.2.2.2.2.2.2.2.1, n0.2.2.2.2.2.2.2.2.2.2.1, n0.2.2.2.2.2.2.2.2.2.2.2.1, ([n0.1] : List Int), n0.2.2.2.2.2.2.2.2.2.2.2.2.2.1, ())) fun
  | ((r0, _), (_)) => (Option.bind (impl_Most.f r0 ([n0.1] : List Int)) fun
   | ((r1, _), (_)) => (bif r1 then
    (Option.bind (impl_Node_lead.f (n0.1, (IntKind.i64.wrap (n0.2.1 + (1 : Int))), n0.1, (1 : Int), (0 : Int), n0.2.2.2.2.2.1, n0.2.2.2.2.2.2.1, n0.2.2.2.2.2.2.2.1, n0.2.2.2.2.2.2.2.2.1, n0.2.2.2.2.2.2.2.2.2.1, n0.2.2.2.2.2.2.2.2.2.2.1, n0.2.2.2.2.2.2.2.2.2.2.2.1, ([n0.1] : List Int), n0.2.2.2.2.2.2.2.2.2.2.2.2.2.1, ())) fun
     | ((r2, _), (n1, _)) => some ((r2, ()), ((impl_Node.u5 n1 n0.2.2.2.2.2.1), ())))
    else
    (Option.bind (impl_without.f r0 n0.1) fun
     | ((r3, _), (_)) => (Option.bind (impl_Node_stand.L0 (((), ([] : List T_impl_Message), r3, ((r3.length : Nat) : Int), (0 : Int), ()), ((n0.1, (IntKind.i64.wrap (n0.2.1 + (1 : Int))), n0.1, (1 : Int), (0 : Int), n0.2.2.2.2.2.1, n0.2.2.2.2.2.2.1, n0.2.2.2.2.2.2.2.1, n0.2.2.2.2.2.2.2.2.1, n0.2.2.2.2.2.2.2.2.2.1, n0.2.2.2.2.2.2.2.2.2.2.1, n0.2.2.2.2.2.2.2.2.2.2.2.1, ([n0.1] : List Int), n0.2.2.2.2.2.2.2.2.2.2.2.2.2.1, ()), ()))) fun
      | ((list0, _), (n2, _)) => some ((list0, ()), (n2, ())))))))

/-- impl.Tick -/
noncomputable def impl_Tick.P0 : ((Int × (Unit × (Unit × Unit))) × (T_impl_Node × (T_impl_Node × Unit))) → Option ((Int × (Unit × (Unit × (Bool × Unit)))) × (T_impl_Node × (T_impl_Node × Unit))) := fun
  | ((limit0, _, _, _), (n0, t4_0, _)) =>
  (Option.bind (impl_NodeOk.f n0) fun
  | ((r0, _), (_)) => (bif (!r0) then
   some ((limit0, (), (), true, ()), (n0, t4_0, ()))
   else
   (Option.bind (impl_within.f limit0 (1 : Int) (20 : Int)) fun
    | ((r1, _), (_)) => some ((limit0, (), (), (!r1), ()), (n0, t4_0, ())))))
noncomputable def impl_Tick.P1 : ((Unit × (Unit × (Unit × Unit))) × (T_impl_Node × (T_impl_Node × (T_impl_Node × Unit)))) → Option ((Unit × (Unit × (Bool × Unit))) × (T_impl_Node × (T_impl_Node × Unit))) := fun
  | ((_, _, _, _), (n0, t4_0, out0, _)) =>
  (bif (decide (n0.2.1 ≥ (100000 : Int))) then
  some (((), (), true, ()), (t4_0, out0, ()))
  else
  (Option.bind (impl_ConfOf.f n0) fun
   | ((r0, _), (_)) => (Option.bind (slices_Contains_int.f r0 n0.1) fun
    | ((r1, _), (_)) => some (((), (), (!r1), ()), (t4_0, out0, ())))))
noncomputable def impl_Tick.f (n0 : T_impl_Node) (limit0 : Int) : Option ((T_impl_Node × ((List T_impl_Message) × (Bool × Unit))) × Unit) :=
  (Option.bind (impl_Tick.P0 ((limit0, (), (), ()), (n0, ((0 : Int), (0 : Int), (0 : Int), (0 : Int), (0 : Int), ([] : List Int), (0 : Int), (0 : Int), ([] : List T_impl_Entry), (0 : Int), (0 : Int), (0 : Int), ([] : List Int), ([] : List T_impl_Peer), ()), ()))) fun
  | ((limit1, _, _, t16_0, _), (n1, t4_0, _)) => (bif t16_0 then
   some ((((0 : Int), (0 : Int), (0 : Int), (0 : Int), (0 : Int), ([] : List Int), (0 : Int), (0 : Int), ([] : List T_impl_Entry), (0 : Int), (0 : Int), (0 : Int), ([] : List Int), ([] : List T_impl_Peer), ()), ([] : List T_impl_Message), false, ()), ())
   else
   (Option.bind (impl_copyNode.f n1) fun
    | ((r0, _), (_)) => (bif (n1.2.2.2.1 == (2 : Int)) then
     (Option.bind (impl_Node_sendAll.f r0) fun
      | ((r1, _), (_)) => some ((r0, r1, true, ()), ()))
     else
     (letv (decide ((IntKind.i64.wrap (r0.2.2.2.2.2.2.2.2.2.2.1 + (1 : Int))) < n1.2.2.2.2.2.2.2.2.2.2.2.1)) fun v0 =>
      (bif v0 then
       some (((impl_Node.u10 r0 (IntKind.i64.wrap (r0.2.2.2.2.2.2.2.2.2.2.1 + (1 : Int)))), ([] : List T_impl_Message), true, ()), ())
       else
       (Option.bind (impl_Tick.P1 (((), (), (), ()), (n1, t4_0, (impl_Node.u11 (impl_Node.u10 r0 (0 : Int)) limit1), ()))) fun
        | ((_, _, t48_0, _), (t4_1, out0, _)) => (bif t48_0 then
         some ((out0, ([] : List T_impl_Message), true, ()), ())
         else
         (Option.bind (impl_Node_stand.f out0) fun
          | ((r2, _), (out1, _)) => some (((impl_Node.u5 out1 out0.2.2.2.2.2.1), r2, true, ()), ()))))))))))

/-- laws.FnNodes -/
noncomputable def laws_FnNodes.P0 : ((Unit × (Unit × ((List T_impl_Message) × (Bool × (Unit × (Bool × ((List T_impl_Message) × (Bool × Unit)))))))) × (T_impl_Node × (T_impl_Node × (T_impl_Node × Unit)))) → Option ((Unit × (Unit × (Bool × (Unit × (Bool × Unit))))) × (T_impl_Node × (T_impl_Node × (T_impl_Node × Unit)))) := fun
  | ((_, _, told0, ok0, _, right0, want0, may0, _), (n0, a0, b0, _)) =>
  (bif (!(ok0 == may0)) then
  some (((), (), ok0, (), true, ()), (n0, a0, b0, ()))
  else
  (bif (!right0) then
   some (((), (), ok0, (), true, ()), (n0, a0, b0, ()))
   else
   some (((), (), ok0, (), (((told0.length : Nat) : Int) != ((want0.length : Nat) : Int)), ()), (n0, a0, b0, ()))))
noncomputable def laws_FnNodes.P1 : ((Unit × (Unit × ((List T_impl_Node) × (Bool × Unit)))) × (T_impl_Node × (T_impl_Node × Unit))) → Option ((Unit × ((List T_impl_Node) × Unit)) × (T_impl_Node × Unit)) := fun
  | ((_, _, list0, t70_0, _), (n0, a0, _)) =>
  (bif t70_0 then
  (bif (decide ((list0.length + ([a0] : List T_impl_Node).length) * 176 ≤ 140737488355328)) then
   some (((), (list0 ++ ([a0] : List T_impl_Node)), ()), (n0, ()))
   else
   none)
  else
  some (((), list0, ()), (n0, ())))
noncomputable def laws_FnNodes.P2 : ((Unit × ((List T_impl_Node) × (Int × (Unit × Unit)))) × (T_impl_Node × (T_impl_Node × Unit))) → Option ((Unit × ((List T_impl_Node) × (Int × (Unit × (Bool × Unit))))) × (T_impl_Node × (T_impl_Node × Unit))) := fun
  | ((_, list0, k0, _, _), (n0, x0, _)) =>
  (Option.bind (impl_NodeOk.f x0) fun
  | ((r0, _), (_)) => (bif (!r0) then
   some (((), list0, k0, (), true, ()), (n0, x0, ()))
   else
   (bif (x0.1 != n0.1) then
    some (((), list0, k0, (), true, ()), (n0, x0, ()))
    else
    (bif (decide (x0.2.1 < n0.2.1)) then
     some (((), list0, k0, (), true, ()), (n0, x0, ()))
     else
     (bif (decide (x0.2.2.2.2.2.2.2.2.2.1 < n0.2.2.2.2.2.2.2.2.2.1)) then
      some (((), list0, k0, (), true, ()), (n0, x0, ()))
      else
      (bif (x0.2.1 == n0.2.1) then
       (bif (n0.2.2.1 != (0 : Int)) then
        some (((), list0, k0, (), (x0.2.2.1 != n0.2.2.1), ()), (n0, x0, ()))
        else
        some (((), list0, k0, (), false, ()), (n0, x0, ())))
       else
       some (((), list0, k0, (), false, ()), (n0, x0, ()))))))))
noncomputable def laws_FnNodes.P3 : ((Unit × ((List T_impl_Node) × (Int × (Unit × (Int × Unit))))) × (T_impl_Node × (T_impl_Node × Unit))) → Option ((Unit × ((List T_impl_Node) × (Int × (Unit × (Int × (Bool × Unit)))))) × (T_impl_Node × (T_impl_Node × Unit))) := fun
  | ((_, list0, k0, _, i0, _), (n0, x0, _)) =>
  (letv (decide ((IntKind.i64.wrap ((IntKind.i64.wrap (i0 - x0.2.2.2.2.2.2.1)) - (1 : Int))) ≥ ((x0.2.2.2.2.2.2.2.2.1.length : Nat) : Int))) fun v0 =>
  (bif v0 then
   some (((), list0, k0, (), i0, true, ()), (n0, x0, ()))
   else
   (bif (decide (0 ≤ (IntKind.i64.wrap ((IntKind.i64.wrap (i0 - x0.2.2.2.2.2.2.1)) - (1 : Int)))) && decide ((IntKind.i64.wrap ((IntKind.i64.wrap (i0 - x0.2.2.2.2.2.2.1)) - (1 : Int))) < (x0.2.2.2.2.2.2.2.2.1.length : Int))) then
    (bif (decide (0 ≤ (IntKind.i64.wrap ((IntKind.i64.wrap (i0 - n0.2.2.2.2.2.2.1)) - (1 : Int)))) && decide ((IntKind.i64.wrap ((IntKind.i64.wrap (i0 - n0.2.2.2.2.2.2.1)) - (1 : Int))) < (n0.2.2.2.2.2.2.2.2.1.length : Int))) then
     (letv (!(((x0.2.2.2.2.2.2.2.2.1.getD ((IntKind.i64.wrap ((IntKind.i64.wrap (i0 - x0.2.2.2.2.2.2.1)) - (1 : Int)))).toNat Z_impl_Entry).1 == (n0.2.2.2.2.2.2.2.2.1.getD ((IntKind.i64.wrap ((IntKind.i64.wrap (i0 - n0.2.2.2.2.2.2.1)) - (1 : Int)))).toNat Z_impl_Entry).1) && (((x0.2.2.2.2.2.2.2.2.1.getD ((IntKind.i64.wrap ((IntKind.i64.wrap (i0 - x0.2.2.2.2.2.2.1)) - (1 : Int)))).toNat Z_impl_Entry).2.1 == (n0.2.2.2.2.2.2.2.2.1.getD ((IntKind.i64.wrap ((IntKind.i64.wrap (i0 - n0.2.2.2.2.2.2.1)) - (1 : Int)))).toNat Z_impl_Entry).2.1) && ((((x0.2.2.2.2.2.2.2.2.1.getD ((IntKind.i64.wrap ((IntKind.i64.wrap (i0 - x0.2.2.2.2.2.2.1)) - (1 : Int)))).toNat Z_impl_Entry).2.2.1).toList == ((n0.2.2.2.2.2.2.2.2.1.getD ((IntKind.i64.wrap ((IntKind.i64.wrap (i0 - n0.2.2.2.2.2.2.1)) - (1 : Int)))).toNat Z_impl_Entry).2.2.1).toList) && true)))) fun v1 =>
      some (((), list0, k0, (), i0, v1, ()), (n0, x0, ())))
     else
     none)
    else
    none)))
noncomputable def laws_FnNodes.S4 : ((Unit × ((List T_impl_Node) × (Int × (Unit × (Int × Unit))))) × (T_impl_Node × (T_impl_Node × Unit))) → Option (((Unit × ((List T_impl_Node) × (Int × (Unit × (Int × Unit))))) × (T_impl_Node × (T_impl_Node × Unit))) ⊕ (((Unit × ((List T_impl_Node) × (Int × Unit))) × (T_impl_Node × Unit)) ⊕ ((Bool × Unit) × Unit))) := fun
  | ((_, list0, k0, _, i0, _), (n0, x0, _)) =>
  (bif (decide (i0 ≤ n0.2.2.2.2.2.2.2.2.2.1)) then
  (Option.bind (laws_FnNodes.P3 (((), list0, k0, (), i0, ()), (n0, x0, ()))) fun
   | ((_, list1, k1, _, i1, t173_0, _), (n1, x1, _)) => (bif t173_0 then
    some (.inr (.inr ((false, ()), ())))
    else
    some (.inl (((), list1, k1, (), (IntKind.i64.wrap (i1 + (1 : Int))), ()), (n1, x1, ())))))
  else
  some (.inr (.inl (((), list0, k0, ()), (n0, ())))))
noncomputable def laws_FnNodes.L4 : ((Unit × ((List T_impl_Node) × (Int × (Unit × (Int × Unit))))) × (T_impl_Node × (T_impl_Node × Unit))) → Option (((Unit × ((List T_impl_Node) × (Int × Unit))) × (T_impl_Node × Unit)) ⊕ ((Bool × Unit) × Unit)) := lim laws_FnNodes.S4
noncomputable def laws_FnNodes.S5 : ((Unit × ((List T_impl_Node) × (Int × Unit))) × (T_impl_Node × Unit)) → Option (((Unit × ((List T_impl_Node) × (Int × Unit))) × (T_impl_Node × Unit)) ⊕ ((Unit × Unit) ⊕ ((Bool × Unit) × Unit))) := fun
  | ((_, list0, k0, _), (n0, _)) =>
  (bif (decide (k0 < ((list0.length : Nat) : Int))) then
  (bif (decide (0 ≤ k0) && decide (k0 < (list0.length : Int))) then
   (Option.bind (laws_FnNodes.P2 (((), list0, k0, (), ()), (n0, (list0.getD (k0).toNat Z_impl_Node), ()))) fun
    | ((_, list1, k1, _, t127_0, _), (n1, x0, _)) => (bif t127_0 then
     some (.inr (.inr ((false, ()), ())))
     else
     (Option.bind (laws_FnNodes.L4 (((), list1, k1, (), (IntKind.i64.wrap (n1.2.2.2.2.2.2.1 + (1 : Int))), ()), (n1, x0, ()))) fun
      | (.inl ((_, list2, k2, _), (n2, _))) => some (.inl (((), list2, (IntKind.i64.wrap (k2 + (1 : Int))), ()), (n2, ())))
      | (.inr ((t2_0, _), (_))) => some (.inr (.inr ((t2_0, ()), ()))))))
   else
   none)
  else
  some (.inr (.inl ((), ()))))
noncomputable def laws_FnNodes.L5 : ((Unit × ((List T_impl_Node) × (Int × Unit))) × (T_impl_Node × Unit)) → Option ((Unit × Unit) ⊕ ((Bool × Unit) × Unit)) := lim laws_FnNodes.S5
noncomputable def laws_FnNodes.f (code0 : (List Int)) : Option ((Bool × Unit) × Unit) :=
  (Option.bind (laws_big.f code0) fun
  | ((r0, _), (_)) => (bif r0 then
   some ((true, ()), ())
   else
   (Option.bind (spec_DrawRightNode.f code0) fun
    | ((r1, r2, _), (_)) => (Option.bind (impl_NodeOk.f r1) fun
     | ((r3, _), (_)) => (bif (!r3) then
      some ((false, ()), ())
      else
      (Option.bind (impl_Receive.f r1 r2) fun
       | ((r4, r5, r6, _), (_)) => (Option.bind (spec_DrawPlaces.f code0) fun
        | ((r7, _), (_)) => (bif (decide (0 ≤ (0 : Int)) && decide ((0 : Int) < (r7.length : Int))) then
         (bif ((20 : Int) == 0) then
          none
          else
          (Option.bind (impl_Tick.f r1 (IntKind.i64.wrap ((1 : Int) + (((r7.getD ((0 : Int)).toNat (0 : Int))).tmod (20 : Int))))) fun
           | ((r8, r9, r10, _), (_)) => (Option.bind (spec_Receive.f r1 r2) fun
            | ((r11, r12, r13, _), (_)) => (Option.bind (laws_FnNodes.P0 (((), (), r5, r6, (), r10, r12, r13, ()), (r1, r4, r8, ()))) fun
             | ((_, _, ok0, _, t67_0, _), (n0, a0, b0, _)) => (bif t67_0 then
              some ((false, ()), ())
              else
              (Option.bind (laws_FnNodes.P1 (((), (), ([b0] : List T_impl_Node), ok0, ()), (n0, a0, ()))) fun
               | ((_, list0, _), (n1, _)) => (Option.bind (laws_FnNodes.L5 (((), list0, (0 : Int), ()), (n1, ()))) fun
                | (.inl ((_), (_))) => some ((true, ()), ())
                | (.inr ((t2_0, _), (_))) => some ((t2_0, ()), ()))))))))
         else
         none))))))))

end Go.Proofs.YtnnnpppodblblaaGreat.Pu
