/-
  Several texts in one: The table of the program's types, as a list. No condition. .. The arguments of a law, whatever their shape, as values without addresses. No condition.
-/
import Derived.Test.YtjmbpjlojjgggaaGreatDoorProg
import Derived.Test.YtjmbpjlojjgggaaGreatDoorRows
import Derived.ProofKit
import Derived.SizedLaws
import Derived.Deep.SlicePairs
import Derived.Lib.SmallJoins
import Derived.Test.YtjmbpjlojjgggaaGreatDoorMD
import Derived.Test.YtjmbpjlojjgggaaGreatDoorMA
set_option maxRecDepth 100000
namespace Go.Proofs.YtjmbpjlojjgggaaGreatDoor
open Go.Ab
abbrev bq:TI:=⟨[],none,some false,some 1,some 8,none,none,none,some [.c .nilFunc],true,none⟩
abbrev y9:TI:=⟨[],none,some false,some 1,some 8,none,none,none,some [.c (.pointer none)],true,(some 1000002)⟩
abbrev MQ:TI:=⟨[some 0,some 1],(some [(0,1),(1,1)]),some true,some 2,some 16,none,none,none,some [.i 0,.i 0],true,none⟩
abbrev MR:TI:=⟨[some 0,some 1],(some [(0,1),(1,1)]),some true,some 2,some 16,none,none,none,some [.i 0,.i 0],true,(some 2000004)⟩
abbrev Ph:TI:=⟨[],none,some false,some 1,some 1,none,none,(some .u8),some [.c (.int .u8 0)],true,none⟩
abbrev Pj:TI:=⟨[some 0,some 1,some 2],(some [(0,1),(1,1),(2,1)]),some true,some 3,some 56,none,none,none,some [.nil,.nil,.i 0],true,none⟩
abbrev Qb:TI:=⟨[],none,some false,some 1,some 8,none,none,(some .i64),some [.i 0],true,none⟩
abbrev Qc:TI:=⟨[],none,some false,some 1,some 16,none,none,none,some [.c (.string ⟨#[]⟩)],true,(some 1000001)⟩
abbrev Qd:TI:=⟨[],none,some false,some 1,some 4,none,none,(some .i32),some [.c (.int .i32 0)],true,none⟩
abbrev Qe:TI:=⟨[some 0,some 1,some 2],(some [(0,1),(1,1),(2,1)]),some true,some 3,some 24,none,none,none,some [.i 0,.i 0,.i 0],true,none⟩
abbrev MP:TI:=⟨[some 0,some 1,some 2],(some [(0,1),(1,1),(2,1)]),some true,some 3,some 24,none,none,none,some [.i 0,.i 0,.i 0],true,(some 2000008)⟩
abbrev Oq:TI:=⟨[],none,some false,some 1,some 8,none,none,(some .u64),some [.c (.int .u64 0)],true,none⟩
abbrev Ot:TI:=⟨[some 0,some 1],(some [(0,1),(1,1)]),some true,some 2,some 24,none,none,none,some [.c (.string ⟨#[]⟩),.c (.int .u64 0)],true,none⟩
abbrev Ou:TI:=⟨[some 0],(some [(0,1)]),some true,some 1,some 8,none,none,none,some [.c (.pointer none)],true,none⟩
abbrev Ov:TI:=⟨[some 0,some 1,some 2,some 3,some 4,some 5,some 6],(some [(0,1),(1,1),(2,1),(3,1),(4,1),(5,1),(6,1)]),some true,some 7,some 56,none,none,none,some [.i 0,.i 0,.i 0,.i 0,.i 0,.i 0,.i 0],true,none⟩
abbrev Ow:TI:=⟨[some 0,some 1,some 2,some 3,some 4,some 5,some 6],(some [(0,1),(1,1),(2,1),(3,1),(4,1),(5,1),(6,1)]),some true,some 7,some 56,none,none,none,some [.i 0,.i 0,.i 0,.i 0,.i 0,.i 0,.i 0],true,(some 2000128)⟩
abbrev Ox:TI:=⟨[some 0,some 1,some 2,some 3,some 4,some 5,some 6],(some [(0,1),(1,1),(2,1),(3,1),(4,1),(5,1),(6,1)]),some true,some 7,some 56,none,none,none,some [.i 0,.i 0,.i 0,.i 0,.i 0,.i 0,.c (.bool false)],true,none⟩
abbrev Oy:TI:=⟨[some 0,some 1,some 2,some 3,some 4,some 5,some 6],(some [(0,1),(1,1),(2,1),(3,1),(4,1),(5,1),(6,1)]),some true,some 7,some 56,none,none,none,some [.i 0,.i 0,.i 0,.i 0,.i 0,.i 0,.c (.bool false)],true,(some 2000192)⟩
abbrev Oz:TI:=⟨[some 0],(some [(0,1)]),some true,some 1,some 24,none,none,none,some [.nil],true,none⟩
abbrev OA:TI:=⟨[some 0,some 1,some 14,some 15,some 16,some 17],(some [(0,1),(1,13),(14,1),(15,1),(16,1),(17,1)]),some true,some 18,some 208,none,none,none,some [.c (.bool false),.i 0,.i 0,.i 0,.i 0,.i 0,.i 0,.i 0,.i 0,.i 0,.i 0,.i 0,.i 0,.i 0,.nil,.nil,.nil,.nil],true,none⟩
abbrev OB:TI:=⟨[some 0,some 7],(some [(0,7),(7,1)]),some true,some 8,some 64,none,none,none,some [.i 0,.i 0,.i 0,.i 0,.i 0,.i 0,.c (.bool false),.c (.map none)],true,none⟩
abbrev OC:TI:=⟨[some 0,some 1],(some [(0,1),(1,1)]),some true,some 2,some 48,none,none,none,some [.nil,.nil],true,none⟩
abbrev OD:TI:=⟨[],none,some false,some 1,some 24,(some 4),none,none,some [.nil],true,none⟩
abbrev OE:TI:=⟨[some 0,some 2],(some [(0,2),(2,1)]),some true,some 3,some 40,none,none,none,some [.i 0,.i 0,.nil],true,none⟩
abbrev OG:TI:=⟨[some 0,some 1,some 2],(some [(0,1),(1,1),(2,1)]),some true,some 3,some 72,none,none,none,some [.nil,.nil,.nil],true,none⟩
abbrev OH:TI:=⟨[some 0,some 1,some 2,some 3,some 4,some 5,some 6,some 7],(some [(0,1),(1,1),(2,1),(3,1),(4,1),(5,1),(6,1),(7,1)]),some true,some 8,some 72,none,none,none,some [.c (.string ⟨#[]⟩),.i 0,.i 0,.i 0,.i 0,.i 0,.i 0,.i 0],true,none⟩
abbrev OI:TI:=⟨[some 0,some 7,some 8,some 9],(some [(0,7),(7,1),(8,1),(9,1)]),some true,some 10,some 96,none,none,none,some [.i 0,.i 0,.i 0,.i 0,.i 0,.i 0,.i 0,.nil,.i 0,.i 0],true,none⟩
abbrev OJ:TI:=⟨[some 0,some 1,some 2],(some [(0,1),(1,1),(2,1)]),some true,some 3,some 24,none,none,none,some [.c (.pointer none),.c (.pointer none),.c (.pointer none)],true,none⟩
abbrev OK:TI:=⟨[some 0,some 6,some 7],(some [(0,6),(6,1),(7,1)]),some true,some 8,some 80,none,none,none,some [.i 0,.i 0,.i 0,.i 0,.i 0,.i 0,.nil,.i 0],true,none⟩
abbrev OL:TI:=⟨[some 0,some 1],(some [(0,1),(1,1)]),some true,some 2,some 40,none,none,none,some [.c (.string ⟨#[]⟩),.nil],true,none⟩
abbrev OM:TI:=⟨[],(some []),some true,some 0,some 0,none,none,none,some [],true,(some 2000001)⟩
abbrev ON:TI:=⟨[],none,some true,some 2601,some 20808,none,(some (51,301)),none,some (List.replicate 2601 (.i 0)),true,none⟩
abbrev OO:TI:=⟨[some 0,some 1,some 2],(some [(0,1),(1,1),(2,1)]),some true,some 3,some 24,none,none,none,some [.c (.pointer none),.i 0,.i 0],true,none⟩
abbrev OP:TI:=⟨[some 0,some 8],(some [(0,8),(8,1)]),some true,some 9,some 96,none,none,none,some [.c (.string ⟨#[]⟩),.i 0,.i 0,.i 0,.i 0,.i 0,.i 0,.i 0,.nil],true,none⟩
abbrev OQ:TI:=⟨[some 0,some 9,some 18],(some [(0,9),(9,9),(18,3)]),some true,some 21,some 200,none,none,none,some [.i 0,.i 0,.i 0,.i 0,.i 0,.i 0,.i 0,.i 0,.i 0,.i 0,.i 0,.i 0,.i 0,.i 0,.i 0,.i 0,.i 0,.i 0,.nil,.nil,.i 0],true,none⟩
abbrev OR:TI:=⟨[],none,some true,some 256,some 256,none,(some (256,4)),none,some (List.replicate 256 (.c (.bool false))),true,none⟩
abbrev OS:TI:=⟨[some 0,some 1,some 2,some 3],(some [(0,1),(1,1),(2,1),(3,1)]),some true,some 4,some 40,none,none,none,some [.c (.pointer none),.c (.pointer none),.c (.pointer none),.c (.string ⟨#[]⟩)],true,none⟩
abbrev OT:TI:=⟨[none],(some [(0,0)]),some true,some 0,some 0,none,none,none,some [],true,none⟩
abbrev OU:TI:=⟨[some 0,some 1,some 2,some 3,some 4,some 5,some 6,some 7,some 8,some 9,some 10],(some [(0,1),(1,1),(2,1),(3,1),(4,1),(5,1),(6,1),(7,1),(8,1),(9,1),(10,1)]),some true,some 11,some 48,none,none,none,some [.c (.int .u64 0),.c (.int .u64 0),.c (.int .u32 0),.c (.int .u8 0),.c (.int .u8 0),.c (.int .u8 0),.c (.int .u8 0),.c .nilFunc,.c (.pointer none),.c (.int .i32 0),.c (.int .i32 0)],true,none⟩
def TT:List TI:=[
bE,bq,Qb,Qb,⟨[],none,some false,some 1,some 1,none,none,none,some [.c (.bool false)],true,(some 1000000)⟩,Ph,Ph,⟨[some 0,some 1,some 2,some 3],(some [(0,1),(1,1),(2,1),(3,1)]),some true,some 4,some 24,none,none,none,some [.i 0,.i 0,.c (.bool false),.c (.int .u8 0)],true,none⟩,⟨[some 0,some 1,some 2,some 3],(some [(0,1),(1,1),(2,1),(3,1)]),some true,some 4,some 24,none,none,none,some [.i 0,.i 0,.c (.bool false),.c (.int .u8 0)],true,(some 2000020)⟩,Qc,Qc,Qc,Oq,Ot,Ot,y9,y9,y9,Ou,Ou,bE,Qd,Ov,Ow,⟨[],none,some false,some 1,some 24,(some 45),none,none,some [.nil],true,none⟩,⟨[],none,some false,some 1,some 4,none,none,(some .u32),some [.c (.int .u32 0)],true,none⟩,⟨[],none,some false,some 1,some 2,none,none,(some .u16),some [.c (.int .u16 0)],true,none⟩,Qb,bq,bq,y9,bE,bq,⟨[],none,some true,some 4,some 32,none,(some (4,2)),none,some [.i 0,.i 0,.i 0,.i 0],true,none⟩,⟨[some 0,some 4,some 8,some 9,some 10,some 11,some 12],(some [(0,4),(4,4),(8,1),(9,1),(10,1),(11,1),(12,1)]),some true,some 13,some 104,none,none,none,some [.i 0,.i 0,.i 0,.i 0,.i 0,.i 0,.i 0,.i 0,.i 0,.i 0,.i 0,.i 0,.i 0],true,none⟩,⟨[some 0,some 4,some 8,some 9,some 10,some 11,some 12],(some [(0,4),(4,4),(8,1),(9,1),(10,1),(11,1),(12,1)]),some true,some 13,some 104,none,none,none,some [.i 0,.i 0,.i 0,.i 0,.i 0,.i 0,.i 0,.i 0,.i 0,.i 0,.i 0,.i 0,.i 0],true,(some 2008192)⟩,bE,bq,⟨[],none,some true,some 2,some 16,none,(some (2,2)),none,some [.i 0,.i 0],true,none⟩,⟨[some 0,some 1,some 2,some 3,some 4,some 5,some 6,some 7,some 9,some 10,some 11,some 12],(some [(0,1),(1,1),(2,1),(3,1),(4,1),(5,1),(6,1),(7,2),(9,1),(10,1),(11,1),(12,1)]),some true,some 13,some 104,none,none,none,some [.i 0,.i 0,.i 0,.i 0,.i 0,.i 0,.i 0,.i 0,.i 0,.i 0,.i 0,.i 0,.i 0],true,none⟩,⟨[some 0,some 1,some 2,some 3,some 4,some 5,some 6,some 7,some 9,some 10,some 11,some 12],(some [(0,1),(1,1),(2,1),(3,1),(4,1),(5,1),(6,1),(7,2),(9,1),(10,1),(11,1),(12,1)]),some true,some 13,some 104,none,none,none,some [.i 0,.i 0,.i 0,.i 0,.i 0,.i 0,.i 0,.i 0,.i 0,.i 0,.i 0,.i 0,.i 0],true,(some 2008192)⟩,⟨[],none,some false,some 1,some 24,(some 2),none,none,some [.nil],true,none⟩,⟨[],none,some false,some 1,some 24,(some 47),none,none,some [.nil],true,none⟩,bE,bq,⟨[],none,some false,some 1,some 24,(some 129),none,none,some [.nil],true,none⟩,MQ,MR,⟨[],none,some false,some 1,some 24,(some 51),none,none,some [.nil],true,none⟩,bq,Ox,Oy,⟨[],none,some false,some 1,some 24,(some 55),none,none,some [.nil],true,none⟩,bq,⟨[some 0,some 1,some 2,some 3],(some [(0,1),(1,1),(2,1),(3,1)]),some true,some 4,some 32,none,none,none,some [.i 0,.i 0,.i 0,.i 0],true,none⟩,⟨[some 0,some 1,some 2,some 3],(some [(0,1),(1,1),(2,1),(3,1)]),some true,some 4,some 32,none,none,none,some [.i 0,.i 0,.i 0,.i 0],true,(some 2000016)⟩,bq,⟨[],none,some false,some 1,some 24,(some 40),none,none,some [.nil],true,none⟩,Oz,Oz,bq,bq,bE,bq,bE,bq,bq,⟨[],none,some false,some 1,some 24,(some 42),none,none,some [.nil],true,none⟩,bq,⟨[],none,some false,some 1,some 24,(some 3),none,none,some [.nil],true,none⟩,bE,bq,bq,bq,⟨[some 0,some 1,some 2,some 3,some 4,some 5],(some [(0,1),(1,1),(2,1),(3,1),(4,1),(5,1)]),some true,some 6,some 48,none,none,none,some [.i 0,.i 0,.i 0,.i 0,.i 0,.i 0],true,none⟩,⟨[some 0,some 1,some 2,some 3,some 4,some 5],(some [(0,1),(1,1),(2,1),(3,1),(4,1),(5,1)]),some true,some 6,some 48,none,none,none,some [.i 0,.i 0,.i 0,.i 0,.i 0,.i 0],true,(some 2000064)⟩,⟨[],none,some true,some 2,some 2,none,(some (2,5)),none,some [.c (.int .u8 0),.c (.int .u8 0)],true,none⟩,bE,bq,bE,bq,bE,bq,bq,bq,⟨[],none,some false,some 1,some 24,(some 166),none,none,some [.nil],true,none⟩,bE,bq,bq,bq,⟨[],none,some false,some 1,some 24,(some 76),none,none,some [.nil],true,none⟩,⟨[],none,some false,some 1,some 24,(some 98),none,none,some [.nil],true,none⟩,bE,bq,⟨[],none,some false,some 1,some 24,(some 104),none,none,some [.nil],true,none⟩,bq,bq,MQ,MR,bq,MQ,MR,bq,Ox,Oy,bq,bq,bq,⟨[],none,some false,some 1,some 24,(some 111),none,none,some [.nil],true,none⟩,bq,⟨[some 0,some 1],(some [(0,1),(1,1)]),some true,some 2,some 16,none,none,none,some [.i 0,.c (.bool false)],true,none⟩,⟨[some 0,some 1],(some [(0,1),(1,1)]),some true,some 2,some 16,none,none,none,some [.i 0,.c (.bool false)],true,(some 2000006)⟩,⟨[],none,some false,some 1,some 24,(some 101),none,none,some [.nil],true,none⟩,bE,bq,bq,bE,bq,bq,bq,⟨[],none,some false,some 1,some 24,(some 131),none,none,some [.nil],true,none⟩,⟨[],none,some false,some 1,some 24,(some 149),none,none,some [.nil],true,none⟩,OA,OA,bq,bq,⟨[],none,some true,some 7,some 56,none,(some (7,125)),none,some [.c .nilFunc,.c .nilFunc,.c .nilFunc,.c .nilFunc,.c .nilFunc,.c .nilFunc,.c .nilFunc],true,none⟩,bq,MQ,MR,bq,y9,⟨[],none,some false,some 1,some 8,none,none,none,some [.c (.map none)],true,(some 1000325)⟩,OB,OB,bq,y9,bE,bq,bq,bq,bE,bq,bq,bq,bq,bq,bq,MQ,MR,y9,bE,bq,⟨[],none,some false,some 1,some 24,(some 233),none,none,some [.nil],true,none⟩,OC,OC,bq,⟨[],(some []),some true,some 0,some 0,none,none,none,some [],true,none⟩,bE,bq,bq,bq,bE,bq,bq,Qe,MP,⟨[],none,some true,some 4,some 32,none,(some (4,3)),none,some [.i 0,.i 0,.i 0,.i 0],true,none⟩,bq,bq,bq,bq,bq,bq,⟨[some 0,some 1,some 2,some 3,some 4,some 5,some 6,some 7,some 8],(some [(0,1),(1,1),(2,1),(3,1),(4,1),(5,1),(6,1),(7,1),(8,1)]),some true,some 9,some 72,none,none,none,some [.i 0,.i 0,.i 0,.i 0,.i 0,.i 0,.i 0,.i 0,.i 0],true,none⟩,⟨[some 0,some 1,some 2,some 3,some 4,some 5,some 6,some 7,some 8],(some [(0,1),(1,1),(2,1),(3,1),(4,1),(5,1),(6,1),(7,1),(8,1)]),some true,some 9,some 72,none,none,none,some [.i 0,.i 0,.i 0,.i 0,.i 0,.i 0,.i 0,.i 0,.i 0],true,(some 2000512)⟩,bq,bq,y9,bE,bq,bq,bq,bq,OD,OD,OE,OE,OG,OG,⟨[],none,some false,some 1,some 24,(some 187),none,none,some [.nil],true,none⟩,bE,bq,bq,bq,bq,bq,bq,bq,bq,OH,OH,Qe,MP,bq,⟨[],none,some true,some 3,some 24,none,(some (3,2)),none,some [.i 0,.i 0,.i 0],true,none⟩,bq,bq,bq,Qe,MP,bq,y9,⟨[],none,some true,some 21,some 168,none,(some (7,205)),none,some [.i 0,.i 0,.i 0,.i 0,.i 0,.i 0,.i 0,.i 0,.i 0,.i 0,.i 0,.i 0,.i 0,.i 0,.i 0,.i 0,.i 0,.i 0,.i 0,.i 0,.i 0],true,none⟩,bq,OI,OI,bq,bq,bq,bq,y9,OJ,OJ,bq,bq,bq,bq,bq,OK,OK,⟨[],none,some false,some 1,some 24,(some 235),none,none,some [.nil],true,none⟩,MQ,MR,⟨[some 0,some 2,some 3,some 4],(some [(0,2),(2,1),(3,1),(4,1)]),some true,some 5,some 40,none,none,none,some [.i 0,.i 0,.i 0,.i 0,.i 0],true,none⟩,⟨[some 0,some 2,some 3,some 4],(some [(0,2),(2,1),(3,1),(4,1)]),some true,some 5,some 40,none,none,none,some [.i 0,.i 0,.i 0,.i 0,.i 0],true,(some 2000032)⟩,bE,bq,bq,bq,bq,bq,bq,bq,bq,bq,bq,bq,⟨[some 0,some 1,some 2,some 3,some 4],(some [(0,1),(1,1),(2,1),(3,1),(4,1)]),some true,some 5,some 40,none,none,none,some [.i 0,.i 0,.i 0,.i 0,.i 0],true,none⟩,⟨[some 0,some 1,some 2,some 3,some 4],(some [(0,1),(1,1),(2,1),(3,1),(4,1)]),some true,some 5,some 40,none,none,none,some [.i 0,.i 0,.i 0,.i 0,.i 0],true,(some 2000032)⟩,bq,y9,bq,bq,bq,bq,bq,bE,bq,bq,bq,y9,bE,bq,⟨[],none,some false,some 1,some 24,(some 203),none,none,some [.nil],true,none⟩,bq,bq,Pj,Pj,bE,bq,OL,OL,⟨[],none,some false,some 1,some 24,(some 272),none,none,some [.nil],true,none⟩,Ov,Ow,⟨[],none,some false,some 1,some 24,(some 275),none,none,some [.nil],true,none⟩,⟨[],none,some false,some 1,some 24,(some 205),none,none,some [.nil],true,none⟩,bq,bq,bq,bq,bq,bq,⟨[],none,some true,some 6,some 48,none,(some (6,282)),none,some [.c .nilFunc,.c .nilFunc,.c .nilFunc,.c .nilFunc,.c .nilFunc,.c .nilFunc],true,none⟩,bE,bE,bq,bq,OM,OM,bq,bq,bq,bq,bq,bq,bq,bq,⟨[],none,some true,some 2,some 16,none,(some (2,3)),none,some [.i 0,.i 0],true,none⟩,bq,⟨[],none,some true,some 51,some 408,none,(some (51,2)),none,some [.i 0,.i 0,.i 0,.i 0,.i 0,.i 0,.i 0,.i 0,.i 0,.i 0,.i 0,.i 0,.i 0,.i 0,.i 0,.i 0,.i 0,.i 0,.i 0,.i 0,.i 0,.i 0,.i 0,.i 0,.i 0,.i 0,.i 0,.i 0,.i 0,.i 0,.i 0,.i 0,.i 0,.i 0,.i 0,.i 0,.i 0,.i 0,.i 0,.i 0,.i 0,.i 0,.i 0,.i 0,.i 0,.i 0,.i 0,.i 0,.i 0,.i 0,.i 0],true,none⟩,ON,ON,OO,OO,bq,bq,Oq,bq,bq,OP,OP,bq,⟨[],none,some false,some 1,some 24,(some 268),none,none,some [.nil],true,none⟩,y9,bE,bq,⟨[],none,some false,some 1,some 24,(some 322),none,none,some [.nil],true,none⟩,Pj,Pj,⟨[some 0,some 7,some 8,some 9],(some [(0,7),(7,1),(8,1),(9,1)]),some true,some 10,some 80,none,none,none,some [.i 0,.i 0,.i 0,.i 0,.i 0,.i 0,.i 0,.i 0,.i 0,.i 0],true,none⟩,⟨[some 0,some 7,some 8,some 9],(some [(0,7),(7,1),(8,1),(9,1)]),some true,some 10,some 80,none,none,none,some [.i 0,.i 0,.i 0,.i 0,.i 0,.i 0,.i 0,.i 0,.i 0,.i 0],true,(some 2001024)⟩,bq,bq,bq,bq,bq,bq,bq,bq,bq,bq,bq,bq,MQ,MR,bq,bq,⟨[],none,some false,some 1,some 24,(some 5),none,none,some [.nil],true,none⟩,bq,y9,⟨[],none,some true,some 8,some 64,none,(some (8,2)),none,some [.i 0,.i 0,.i 0,.i 0,.i 0,.i 0,.i 0,.i 0],true,none⟩,⟨[some 0,some 8],(some [(0,8),(8,1)]),some true,some 9,some 72,none,none,none,some [.i 0,.i 0,.i 0,.i 0,.i 0,.i 0,.i 0,.i 0,.i 0],true,none⟩,⟨[some 0,some 8],(some [(0,8),(8,1)]),some true,some 9,some 72,none,none,none,some [.i 0,.i 0,.i 0,.i 0,.i 0,.i 0,.i 0,.i 0,.i 0],true,(some 2000512)⟩,OQ,OQ,bq,⟨[],none,some false,some 1,some 8,none,none,none,some [.c (.map none)],true,(some 1000016)⟩,bq,bq,bq,y9,bq,bq,OR,OR,bE,bq,bq,y9,bq,bE,bq,bq,bq,⟨[],none,some true,some 256,some 256,none,(some (256,5)),none,some (List.replicate 256 (.c (.int .u8 0))),true,none⟩,⟨[some 0,some 1],(some [(0,1),(1,1)]),some true,some 2,some 2,none,none,none,some [.c (.int .u8 0),.c (.int .u8 0)],true,none⟩,⟨[some 0,some 1],(some [(0,1),(1,1)]),some true,some 2,some 2,none,none,none,some [.c (.int .u8 0),.c (.int .u8 0)],true,(some 2000004)⟩,⟨[],none,some true,some 32,some 32,none,(some (16,368)),none,some [.c (.int .u8 0),.c (.int .u8 0),.c (.int .u8 0),.c (.int .u8 0),.c (.int .u8 0),.c (.int .u8 0),.c (.int .u8 0),.c (.int .u8 0),.c (.int .u8 0),.c (.int .u8 0),.c (.int .u8 0),.c (.int .u8 0),.c (.int .u8 0),.c (.int .u8 0),.c (.int .u8 0),.c (.int .u8 0),.c (.int .u8 0),.c (.int .u8 0),.c (.int .u8 0),.c (.int .u8 0),.c (.int .u8 0),.c (.int .u8 0),.c (.int .u8 0),.c (.int .u8 0),.c (.int .u8 0),.c (.int .u8 0),.c (.int .u8 0),.c (.int .u8 0),.c (.int .u8 0),.c (.int .u8 0),.c (.int .u8 0),.c (.int .u8 0)],true,none⟩,bq,bq,bq,bq,bq,OS,OS,⟨[],none,some true,some 0,some 0,none,(some (0,16)),none,some [],true,none⟩,OT,OT,bq,Ph,Ph,bq,y9,Qd,Qd,OU,OU,bq,bE,bq,bq,bq]
theorem aj:aK TT Tryz.prog:=⟨⟨[0,20,31,36,43,62,64,70,77,79,81,86,92,113,116,137,141,151,158,162,179,191,236,257,262,269,285,286,316,357,362,390],kR⟩,kR⟩
theorem bX:Tryz.prog.follows .mixedOrders=true:=by kernel_rfl
end Go.Proofs.YtjmbpjlojjgggaaGreatDoor

namespace Go.Dw
open Go.RowKit Go.ChangeShapes Go.WideShapes Go.ChangeAt Go.Deep
section
variable {H:Type}{enc:TypeId×Value->H}{P:Program}
theorem mA(hl:laidOutB P=true){W W':World}(hb:Below W.heap.size W W'):∀ {ts:List TypeId}{vs:List Value}{ds:List (DataW H)}{ps:List MemPlace}
 (_:ts.all (fun t=>P.readableRec t && decide (t< P.types.size))=true) (_:DataW.TrodAll enc P W 0 (fun _=>true) true ts vs ds ps) (_:∀x∈ps,x.block< W.heap.size),
 DataW.TrodAll enc P W' 0 (fun b=>decide (b< W.heap.size)) true ts vs ds ps
 | [],_,_,_,_,h,_=>by obtain⟨rfl,rfl,rfl⟩:=trodAll_nil h;exact rfl
 |t::ts,_,_,_,ht,h,hlt=>by obtain⟨v,vs1,d,ds1,a,b,rfl,rfl,rfl,h1,h2⟩:=trodAll_cons h;simp only [List.all_cons,Bool.and_eq_true,decide_eq_true_eq]at ht;exact trodAll_cons_mk (Below.trod hl ht.1.1 ht.1.2 h1 hb (fun x hx=>hlt x (by simp [hx]))) (mA hl hb ht.2 h2 (fun x hx=>hlt x (by simp [hx])))
theorem D2{f:Func}{s:ChangeSpec}{W W':World}{args:Array Value}{ds:List (DataW H)}{before:List MemPlace}{tb:TypeId} (hv:s.vars=[]) (hW:DataW.Whole enc P f.params.toList s.vars false W args.toList ds [] before) (hl:laidOutB P=true) (hrec:f.params.toList.all (fun t=>P.readableRec t && decide (t< P.types.size))=true) (hfn:s.fn H ds={results:=[.lit (.bool true)],args:=ds}) (hres:f.resultTypes= #[tb]) (htb:P.underlying tb=some .bool) (hb:Below W.heap.size W W') : s.post enc P f false true false false W args (.bool true) W':=by
 have hlt:=hW.lt;have hW':=hW;obtain⟨p,q,hA,hV,rfl,hfz,hnd⟩:=hW;rw [hv]at hV;obtain⟨_,rfl⟩:=trodVars_none hV;refine⟨ds,[],_,[],p,[],hW',?_,?_,?_,hb.frame _,fun h=>by cases h⟩;·rw [List.append_nil,hfn,hres];exact trodAll_mk1 (shut_bool htb true)
 ·rw [List.append_nil,hfn];exact mA hl hb hrec hA (fun x hx=>hlt x (by simp [hx]))
 ·rw [List.append_nil,hfn,hv];exact rfl
theorem Fk{w:World}{p:Addr}{v:Value}(h:w.cell? p=some v):p.block< w.heap.size:=by
 rcases Nat.lt_or_ge p.block w.heap.size with h1 |h1;·exact h1
 ·have:w.heap[p.block]?=none:=by simp [h1]
  unfold World.cell? at h;simp [this]at h
end
end Go.Dw
namespace Go.Proofs.YtjmbpjlojjgggaaGreatDoor
open Go.ChangeShapes Go.WideShapes Go.ChangeAt Go.RowKit Go.Dw
theorem wf_i64{x:Int}(h:(Lit.int .i64 x).wf=true): -9223372036854775808<=x/\x<=9223372036854775807:=by simp [Lit.wf,IntKind.min,IntKind.max,IntKind.signed,IntKind.bits]at h;omega
theorem wf_u8{x:Int}(h:(Lit.int .u8 x).wf=true):0<=x/\x<=255:=by simp [Lit.wf,IntKind.min,IntKind.max,IntKind.signed,IntKind.bits]at h;omega
theorem Tryz.own:ownKnob Tryz.prog.godebug=none:=by kernel_rfl
theorem Tryz.laidOut:laidOutB Tryz.prog=true:=by kernel_rfl
end Go.Proofs.YtjmbpjlojjgggaaGreatDoor

namespace Go.Dw
open Go.RowKit Go.ChangeShapes Go.WideShapes Go.ChangeAt Go.Deep
section
variable {H:Type}{enc:TypeId×Value->H}{P:Program}{w:World}{base:Nat}{spare:Nat->Bool}{held:Bool}
end
end Go.Dw

namespace Go.Ab
open Go.RowKit Go.Dw Go.ChangeShapes Go.WideShapes Go.ChangeAt Go.Deep
inductive Sh where
  |int (k:IntKind)
  |bool
  |str
  |sl (s:Sh)
  |arr (n:Nat) (s:Sh)
  |fI (s r:Sh)
  |lst (s:Sh)
@[reducible] def Sh.T:Sh->Type
 | .int _=>Int
 | .bool=>Bool
 | .str=>List UInt8
 | .sl s=>List s.T
 | .arr _ s=>List s.T
 | .fI s r=>s.T×r.T
 | .lst s=>s.T
def Sh.dflt:(s:Sh)->s.T
 | .int _=>(0:Int)
 | .bool=>false
 | .str=>([]:List UInt8)
 | .sl _=>[]
 | .arr _ _=>[]
 | .fI s r=>(s.dflt,r.dflt)
 | .lst s=>s.dflt
def Sh.size:Sh->Nat
 | .arr n s=>n*s.size
 | .fI s r=>s.size+r.size
 | .lst s=>s.size
 |_=>1
def Sh.cells:(s:Sh)->s.T->List V
 | .int k,x=>[.c (.int k x)]
 | .bool,x=>[.c (.bool x)]
 | .str,x=>[.c (.string ⟨⟨x⟩⟩)]
 | .sl s,l=>[.sl s.size l.length fun i=>s.cells (l.getD i s.dflt)]
 | .arr _ s,l=>l.flatMap s.cells
 | .fI s r,x=>s.cells x.1++r.cells x.2
 | .lst s,x=>s.cells x
def Sh.wf:(s:Sh)->s.T->Prop
 | .int k,x=>(Lit.int k x).wf=true
 | .bool,_=>True
 | .str,x=>x.length<=maxLen
 | .sl s,l=>l.length<=4611686018427387904/\∀x∈l,s.wf x
 | .arr n s,l=>l.length=n/\∀x∈l,s.wf x
 | .fI s r,x=>s.wf x.1/\r.wf x.2
 | .lst s,x=>s.wf x
def kj(P:Program):Sh->(Option TypeId)->List Field->Nat->Bool
 | .int k,some t,_,_=>(match P.underlying t with |some (.int k')=>decide (k=k') |_=>false)
 | .bool,some t,_,_=>(match P.underlying t with |some .bool=>true |_=>false)
 | .str,some t,_,_=>(match P.underlying t with |some .string=>true |_=>false)
 | .sl s,some t,_,_=>(match P.underlying t with |some (.slice e)=>decide (P.cellsOf e=s.size) && decide (0< s.size) && decide (1<=P.bytesOf e) && kj P s (some e) [] 0 |_=>false)
 | .arr n s,some t,_,_=>(match P.underlying t with |some (.array n' e)=>decide (n'=n) && decide (P.cellsOf t=n*s.size) && decide (P.cellsOf e=s.size) && kj P s (some e) [] 0 |_=>false)
 | .fI s r,some t,_,_=>(match P.underlying t with
  |some (.struct fs)=>decide (P.cellsOf t=s.size+r.size) && (match fs.toList with
   |f::fs=>decide (f.offset=0) && decide (P.cellsOf f.type=s.size) && kj P s (some f.type) [] 0 && kj P r none fs s.size
   | []=>false)
  |_=>false)
 | .lst s,some t,_,_=>(match P.underlying t with
  |some (.struct fs)=>decide (P.cellsOf t=s.size) && (match fs.toList with
   | [f]=>decide (f.offset=0) && decide (P.cellsOf f.type=s.size) && kj P s (some f.type) [] 0
   |_=>false)
  |_=>false)
 | .fI s r,none,f::fs,o=>decide (f.offset=o) && decide (P.cellsOf f.type=s.size) && kj P s (some f.type) [] 0 && kj P r none fs (o+s.size)
 | .lst s,none,[f],o=>decide (f.offset=o) && decide (P.cellsOf f.type=s.size) && kj P s (some f.type) [] 0
 |_,_,_,_=>false
theorem Sh.jj:∀(s:Sh) (x:s.T),s.wf x->(s.cells x).length=s.size
 | .int _,_,_=>rfl
 | .bool,_,_=>rfl
 | .str,_,_=>rfl
 | .sl _,_,_=>rfl
 | .arr n s,l,h=>by
  obtain⟨h1,h2⟩:=h;have key:∀l:List s.T,(∀x∈l,s.wf x)->(l.flatMap s.cells).length=l.length*s.size:=by
   intro l;induction l with
   |nil=>simp
   |cons x l ih=>intro h;rw [List.flatMap_cons,List.length_append,ih fun y hy=>h y (by simp [hy]),Sh.jj s x (h x (by simp)),List.length_cons,Nat.add_mul];omega
  rw [<-h1];exact key l h2
 | .fI s r,x,h=>by show(s.cells x.1++r.cells x.2).length=s.size+r.size;rw [List.length_append,Sh.jj s _ h.1,Sh.jj r _ h.2]
 | .lst s,x,h=>Sh.jj s x h
section
variable {H:Type}{enc:TypeId×Value->H}{P:Program}{w:World}{base:Nat}
theorem mapM_some{α β:Type}{f:α->Option β}:∀ {l:List α}{r:List β},l.mapM f=some r->r.length=l.length/\∀(i:Nat) x,l[i]?=some x->∃y,r[i]?=some y/\f x=some y
 | [],r,h=>by simp at h;subst h;exact⟨rfl,fun i x h=>by simp at h⟩
 |a::l,r,h=>by
  rw [List.mapM_cons]at h;simp only [Option.bind_eq_bind,Option.bind_eq_some_iff,Option.pure_def,Option.some.injEq]at h;obtain⟨y,hy,ys,hys,rfl⟩:=h;obtain⟨h1,h2⟩:=mapM_some hys;refine⟨by simp [h1],fun i x hx=> ?_⟩;cases i with
  |zero=>simp at hx;subst hx;exact⟨y,rfl,hy⟩
  |succ i=>exact h2 i x (by simpa using hx)
theorem mO{base:Nat}{a:Addr}{n:Nat}{cs:List Value}(h:w.cells? base a n=some cs):cs.length=n/\∀i,i< n->w.cell? (a.add i)=cs[i]?:=by
 unfold World.cells? at h;split at h;·obtain⟨h1,h2⟩:=mapM_some h;refine⟨by simpa using h1,fun i hi=> ?_⟩;obtain⟨y,hy,hc⟩:=h2 i i (by simp [hi]);rw [hc,hy]
 ·cases h
theorem j7{ts:List TypeId}{ds:List (DataW H)}{i:Nat}{t:TypeId}{d:DataW H}(ht:ts[i]?=some t)(hd:ds[i]?=some d):∀n∈d.weights P t,n∈DataW.weightsEach P ts ds:=by
 induction ts generalizing ds i with
 |nil=>simp at ht
 |cons t' ts ih=>
  cases ds with
  |nil=>simp at hd
  |cons d' ds=>
   intro n hn;rw [DataW.weightsEach,List.mem_append];cases i with
   |zero=>simp at ht hd;subst ht hd;exact .inl hn
   |succ i=>exact .inr (ih (by simpa using ht) (by simpa using hd) n hn)
theorem lH{e:TypeId}{ds:List (DataW H)}{i:Nat}{d:DataW H}(hd:ds[i]?=some d):∀n∈d.weights P e,n∈DataW.weightsAll P e ds:=by
 induction ds generalizing i with
 |nil=>simp at hd
 |cons d' ds ih=>
  intro n hn;rw [DataW.weightsAll,List.mem_append];cases i with
  |zero=>simp at hd;subst hd;exact .inl hn
  |succ i=>exact .inr (ih (by simpa using hd) n hn)
theorem pO{α:Type}{n:Nat}{p:Nat->α->Prop}(h:∀i,i< n->∃x,p i x):∃l:List α,l.length=n/\∀(i:Nat) x,l[i]?=some x->p i x:=by
 induction n with
 |zero=>exact⟨[],rfl,fun i x h=>by simp at h⟩
 |succ n ih=>
  obtain⟨l,h1,h2⟩:=ih fun i hi=>h i oM;obtain⟨x,hx⟩:=h n oM;refine⟨l++[x],by simp [h1],fun i y hy=> ?_⟩;by_cases hi:i< l.length;·rw [List.getElem?_append_left hi]at hy;exact h2 i y hy
  ·rw [List.getElem?_append_right oM]at hy;have:i- l.length=0:=by have:=(List.getElem?_eq_some_iff.1 hy).1;simp at this;omega
   rw [this]at hy;simp at hy;subst hy;have:i=n:=by omega
   subst this;exact hx
def EG(enc:TypeId×Value->H)(P:Program)(w:World)(s:Sh):Prop:=∀(fuel:Nat) (t:TypeId) (cs:List Value) (x:DataW H×List MemPlace),kj P s (some t) [] 0=true->DataW.trod enc P w 0 (fun _=>true) true fuel t cs=some x->(∀n∈x.1.weights P t,n<=reachBytes)-> ∃y:s.T,s.wf y/\RL w (Old w) ρ0 (s.cells y) cs
def Ko(enc:TypeId×Value->H)(P:Program)(w:World)(s:Sh):Prop:=∀(m:Nat) (fs:List Field) (o:Nat) (cs:List Value) (xs:List (DataW H×List MemPlace)),kj P s none fs o=true->
 (∀(i:Nat) (f:Field),fs[i]?=some f->DataW.trod enc P w 0 (fun _=>true) true m f.type ((cs.drop f.offset).take (P.cellsOf f.type))=xs[i]?)->(∀(i:Nat) (f:Field) x,fs[i]?=some f->xs[i]?=some x->∀n∈x.1.weights P f.type,n<=reachBytes)->
 xs.length=fs.length->cs.length=o+s.size->∃y:s.T,s.wf y/\RL w (Old w) ρ0 (s.cells y) (cs.drop o)
theorem yA{s r:Sh}(hs:EG enc P w s)(hr:Ko enc P w r){m:Nat}{f:Field}{fs:List Field}{o:Nat}{cs:List Value}{xs:List (DataW H×List MemPlace)}(h1:f.offset=o)(h2:P.cellsOf f.type=s.size)(h3:kj P s (some f.type) [] 0=true)(h4:kj P r none fs (o+s.size)=true) (hx:∀(i:Nat) (g:Field),(f::fs)[i]?=some g->DataW.trod enc P w 0 (fun _=>true) true m g.type ((cs.drop g.offset).take (P.cellsOf g.type))=xs[i]?) (hw:∀(i:Nat) (g:Field) x,(f::fs)[i]?=some g->xs[i]?=some x->∀n∈x.1.weights P g.type,n<=reachBytes) (hl:xs.length=fs.length+1) (hc:cs.length=o+(s.size+r.size)):∃y:(Sh.fI s r).T,(Sh.fI s r).wf y/\RL w (Old w) ρ0 ((Sh.fI s r).cells y) (cs.drop o):=by
 cases xs with
 |nil=>simp at hl
 |cons x xs=>
  have a1:=hx 0 f rfl;rw [h1,h2]at a1;obtain⟨y1,w1,r1⟩:=hs m f.type _ x h3 a1 (hw 0 f x rfl rfl);obtain⟨y2,w2,r2⟩:=hr m fs (o+s.size) cs xs h4 (fun i g hg=>hx (i+1) g hg) (fun i g z hg hz=>hw (i+1) g z hg hz) (by simpa using hl) oM;refine⟨(y1,y2),⟨w1,w2⟩,?_⟩;have e:cs.drop o=(cs.drop o).take s.size++cs.drop (o+s.size):=by rw [<-List.drop_drop,List.take_append_drop]
  rw [e];exact r1.append r2
theorem yC{s:Sh}(hs:EG enc P w s){m:Nat}{f:Field}{o:Nat}{cs:List Value}{xs:List (DataW H×List MemPlace)}(h1:f.offset=o)(h2:P.cellsOf f.type=s.size)(h3:kj P s (some f.type) [] 0=true) (hx:∀(i:Nat) (g:Field),[f][i]?=some g->DataW.trod enc P w 0 (fun _=>true) true m g.type ((cs.drop g.offset).take (P.cellsOf g.type))=xs[i]?) (hw:∀(i:Nat) (g:Field) x,[f][i]?=some g->xs[i]?=some x->∀n∈x.1.weights P g.type,n<=reachBytes) (hl:xs.length=1) (hc:cs.length=o+s.size):∃y:(Sh.lst s).T,(Sh.lst s).wf y/\RL w (Old w) ρ0 ((Sh.lst s).cells y) (cs.drop o):=by
 cases xs with
 |nil=>simp at hl
 |cons x xs=>have a1:=hx 0 f rfl;rw [h1,h2]at a1;obtain⟨y1,w1,r1⟩:=hs m f.type _ x h3 a1 (hw 0 f x rfl rfl);refine⟨y1,w1,?_⟩;rw [List.take_of_length_le (by simp;omega)]at r1;exact r1
theorem hH:∀s:Sh,EG enc P w s/\Ko enc P w s
  | .int k=>by
    refine⟨fun fuel t cs x h hx _=> ?_,fun m fs o cs xs h=>by cases fs <;> simp [kj]at h⟩
    simp only [kj]at h
    split at h
    · rename_i k' hk
      have:=of_decide_eq_true h
      subst this
      obtain⟨n,rfl,_,hw⟩:=DataW.trod_int hk hx
      exact⟨n,hw,.cons (.c _ _) rfl .nil⟩
    · cases h
  | .bool=>by
    refine⟨fun fuel t cs x h hx _=> ?_,fun m fs o cs xs h=>by cases fs <;> simp [kj]at h⟩
    simp only [kj]at h
    split at h
    · rename_i hk
      obtain⟨n,rfl,_⟩:=DataW.trod_bool hk hx
      exact⟨n,trivial,.cons (.c _ _) rfl .nil⟩
    · cases h
  | .str=>by
    refine⟨fun fuel t cs x h hx _=> ?_,fun m fs o cs xs h=>by cases fs <;> simp [kj]at h⟩
    simp only [kj]at h
    split at h
    · rename_i hk
      obtain⟨⟨⟨b⟩⟩,rfl,_,hw⟩:=DataW.trod_string hk hx
      exact⟨b,hw,.cons (.c _ _) rfl .nil⟩
    · cases h
  | .sl s=>by
    obtain⟨ih,_⟩:=hH s
    refine⟨fun fuel t cs x h hx hw=> ?_,fun m fs o cs xs h=>by simp [kj]at h⟩
    simp only [kj]at h
    split at h
    · rename_i e he
      simp only [Bool.and_eq_true,decide_eq_true_eq]at h
      obtain⟨⟨⟨hc,hpos⟩,hby⟩,hsh⟩:=h
      rcases DataW.trod_slice he hx with⟨rfl,_⟩ | ⟨a,len,cap,elems,rest,m,rfl,rfl,hx2,_,hlc,_,hel,helem,_,_⟩
      · exact⟨[],⟨Nat.zero_le _,fun x hx=>by simp at hx⟩,.cons (.sl0 _ _ _ _ _) rfl .nil⟩
      · subst hx2
        simp only [DataW.weights,he]at hw
        have hlen:len<=reachBytes:=by
          have:=hw _ (List.mem_cons_self ..)
          have h2:len<=(elems.map (·.1)).length+(rest.map (·.1)).length:=by simp;omega
          exact Nat.le_trans h2 (Nat.le_trans (Nat.le_mul_of_pos_right _ hby) this)
        have each:∀i,i< len->∃y:s.T,s.wf y/\∃ci,w.cells? 0 (a.add (i*s.size)) s.size=some ci/\RL w (Old w) ρ0 (s.cells y) ci:=by
          intro i hi
          have h1:=helem i hi
          rw [hc]at h1
          have hi':i< elems.length:=by omega
          rw [List.getElem?_eq_getElem hi',Option.bind_eq_some_iff]at h1
          obtain⟨ci,h2,h3⟩:=h1
          obtain⟨y,hy,hr⟩:=ih m e ci _ hsh h3 (fun n hn=>hw n (List.mem_cons_of_mem _ (List.mem_append_left _ (lH (i:=i) (by simp [hi']) n hn))))
          exact⟨y,hy,ci,h2,hr⟩
        obtain⟨l,hl,hl2⟩:=pO each
        refine⟨l,⟨by rw [hl];exact Nat.le_trans hlen (by decide),fun y hy=> ?_⟩,.cons ?_ rfl .nil⟩
        · obtain⟨i,hi,rfl⟩:=List.getElem_of_mem hy
          exact(hl2 i _ (List.getElem?_eq_getElem hi)).1
        · have hrow:∀i,i< len->∃ci,w.cells? 0 (a.add (i*s.size)) s.size=some ci/\RL w (Old w) ρ0 (s.cells (l.getD i s.dflt)) ci/\(s.cells (l.getD i s.dflt)).length=s.size:=by
            intro i hi
            have hi':i< l.length:=by omega
            obtain⟨g1,ci,g2,g3⟩:=hl2 i _ (List.getElem?_eq_getElem hi')
            have e1:l.getD i s.dflt=l[i]:=by simp [List.getD_eq_getElem?_getD,hi']
            rw [e1]
            exact⟨ci,g2,g3,Sh.jj s _ g1⟩
          rw [hl]
          refine .HE hlc fun hn=> ?_
          obtain⟨c0,g0,_,_⟩:=hrow 0 hn
          have k0:=(mO g0).2 0 hpos
          have k1:∃v,w.cell? ((a.add (0*s.size)).add 0)=some v:=by
            rw [k0]
            have:0< c0.length:=by rw [(mO g0).1];exact hpos
            exact⟨c0[0],List.getElem?_eq_getElem this⟩
          obtain⟨v0,k1⟩:=k1
          have hs:a.spot=none:=by simpa [Addr.add]using World.cell?_spot k1
          have hb:=Fk k1
          obtain⟨b,o,sp⟩:=a
          simp only at hs
          subst hs
          refine⟨b,o,rfl,by simpa [Addr.add]using hb,fun i hi=>(hrow i hi).choose_spec.2.2,fun i j u hi hu=> ?_⟩
          obtain⟨ci,g1,g2,g3⟩:=hrow i hi
          have hj:j< s.size:=by rw [<-g3];exact(List.getElem?_eq_some_iff.1 hu).1
          obtain⟨y,hy,hr,h1⟩:=g2.get hu
          have:=(mO g1).2 j hj
          rw [hy]at this
          refine⟨y,?_,h1,hr⟩
          rw [add_plain,add_plain]at this
          exact this
    · cases h
  | .arr n s=>by
    obtain⟨ih,_⟩:=hH s
    refine⟨fun fuel t cs x h hx hw=> ?_,fun m fs o cs xs h=>by simp [kj]at h⟩
    simp only [kj]at h
    split at h
    · rename_i n' e he
      simp only [Bool.and_eq_true,decide_eq_true_eq]at h
      obtain⟨⟨⟨rfl,hct⟩,hc⟩,hsh⟩:=h
      obtain⟨xs,m,rfl,rfl,hlen,hxl,hel⟩:=DataW.trod_array he hx
      simp only [DataW.weights,he]at hw
      have each:∀i,i< n'->∃y:s.T,s.wf y/\RL w (Old w) ρ0 (s.cells y) ((cs.drop (i*s.size)).take s.size):=by
        intro i hi
        have h1:=hel i hi
        rw [hc,List.getElem?_eq_getElem oM]at h1
        exact ih m e _ _ hsh h1 (fun k hk=>hw k (lH (i:=i) (d:=(xs[i]'oM).1) (by rw [List.getElem?_map,List.getElem?_eq_getElem oM];rfl) k hk))
      obtain⟨l,hl,hl2⟩:=pO each
      refine⟨l,⟨hl,fun y hy=> ?_⟩,?_⟩
      · obtain⟨i,hi,rfl⟩:=List.getElem_of_mem hy
        exact(hl2 i _ (List.getElem?_eq_getElem hi)).1
      · have key:∀k,k<=n'->RL w (Old w) ρ0 ((l.take k).flatMap s.cells) (cs.take (k*s.size)):=by
          intro k
          induction k with
          |zero=>intro _;simp;exact .nil
          |succ k ihk=>
            intro hk
            have hk':k< l.length:=by omega
            rw [List.take_succ_eq_append_getElem hk',List.flatMap_append,Nat.add_mul,Nat.one_mul,List.take_add]
            refine(ihk oM).append ?_
            simpa using (hl2 k _ (List.getElem?_eq_getElem hk')).2
        have:=key n' (Nat.le_refl _)
        rw [List.take_of_length_le oM,List.take_of_length_le (by rw [hlen,hct];exact Nat.le_refl _)]at this
        exact this
    · cases h
  | .fI s r=>by
    obtain⟨hs,_⟩:=hH s
    obtain⟨_,hr⟩:=hH r
    refine⟨fun fuel t cs x h hx hw=> ?_,fun m fs o cs xs h hx hw hl hc=> ?_⟩
    · simp only [kj]at h
      split at h
      · rename_i fs hfs
        simp only [Bool.and_eq_true,decide_eq_true_eq]at h
        obtain⟨hct,h⟩:=h
        split at h
        · rename_i f fs' hf
          simp only [Bool.and_eq_true,decide_eq_true_eq]at h
          obtain⟨⟨⟨h1,h2⟩,h3⟩,h4⟩:=h
          obtain⟨xs,m,rfl,rfl,hlen,hxl,hel⟩:=DataW.trod_struct hfs hx
          simp only [DataW.weights,hfs]at hw
          have hel':∀(i:Nat) (g:Field),(f::fs')[i]?=some g->DataW.trod enc P w 0 (fun _=>true) true m g.type ((cs.drop g.offset).take (P.cellsOf g.type))=xs[i]?:=fun i g hg=>hel i g (by rw [<-Array.getElem?_toList,hf];exact hg)
          have:=yA hs hr (o:=0) (cs:=cs) (xs:=xs) h1 h2 h3 (by simpa using h4) hel' (fun i g z hg hz n hn=>hw n (j7 (i:=i) (t:=g.type) (d:=z.1) (by rw [hf,List.getElem?_map,hg];rfl) (by rw [List.getElem?_map,hz];rfl) n hn))
            (by rw [hxl,<-Array.length_toList,hf];rfl) (by rw [hlen,hct];omega)
          simpa using this
        · cases h
      · cases h
    · cases fs with
      |nil=>simp [kj]at h
      |cons f fs=>
        simp only [kj,Bool.and_eq_true,decide_eq_true_eq]at h
        obtain⟨⟨⟨h1,h2⟩,h3⟩,h4⟩:=h
        exact yA hs hr h1 h2 h3 h4 hx hw hl hc
  | .lst s=>by
    obtain⟨hs,_⟩:=hH s
    refine⟨fun fuel t cs x h hx hw=> ?_,fun m fs o cs xs h hx hw hl hc=> ?_⟩
    · simp only [kj]at h
      split at h
      · rename_i fs hfs
        simp only [Bool.and_eq_true,decide_eq_true_eq]at h
        obtain⟨hct,h⟩:=h
        split at h
        · rename_i f hf
          simp only [Bool.and_eq_true,decide_eq_true_eq]at h
          obtain⟨⟨h1,h2⟩,h3⟩:=h
          obtain⟨xs,m,rfl,rfl,hlen,hxl,hel⟩:=DataW.trod_struct hfs hx
          simp only [DataW.weights,hfs]at hw
          have hel':∀(i:Nat) (g:Field),[f][i]?=some g->DataW.trod enc P w 0 (fun _=>true) true m g.type ((cs.drop g.offset).take (P.cellsOf g.type))=xs[i]?:=fun i g hg=>hel i g (by rw [<-Array.getElem?_toList,hf];exact hg)
          have:=yC hs (o:=0) (cs:=cs) (xs:=xs) h1 h2 h3 hel' (fun i g z hg hz n hn=>hw n (j7 (i:=i) (t:=g.type) (d:=z.1) (by rw [hf,List.getElem?_map,hg];rfl) (by rw [List.getElem?_map,hz];rfl) n hn))
            (by rw [hxl,<-Array.length_toList,hf];rfl) (by rw [hlen,hct];omega)
          simpa using this
        · cases h
      · cases h
    · match fs,h with
      | [f],h=>
        simp only [kj,Bool.and_eq_true,decide_eq_true_eq]at h
        obtain⟨⟨h1,h2⟩,h3⟩:=h
        exact yC hs h1 h2 h3 hx hw hl hc
def Sh.val:(s:Sh)->s.T->V
 | .int k,x=> .c (.int k x)
 | .bool,x=> .c (.bool x)
 | .str,x=> .c (.string ⟨⟨x⟩⟩)
 | .sl s,l=> .sl s.size l.length fun i=>s.cells (l.getD i s.dflt)
 | .arr n s,x=> .agg ((Sh.arr n s).cells x)
 | .fI s r,x=> .agg ((Sh.fI s r).cells x)
 | .lst s,x=> .agg ((Sh.lst s).cells x)
theorem nS{u:V}{v:Value}(h:RL w (Old w) ρ0 [u] [v]):R w (Old w) ρ0 u v:=(h.2 0 u v rfl rfl).1
theorem G6{s:Sh}{t:TypeId}{v:Value}{d:DataW H}{ps:List MemPlace}{r:Reach}{b0:Nat}(hs:kj P s (some t) [] 0=true)(hval:Value.okWide P w r b0 t v)(h:DataW.Trod enc P w 0 (fun _=>true) true t v d ps)(hsz:∀n∈d.weights P t,n<=reachBytes) : ∃x:s.T,s.wf x/\R w (Old w) ρ0 (s.val x) v:=by
 obtain⟨fuel,hf⟩:=h;obtain⟨x,hw,hr⟩:=(hH (enc:=enc) (P:=P) (w:=w) s).1 fuel t _ _ hs hf hsz;refine⟨x,hw,?_⟩;have agg:((∃fs,P.underlying t=some (.struct fs))\/∃n e,P.underlying t=some (.array n e))->R w (Old w) ρ0 (.agg (s.cells x)) v:=by
  intro ha;have:∃cs,v= .agg cs:=by unfold Value.okWide at hval;rcases ha with⟨fs,hu⟩ | ⟨n,e,hu⟩ <;> rw [hu]at hval <;> exact⟨hval.choose,hval.choose_spec.1⟩
  obtain⟨cs,rfl⟩:=this;exact .lZ hr
 cases s with
 |int k=>
  simp only [kj]at hs;split at hs;·obtain⟨n,rfl⟩:=okWide_int (by assumption) hval;exact nS hr
  ·cases hs
 |bool=>
  simp only [kj]at hs;split at hs;·obtain⟨n,rfl⟩:=okWide_bool (by assumption) hval;exact nS hr
  ·cases hs
 |str=>
  simp only [kj]at hs;split at hs;·obtain⟨n,rfl⟩:=okWide_string (by assumption) hval;exact nS hr
  ·cases hs
 |sl s=>
  simp only [kj]at hs;split at hs;·obtain⟨a,n,c,rfl⟩:=okWide_slice (by assumption) hval;exact nS hr
  ·cases hs
 |arr n s=>
  simp only [kj]at hs;split at hs;·exact agg (.inr ⟨_,_,by assumption⟩)
  ·cases hs
 |fI s r=>
  simp only [kj]at hs;split at hs;·exact agg (.inl ⟨_,by assumption⟩)
  ·cases hs
 |lst s=>
  simp only [kj]at hs;split at hs;·exact agg (.inl ⟨_,by assumption⟩)
  ·cases hs
@[reducible] def TL:List Sh->Type
 | []=>Unit
 |s::l=>s.T×TL l
def Pk:(l:List Sh)->TL l->Prop
 | [],_=>True
 |s::l,x=>s.wf x.1/\Pk l x.2
def HV:(l:List Sh)->TL l->List V
 | [],_=>[]
 |s::l,x=>s.val x.1::HV l x.2
def El(P:Program):List Sh->List TypeId->Bool
 | [],[]=>true
 |s::l,t::ts=>kj P s (some t) [] 0 && El P l ts
 |_,_=>false
theorem uM:∀ {ss:List Sh}{ts:List TypeId}{vs:List Value}{ds:List (DataW H)}{ps:List MemPlace},El P ss ts=true->DataW.TrodAll enc P w 0 (fun _=>true) true ts vs ds ps-> (∀(j:Nat) t v,ts[j]?=some t->vs[j]?=some v->Value.okWide P w .any base t v)->(∀n∈DataW.weightsEach P ts ds,n<=reachBytes)->∃x:TL ss,Pk ss x/\RV w (Old w) ρ0 (HV ss x) vs
 | [],[],[],[],_,_,_,_,_=>⟨(),trivial,.nil⟩
 |s::ss,t::ts,v::vs,d::ds,ps,hs,h,hval,hsz=>by simp only [El,Bool.and_eq_true]at hs;obtain⟨p,q,h1,h2,_⟩:=h;obtain⟨x,hx,hr⟩:=G6 hs.1 (hval 0 t v rfl rfl) h1 (fun n hn=>hsz n (by rw [DataW.weightsEach,List.mem_append];exact .inl hn));obtain⟨y,hy,hr'⟩:=uM hs.2 h2 (fun j t v ht hv=>hval (j+1) t v ht hv) (fun n hn=>hsz n (by rw [DataW.weightsEach,List.mem_append];exact .inr hn));exact⟨(x,y),⟨hx,hy⟩,.cons hr hr'⟩
 | [],_::_,_,_,_,hs,_,_,_=>by simp [El]at hs
 |_::_,[],_,_,_,hs,_,_,_=>by simp [El]at hs
 | [],[],_::_,_,_,_,h,_,_=>by simp [DataW.TrodAll]at h
 | [],[],[],_::_,_,_,h,_,_=>by simp [DataW.TrodAll]at h
 |_::_,_::_,[],_,_,_,h,_,_=>by simp [DataW.TrodAll]at h
 |_::_,_::_,_::_,[],_,_,h,_,_=>by simp [DataW.TrodAll]at h
theorem zc:∀ {ts:List TypeId}{vs:List Value}{ds:List (DataW H)}{ps:List MemPlace},DataW.TrodAll enc P w 0 (fun _=>true) true ts vs ds ps->ds.length=ts.length
 | [],[],[],_,_=>rfl
 |t::ts,v::vs,d::ds,ps,h=>by obtain⟨p,q,_,h2,_⟩:=h;simp [zc h2]
 | [],_::_,_,_,h=>by simp [DataW.TrodAll]at h
 | [],[],_::_,_,h=>by simp [DataW.TrodAll]at h
 |_::_,[],_,_,h=>by simp [DataW.TrodAll]at h
 |_::_,_::_,[],_,h=>by simp [DataW.TrodAll]at h
theorem DN{ss:List Sh}{f:FuncId}{ts:List TypeId}{args:Array Value}{ds:List (DataW H)}{ps:List MemPlace}(hac:∀x:TL ss,Pk ss x->AC P f (HV ss x) (V.b true) [])(hs:El P ss ts=true)(h:DataW.TrodAll enc P w 0 (fun _=>true) true ts args.toList ds ps) (hval:∀(j:Nat) t v,ts[j]?=some t->args[j]?=some v->Value.okWide P w .any base t v) (hsz:(DataW.weightsEach P ts ds).all (· <=reachBytes)=true) (hgl:∀g,R w (fun b=>b< w.heap.size) ρ0 (jn g) (ql g):=by exact fun _=> .any _ _) : Calls P f args w fun e w'=>e= .returned (.bool true)/\Below w.heap.size w w':=by obtain⟨x,hx,hr⟩:=uM (base:=base) hs h (fun j t v ht hv=>hval j t v ht (by simpa using hv)) (by simpa using hsz);exact DO (hac x hx) hr hgl
end
end Go.Ab
