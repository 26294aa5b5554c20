/- What more closed calls give. -/
import Derived.Test.YtbkbdnlfkahaaaaGreatDoorLibE
set_option maxRecDepth 100000
noncomputable section
namespace Go.Proofs.YtbkbdnlfkahaaaaGreatDoor.code
open Go.Ab _root_.Go.Proofs.YtbkbdnlfkahaaaaGreatDoor.tab
def zu (n:Nat):Value:=.int .u8 (.ofNat n)
def zi (n:Nat):Value:=.int .i64 (.ofNat n)
def zs (b n c:Nat):Value:=.slice (some ⟨b,0,none⟩) n (UNK+c)
def zm:Value:=.int .i64 (.negSucc 0)
def zn:Value:=.slice none 0 0
def QjK:FuncId->List SumI:=λ_=>[]
def Qhe:List SumI:=[-- 153 6272
 ⟨153,[.string (mkS [106,109,112])],[],.tuple #[zi 54,.bool true],[]⟩,
 ⟨153,[.string (mkS [110,111,112])],[],.tuple #[zi 50,.bool true],[]⟩]
def Qhf:List SumI:=[-- 153 19484
 ⟨153,[.string (mkS [97])],[],.tuple #[zi 0,.bool false],[]⟩]
def Qhg:List SumI:=[-- 153 556
 ⟨153,[.string (mkS [109,111,118])],[],.tuple #[zi 9,.bool true],[]⟩]
def Qef:FuncId->List SumI:=λf=>bif Nat.beq f 153 then Qhe++Qhf++Qhg else QjK f
def Qeg:CallF:=QE knZ (YA Tryz.prog.globals.size tab.tabs Qef)
def Qhh:List SumI:=[-- 252 23391
 ⟨252,[.string (mkS [97])],[],.tuple #[.agg #[zi 0,zi 0],.bool false],[]⟩]
def Qhi:List SumI:=[-- 252 11108
 ⟨252,[.string (mkS [101,97,120])],[],.tuple #[.agg #[zi 4,zi 0],.bool true],[]⟩]
def Qhj:List SumI:=[-- 252 23391
 ⟨252,[.string (mkS [120])],[],.tuple #[.agg #[zi 0,zi 0],.bool false],[]⟩]
def Qeh:FuncId->List SumI:=λf=>bif Nat.beq f 252 then Qhh++Qhi++Qhj else Qef f
def Zm:CallF:=QE knZ (YA Tryz.prog.globals.size tab.tabs Qeh)
def Qhk:List SumI:=[-- 228 7940
 ⟨228,[.agg #[zi 50,zn,zn,zi 0,zi 0,zi 144,zm,zi 0,.bool false,zi 0],.agg #[zi 50,.slice (some ⟨13,0,none⟩) 0 0]],[iN [] 168],.tuple #[zs 16 2 3,.bool true],[⟨93,[zu 144],5,false⟩,
  ⟨98,[zu 64,zu 144],5,false⟩,
  ⟨101,[zs 14 1 1,zi 0,zm,zs 15 2 1,zi 0,zm],281,false⟩]⟩,
 ⟨228,[.agg #[zi 50,zs 13 1 1,zs 14 1 1,zi 1,zi 1,zi 31,zi 0,zi 0,.bool false,zi 0],.agg #[zi 50,.slice (some ⟨15,0,none⟩) 0 0]],[iN [8] 3,iN [2] 3,iN [] 168],.tuple #[zn,.bool false],[]⟩,
 ⟨228,[.agg #[zi 50,zs 13 1 1,zs 14 1 1,zi 0,zi 1,zi 31,zi 0,zi 0,.bool false,zi 0],.agg #[zi 50,.slice (some ⟨15,0,none⟩) 0 0]],[iN [9] 3,iN [2] 3,iN [] 168],.tuple #[zn,.bool false],[]⟩,
 ⟨228,[.agg #[zi 54,zs 13 1 1,zs 14 1 1,zi 0,zi 0,zi 235,zm,zi 0,.bool false,zi 0],.agg #[zi 54,zs 15 1 11]],[iN [26] 3,iN [5] 3,iN [4,0,0,0,0,0,0,0,0,0,128] 168],.tuple #[zn,.bool false],[]⟩,
 ⟨228,[.agg #[zi 54,zs 13 1 1,zs 14 1 1,zi 0,zi 0,zi 233,zm,zi 0,.bool false,zi 0],.agg #[zi 54,zs 15 1 11]],[iN [27] 3,iN [5] 3,iN [4,0,0,0,0,0,0,0,0,0,128] 168],.tuple #[zs 18 2 3,.bool true],[⟨105,[zu 233,zu 128,zu 0,zu 0,zu 0],5,false⟩,
  ⟨111,[zu 64,zu 233,zu 128,zu 0,zu 0,zu 0],5,false⟩,
  ⟨114,[zs 16 5 1,zi 0,zm,zs 17 6 1,zi 0,zm],281,false⟩]⟩,
 ⟨228,[.agg #[zi 54,zs 13 1 1,zs 14 1 1,zi 0,zi 0,zi 255,zi 4,zi 0,.bool false,zi 0],.agg #[zi 54,zs 15 1 11]],[iN [10] 3,iN [2] 3,iN [4,0,0,0,0,0,0,0,0,0,128] 168],.tuple #[zn,.bool false],[]⟩,
 ⟨228,[.agg #[zi 9,zs 13 2 1,zs 14 2 1,zi 0,zi 0,zi 136,zm,zi 0,.bool false,zi 0],.agg #[zi 9,zs 15 2 11]],[iN [7,1] 3,iN [2,1] 3,iN [1,4,0,0,0,0,0,0,0,0,0,3,0,0,0,0,0,0,0,0,0,16] 168],.tuple #[zn,.bool false],[]⟩,
 ⟨228,[.agg #[zi 9,zs 13 2 1,zs 14 2 1,zi 1,zi 0,zi 137,zm,zi 0,.bool false,zi 0],.agg #[zi 9,zs 15 2 11]],[iN [8,2] 3,iN [2,1] 3,iN [1,4,0,0,0,0,0,0,0,0,0,3,0,0,0,0,0,0,0,0,0,16] 168],.tuple #[zn,.bool false],[]⟩]
def Qhl:List SumI:=[-- 228 7438
 ⟨228,[.agg #[zi 9,zs 13 2 1,zs 14 2 1,zi 0,zi 0,zi 137,zm,zi 0,.bool false,zi 0],.agg #[zi 9,zs 15 2 11]],[iN [9,3] 3,iN [2,1] 3,iN [1,4,0,0,0,0,0,0,0,0,0,3,0,0,0,0,0,0,0,0,0,16] 168],.tuple #[zn,.bool false],[]⟩,
 ⟨228,[.agg #[zi 9,zs 13 2 1,zs 14 2 1,zi 0,zi 0,zi 137,zm,zi 1,.bool false,zi 0],.agg #[zi 9,zs 15 2 11]],[iN [10,4] 3,iN [2,1] 3,iN [1,4,0,0,0,0,0,0,0,0,0,3,0,0,0,0,0,0,0,0,0,16] 168],.tuple #[zn,.bool false],[]⟩,
 ⟨228,[.agg #[zi 9,zs 13 2 1,zs 14 2 1,zi 0,zi 0,zi 138,zm,zi 0,.bool false,zi 0],.agg #[zi 9,zs 15 2 11]],[iN [1,7] 3,iN [1,2] 3,iN [1,4,0,0,0,0,0,0,0,0,0,3,0,0,0,0,0,0,0,0,0,16] 168],.tuple #[zn,.bool false],[]⟩,
 ⟨228,[.agg #[zi 9,zs 13 2 1,zs 14 2 1,zi 1,zi 0,zi 139,zm,zi 0,.bool false,zi 0],.agg #[zi 9,zs 15 2 11]],[iN [2,8] 3,iN [1,2] 3,iN [1,4,0,0,0,0,0,0,0,0,0,3,0,0,0,0,0,0,0,0,0,16] 168],.tuple #[zn,.bool false],[]⟩,
 ⟨228,[.agg #[zi 9,zs 13 2 1,zs 14 2 1,zi 0,zi 0,zi 139,zm,zi 0,.bool false,zi 0],.agg #[zi 9,zs 15 2 11]],[iN [3,9] 3,iN [1,2] 3,iN [1,4,0,0,0,0,0,0,0,0,0,3,0,0,0,0,0,0,0,0,0,16] 168],.tuple #[zn,.bool false],[]⟩]
def Qhm:List SumI:=[-- 228 7426
 ⟨228,[.agg #[zi 9,zs 13 2 1,zs 14 2 1,zi 0,zi 0,zi 139,zm,zi 1,.bool false,zi 0],.agg #[zi 9,zs 15 2 11]],[iN [4,10] 3,iN [1,2] 3,iN [1,4,0,0,0,0,0,0,0,0,0,3,0,0,0,0,0,0,0,0,0,16] 168],.tuple #[zn,.bool false],[]⟩,
 ⟨228,[.agg #[zi 9,zs 13 2 1,zs 14 2 1,zi 0,zi 0,zi 176,zm,zi 0,.bool false,zi 0],.agg #[zi 9,zs 15 2 11]],[iN [1,20] 3,iN [4,5] 3,iN [1,4,0,0,0,0,0,0,0,0,0,3,0,0,0,0,0,0,0,0,0,16] 168],.tuple #[zn,.bool false],[]⟩,
 ⟨228,[.agg #[zi 9,zs 13 2 1,zs 14 2 1,zi 1,zi 0,zi 184,zm,zi 0,.bool false,zi 0],.agg #[zi 9,zs 15 2 11]],[iN [2,22] 3,iN [4,5] 3,iN [1,4,0,0,0,0,0,0,0,0,0,3,0,0,0,0,0,0,0,0,0,16] 168],.tuple #[zn,.bool false],[]⟩,
 ⟨228,[.agg #[zi 9,zs 13 2 1,zs 14 2 1,zi 0,zi 0,zi 184,zm,zi 0,.bool false,zi 0],.agg #[zi 9,zs 15 2 11]],[iN [3,23] 3,iN [4,5] 3,iN [1,4,0,0,0,0,0,0,0,0,0,3,0,0,0,0,0,0,0,0,0,16] 168],.tuple #[zs 18 2 3,.bool true],[⟨141,[zu 184,zu 16,zu 0,zu 0,zu 0],5,false⟩,
  ⟨147,[zu 64,zu 184,zu 16,zu 0,zu 0,zu 0],5,false⟩,
  ⟨150,[zs 16 5 1,zi 0,zm,zs 17 6 1,zi 0,zm],281,false⟩]⟩]
def Qhn:List SumI:=[-- 228 7597
 ⟨228,[.agg #[zi 9,zs 13 2 1,zs 14 2 1,zi 0,zi 0,zi 184,zm,zi 1,.bool false,zi 0],.agg #[zi 9,zs 15 2 11]],[iN [4,25] 3,iN [4,5] 3,iN [1,4,0,0,0,0,0,0,0,0,0,3,0,0,0,0,0,0,0,0,0,16] 168],.tuple #[zn,.bool false],[]⟩,
 ⟨228,[.agg #[zi 9,zs 13 2 1,zs 14 2 1,zi 0,zi 0,zi 198,zi 0,zi 0,.bool false,zi 0],.agg #[zi 9,zs 15 2 11]],[iN [7,20] 3,iN [2,5] 3,iN [1,4,0,0,0,0,0,0,0,0,0,3,0,0,0,0,0,0,0,0,0,16] 168],.tuple #[zn,.bool false],[]⟩,
 ⟨228,[.agg #[zi 9,zs 13 2 1,zs 14 2 1,zi 1,zi 0,zi 199,zi 0,zi 0,.bool false,zi 0],.agg #[zi 9,zs 15 2 11]],[iN [8,22] 3,iN [2,5] 3,iN [1,4,0,0,0,0,0,0,0,0,0,3,0,0,0,0,0,0,0,0,0,16] 168],.tuple #[zn,.bool false],[]⟩,
 ⟨228,[.agg #[zi 9,zs 13 2 1,zs 14 2 1,zi 0,zi 0,zi 199,zi 0,zi 0,.bool false,zi 0],.agg #[zi 9,zs 15 2 11]],[iN [9,23] 3,iN [2,5] 3,iN [1,4,0,0,0,0,0,0,0,0,0,3,0,0,0,0,0,0,0,0,0,16] 168],.tuple #[zs 18 2 3,.bool true],[⟨144,[zu 199,zu 192,zu 16,zu 0,zu 0,zu 0],5,false⟩,
  ⟨151,[zu 64,zu 199,zu 192,zu 16,zu 0,zu 0,zu 0],5,false⟩,
  ⟨154,[zs 16 6 1,zi 0,zm,zs 17 7 1,zi 0,zm],281,false⟩]⟩]
def Qho:List SumI:=[-- 228 7370
 ⟨228,[.agg #[zi 9,zs 13 2 1,zs 14 2 1,zi 0,zi 0,zi 199,zi 0,zi 1,.bool false,zi 0],.agg #[zi 9,zs 15 2 11]],[iN [10,24] 3,iN [2,5] 3,iN [1,4,0,0,0,0,0,0,0,0,0,3,0,0,0,0,0,0,0,0,0,16] 168],.tuple #[zn,.bool false],[]⟩,
 ⟨228,[.agg #[zi 9,zs 13 2 1,zs 14 2 1,zi 0,zi 0,zi 136,zm,zi 0,.bool false,zi 0],.agg #[zi 9,zs 15 2 11]],[iN [7,1] 3,iN [2,1] 3,iN [1,4,0,0,0,0,0,0,0,0,0,3,0,0,0,0,0,0,0,0,0,21] 168],.tuple #[zn,.bool false],[]⟩,
 ⟨228,[.agg #[zi 9,zs 13 2 1,zs 14 2 1,zi 1,zi 0,zi 137,zm,zi 0,.bool false,zi 0],.agg #[zi 9,zs 15 2 11]],[iN [8,2] 3,iN [2,1] 3,iN [1,4,0,0,0,0,0,0,0,0,0,3,0,0,0,0,0,0,0,0,0,21] 168],.tuple #[zn,.bool false],[]⟩,
 ⟨228,[.agg #[zi 9,zs 13 2 1,zs 14 2 1,zi 0,zi 0,zi 137,zm,zi 0,.bool false,zi 0],.agg #[zi 9,zs 15 2 11]],[iN [9,3] 3,iN [2,1] 3,iN [1,4,0,0,0,0,0,0,0,0,0,3,0,0,0,0,0,0,0,0,0,21] 168],.tuple #[zn,.bool false],[]⟩,
 ⟨228,[.agg #[zi 9,zs 13 2 1,zs 14 2 1,zi 0,zi 0,zi 137,zm,zi 1,.bool false,zi 0],.agg #[zi 9,zs 15 2 11]],[iN [10,4] 3,iN [2,1] 3,iN [1,4,0,0,0,0,0,0,0,0,0,3,0,0,0,0,0,0,0,0,0,21] 168],.tuple #[zn,.bool false],[]⟩]
def Qhp:List SumI:=[-- 228 7320
 ⟨228,[.agg #[zi 9,zs 13 2 1,zs 14 2 1,zi 0,zi 0,zi 138,zm,zi 0,.bool false,zi 0],.agg #[zi 9,zs 15 2 11]],[iN [1,7] 3,iN [1,2] 3,iN [1,4,0,0,0,0,0,0,0,0,0,3,0,0,0,0,0,0,0,0,0,21] 168],.tuple #[zn,.bool false],[]⟩,
 ⟨228,[.agg #[zi 9,zs 13 2 1,zs 14 2 1,zi 1,zi 0,zi 139,zm,zi 0,.bool false,zi 0],.agg #[zi 9,zs 15 2 11]],[iN [2,8] 3,iN [1,2] 3,iN [1,4,0,0,0,0,0,0,0,0,0,3,0,0,0,0,0,0,0,0,0,21] 168],.tuple #[zn,.bool false],[]⟩,
 ⟨228,[.agg #[zi 9,zs 13 2 1,zs 14 2 1,zi 0,zi 0,zi 139,zm,zi 0,.bool false,zi 0],.agg #[zi 9,zs 15 2 11]],[iN [3,9] 3,iN [1,2] 3,iN [1,4,0,0,0,0,0,0,0,0,0,3,0,0,0,0,0,0,0,0,0,21] 168],.tuple #[zn,.bool false],[]⟩,
 ⟨228,[.agg #[zi 9,zs 13 2 1,zs 14 2 1,zi 0,zi 0,zi 139,zm,zi 1,.bool false,zi 0],.agg #[zi 9,zs 15 2 11]],[iN [4,10] 3,iN [1,2] 3,iN [1,4,0,0,0,0,0,0,0,0,0,3,0,0,0,0,0,0,0,0,0,21] 168],.tuple #[zn,.bool false],[]⟩,
 ⟨228,[.agg #[zi 9,zs 13 2 1,zs 14 2 1,zi 0,zi 0,zi 176,zm,zi 0,.bool false,zi 0],.agg #[zi 9,zs 15 2 11]],[iN [1,20] 3,iN [4,5] 3,iN [1,4,0,0,0,0,0,0,0,0,0,3,0,0,0,0,0,0,0,0,0,21] 168],.tuple #[zn,.bool false],[]⟩]
def Qhq:List SumI:=[-- 228 7445
 ⟨228,[.agg #[zi 9,zs 13 2 1,zs 14 2 1,zi 1,zi 0,zi 184,zm,zi 0,.bool false,zi 0],.agg #[zi 9,zs 15 2 11]],[iN [2,22] 3,iN [4,5] 3,iN [1,4,0,0,0,0,0,0,0,0,0,3,0,0,0,0,0,0,0,0,0,21] 168],.tuple #[zn,.bool false],[]⟩,
 ⟨228,[.agg #[zi 9,zs 13 2 1,zs 14 2 1,zi 0,zi 0,zi 184,zm,zi 0,.bool false,zi 0],.agg #[zi 9,zs 15 2 11]],[iN [3,23] 3,iN [4,5] 3,iN [1,4,0,0,0,0,0,0,0,0,0,3,0,0,0,0,0,0,0,0,0,21] 168],.tuple #[zs 18 2 3,.bool true],[⟨141,[zu 184,zu 21,zu 0,zu 0,zu 0],5,false⟩,
  ⟨147,[zu 64,zu 184,zu 21,zu 0,zu 0,zu 0],5,false⟩,
  ⟨150,[zs 16 5 1,zi 0,zm,zs 17 6 1,zi 0,zm],281,false⟩]⟩,
 ⟨228,[.agg #[zi 9,zs 13 2 1,zs 14 2 1,zi 0,zi 0,zi 184,zm,zi 1,.bool false,zi 0],.agg #[zi 9,zs 15 2 11]],[iN [4,25] 3,iN [4,5] 3,iN [1,4,0,0,0,0,0,0,0,0,0,3,0,0,0,0,0,0,0,0,0,21] 168],.tuple #[zn,.bool false],[]⟩,
 ⟨228,[.agg #[zi 9,zs 13 2 1,zs 14 2 1,zi 0,zi 0,zi 198,zi 0,zi 0,.bool false,zi 0],.agg #[zi 9,zs 15 2 11]],[iN [7,20] 3,iN [2,5] 3,iN [1,4,0,0,0,0,0,0,0,0,0,3,0,0,0,0,0,0,0,0,0,21] 168],.tuple #[zn,.bool false],[]⟩]
def Qhr:List SumI:=[-- 228 7997
 ⟨228,[.agg #[zi 9,zs 13 2 1,zs 14 2 1,zi 1,zi 0,zi 199,zi 0,zi 0,.bool false,zi 0],.agg #[zi 9,zs 15 2 11]],[iN [8,22] 3,iN [2,5] 3,iN [1,4,0,0,0,0,0,0,0,0,0,3,0,0,0,0,0,0,0,0,0,21] 168],.tuple #[zn,.bool false],[]⟩,
 ⟨228,[.agg #[zi 9,zs 13 2 1,zs 14 2 1,zi 0,zi 0,zi 199,zi 0,zi 0,.bool false,zi 0],.agg #[zi 9,zs 15 2 11]],[iN [9,23] 3,iN [2,5] 3,iN [1,4,0,0,0,0,0,0,0,0,0,3,0,0,0,0,0,0,0,0,0,21] 168],.tuple #[zs 18 2 3,.bool true],[⟨144,[zu 199,zu 192,zu 21,zu 0,zu 0,zu 0],5,false⟩,
  ⟨151,[zu 64,zu 199,zu 192,zu 21,zu 0,zu 0,zu 0],5,false⟩,
  ⟨154,[zs 16 6 1,zi 0,zm,zs 17 7 1,zi 0,zm],281,false⟩]⟩,
 ⟨228,[.agg #[zi 9,zs 13 2 1,zs 14 2 1,zi 0,zi 0,zi 199,zi 0,zi 1,.bool false,zi 0],.agg #[zi 9,zs 15 2 11]],[iN [10,24] 3,iN [2,5] 3,iN [1,4,0,0,0,0,0,0,0,0,0,3,0,0,0,0,0,0,0,0,0,21] 168],.tuple #[zn,.bool false],[]⟩,
 ⟨228,[.agg #[zi 54,zs 13 1 1,zs 14 1 1,zi 0,zi 0,zi 235,zm,zi 0,.bool false,zi 0],.agg #[zi 54,zs 15 1 11]],[iN [26] 3,iN [5] 3,iN [4,0,0,0,0,0,0,0,0,0,0] 168],.tuple #[zs 18 2 3,.bool true],[⟨105,[zu 235,zu 0],5,false⟩,
  ⟨111,[zu 64,zu 235,zu 0],5,false⟩,
  ⟨114,[zs 16 2 1,zi 0,zm,zs 17 3 1,zi 0,zm],281,false⟩]⟩]
def Qhs:List SumI:=[-- 228 6312
 ⟨228,[.agg #[zi 54,zs 13 1 1,zs 14 1 1,zi 0,zi 0,zi 233,zm,zi 0,.bool false,zi 0],.agg #[zi 54,zs 15 1 11]],[iN [27] 3,iN [5] 3,iN [4,0,0,0,0,0,0,0,0,0,0] 168],.tuple #[zs 18 2 3,.bool true],[⟨105,[zu 233,zu 0,zu 0,zu 0,zu 0],5,false⟩,
  ⟨111,[zu 64,zu 233,zu 0,zu 0,zu 0,zu 0],5,false⟩,
  ⟨114,[zs 16 5 1,zi 0,zm,zs 17 6 1,zi 0,zm],281,false⟩]⟩,
 ⟨228,[.agg #[zi 54,zs 13 1 1,zs 14 1 1,zi 0,zi 0,zi 255,zi 4,zi 0,.bool false,zi 0],.agg #[zi 54,zs 15 1 11]],[iN [10] 3,iN [2] 3,iN [4,0,0,0,0,0,0,0,0,0,0] 168],.tuple #[zn,.bool false],[]⟩,
 ⟨228,[.agg #[zi 54,zs 13 1 1,zs 14 1 1,zi 0,zi 0,zi 235,zm,zi 0,.bool false,zi 0],.agg #[zi 54,zs 15 1 11]],[iN [26] 3,iN [5] 3,iN [4,0,0,0,0,0,0,0,0,0,198] 168],.tuple #[zn,.bool false],[]⟩,
 ⟨228,[.agg #[zi 54,zs 13 1 1,zs 14 1 1,zi 0,zi 0,zi 233,zm,zi 0,.bool false,zi 0],.agg #[zi 54,zs 15 1 11]],[iN [27] 3,iN [5] 3,iN [4,0,0,0,0,0,0,0,0,0,198] 168],.tuple #[zs 18 2 3,.bool true],[⟨105,[zu 233,zu 198,zu 0,zu 0,zu 0],5,false⟩,
  ⟨111,[zu 64,zu 233,zu 198,zu 0,zu 0,zu 0],5,false⟩,
  ⟨114,[zs 16 5 1,zi 0,zm,zs 17 6 1,zi 0,zm],281,false⟩]⟩,
 ⟨228,[.agg #[zi 54,zs 13 1 1,zs 14 1 1,zi 0,zi 0,zi 255,zi 4,zi 0,.bool false,zi 0],.agg #[zi 54,zs 15 1 11]],[iN [10] 3,iN [2] 3,iN [4,0,0,0,0,0,0,0,0,0,198] 168],.tuple #[zn,.bool false],[]⟩]
def Qht:List SumI:=[-- 228 4587
 ⟨228,[.agg #[zi 54,zs 13 1 1,zs 14 1 1,zi 0,zi 0,zi 235,zm,zi 0,.bool false,zi 0],.agg #[zi 54,zs 15 1 11]],[iN [26] 3,iN [5] 3,([zi 4,zi 0,zi 0,zi 0,zi 0,zi 0,zi 0,zi 0,zi 0,zi 0,.int .i64 (.negSucc 1)],168)],.tuple #[zs 18 2 3,.bool true],[⟨105,[zu 235,zu 254],5,false⟩,
  ⟨111,[zu 64,zu 235,zu 254],5,false⟩,
  ⟨114,[zs 16 2 1,zi 0,zm,zs 17 3 1,zi 0,zm],281,false⟩]⟩,
 ⟨228,[.agg #[zi 54,zs 13 1 1,zs 14 1 1,zi 0,zi 0,zi 233,zm,zi 0,.bool false,zi 0],.agg #[zi 54,zs 15 1 11]],[iN [27] 3,iN [5] 3,([zi 4,zi 0,zi 0,zi 0,zi 0,zi 0,zi 0,zi 0,zi 0,zi 0,.int .i64 (.negSucc 1)],168)],.tuple #[zs 18 2 3,.bool true],[⟨105,[zu 233,zu 254,zu 255,zu 255,zu 255],5,false⟩,
  ⟨111,[zu 64,zu 233,zu 254,zu 255,zu 255,zu 255],5,false⟩,
  ⟨114,[zs 16 5 1,zi 0,zm,zs 17 6 1,zi 0,zm],281,false⟩]⟩,
 ⟨228,[.agg #[zi 54,zs 13 1 1,zs 14 1 1,zi 0,zi 0,zi 255,zi 4,zi 0,.bool false,zi 0],.agg #[zi 54,zs 15 1 11]],[iN [10] 3,iN [2] 3,([zi 4,zi 0,zi 0,zi 0,zi 0,zi 0,zi 0,zi 0,zi 0,zi 0,.int .i64 (.negSucc 1)],168)],.tuple #[zn,.bool false],[]⟩]
def Qei:FuncId->List SumI:=λf=>bif Nat.beq f 228 then Qhk++Qhl++Qhm++Qhn++Qho++Qhp++Qhq++Qhr++Qhs++Qht else Qeh f
def QjL:CallF:=QE knZ (YA Tryz.prog.globals.size tab.tabs Qei)
def Qhu:List SumI:=[-- 176 5772
 ⟨176,[.agg #[zi 50,.slice (some ⟨13,0,none⟩) 0 0],zs 14 3 10],[iN [] 168,iF [[50,0,0,0,0,0,0,0,0,144,0,1,0,0],
  [50,15,1,1,16,1,1,1,1,31,1,1,0,0],
  [50,17,1,1,18,1,1,0,1,31,1,1,0,0]] 64,iN [8] 3,iN [2] 3,iN [9] 3,iN [2] 3],zs 21 2 3,[⟨35,[zu 144],5,false⟩,
  ⟨36,[zu 64,zu 144],5,false⟩,
  ⟨43,[zs 19 1 1,zi 0,zm,zs 20 2 1,zi 0,zm],281,false⟩]⟩,
 ⟨176,[.agg #[zi 54,.slice (some ⟨13,0,none⟩) 1 1],zs 14 3 10],[iN [4,0,0,0,0,0,0,0,0,0,128] 168,iF [[54,15,1,1,16,1,1,0,0,235,0,1,0,0],
  [54,17,1,1,18,1,1,0,0,233,0,1,0,0],
  [54,19,1,1,20,1,1,0,0,255,5,1,0,0]] 64,iN [26] 3,iN [5] 3,iN [27] 3,iN [5] 3,iN [10] 3,iN [2] 3],zs 23 2 3,[⟨47,[zu 233,zu 128,zu 0,zu 0,zu 0],5,false⟩,
  ⟨48,[zu 64,zu 233,zu 128,zu 0,zu 0,zu 0],5,false⟩,
  ⟨55,[zs 21 5 1,zi 1,zm,zs 22 6 1,zi 1,zm],281,false⟩]⟩,
 ⟨176,[.agg #[zi 9,.slice (some ⟨13,0,none⟩) 2 2],zs 14 16 10],[iN [1,4,0,0,0,0,0,0,0,0,0,3,0,0,0,0,0,0,0,0,0,16] 168,iF [[9,15,2,1,16,2,1,0,0,136,0,1,0,0],
  [9,17,2,1,18,2,1,1,0,137,0,1,0,0],
  [9,19,2,1,20,2,1,0,0,137,0,1,0,0],
  [9,21,2,1,22,2,1,0,0,137,0,2,0,0],
  [9,23,2,1,24,2,1,0,0,138,0,1,0,0],
  [9,25,2,1,26,2,1,1,0,139,0,1,0,0],
  [9,27,2,1,28,2,1,0,0,139,0,1,0,0],
  [9,29,2,1,30,2,1,0,0,139,0,2,0,0],
  [9,31,2,1,32,2,1,0,0,176,0,1,0,0],
  [9,33,2,1,34,2,1,1,0,184,0,1,0,0],
  [9,35,2,1,36,2,1,0,0,184,0,1,0,0],
  [9,37,2,1,38,2,1,0,0,184,0,2,0,0],
  [9,39,2,1,40,2,1,0,0,198,1,1,0,0],
  [9,41,2,1,42,2,1,1,0,199,1,1,0,0],
  [9,43,2,1,44,2,1,0,0,199,1,1,0,0],
  [9,45,2,1,46,2,1,0,0,199,1,2,0,0]] 64,iN [7,1] 3,iN [2,1] 3,iN [8,2] 3,iN [2,1] 3,iN [9,3] 3,iN [2,1] 3,iN [10,4] 3,iN [2,1] 3,iN [1,7] 3,iN [1,2] 3,iN [2,8] 3,iN [1,2] 3,iN [3,9] 3,iN [1,2] 3,iN [4,10] 3,iN [1,2] 3,iN [1,20] 3,iN [4,5] 3,iN [2,22] 3,iN [4,5] 3,iN [3,23] 3,iN [4,5] 3,iN [4,25] 3,iN [4,5] 3,iN [7,20] 3,iN [2,5] 3,iN [8,22] 3,iN [2,5] 3,iN [9,23] 3,iN [2,5] 3,iN [10,24] 3,iN [2,5] 3],zs 51 4 3,[⟨102,[zu 184,zu 16,zu 0,zu 0,zu 0],5,false⟩,
  ⟨103,[zu 64,zu 184,zu 16,zu 0,zu 0,zu 0],5,false⟩,
  ⟨115,[zu 199,zu 192,zu 16,zu 0,zu 0,zu 0],5,false⟩,
  ⟨116,[zu 64,zu 199,zu 192,zu 16,zu 0,zu 0,zu 0],5,false⟩,
  ⟨123,[zs 47 5 1,zi 10,zm,zs 48 6 1,zi 10,zm,zs 49 6 1,zi 14,zm,zs 50 7 1,zi 14,zm],281,false⟩]⟩,
 ⟨176,[.agg #[zi 9,.slice (some ⟨13,0,none⟩) 2 2],zs 14 16 10],[iN [1,4,0,0,0,0,0,0,0,0,0,3,0,0,0,0,0,0,0,0,0,21] 168,iF [[9,15,2,1,16,2,1,0,0,136,0,1,0,0],
  [9,17,2,1,18,2,1,1,0,137,0,1,0,0],
  [9,19,2,1,20,2,1,0,0,137,0,1,0,0],
  [9,21,2,1,22,2,1,0,0,137,0,2,0,0],
  [9,23,2,1,24,2,1,0,0,138,0,1,0,0],
  [9,25,2,1,26,2,1,1,0,139,0,1,0,0],
  [9,27,2,1,28,2,1,0,0,139,0,1,0,0],
  [9,29,2,1,30,2,1,0,0,139,0,2,0,0],
  [9,31,2,1,32,2,1,0,0,176,0,1,0,0],
  [9,33,2,1,34,2,1,1,0,184,0,1,0,0],
  [9,35,2,1,36,2,1,0,0,184,0,1,0,0],
  [9,37,2,1,38,2,1,0,0,184,0,2,0,0],
  [9,39,2,1,40,2,1,0,0,198,1,1,0,0],
  [9,41,2,1,42,2,1,1,0,199,1,1,0,0],
  [9,43,2,1,44,2,1,0,0,199,1,1,0,0],
  [9,45,2,1,46,2,1,0,0,199,1,2,0,0]] 64,iN [7,1] 3,iN [2,1] 3,iN [8,2] 3,iN [2,1] 3,iN [9,3] 3,iN [2,1] 3,iN [10,4] 3,iN [2,1] 3,iN [1,7] 3,iN [1,2] 3,iN [2,8] 3,iN [1,2] 3,iN [3,9] 3,iN [1,2] 3,iN [4,10] 3,iN [1,2] 3,iN [1,20] 3,iN [4,5] 3,iN [2,22] 3,iN [4,5] 3,iN [3,23] 3,iN [4,5] 3,iN [4,25] 3,iN [4,5] 3,iN [7,20] 3,iN [2,5] 3,iN [8,22] 3,iN [2,5] 3,iN [9,23] 3,iN [2,5] 3,iN [10,24] 3,iN [2,5] 3],zs 51 4 3,[⟨102,[zu 184,zu 21,zu 0,zu 0,zu 0],5,false⟩,
  ⟨103,[zu 64,zu 184,zu 21,zu 0,zu 0,zu 0],5,false⟩,
  ⟨115,[zu 199,zu 192,zu 21,zu 0,zu 0,zu 0],5,false⟩,
  ⟨116,[zu 64,zu 199,zu 192,zu 21,zu 0,zu 0,zu 0],5,false⟩,
  ⟨123,[zs 47 5 1,zi 10,zm,zs 48 6 1,zi 10,zm,zs 49 6 1,zi 14,zm,zs 50 7 1,zi 14,zm],281,false⟩]⟩,
 ⟨176,[.agg #[zi 54,.slice (some ⟨13,0,none⟩) 1 1],zs 14 3 10],[iN [4,0,0,0,0,0,0,0,0,0,0] 168,iF [[54,15,1,1,16,1,1,0,0,235,0,1,0,0],
  [54,17,1,1,18,1,1,0,0,233,0,1,0,0],
  [54,19,1,1,20,1,1,0,0,255,5,1,0,0]] 64,iN [26] 3,iN [5] 3,iN [27] 3,iN [5] 3,iN [10] 3,iN [2] 3],zs 25 4 3,[⟨46,[zu 235,zu 0],5,false⟩,
  ⟨47,[zu 64,zu 235,zu 0],5,false⟩,
  ⟨56,[zu 233,zu 0,zu 0,zu 0,zu 0],5,false⟩,
  ⟨57,[zu 64,zu 233,zu 0,zu 0,zu 0,zu 0],5,false⟩,
  ⟨64,[zs 21 2 1,zi 0,zm,zs 22 3 1,zi 0,zm,zs 23 5 1,zi 1,zm,zs 24 6 1,zi 1,zm],281,false⟩]⟩,
 ⟨176,[.agg #[zi 54,.slice (some ⟨13,0,none⟩) 1 1],zs 14 3 10],[iN [4,0,0,0,0,0,0,0,0,0,198] 168,iF [[54,15,1,1,16,1,1,0,0,235,0,1,0,0],
  [54,17,1,1,18,1,1,0,0,233,0,1,0,0],
  [54,19,1,1,20,1,1,0,0,255,5,1,0,0]] 64,iN [26] 3,iN [5] 3,iN [27] 3,iN [5] 3,iN [10] 3,iN [2] 3],zs 23 2 3,[⟨47,[zu 233,zu 198,zu 0,zu 0,zu 0],5,false⟩,
  ⟨48,[zu 64,zu 233,zu 198,zu 0,zu 0,zu 0],5,false⟩,
  ⟨55,[zs 21 5 1,zi 1,zm,zs 22 6 1,zi 1,zm],281,false⟩]⟩,
 ⟨176,[.agg #[zi 54,.slice (some ⟨13,0,none⟩) 1 1],zs 14 3 10],[([zi 4,zi 0,zi 0,zi 0,zi 0,zi 0,zi 0,zi 0,zi 0,zi 0,.int .i64 (.negSucc 1)],168),iF [[54,15,1,1,16,1,1,0,0,235,0,1,0,0],
  [54,17,1,1,18,1,1,0,0,233,0,1,0,0],
  [54,19,1,1,20,1,1,0,0,255,5,1,0,0]] 64,iN [26] 3,iN [5] 3,iN [27] 3,iN [5] 3,iN [10] 3,iN [2] 3],zs 25 4 3,[⟨46,[zu 235,zu 254],5,false⟩,
  ⟨47,[zu 64,zu 235,zu 254],5,false⟩,
  ⟨56,[zu 233,zu 254,zu 255,zu 255,zu 255],5,false⟩,
  ⟨57,[zu 64,zu 233,zu 254,zu 255,zu 255,zu 255],5,false⟩,
  ⟨64,[zs 21 2 1,zi 0,zm,zs 22 3 1,zi 0,zm,zs 23 5 1,zi 1,zm,zs 24 6 1,zi 1,zm],281,false⟩]⟩]
def Qej:FuncId->List SumI:=λf=>bif Nat.beq f 176 then Qhu else Qei f
def QjM:CallF:=QE knZ (YA Tryz.prog.globals.size tab.tabs Qej)
def Qhv:List SumI:=[-- 109 3272
 ⟨109,[.agg #[zi 50,.slice (some ⟨13,0,none⟩) 0 0],zi 0],[iN [] 168],.tuple #[zs 14 1 1,zi 0],[⟨23,[zu 144],5,false⟩]⟩,
 ⟨109,[.agg #[zi 54,.slice (some ⟨13,0,none⟩) 1 1],zi 2],[iN [4,0,0,0,0,0,0,0,0,0,128] 168],.tuple #[zs 14 5 1,zi 0],[⟨26,[zu 233,zu 128,zu 0,zu 0,zu 0],5,false⟩]⟩,
 ⟨109,[.agg #[zi 9,.slice (some ⟨13,0,none⟩) 2 2],zi 3],[iN [1,4,0,0,0,0,0,0,0,0,0,3,0,0,0,0,0,0,0,0,0,16] 168],.tuple #[zs 14 5 1,zi 0],[⟨62,[zu 184,zu 16,zu 0,zu 0,zu 0],5,false⟩]⟩,
 ⟨109,[.agg #[zi 9,.slice (some ⟨13,0,none⟩) 2 2],zi 3],[iN [1,4,0,0,0,0,0,0,0,0,0,3,0,0,0,0,0,0,0,0,0,21] 168],.tuple #[zs 14 5 1,zi 0],[⟨62,[zu 184,zu 21,zu 0,zu 0,zu 0],5,false⟩]⟩,
 ⟨109,[.agg #[zi 54,.slice (some ⟨13,0,none⟩) 1 1],zi 1],[iN [4,0,0,0,0,0,0,0,0,0,0] 168],.tuple #[zs 14 2 1,zi 0],[⟨26,[zu 235,zu 0],5,false⟩]⟩,
 ⟨109,[.agg #[zi 54,.slice (some ⟨13,0,none⟩) 1 1],zi 1],[iN [4,0,0,0,0,0,0,0,0,0,198] 168],.tuple #[zn,zi 8],[]⟩,
 ⟨109,[.agg #[zi 54,.slice (some ⟨13,0,none⟩) 1 1],zi 1],[([zi 4,zi 0,zi 0,zi 0,zi 0,zi 0,zi 0,zi 0,zi 0,zi 0,.int .i64 (.negSucc 1)],168)],.tuple #[zs 14 2 1,zi 0],[⟨26,[zu 235,zu 254],5,false⟩]⟩]
def Qek:FuncId->List SumI:=λf=>bif Nat.beq f 109 then Qhv else Qej f
def QjN:CallF:=QE knZ (YA Tryz.prog.globals.size tab.tabs Qek)
def Qhw:List SumI:=[-- 108 1860
 ⟨108,[.agg #[zi 50,zn]],[],.tuple #[.agg #[zi 50,.slice (some ⟨13,0,none⟩) 0 0],zi 0],[rN 25 [] 168]⟩,
 ⟨108,[.agg #[zi 54,zs 13 1 11]],[iN [4,0,0,0,0,0,0,0,0,0,128] 168],.tuple #[.agg #[zi 54,.slice (some ⟨14,0,none⟩) 1 1],zi 0],[rN 30 [4,0,0,0,0,0,0,0,0,0,128] 168]⟩,
 ⟨108,[.agg #[zi 9,zs 13 2 11]],[iN [1,4,0,0,0,0,0,0,0,0,0,3,0,0,0,0,0,0,0,0,0,16] 168],.tuple #[.agg #[zi 9,.slice (some ⟨14,0,none⟩) 2 2],zi 0],[rN 67 [1,4,0,0,0,0,0,0,0,0,0,3,0,0,0,0,0,0,0,0,0,16] 168]⟩,
 ⟨108,[.agg #[zi 9,zs 13 2 11]],[iN [1,4,0,0,0,0,0,0,0,0,0,3,0,0,0,0,0,0,0,0,0,21] 168],.tuple #[.agg #[zi 9,.slice (some ⟨14,0,none⟩) 2 2],zi 0],[rN 67 [1,4,0,0,0,0,0,0,0,0,0,3,0,0,0,0,0,0,0,0,0,21] 168]⟩,
 ⟨108,[.agg #[zi 54,zs 13 1 11]],[iN [4,0,0,0,0,0,0,0,0,0,0] 168],.tuple #[.agg #[zi 54,.slice (some ⟨14,0,none⟩) 1 1],zi 0],[rN 30 [4,0,0,0,0,0,0,0,0,0,0] 168]⟩,
 ⟨108,[.agg #[zi 54,zs 13 1 11]],[iN [4,0,0,0,0,0,0,0,0,0,198] 168],.tuple #[.agg #[zi 54,.slice (some ⟨14,0,none⟩) 1 1],zi 0],[rN 30 [4,0,0,0,0,0,0,0,0,0,198] 168]⟩,
 ⟨108,[.agg #[zi 54,zs 13 1 11]],[([zi 4,zi 0,zi 0,zi 0,zi 0,zi 0,zi 0,zi 0,zi 0,zi 0,.int .i64 (.negSucc 1)],168)],.tuple #[.agg #[zi 54,.slice (some ⟨14,0,none⟩) 1 1],zi 0],[⟨30,[zi 4,zi 0,zi 0,zi 0,zi 0,zi 0,zi 0,zi 0,zi 0,zi 0,.int .i64 (.negSucc 1)],168,false⟩]⟩]
def Qel:FuncId->List SumI:=λf=>bif Nat.beq f 108 then Qhw else Qek f
def Qhx:CallF:=QE knZ (YA Tryz.prog.globals.size tab.tabs Qel)
def QlR (a:Nat):SumI:=⟨107,[.agg #[zi 50,zi 0,zn],zn,zi a,zi 0,zi (a+1)],[],.tuple #[.agg #[zi 50,zn],.bool false,zi 0],[]⟩
def QlL:List SumI:=(List.range 128).map λi=>QlR (i+5)
def QlS:List Value->Nat
 | _::_::.int _ (.ofNat a)::_=>a
 | _=>0
def QlO (a:Nat):List SumI:=bif Nat.blt a 5 then[] else bif Nat.blt a 133 then[QlR a] else[]
def QlT:CallF:=λf args H=>bif Nat.beq f 107 then YA Tryz.prog.globals.size [] (λ_=>QlO (QlS args)) f args H else none
def QlU (kn:CallF) (l:List SumI):Bool:=l.all λs=>Qgp (Tryz.prog.globals.size+s.ins.length) s.u s.rs ((run Tryz.prog kn 100000 5 60).fn s.f s.args (XW (tabHeap Tryz.prog.globals.size []) s.ins))
def knP:CallF:=QE knZ QlT
def Qhy:List SumI:=[-- 107 0
 ⟨107,[.agg #[zi 50,zi 0,zn],zn,zi 0,zi 0,zi 0],[],.tuple #[.agg #[zi 50,zn],.bool false,zi 0],[]⟩,
 ⟨107,[.agg #[zi 54,zi 0,zs 13 1 12],zs 14 1 3,zi 0,zi 0,zi 5],[([zi 4,zi 0,zi 0,zi 0,zi 0,zi 0,zi 0,zi 0,zi 0,zi 0,zs 15 1 5,.bool false],191),([.string (mkS [97]),zi 133,.bool true],58),([zi 2,zi 0,.string (mkS [97]),zi 0,zi 0],33)],.tuple #[.agg #[zi 54,zs 16 1 11],.bool true,zi 0],[rN 32 [4,0,0,0,0,0,0,0,0,0,128] 168]⟩,
 ⟨107,[.agg #[zi 9,zi 0,zs 13 2 12],zs 14 1 3,zi 16,zi 16,zi 16],[([zi 1,zi 4,zi 0,zi 0,zi 0,zi 0,zi 0,zi 0,zi 0,zi 0,zn,.bool false,zi 3,zi 0,zi 0,zi 0,zi 0,zi 0,zi 0,zi 0,zi 0,zi 0,zs 15 1 5,.bool false],191),([.string (mkS [97]),zi 16,.bool true],58),([zi 2,zi 0,.string (mkS [97]),zi 0,zi 0],33)],.tuple #[.agg #[zi 9,zs 16 2 11],.bool true,zi 0],[rN 38 [1,4,0,0,0,0,0,0,0,0,0,3,0,0,0,0,0,0,0,0,0,16] 168]⟩,
 ⟨107,[.agg #[zi 9,zi 0,zs 13 2 12],zs 14 1 3,zi 16,zi 16,zi 21],[([zi 1,zi 4,zi 0,zi 0,zi 0,zi 0,zi 0,zi 0,zi 0,zi 0,zn,.bool false,zi 3,zi 0,zi 0,zi 0,zi 0,zi 0,zi 0,zi 0,zi 0,zi 0,zs 15 1 5,.bool false],191),([.string (mkS [97]),zi 21,.bool true],58),([zi 2,zi 0,.string (mkS [97]),zi 0,zi 0],33)],.tuple #[.agg #[zi 9,zs 16 2 11],.bool true,zi 0],[rN 38 [1,4,0,0,0,0,0,0,0,0,0,3,0,0,0,0,0,0,0,0,0,21] 168]⟩,
 ⟨107,[.agg #[zi 54,zi 1,zs 13 1 12],zn,zi 0,zi 0,zi 0],[([zi 4,zi 0,zi 0,zi 0,zi 0,zi 0,zi 0,zi 0,zi 0,zi 0,.slice (some ⟨14,0,none⟩) 1 1,.bool false],191),([zi 1,zi 0,.string (mkS []),zi 0,zi 0],33)],.tuple #[.agg #[zi 54,zs 15 1 11],.bool true,zi 0],[rN 29 [4,0,0,0,0,0,0,0,0,0,0] 168]⟩,
 ⟨107,[.agg #[zi 54,zi 1,zs 13 1 12],zs 14 1 3,zi 4,zi 0,zi 6],[([zi 4,zi 0,zi 0,zi 0,zi 0,zi 0,zi 0,zi 0,zi 0,zi 0,zs 15 3 5,.bool false],191),([.string (mkS [97]),zi 4,.bool true],58),([zi 2,zi 0,.string (mkS [97]),zi 0,zi 0,zi 1,zi 200,.string (mkS []),zi 0,zi 0,zi 10,zi 0,.string (mkS []),zi 0,zi 1],33)],.tuple #[.agg #[zi 54,zs 16 1 11],.bool true,zi 0],[rN 41 [4,0,0,0,0,0,0,0,0,0,198] 168]⟩,
 ⟨107,[.agg #[zi 50,zi 0,zn],zn,zi 0,zi 0,zi 1],[],.tuple #[.agg #[zi 50,zn],.bool false,zi 0],[]⟩,
 ⟨107,[.agg #[zi 54,zi 0,zs 13 1 12],zs 14 1 3,zi 1,zi 0,zi 3],[([zi 4,zi 0,zi 0,zi 0,zi 0,zi 0,zi 0,zi 0,zi 0,zi 0,zs 15 1 5,.bool false],191),([.string (mkS [97]),zi 1,.bool true],58),([zi 2,zi 0,.string (mkS [97]),zi 0,zi 0],33)],.tuple #[.agg #[zi 54,zs 16 1 11],.bool true,zi 0],[⟨32,[zi 4,zi 0,zi 0,zi 0,zi 0,zi 0,zi 0,zi 0,zi 0,zi 0,.int .i64 (.negSucc 1)],168,false⟩]⟩]
def Qem:FuncId->List SumI:=λf=>bif Nat.beq f 107 then Qhy else Qel f
def VK:CallF:=QE knP (YA Tryz.prog.globals.size tab.tabs Qem)
def QhA:List SumI:=[-- 34 14039
 ⟨34,[.string (mkS [106,109,112,32,97,10,116,105,109,101,115,32,49,50,56,32,110,111,112,10,97,58])],[],.tuple #[.agg #[zi 0,zn,zs 15 130 9],.agg #[zi 0,zi 0]],[⟨96,[zi 4,zi 0,zi 0,zi 0,zi 0,zi 0,zi 0,zi 0,zi 0,zi 0,zs 14 1 5,.bool false],191,false⟩,
  ⟨99,[zi 2,zi 0,.string (mkS [97]),zi 0,zi 0],33,false⟩,
  ⟨1099,[zi 1,zi 2,.string (mkS []),zi 54,zi 0,zs 13 1 12,zn,zn,zi 0,zi 2,zi 2,.string (mkS []),zi 50,zi 0,zn,zn,zn,zi 0,zi 2,zi 2,.string (mkS []),zi 50,zi 0,zn,zn,zn,zi 0,zi 2,zi 2,.string (mkS []),zi 50,zi 0,zn,zn,zn,zi 0,zi 2,zi 2,.string (mkS []),zi 50,zi 0,zn,zn,zn,zi 0,zi 2,zi 2,.string (mkS []),zi 50,zi 0,zn,zn,zn,zi 0,zi 2,zi 2,.string (mkS []),zi 50,zi 0,zn,zn,zn,zi 0,zi 2,zi 2,.string (mkS []),zi 50,zi 0,zn,zn,zn,zi 0,zi 2,zi 2,.string (mkS []),zi 50,zi 0,zn,zn,zn,zi 0,zi 2,zi 2,.string (mkS []),zi 50,zi 0,zn,zn,zn,zi 0,zi 2,zi 2,.string (mkS []),zi 50,zi 0,zn,zn,zn,zi 0,zi 2,zi 2,.string (mkS []),zi 50,zi 0,zn,zn,zn,zi 0,zi 2,zi 2,.string (mkS []),zi 50,zi 0,zn,zn,zn,zi 0,zi 2,zi 2,.string (mkS []),zi 50,zi 0,zn,zn,zn,zi 0,zi 2,zi 2,.string (mkS []),zi 50,zi 0,zn,zn,zn,zi 0,zi 2,zi 2,.string (mkS []),zi 50,zi 0,zn,zn,zn,zi 0,zi 2,zi 2,.string (mkS []),zi 50,zi 0,zn,zn,zn,zi 0,zi 2,zi 2,.string (mkS []),zi 50,zi 0,zn,zn,zn,zi 0,zi 2,zi 2,.string (mkS []),zi 50,zi 0,zn,zn,zn,zi 0,zi 2,zi 2,.string (mkS []),zi 50,zi 0,zn,zn,zn,zi 0,zi 2,zi 2,.string (mkS []),zi 50,zi 0,zn,zn,zn,zi 0,zi 2,zi 2,.string (mkS []),zi 50,zi 0,zn,zn,zn,zi 0,zi 2,zi 2,.string (mkS []),zi 50,zi 0,zn,zn,zn,zi 0,zi 2,zi 2,.string (mkS []),zi 50,zi 0,zn,zn,zn,zi 0,zi 2,zi 2,.string (mkS []),zi 50,zi 0,zn,zn,zn,zi 0,zi 2,zi 2,.string (mkS []),zi 50,zi 0,zn,zn,zn,zi 0,zi 2,zi 2,.string (mkS []),zi 50,zi 0,zn,zn,zn,zi 0,zi 2,zi 2,.string (mkS []),zi 50,zi 0,zn,zn,zn,zi 0,zi 2,zi 2,.string (mkS []),zi 50,zi 0,zn,zn,zn,zi 0,zi 2,zi 2,.string (mkS []),zi 50,zi 0,zn,zn,zn,zi 0,zi 2,zi 2,.string (mkS []),zi 50,zi 0,zn,zn,zn,zi 0,zi 2,zi 2,.string (mkS []),zi 50,zi 0,zn,zn,zn,zi 0,zi 2,zi 2,.string (mkS []),zi 50,zi 0,zn,zn,zn,zi 0,zi 2,zi 2,.string (mkS []),zi 50,zi 0,zn,zn,zn,zi 0,zi 2,zi 2,.string (mkS []),zi 50,zi 0,zn,zn,zn,zi 0,zi 2,zi 2,.string (mkS []),zi 50,zi 0,zn,zn,zn,zi 0,zi 2,zi 2,.string (mkS []),zi 50,zi 0,zn,zn,zn,zi 0,zi 2,zi 2,.string (mkS []),zi 50,zi 0,zn,zn,zn,zi 0,zi 2,zi 2,.string (mkS []),zi 50,zi 0,zn,zn,zn,zi 0,zi 2,zi 2,.string (mkS []),zi 50,zi 0,zn,zn,zn,zi 0,zi 2,zi 2,.string (mkS []),zi 50,zi 0,zn,zn,zn,zi 0,zi 2,zi 2,.string (mkS []),zi 50,zi 0,zn,zn,zn,zi 0,zi 2,zi 2,.string (mkS []),zi 50,zi 0,zn,zn,zn,zi 0,zi 2,zi 2,.string (mkS []),zi 50,zi 0,zn,zn,zn,zi 0,zi 2,zi 2,.string (mkS []),zi 50,zi 0,zn,zn,zn,zi 0,zi 2,zi 2,.string (mkS []),zi 50,zi 0,zn,zn,zn,zi 0,zi 2,zi 2,.string (mkS []),zi 50,zi 0,zn,zn,zn,zi 0,zi 2,zi 2,.string (mkS []),zi 50,zi 0,zn,zn,zn,zi 0,zi 2,zi 2,.string (mkS []),zi 50,zi 0,zn,zn,zn,zi 0,zi 2,zi 2,.string (mkS []),zi 50,zi 0,zn,zn,zn,zi 0,zi 2,zi 2,.string (mkS []),zi 50,zi 0,zn,zn,zn,zi 0,zi 2,zi 2,.string (mkS []),zi 50,zi 0,zn,zn,zn,zi 0,zi 2,zi 2,.string (mkS []),zi 50,zi 0,zn,zn,zn,zi 0,zi 2,zi 2,.string (mkS []),zi 50,zi 0,zn,zn,zn,zi 0,zi 2,zi 2,.string (mkS []),zi 50,zi 0,zn,zn,zn,zi 0,zi 2,zi 2,.string (mkS []),zi 50,zi 0,zn,zn,zn,zi 0,zi 2,zi 2,.string (mkS []),zi 50,zi 0,zn,zn,zn,zi 0,zi 2,zi 2,.string (mkS []),zi 50,zi 0,zn,zn,zn,zi 0,zi 2,zi 2,.string (mkS []),zi 50,zi 0,zn,zn,zn,zi 0,zi 2,zi 2,.string (mkS []),zi 50,zi 0,zn,zn,zn,zi 0,zi 2,zi 2,.string (mkS []),zi 50,zi 0,zn,zn,zn,zi 0,zi 2,zi 2,.string (mkS []),zi 50,zi 0,zn,zn,zn,zi 0,zi 2,zi 2,.string (mkS []),zi 50,zi 0,zn,zn,zn,zi 0,zi 2,zi 2,.string (mkS []),zi 50,zi 0,zn,zn,zn,zi 0,zi 2,zi 2,.string (mkS []),zi 50,zi 0,zn,zn,zn,zi 0,zi 2,zi 2,.string (mkS []),zi 50,zi 0,zn,zn,zn,zi 0,zi 2,zi 2,.string (mkS []),zi 50,zi 0,zn,zn,zn,zi 0,zi 2,zi 2,.string (mkS []),zi 50,zi 0,zn,zn,zn,zi 0,zi 2,zi 2,.string (mkS []),zi 50,zi 0,zn,zn,zn,zi 0,zi 2,zi 2,.string (mkS []),zi 50,zi 0,zn,zn,zn,zi 0,zi 2,zi 2,.string (mkS []),zi 50,zi 0,zn,zn,zn,zi 0,zi 2,zi 2,.string (mkS []),zi 50,zi 0,zn,zn,zn,zi 0,zi 2,zi 2,.string (mkS []),zi 50,zi 0,zn,zn,zn,zi 0,zi 2,zi 2,.string (mkS []),zi 50,zi 0,zn,zn,zn,zi 0,zi 2,zi 2,.string (mkS []),zi 50,zi 0,zn,zn,zn,zi 0,zi 2,zi 2,.string (mkS []),zi 50,zi 0,zn,zn,zn,zi 0,zi 2,zi 2,.string (mkS []),zi 50,zi 0,zn,zn,zn,zi 0,zi 2,zi 2,.string (mkS []),zi 50,zi 0,zn,zn,zn,zi 0,zi 2,zi 2,.string (mkS []),zi 50,zi 0,zn,zn,zn,zi 0,zi 2,zi 2,.string (mkS []),zi 50,zi 0,zn,zn,zn,zi 0,zi 2,zi 2,.string (mkS []),zi 50,zi 0,zn,zn,zn,zi 0,zi 2,zi 2,.string (mkS []),zi 50,zi 0,zn,zn,zn,zi 0,zi 2,zi 2,.string (mkS []),zi 50,zi 0,zn,zn,zn,zi 0,zi 2,zi 2,.string (mkS []),zi 50,zi 0,zn,zn,zn,zi 0,zi 2,zi 2,.string (mkS []),zi 50,zi 0,zn,zn,zn,zi 0,zi 2,zi 2,.string (mkS []),zi 50,zi 0,zn,zn,zn,zi 0,zi 2,zi 2,.string (mkS []),zi 50,zi 0,zn,zn,zn,zi 0,zi 2,zi 2,.string (mkS []),zi 50,zi 0,zn,zn,zn,zi 0,zi 2,zi 2,.string (mkS []),zi 50,zi 0,zn,zn,zn,zi 0,zi 2,zi 2,.string (mkS []),zi 50,zi 0,zn,zn,zn,zi 0,zi 2,zi 2,.string (mkS []),zi 50,zi 0,zn,zn,zn,zi 0,zi 2,zi 2,.string (mkS []),zi 50,zi 0,zn,zn,zn,zi 0,zi 2,zi 2,.string (mkS []),zi 50,zi 0,zn,zn,zn,zi 0,zi 2,zi 2,.string (mkS []),zi 50,zi 0,zn,zn,zn,zi 0,zi 2,zi 2,.string (mkS []),zi 50,zi 0,zn,zn,zn,zi 0,zi 2,zi 2,.string (mkS []),zi 50,zi 0,zn,zn,zn,zi 0,zi 2,zi 2,.string (mkS []),zi 50,zi 0,zn,zn,zn,zi 0,zi 2,zi 2,.string (mkS []),zi 50,zi 0,zn,zn,zn,zi 0,zi 2,zi 2,.string (mkS []),zi 50,zi 0,zn,zn,zn,zi 0,zi 2,zi 2,.string (mkS []),zi 50,zi 0,zn,zn,zn,zi 0,zi 2,zi 2,.string (mkS []),zi 50,zi 0,zn,zn,zn,zi 0,zi 2,zi 2,.string (mkS []),zi 50,zi 0,zn,zn,zn,zi 0,zi 2,zi 2,.string (mkS []),zi 50,zi 0,zn,zn,zn,zi 0,zi 2,zi 2,.string (mkS []),zi 50,zi 0,zn,zn,zn,zi 0,zi 2,zi 2,.string (mkS []),zi 50,zi 0,zn,zn,zn,zi 0,zi 2,zi 2,.string (mkS []),zi 50,zi 0,zn,zn,zn,zi 0,zi 2,zi 2,.string (mkS []),zi 50,zi 0,zn,zn,zn,zi 0,zi 2,zi 2,.string (mkS []),zi 50,zi 0,zn,zn,zn,zi 0,zi 2,zi 2,.string (mkS []),zi 50,zi 0,zn,zn,zn,zi 0,zi 2,zi 2,.string (mkS []),zi 50,zi 0,zn,zn,zn,zi 0,zi 2,zi 2,.string (mkS []),zi 50,zi 0,zn,zn,zn,zi 0,zi 2,zi 2,.string (mkS []),zi 50,zi 0,zn,zn,zn,zi 0,zi 2,zi 2,.string (mkS []),zi 50,zi 0,zn,zn,zn,zi 0,zi 2,zi 2,.string (mkS []),zi 50,zi 0,zn,zn,zn,zi 0,zi 2,zi 2,.string (mkS []),zi 50,zi 0,zn,zn,zn,zi 0,zi 2,zi 2,.string (mkS []),zi 50,zi 0,zn,zn,zn,zi 0,zi 2,zi 2,.string (mkS []),zi 50,zi 0,zn,zn,zn,zi 0,zi 2,zi 2,.string (mkS []),zi 50,zi 0,zn,zn,zn,zi 0,zi 2,zi 2,.string (mkS []),zi 50,zi 0,zn,zn,zn,zi 0,zi 2,zi 2,.string (mkS []),zi 50,zi 0,zn,zn,zn,zi 0,zi 2,zi 2,.string (mkS []),zi 50,zi 0,zn,zn,zn,zi 0,zi 2,zi 2,.string (mkS []),zi 50,zi 0,zn,zn,zn,zi 0,zi 2,zi 2,.string (mkS []),zi 50,zi 0,zn,zn,zn,zi 0,zi 2,zi 2,.string (mkS []),zi 50,zi 0,zn,zn,zn,zi 0,zi 2,zi 2,.string (mkS []),zi 50,zi 0,zn,zn,zn,zi 0,zi 2,zi 2,.string (mkS []),zi 50,zi 0,zn,zn,zn,zi 0,zi 2,zi 2,.string (mkS []),zi 50,zi 0,zn,zn,zn,zi 0,zi 2,zi 2,.string (mkS []),zi 50,zi 0,zn,zn,zn,zi 0,zi 2,zi 2,.string (mkS []),zi 50,zi 0,zn,zn,zn,zi 0,zi 3,zi 1,.string (mkS [97]),zi 0,zi 0,zn,zn,zn,zi 0],131,false⟩]⟩]
def QhB:List SumI:=[-- 34 8992
 ⟨34,[.string (mkS [111,114,103,32,49,54,10,109,111,118,32,101,97,120,44,32,97,10,97,58,32,100,119,32,97,32,45,32,49])],[],.tuple #[.agg #[zi 16,zn,zs 16 3 9],.agg #[zi 0,zi 0]],[⟨172,[zi 1,zi 4,zi 0,zi 0,zi 0,zi 0,zi 0,zi 0,zi 0,zi 0,zn,.bool false,zi 3,zi 0,zi 0,zi 0,zi 0,zi 0,zi 0,zi 0,zi 0,zi 0,zs 14 1 5,.bool false],191,false⟩,
  ⟨176,[zi 2,zi 0,.string (mkS [97]),zi 0,zi 0],33,false⟩,
  ⟨282,[zi 2,zi 0,.string (mkS [97]),zi 0,zi 0,zi 1,zi 1,.string (mkS []),zi 0,zi 0,zi 11,zi 0,.string (mkS []),zi 0,zi 1],33,false⟩,
  ⟨286,[zi 2,zi 2,.string (mkS []),zi 9,zi 0,zs 13 2 12,zn,zn,zi 0,zi 3,zi 1,.string (mkS [97]),zi 0,zi 0,zn,zn,zn,zi 0,zi 3,zi 3,.string (mkS []),zi 0,zi 0,zn,zs 15 3 5,zn,zi 2],131,false⟩]⟩]
def QhC:List SumI:=[-- 34 6559
 ⟨34,[.string (mkS [100,100,32,97,10,97,58,32,106,109,112,32,115,104,111,114,116,32,97,32,43,32,50,48,48])],[],.tuple #[.agg #[zi 0,zn,zs 16 3 9],.agg #[zi 0,zi 0]],[⟨76,[zi 2,zi 0,.string (mkS [97]),zi 0,zi 0],33,false⟩,
  ⟨208,[zi 4,zi 0,zi 0,zi 0,zi 0,zi 0,zi 0,zi 0,zi 0,zi 0,zs 15 3 5,.bool false],191,false⟩,
  ⟨211,[zi 2,zi 0,.string (mkS [97]),zi 0,zi 0,zi 1,zi 200,.string (mkS []),zi 0,zi 0,zi 10,zi 0,.string (mkS []),zi 0,zi 1],33,false⟩,
  ⟨216,[zi 1,zi 3,.string (mkS []),zi 0,zi 0,zn,zs 13 1 5,zn,zi 4,zi 2,zi 1,.string (mkS [97]),zi 0,zi 0,zn,zn,zn,zi 0,zi 2,zi 2,.string (mkS []),zi 54,zi 1,zs 14 1 12,zn,zn,zi 0],131,false⟩]⟩]
def QhD:List SumI:=[-- 34 3987
 ⟨34,[.string (mkS [100,98,32,51,48,48])],[],.tuple #[.agg #[zi 0,zn,zs 14 1 9],.agg #[zi 0,zi 0]],[⟨75,[zi 1,zi 300,.string (mkS []),zi 0,zi 0],33,false⟩,
  ⟨78,[zi 1,zi 3,.string (mkS []),zi 0,zi 0,zn,zs 13 1 5,zn,zi 1],131,false⟩]⟩,
 ⟨34,[.string (mkS [106,109,112,32,120])],[],.tuple #[.agg #[zi 0,zn,zs 15 1 9],.agg #[zi 0,zi 0]],[⟨96,[zi 4,zi 0,zi 0,zi 0,zi 0,zi 0,zi 0,zi 0,zi 0,zi 0,zs 14 1 5,.bool false],191,false⟩,
  ⟨99,[zi 2,zi 0,.string (mkS [120]),zi 0,zi 0],33,false⟩,
  ⟨104,[zi 1,zi 2,.string (mkS []),zi 54,zi 0,zs 13 1 12,zn,zn,zi 0],131,false⟩]⟩]
def QhE:List SumI:=[-- 34 4147
 ⟨34,[.string (mkS [110,111,112,10,97,58,32,106,109,112,32,97])],[],.tuple #[.agg #[zi 0,zn,zs 15 3 9],.agg #[zi 0,zi 0]],[⟨151,[zi 4,zi 0,zi 0,zi 0,zi 0,zi 0,zi 0,zi 0,zi 0,zi 0,zs 14 1 5,.bool false],191,false⟩,
  ⟨154,[zi 2,zi 0,.string (mkS [97]),zi 0,zi 0],33,false⟩,
  ⟨159,[zi 1,zi 2,.string (mkS []),zi 50,zi 0,zn,zn,zn,zi 0,zi 2,zi 1,.string (mkS [97]),zi 0,zi 0,zn,zn,zn,zi 0,zi 2,zi 2,.string (mkS []),zi 54,zi 0,zs 13 1 12,zn,zn,zi 0],131,false⟩]⟩]
def Qen:FuncId->List SumI:=λf=>bif Nat.beq f 34 then QhA++QhB++QhC++QhD++QhE else Qem f
def QhF:CallF:=QE knP (YA Tryz.prog.globals.size tab.tabs Qen)
def QhG:List SumI:=[-- 38 26477
 ⟨38,[zs 13 130 7,zi 0],[iN [2,0,2,5,129,0,0,1,1,0,0,0,0,0,1,1,0,0,0,0,0,1,1,0,0,0,0,0,1,1,0,0,0,0,0,1,1,0,0,0,0,0,1,1,0,0,0,0,0,1,1,0,0,0,0,0,1,1,0,0,0,0,0,1,1,0,0,0,0,0,1,1,0,0,0,0,0,1,1,0,0,0,0,0,1,1,0,0,0,0,0,1,1,0,0,0,0,0,1,1,0,0,0,0,0,1,1,0,0,0,0,0,1,1,0,0,0,0,0,1,1,0,0,0,0,0,1,1,0,0,0,0,0,1,1,0,0,0,0,0,1,1,0,0,0,0,0,1,1,0,0,0,0,0,1,1,0,0,0,0,0,1,1,0,0,0,0,0,1,1,0,0,0,0,0,1,1,0,0,0,0,0,1,1,0,0,0,0,0,1,1,0,0,0,0,0,1,1,0,0,0,0,0,1,1,0,0,0,0,0,1,1,0,0,0,0,0,1,1,0,0,0,0,0,1,1,0,0,0,0,0,1,1,0,0,0,0,0,1,1,0,0,0,0,0,1,1,0,0,0,0,0,1,1,0,0,0,0,0,1,1,0,0,0,0,0,1,1,0,0,0,0,0,1,1,0,0,0,0,0,1,1,0,0,0,0,0,1,1,0,0,0,0,0,1,1,0,0,0,0,0,1,1,0,0,0,0,0,1,1,0,0,0,0,0,1,1,0,0,0,0,0,1,1,0,0,0,0,0,1,1,0,0,0,0,0,1,1,0,0,0,0,0,1,1,0,0,0,0,0,1,1,0,0,0,0,0,1,1,0,0,0,0,0,1,1,0,0,0,0,0,1,1,0,0,0,0,0,1,1,0,0,0,0,0,1,1,0,0,0,0,0,1,1,0,0,0,0,0,1,1,0,0,0,0,0,1,1,0,0,0,0,0,1,1,0,0,0,0,0,1,1,0,0,0,0,0,1,1,0,0,0,0,0,1,1,0,0,0,0,0,1,1,0,0,0,0,0,1,1,0,0,0,0,0,1,1,0,0,0,0,0,1,1,0,0,0,0,0,1,1,0,0,0,0,0,1,1,0,0,0,0,0,1,1,0,0,0,0,0,1,1,0,0,0,0,0,1,1,0,0,0,0,0,1,1,0,0,0,0,0,1,1,0,0,0,0,0,1,1,0,0,0,0,0,1,1,0,0,0,0,0,1,1,0,0,0,0,0,1,1,0,0,0,0,0,1,1,0,0,0,0,0,1,1,0,0,0,0,0,1,1,0,0,0,0,0,1,1,0,0,0,0,0,1,1,0,0,0,0,0,1,1,0,0,0,0,0,1,1,0,0,0,0,0,1,1,0,0,0,0,0,1,1,0,0,0,0,0,1,1,0,0,0,0,0,1,1,0,0,0,0,0,1,1,0,0,0,0,0,1,1,0,0,0,0,0,1,1,0,0,0,0,0,1,1,0,0,0,0,0,1,1,0,0,0,0,0,1,1,0,0,0,0,0,1,1,0,0,0,0,0,1,1,0,0,0,0,0,1,1,0,0,0,0,0,1,1,0,0,0,0,0,1,1,0,0,0,0,0,1,1,0,0,0,0,0,1,1,0,0,0,0,0,1,1,0,0,0,0,0,1,1,0,0,0,0,0,1,1,0,0,0,0,0,1,1,0,0,0,0,0,1,1,0,0,0,0,0,1,1,0,0,0,0,0,1,1,0,0,0,0,0,1,1,0,0,0,0,0,1,1,0,0,0,0,0,1,1,0,0,0,0,0,1,1,0,0,0,0,0,1,1,0,0,0,0,0,1,1,0,0,0,0,0,1,1,0,0,0,0,0,1,1,0,0,0,0,0,1,1,0,0,0,0,0,1,1,0,0,0,0,0,1,1,0,0,0,0,0,1,1,0,0,0,0,0,1,1,0,0,0,0,0,1,1,0,0,0,0,0,1,1,0,0,0,0,0,1,1,0,0,0,0,0,1,1,0,0,0,0,0,1,1,0,0,0,0,0,1,1,0,0,0,0,0,1,1,0,0,0,0,0,1,0,0,0,0,0,0] 88],.tuple #[.agg #[.slice (some ⟨14,0,none⟩) 131 131,.slice (some ⟨15,0,none⟩) 130 130,zi 2],zi 0],[rN 536 [0,5,6,7,8,9,10,11,12,13,14,15,16,17,18,19,20,21,22,23,24,25,26,27,28,29,30,31,32,33,34,35,36,37,38,39,40,41,42,43,44,45,46,47,48,49,50,51,52,53,54,55,56,57,58,59,60,61,62,63,64,65,66,67,68,69,70,71,72,73,74,75,76,77,78,79,80,81,82,83,84,85,86,87,88,89,90,91,92,93,94,95,96,97,98,99,100,101,102,103,104,105,106,107,108,109,110,111,112,113,114,115,116,117,118,119,120,121,122,123,124,125,126,127,128,129,130,131,132,133,133] 3,
  ⟨537,[.bool true,.bool false,.bool false,.bool false,.bool false,.bool false,.bool false,.bool false,.bool false,.bool false,.bool false,.bool false,.bool false,.bool false,.bool false,.bool false,.bool false,.bool false,.bool false,.bool false,.bool false,.bool false,.bool false,.bool false,.bool false,.bool false,.bool false,.bool false,.bool false,.bool false,.bool false,.bool false,.bool false,.bool false,.bool false,.bool false,.bool false,.bool false,.bool false,.bool false,.bool false,.bool false,.bool false,.bool false,.bool false,.bool false,.bool false,.bool false,.bool false,.bool false,.bool false,.bool false,.bool false,.bool false,.bool false,.bool false,.bool false,.bool false,.bool false,.bool false,.bool false,.bool false,.bool false,.bool false,.bool false,.bool false,.bool false,.bool false,.bool false,.bool false,.bool false,.bool false,.bool false,.bool false,.bool false,.bool false,.bool false,.bool false,.bool false,.bool false,.bool false,.bool false,.bool false,.bool false,.bool false,.bool false,.bool false,.bool false,.bool false,.bool false,.bool false,.bool false,.bool false,.bool false,.bool false,.bool false,.bool false,.bool false,.bool false,.bool false,.bool false,.bool false,.bool false,.bool false,.bool false,.bool false,.bool false,.bool false,.bool false,.bool false,.bool false,.bool false,.bool false,.bool false,.bool false,.bool false,.bool false,.bool false,.bool false,.bool false,.bool false,.bool false,.bool false,.bool false,.bool false,.bool false,.bool false,.bool false,.bool false,.bool false],4,false⟩]⟩]
def QhH:List SumI:=[-- 38 1961
 ⟨38,[zs 13 3 7,zi 16],[iN [1,5,0,0,0,0,0,1,0,0,0,0,0,0,1,2,0,0,0,0,0] 88],.tuple #[.agg #[.slice (some ⟨14,0,none⟩) 4 4,.slice (some ⟨15,0,none⟩) 3 3,zi 1],zi 0],[rN 28 [16,21,21,23] 3,
  ⟨29,[.bool false,.bool false,.bool false],4,false⟩]⟩,
 ⟨38,[zs 13 3 7,zi 0],[iN [1,4,0,0,0,0,0,1,0,0,0,0,0,0,1,2,0,0,0,0,0] 88],.tuple #[.agg #[.slice (some ⟨14,0,none⟩) 4 4,.slice (some ⟨15,0,none⟩) 3 3,zi 1],zi 0],[rN 28 [0,4,4,6] 3,
  ⟨29,[.bool false,.bool false,.bool false],4,false⟩]⟩,
 ⟨38,[zs 13 1 7,zi 0],[iN [1,1,0,0,0,0,0] 88],.tuple #[.agg #[.slice (some ⟨14,0,none⟩) 2 2,.slice (some ⟨15,0,none⟩) 1 1,zi 1],zi 0],[rN 20 [0,1] 3,
  ⟨21,[.bool false],4,false⟩]⟩,
 ⟨38,[zs 13 3 7,zi 0],[iN [1,1,0,0,0,0,0,1,0,0,0,0,0,0,2,0,2,5,1,0,0] 88],.tuple #[.agg #[.slice (some ⟨14,0,none⟩) 4 4,.slice (some ⟨15,0,none⟩) 3 3,zi 1],zi 0],[rN 28 [0,1,1,3] 3,
  ⟨29,[.bool false,.bool false,.bool false],4,false⟩]⟩]
def Qeo:FuncId->List SumI:=λf=>bif Nat.beq f 38 then QhG++QhH else Qen f
def Qep:CallF:=QE knP (YA Tryz.prog.globals.size tab.tabs Qeo)
def QhI:List SumI:=[-- 26 52244
 ⟨26,[.string (mkS [106,109,112,32,97,10,116,105,109,101,115,32,49,50,56,32,110,111,112,10,97,58])],[],.tuple #[.agg #[zi 0,zs 13 133 1,zs 15 1 3,zs 14 129 3],.agg #[zi 0,zi 0]],[⟨2622,[zu 233,zu 128,zu 0,zu 0,zu 0,zu 144,zu 144,zu 144,zu 144,zu 144,zu 144,zu 144,zu 144,zu 144,zu 144,zu 144,zu 144,zu 144,zu 144,zu 144,zu 144,zu 144,zu 144,zu 144,zu 144,zu 144,zu 144,zu 144,zu 144,zu 144,zu 144,zu 144,zu 144,zu 144,zu 144,zu 144,zu 144,zu 144,zu 144,zu 144,zu 144,zu 144,zu 144,zu 144,zu 144,zu 144,zu 144,zu 144,zu 144,zu 144,zu 144,zu 144,zu 144,zu 144,zu 144,zu 144,zu 144,zu 144,zu 144,zu 144,zu 144,zu 144,zu 144,zu 144,zu 144,zu 144,zu 144,zu 144,zu 144,zu 144,zu 144,zu 144,zu 144,zu 144,zu 144,zu 144,zu 144,zu 144,zu 144,zu 144,zu 144,zu 144,zu 144,zu 144,zu 144,zu 144,zu 144,zu 144,zu 144,zu 144,zu 144,zu 144,zu 144,zu 144,zu 144,zu 144,zu 144,zu 144,zu 144,zu 144,zu 144,zu 144,zu 144,zu 144,zu 144,zu 144,zu 144,zu 144,zu 144,zu 144,zu 144,zu 144,zu 144,zu 144,zu 144,zu 144,zu 144,zu 144,zu 144,zu 144,zu 144,zu 144,zu 144,zu 144,zu 144,zu 144,zu 144,zu 144,zu 144,zu 144,zu 144,zu 144,zu 144],5,false⟩,
  rN 2624 [1,0,5,2,5,1,2,6,1,2,7,1,2,8,1,2,9,1,2,10,1,2,11,1,2,12,1,2,13,1,2,14,1,2,15,1,2,16,1,2,17,1,2,18,1,2,19,1,2,20,1,2,21,1,2,22,1,2,23,1,2,24,1,2,25,1,2,26,1,2,27,1,2,28,1,2,29,1,2,30,1,2,31,1,2,32,1,2,33,1,2,34,1,2,35,1,2,36,1,2,37,1,2,38,1,2,39,1,2,40,1,2,41,1,2,42,1,2,43,1,2,44,1,2,45,1,2,46,1,2,47,1,2,48,1,2,49,1,2,50,1,2,51,1,2,52,1,2,53,1,2,54,1,2,55,1,2,56,1,2,57,1,2,58,1,2,59,1,2,60,1,2,61,1,2,62,1,2,63,1,2,64,1,2,65,1,2,66,1,2,67,1,2,68,1,2,69,1,2,70,1,2,71,1,2,72,1,2,73,1,2,74,1,2,75,1,2,76,1,2,77,1,2,78,1,2,79,1,2,80,1,2,81,1,2,82,1,2,83,1,2,84,1,2,85,1,2,86,1,2,87,1,2,88,1,2,89,1,2,90,1,2,91,1,2,92,1,2,93,1,2,94,1,2,95,1,2,96,1,2,97,1,2,98,1,2,99,1,2,100,1,2,101,1,2,102,1,2,103,1,2,104,1,2,105,1,2,106,1,2,107,1,2,108,1,2,109,1,2,110,1,2,111,1,2,112,1,2,113,1,2,114,1,2,115,1,2,116,1,2,117,1,2,118,1,2,119,1,2,120,1,2,121,1,2,122,1,2,123,1,2,124,1,2,125,1,2,126,1,2,127,1,2,128,1,2,129,1,2,130,1,2,131,1,2,132,1] 95,
  ⟨2629,[.string (mkS [97]),zi 133,.bool true],58,false⟩]⟩]
def QhJ:List SumI:=[-- 26 7509
 ⟨26,[.string (mkS [111,114,103,32,49,54,10,109,111,118,32,101,97,120,44,32,97,10,97,58,32,100,119,32,97,32,45,32,49])],[],.tuple #[.agg #[zi 16,zs 13 7 1,zs 15 1 3,zs 14 2 3],.agg #[zi 0,zi 0]],[⟨139,[zu 184,zu 21,zu 0,zu 0,zu 0,zu 20,zu 0],5,false⟩,
  rN 141 [2,16,5,3,21,2] 95,
  ⟨145,[.string (mkS [97]),zi 21,.bool true],58,false⟩]⟩,
 ⟨26,[.string (mkS [100,100,32,97,10,97,58,32,106,109,112,32,115,104,111,114,116,32,97,32,43,32,50,48,48])],[],.tuple #[.agg #[zi 0,zn,zn,zn],.agg #[zi 8,zi 2]],[]⟩,
 ⟨26,[.string (mkS [100,98,32,51,48,48])],[],.tuple #[.agg #[zi 0,zn,zn,zn],.agg #[zi 5,zi 1]],[]⟩,
 ⟨26,[.string (mkS [106,109,112,32,120])],[],.tuple #[.agg #[zi 0,zn,zn,zn],.agg #[zi 6,zi 1]],[]⟩]
def QhK:List SumI:=[-- 26 1570
 ⟨26,[.string (mkS [110,111,112,10,97,58,32,106,109,112,32,97])],[],.tuple #[.agg #[zi 0,zs 13 3 1,zs 15 1 3,zs 14 2 3],.agg #[zi 0,zi 0]],[⟨83,[zu 144,zu 235,zu 254],5,false⟩,
  rN 85 [1,0,1,2,1,2] 95,
  ⟨89,[.string (mkS [97]),zi 1,.bool true],58,false⟩]⟩]
def Qdx:FuncId->List SumI:=λf=>bif Nat.beq f 26 then QhI++QhJ++QhK else Qeo f
def more10:CallF:=QE knP (YA Tryz.prog.globals.size tab.tabs Qdx)
end Go.Proofs.YtbkbdnlfkahaaaaGreatDoor.code
