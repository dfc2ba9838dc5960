/- Part 5. -/
import Derived.Test.YtmhmjlfajlpabaaDoorPartD
import GoSem.PinnedTables
import Derived.Lib.ValidU
import Derived.Lib.ItoaNum
import Derived.Lib.BitFns
import Derived.Test.YtmhmjlfajlpabaaDoorProg
import Derived.KernelRfl
set_option linter.all false
namespace Go.Proofs.YtmhmjlfajlpabaaDoor
open Go Go.Abs
def tab0:List D:=Go.Pinned.utf8FirstZ.map (fun(n:Nat)=>D.int .u8 (n:Int))
def tab1:List D:=([128,191,160,191,128,159,144,191,128,143,0,0,0,0,0,0,0,0,0,0,0,0,0,0,0,0,0,0,0,0,0,0]:List Int).map (.int .u8)
def tab3:List D:=(List.range 20).map fun i=> .int .u64 ((10^i:Nat):Int)
instance tabs:Tab:=⟨fun n=>if n=0 then some tab0 else if n=1 then some tab1 else if n=3 then some tab3 else none,fun f=> [28,45,46,47,64,72,77,80,65].contains f,fun f=> [25,40,42,43].contains f⟩
def c3:CFn:=
 ⟨1,15,false,.seq (.region [⟨some 4,.move (.c (boolD false)),none,[]⟩] none []) (.seq (.region [⟨some 12,.len .sl (.t 0),none,[]⟩,⟨some 1,.bin .gtr .none (.t 12) (.c (.d (.int .i64 20000))),none,[]⟩] none [12]) (.cond (.t 1) (.seq (.region [⟨some 4,.move (.c (boolD true)),none,[]⟩] none []) .ret) (.seq .skip (.seq (.region [⟨some 12,.call 10 [.t 0],none,[]⟩,⟨some 13,.extract (.t 12) 0,none,[]⟩,⟨some 14,.extract (.t 12) 1,none,[]⟩,⟨some 12,.extract (.t 12) 2,none,[]⟩,⟨some 5,.new [.d (.int .i64 0),.d (.int .i64 0),.d (.str []),.fslice [],.fslice []],none,[]⟩,⟨none,.store 5 (.t 5) (.t 13),none,[13]⟩,⟨some 6,.move (.t 14),none,[14]⟩,⟨some 7,.move (.t 12),none,[12]⟩] none [12,13,14]) (.seq (.region [⟨some 2,.bin .neq .none (.t 6) (.c (.d (.int .i64 0))),none,[]⟩] none []) (.cond (.t 2) (.seq (.region [⟨some 12,.bin .geq .none (.t 7) (.c (.d (.int .i64 0))),none,[]⟩,⟨some 13,.move (.t 7),some (12,true),[]⟩,⟨some 14,.move (.t 0),some (12,true),[]⟩,⟨some 14,.len .sl (.t 14),some (12,true),[]⟩,⟨some 13,.bin .leq .none (.t 13) (.t 14),some (12,true),[]⟩,⟨some 12,.pick (.t 12) (.t 13) (.c (boolD false)),none,[]⟩,⟨some 13,.call 11 [],some (12,true),[]⟩,⟨some 12,.pick (.t 12) (.t 13) (.c (boolD false)),none,[]⟩,⟨some 4,.move (.t 12),none,[12]⟩] none [12,13,14]) .ret) (.seq .skip (.seq (.region [⟨some 12,.load true 5 (.t 5),none,[]⟩,⟨some 12,.call 12 [.t 12],none,[]⟩,⟨some 13,.extract (.t 12) 0,none,[]⟩,⟨some 12,.extract (.t 12) 1,none,[]⟩,⟨some 8,.move (.t 13),none,[13]⟩,⟨some 9,.move (.t 12),none,[12]⟩] none [12,13]) (.seq (.region [⟨some 3,.bin .neq .none (.t 9) (.c (.d (.int .i64 0))),none,[]⟩] none []) (.cond (.t 3) (.seq (.region [⟨some 12,.bin .eql .none (.t 9) (.c (.d (.int .i64 13))),none,[]⟩,⟨some 13,.call 11 [],some (12,true),[]⟩,⟨some 12,.pick (.t 12) (.t 13) (.c (boolD false)),none,[]⟩,⟨some 4,.move (.t 12),none,[12]⟩] none [12,13]) .ret) (.seq .skip (.seq (.region [⟨some 12,.call 10 [.t 8],none,[]⟩,⟨some 13,.extract (.t 12) 0,none,[]⟩,⟨some 14,.extract (.t 12) 1,none,[]⟩,⟨some 12,.extract (.t 12) 2,none,[]⟩,⟨some 10,.new [.d (.int .i64 0),.d (.int .i64 0),.d (.str []),.fslice [],.fslice []],none,[]⟩,⟨none,.store 5 (.t 10) (.t 13),none,[13]⟩,⟨some 11,.move (.t 14),none,[14]⟩,⟨some 12,.move (.t 12),none,[12]⟩] none [12,13,14]) (.seq (.region [⟨some 12,.load true 5 (.t 5),none,[]⟩,⟨some 12,.call 13 [.t 12],none,[]⟩,⟨some 12,.move (.t 12),none,[]⟩,⟨some 13,.load true 5 (.t 5),some (12,true),[]⟩,⟨some 13,.call 15 [.t 13],some (12,true),[]⟩,⟨some 14,.load true 5 (.t 5),some (12,true),[]⟩,⟨some 13,.call 14 [.t 13,.t 14],some (12,true),[]⟩,⟨some 12,.pick (.t 12) (.t 13) (.c (boolD false)),none,[]⟩,⟨some 12,.move (.t 12),none,[]⟩,⟨some 13,.move (.t 11),some (12,true),[]⟩,⟨some 13,.bin .eql .none (.t 13) (.c (.d (.int .i64 0))),some (12,true),[]⟩,⟨some 12,.pick (.t 12) (.t 13) (.c (boolD false)),none,[]⟩,⟨some 12,.move (.t 12),none,[]⟩,⟨some 13,.load true 5 (.t 5),some (12,true),[]⟩,⟨some 14,.load true 5 (.t 10),some (12,true),[]⟩,⟨some 13,.call 14 [.t 13,.t 14],some (12,true),[]⟩,⟨some 12,.pick (.t 12) (.t 13) (.c (boolD false)),none,[]⟩,⟨some 12,.move (.t 12),none,[]⟩,⟨some 13,.call 11 [],some (12,true),[]⟩,⟨some 12,.pick (.t 12) (.t 13) (.c (boolD false)),none,[]⟩,⟨some 4,.move (.t 12),none,[12]⟩] (some ⟨[],[],[],some [([],some 1),([5],none)]⟩) [12,13,14]) .ret))))))))))))),[.t 4]⟩
def c4:CFn:=
 ⟨2,14,false,.seq (.region [⟨some 5,.box (.t 0),none,[]⟩,⟨some 6,.box (.t 1),none,[]⟩,⟨some 4,.move (.c (boolD false)),none,[]⟩] none []) (.seq (.region [⟨some 11,.load true 5 (.t 5),none,[]⟩,⟨some 11,.call 16 [.t 11],none,[]⟩,⟨some 11,.un .not (.t 11),none,[]⟩,⟨some 12,.load true 5 (.t 6),some (11,false),[]⟩,⟨some 12,.call 16 [.t 12],some (11,false),[]⟩,⟨some 12,.un .not (.t 12),some (11,false),[]⟩,⟨some 2,.pick (.t 11) (.c (boolD true)) (.t 12),none,[]⟩] none [11,12]) (.cond (.t 2) (.seq (.region [⟨some 4,.move (.c (boolD true)),none,[]⟩] none []) .ret) (.seq .skip (.seq (.region [⟨some 11,.load true 5 (.t 5),none,[]⟩,⟨some 11,.call 12 [.t 11],none,[]⟩,⟨some 12,.extract (.t 11) 0,none,[]⟩,⟨some 11,.extract (.t 11) 1,none,[]⟩,⟨some 7,.move (.t 12),none,[12]⟩,⟨some 8,.move (.t 11),none,[11]⟩] none [11,12]) (.seq (.region [⟨some 11,.load true 5 (.t 6),none,[]⟩,⟨some 11,.call 12 [.t 11],none,[]⟩,⟨some 12,.extract (.t 11) 0,none,[]⟩,⟨some 11,.extract (.t 11) 1,none,[]⟩,⟨some 9,.move (.t 12),none,[12]⟩,⟨some 10,.move (.t 11),none,[11]⟩] none [11,12]) (.seq (.region [⟨some 11,.bin .neq .none (.t 8) (.c (.d (.int .i64 0))),none,[]⟩,⟨some 12,.move (.t 10),some (11,false),[]⟩,⟨some 12,.bin .neq .none (.t 12) (.c (.d (.int .i64 0))),some (11,false),[]⟩,⟨some 3,.pick (.t 11) (.c (boolD true)) (.t 12),none,[]⟩] none [11,12]) (.cond (.t 3) (.seq (.region [⟨some 11,.call 11 [],none,[]⟩,⟨some 4,.move (.t 11),none,[11]⟩] none [11]) .ret) (.seq .skip (.seq (.region [⟨some 11,.move (.t 7),none,[]⟩,⟨some 11,.toStr (.t 11),none,[]⟩,⟨some 12,.move (.t 9),none,[]⟩,⟨some 12,.toStr (.t 12),none,[]⟩,⟨some 11,.bin .eql .none (.t 11) (.t 12),none,[]⟩,⟨some 12,.load true 5 (.t 5),none,[]⟩,⟨some 12,.call 15 [.t 12],none,[]⟩,⟨some 13,.load true 5 (.t 6),none,[]⟩,⟨some 13,.call 15 [.t 13],none,[]⟩,⟨some 12,.call 14 [.t 12,.t 13],none,[]⟩,⟨some 11,.bin .eql .bool (.t 11) (.t 12),none,[]⟩,⟨some 11,.move (.t 11),none,[]⟩,⟨some 12,.call 11 [],some (11,true),[]⟩,⟨some 11,.pick (.t 11) (.t 12) (.c (boolD false)),none,[]⟩,⟨some 4,.move (.t 11),none,[11]⟩] (some ⟨[],[],[],some [([7],some 6),([1,3],some 8),([1,3],some 9),([1,3],none)]⟩) [11,12,13]) .ret))))))))),[.t 4]⟩
def c5:CFn:=
 ⟨2,20,false,.seq (.region [⟨some 6,.move (.c (boolD false)),none,[]⟩] none []) (.seq (.region [⟨some 16,.len .sl (.t 0),none,[]⟩,⟨some 17,.len .sl (.t 1),none,[]⟩,⟨some 16,.bin .add .none (.t 16) (.t 17),none,[]⟩,⟨some 2,.bin .gtr .none (.t 16) (.c (.d (.int .i64 8000))),none,[]⟩] none [16,17]) (.cond (.t 2) (.seq (.region [⟨some 6,.move (.c (boolD true)),none,[]⟩] none []) .ret) (.seq .skip (.seq (.region [⟨some 16,.call 10 [.t 0],none,[]⟩,⟨some 17,.extract (.t 16) 0,none,[]⟩,⟨some 18,.extract (.t 16) 1,none,[]⟩,⟨some 16,.extract (.t 16) 2,none,[]⟩,⟨some 7,.new [.d (.int .i64 0),.d (.int .i64 0),.d (.str []),.fslice [],.fslice []],none,[]⟩,⟨none,.store 5 (.t 7) (.t 17),none,[17]⟩,⟨some 8,.move (.t 18),none,[18]⟩,⟨some 16,.move (.t 16),none,[16]⟩] none [16,17,18]) (.seq (.region [⟨some 16,.call 10 [.t 1],none,[]⟩,⟨some 17,.extract (.t 16) 0,none,[]⟩,⟨some 18,.extract (.t 16) 1,none,[]⟩,⟨some 16,.extract (.t 16) 2,none,[]⟩,⟨some 9,.new [.d (.int .i64 0),.d (.int .i64 0),.d (.str []),.fslice [],.fslice []],none,[]⟩,⟨none,.store 5 (.t 9) (.t 17),none,[17]⟩,⟨some 10,.move (.t 18),none,[18]⟩,⟨some 16,.move (.t 16),none,[16]⟩] none [16,17,18]) (.seq (.region [⟨some 16,.call 17 [.c (.d (.str [32,10])),.t 0,.c (.d (.str [9,13])),.c (.fslice []),.c (.d (.str []))],none,[]⟩,⟨some 16,.call 10 [.t 16],none,[]⟩,⟨some 17,.extract (.t 16) 0,none,[]⟩,⟨some 18,.extract (.t 16) 1,none,[]⟩,⟨some 16,.extract (.t 16) 2,none,[]⟩,⟨some 11,.new [.d (.int .i64 0),.d (.int .i64 0),.d (.str []),.fslice [],.fslice []],none,[]⟩,⟨none,.store 5 (.t 11) (.t 17),none,[17]⟩,⟨some 12,.move (.t 18),none,[18]⟩,⟨some 13,.move (.t 16),none,[16]⟩] none [16,17,18]) (.seq (.region [⟨some 16,.bin .neq .none (.t 12) (.t 8),none,[]⟩,⟨some 17,.move (.t 8),some (16,false),[]⟩,⟨some 17,.bin .eql .none (.t 17) (.c (.d (.int .i64 0))),some (16,false),[]⟩,⟨some 17,.move (.t 17),some (16,false),[]⟩,⟨some 18,.load true 5 (.t 7),some (17,true),[]⟩,⟨some 19,.load true 5 (.t 11),some (17,true),[]⟩,⟨some 18,.call 14 [.t 18,.t 19],some (17,true),[]⟩,⟨some 18,.un .not (.t 18),some (17,true),[]⟩,⟨some 17,.pick (.t 17) (.t 18) (.c (boolD false)),some (16,false),[]⟩,⟨some 16,.pick (.t 16) (.c (boolD true)) (.t 17),none,[]⟩,⟨some 17,.move (.t 8),some (16,false),[]⟩,⟨some 17,.bin .neq .none (.t 17) (.c (.d (.int .i64 0))),some (16,false),[]⟩,⟨some 17,.move (.t 17),some (16,false),[]⟩,⟨some 18,.move (.t 13),some (17,true),[]⟩,⟨some 18,.bin .lss .none (.t 18) (.c (.d (.int .i64 2))),some (17,true),[]⟩,⟨some 17,.pick (.t 17) (.t 18) (.c (boolD false)),some (16,false),[]⟩,⟨some 3,.pick (.t 16) (.c (boolD true)) (.t 17),none,[]⟩] none [16,17,18,19]) (.cond (.t 3) (.seq (.region [⟨some 6,.move (.c (boolD false)),none,[]⟩] none []) .ret) (.seq .skip (.seq (.region [⟨some 16,.bin .neq .none (.t 8) (.c (.d (.int .i64 0))),none,[]⟩,⟨some 17,.move (.t 10),some (16,false),[]⟩,⟨some 17,.bin .neq .none (.t 17) (.c (.d (.int .i64 0))),some (16,false),[]⟩,⟨some 4,.pick (.t 16) (.c (boolD true)) (.t 17),none,[]⟩] none [16,17]) (.cond (.t 4) (.seq (.region [⟨some 16,.call 11 [],none,[]⟩,⟨some 6,.move (.t 16),none,[16]⟩] none [16]) .ret) (.seq .skip (.seq (.region [⟨some 16,.call 17 [.c (.d (.str [32,91,32])),.t 0,.c (.d (.str [32,44,10])),.t 1,.c (.d (.str [32,93,32]))],none,[]⟩,⟨some 16,.call 10 [.t 16],none,[]⟩,⟨some 17,.extract (.t 16) 0,none,[]⟩,⟨some 18,.extract (.t 16) 1,none,[]⟩,⟨some 16,.extract (.t 16) 2,none,[]⟩,⟨some 14,.new [.d (.int .i64 0),.d (.int .i64 0),.d (.str []),.fslice [],.fslice []],none,[]⟩,⟨none,.store 5 (.t 14) (.t 17),none,[17]⟩,⟨some 15,.move (.t 18),none,[18]⟩,⟨some 16,.move (.t 16),none,[16]⟩] none [16,17,18]) (.seq (.region [⟨some 5,.bin .eql .none (.t 15) (.c (.d (.int .i64 12))),none,[]⟩] none []) (.cond (.t 5) (.seq (.region [⟨some 16,.call 11 [],none,[]⟩,⟨some 6,.move (.t 16),none,[16]⟩] none [16]) .ret) (.seq .skip (.seq (.region [⟨some 16,.bin .eql .none (.t 15) (.c (.d (.int .i64 0))),none,[]⟩,⟨some 17,.fieldAddr 4 (.t 14),some (16,true),[]⟩,⟨some 17,.load false 1 (.t 17),some (16,true),[]⟩,⟨some 17,.len .sl (.t 17),some (16,true),[]⟩,⟨some 17,.bin .eql .none (.t 17) (.c (.d (.int .i64 2))),some (16,true),[]⟩,⟨some 16,.pick (.t 16) (.t 17) (.c (boolD false)),none,[]⟩,⟨some 17,.fieldAddr 4 (.t 14),some (16,true),[]⟩,⟨some 17,.load false 1 (.t 17),some (16,true),[]⟩,⟨some 17,.idxSl 5 (.t 17) (.c (.d (.int .i64 0))),some (16,true),[]⟩,⟨some 17,.load true 5 (.t 17),some (16,true),[]⟩,⟨some 18,.load true 5 (.t 7),some (16,true),[]⟩,⟨some 17,.call 14 [.t 17,.t 18],some (16,true),[]⟩,⟨some 16,.pick (.t 16) (.t 17) (.c (boolD false)),none,[]⟩,⟨some 17,.fieldAddr 4 (.t 14),some (16,true),[]⟩,⟨some 17,.load false 1 (.t 17),some (16,true),[]⟩,⟨some 17,.idxSl 5 (.t 17) (.c (.d (.int .i64 1))),some (16,true),[]⟩,⟨some 17,.load true 5 (.t 17),some (16,true),[]⟩,⟨some 18,.load true 5 (.t 9),some (16,true),[]⟩,⟨some 17,.call 14 [.t 17,.t 18],some (16,true),[]⟩,⟨some 16,.pick (.t 16) (.t 17) (.c (boolD false)),none,[]⟩,⟨some 17,.call 11 [],some (16,true),[]⟩,⟨some 16,.pick (.t 16) (.t 17) (.c (boolD false)),none,[]⟩,⟨some 6,.move (.t 16),none,[16]⟩] none [16,17,18]) .ret))))))))))))))))),[.t 6]⟩
def c6:CFn:=
 ⟨1,12,false,.seq (.region [⟨some 3,.move (.c (boolD false)),none,[]⟩] none []) (.seq (.region [⟨some 9,.len .str (.t 0),none,[]⟩,⟨some 1,.bin .gtr .none (.t 9) (.c (.d (.int .i64 1000))),none,[]⟩] none [9]) (.cond (.t 1) (.seq (.region [⟨some 3,.move (.c (boolD true)),none,[]⟩] none []) .ret) (.seq .skip (.seq (.region [⟨some 9,.buildSl 1 (.d (.str [])) 1 [(0,.t 0)],none,[]⟩,⟨some 10,.build [.d (.int .i64 0),.d (.int .i64 0),.d (.str []),.fslice [],.fslice []] [(0,1,.c (.d (.int .i64 3))),(2,1,.t 0)],none,[]⟩,⟨some 10,.buildSl 5 (.agg [.d (.int .i64 0),.d (.int .i64 0),.d (.str []),.fslice [],.fslice []]) 1 [(0,.t 10)],none,[]⟩,⟨some 9,.build [.d (.int .i64 0),.d (.int .i64 0),.d (.str []),.fslice [],.fslice []] [(0,1,.c (.d (.int .i64 5))),(3,1,.t 9),(4,1,.t 10)],none,[]⟩,⟨some 4,.new [.d (.int .i64 0),.d (.int .i64 0),.d (.str []),.fslice [],.fslice []],none,[]⟩,⟨none,.store 5 (.t 4) (.t 9),none,[9]⟩] none [9,10]) (.seq (.region [⟨some 9,.load true 5 (.t 4),none,[]⟩,⟨some 9,.call 12 [.t 9],none,[]⟩,⟨some 10,.extract (.t 9) 0,none,[]⟩,⟨some 9,.extract (.t 9) 1,none,[]⟩,⟨some 5,.move (.t 10),none,[10]⟩,⟨some 6,.move (.t 9),none,[9]⟩] none [9,10]) (.seq (.region [⟨some 9,.call 18 [.t 0],none,[]⟩,⟨some 2,.bin .geq .none (.t 9) (.c (.d (.int .i64 0))),none,[]⟩] none [9]) (.cond (.t 2) (.seq (.region [⟨some 9,.bin .eql .none (.t 6) (.c (.d (.int .i64 1))),none,[]⟩,⟨some 10,.call 11 [],some (9,true),[]⟩,⟨some 9,.pick (.t 9) (.t 10) (.c (boolD false)),none,[]⟩,⟨some 3,.move (.t 9),none,[9]⟩] none [9,10]) .ret) (.seq .skip (.seq (.region [⟨some 9,.call 10 [.t 5],none,[]⟩,⟨some 10,.extract (.t 9) 0,none,[]⟩,⟨some 11,.extract (.t 9) 1,none,[]⟩,⟨some 9,.extract (.t 9) 2,none,[]⟩,⟨some 7,.new [.d (.int .i64 0),.d (.int .i64 0),.d (.str []),.fslice [],.fslice []],none,[]⟩,⟨none,.store 5 (.t 7) (.t 10),none,[10]⟩,⟨some 8,.move (.t 11),none,[11]⟩,⟨some 9,.move (.t 9),none,[9]⟩] none [9,10,11]) (.seq (.region [⟨some 9,.bin .eql .none (.t 6) (.c (.d (.int .i64 0))),none,[]⟩,⟨some 10,.move (.t 8),some (9,true),[]⟩,⟨some 10,.bin .eql .none (.t 10) (.c (.d (.int .i64 0))),some (9,true),[]⟩,⟨some 9,.pick (.t 9) (.t 10) (.c (boolD false)),none,[]⟩,⟨some 10,.fieldAddr 3 (.t 7),some (9,true),[]⟩,⟨some 10,.load false 1 (.t 10),some (9,true),[]⟩,⟨some 10,.len .sl (.t 10),some (9,true),[]⟩,⟨some 10,.bin .eql .none (.t 10) (.c (.d (.int .i64 1))),some (9,true),[]⟩,⟨some 9,.pick (.t 9) (.t 10) (.c (boolD false)),none,[]⟩,⟨some 10,.fieldAddr 3 (.t 7),some (9,true),[]⟩,⟨some 10,.load false 1 (.t 10),some (9,true),[]⟩,⟨some 10,.idxSl 1 (.t 10) (.c (.d (.int .i64 0))),some (9,true),[]⟩,⟨some 10,.load false 1 (.t 10),some (9,true),[]⟩,⟨some 11,.move (.t 0),some (9,true),[]⟩,⟨some 10,.bin .eql .none (.t 10) (.t 11),some (9,true),[]⟩,⟨some 9,.pick (.t 9) (.t 10) (.c (boolD false)),none,[]⟩,⟨some 10,.fieldAddr 4 (.t 7),some (9,true),[]⟩,⟨some 10,.load false 1 (.t 10),some (9,true),[]⟩,⟨some 10,.len .sl (.t 10),some (9,true),[]⟩,⟨some 10,.bin .eql .none (.t 10) (.c (.d (.int .i64 1))),some (9,true),[]⟩,⟨some 9,.pick (.t 9) (.t 10) (.c (boolD false)),none,[]⟩,⟨some 10,.fieldAddr 4 (.t 7),some (9,true),[]⟩,⟨some 10,.load false 1 (.t 10),some (9,true),[]⟩,⟨some 10,.idxSl 5 (.t 10) (.c (.d (.int .i64 0))),some (9,true),[]⟩,⟨some 10,.fieldAddr 2 (.t 10),some (9,true),[]⟩,⟨some 10,.load false 1 (.t 10),some (9,true),[]⟩,⟨some 11,.move (.t 0),some (9,true),[]⟩,⟨some 10,.bin .eql .none (.t 10) (.t 11),some (9,true),[]⟩,⟨some 9,.pick (.t 9) (.t 10) (.c (boolD false)),none,[]⟩,⟨some 10,.call 11 [],some (9,true),[]⟩,⟨some 9,.pick (.t 9) (.t 10) (.c (boolD false)),none,[]⟩,⟨some 3,.move (.t 9),none,[9]⟩] none [9,10,11]) .ret)))))))))),[.t 3]⟩
def c11:CFn:=
 ⟨0,15,false,.seq (.region [⟨some 0,.move (.c (boolD false)),none,[]⟩] none []) (.seq (.region [⟨some 11,.buildLit 1 (.d (.int .u8 0)) 23 [(0,.c (.d (.int .u8 123))),(1,.c (.d (.int .u8 34))),(2,.c (.d (.int .u8 98))),(3,.c (.d (.int .u8 34))),(4,.c (.d (.int .u8 58))),(5,.c (.d (.int .u8 49))),(6,.c (.d (.int .u8 44))),(7,.c (.d (.int .u8 34))),(8,.c (.d (.int .u8 97))),(9,.c (.d (.int .u8 34))),(10,.c (.d (.int .u8 58))),(11,.c (.d (.int .u8 91))),(12,.c (.d (.int .u8 116))),(13,.c (.d (.int .u8 114))),(14,.c (.d (.int .u8 117))),(15,.c (.d (.int .u8 101))),(16,.c (.d (.int .u8 44))),(17,.c (.d (.int .u8 110))),(18,.c (.d (.int .u8 117))),(19,.c (.d (.int .u8 108))),(20,.c (.d (.int .u8 108))),(21,.c (.d (.int .u8 93))),(22,.c (.d (.int .u8 125)))],none,[]⟩,⟨some 11,.sameSl (.t 11),none,[]⟩,⟨some 11,.call 10 [.t 11],none,[]⟩,⟨some 12,.extract (.t 11) 0,none,[]⟩,⟨some 13,.extract (.t 11) 1,none,[]⟩,⟨some 11,.extract (.t 11) 2,none,[]⟩,⟨some 1,.new [.d (.int .i64 0),.d (.int .i64 0),.d (.str []),.fslice [],.fslice []],none,[]⟩,⟨none,.store 5 (.t 1) (.t 12),none,[12]⟩,⟨some 2,.move (.t 13),none,[13]⟩,⟨some 11,.move (.t 11),none,[11]⟩] none [11,12,13]) (.seq (.region [⟨some 11,.load true 5 (.t 1),none,[]⟩,⟨some 11,.call 12 [.t 11],none,[]⟩,⟨some 12,.extract (.t 11) 0,none,[]⟩,⟨some 11,.extract (.t 11) 1,none,[]⟩,⟨some 3,.move (.t 12),none,[12]⟩,⟨some 4,.move (.t 11),none,[11]⟩] none [11,12]) (.seq (.region [⟨some 11,.buildLit 1 (.d (.int .u8 0)) 4 [(0,.c (.d (.int .u8 91))),(1,.c (.d (.int .u8 48))),(2,.c (.d (.int .u8 49))),(3,.c (.d (.int .u8 93)))],none,[]⟩,⟨some 11,.sameSl (.t 11),none,[]⟩,⟨some 11,.call 10 [.t 11],none,[]⟩,⟨some 12,.extract (.t 11) 0,none,[]⟩,⟨some 13,.extract (.t 11) 1,none,[]⟩,⟨some 11,.extract (.t 11) 2,none,[]⟩,⟨some 14,.new [.d (.int .i64 0),.d (.int .i64 0),.d (.str []),.fslice [],.fslice []],none,[]⟩,⟨none,.store 5 (.t 14) (.t 12),none,[12]⟩,⟨some 5,.move (.t 13),none,[13]⟩,⟨some 6,.move (.t 11),none,[11]⟩] none [11,12,13,14]) (.seq (.region [⟨some 11,.buildLit 1 (.d (.int .u8 0)) 13 [(0,.c (.d (.int .u8 123))),(1,.c (.d (.int .u8 34))),(2,.c (.d (.int .u8 97))),(3,.c (.d (.int .u8 34))),(4,.c (.d (.int .u8 58))),(5,.c (.d (.int .u8 49))),(6,.c (.d (.int .u8 44))),(7,.c (.d (.int .u8 34))),(8,.c (.d (.int .u8 97))),(9,.c (.d (.int .u8 34))),(10,.c (.d (.int .u8 58))),(11,.c (.d (.int .u8 50))),(12,.c (.d (.int .u8 125)))],none,[]⟩,⟨some 11,.sameSl (.t 11),none,[]⟩,⟨some 11,.call 10 [.t 11],none,[]⟩,⟨some 12,.extract (.t 11) 0,none,[]⟩,⟨some 13,.extract (.t 11) 1,none,[]⟩,⟨some 11,.extract (.t 11) 2,none,[]⟩,⟨some 14,.new [.d (.int .i64 0),.d (.int .i64 0),.d (.str []),.fslice [],.fslice []],none,[]⟩,⟨none,.store 5 (.t 14) (.t 12),none,[12]⟩,⟨some 7,.move (.t 13),none,[13]⟩,⟨some 8,.move (.t 11),none,[11]⟩] none [11,12,13,14]) (.seq (.region [⟨some 11,.buildLit 1 (.d (.int .u8 0)) 3 [(0,.c (.d (.int .u8 49))),(1,.c (.d (.int .u8 46))),(2,.c (.d (.int .u8 53)))],none,[]⟩,⟨some 11,.sameSl (.t 11),none,[]⟩,⟨some 11,.call 10 [.t 11],none,[]⟩,⟨some 12,.extract (.t 11) 0,none,[]⟩,⟨some 13,.extract (.t 11) 1,none,[]⟩,⟨some 11,.extract (.t 11) 2,none,[]⟩,⟨some 14,.new [.d (.int .i64 0),.d (.int .i64 0),.d (.str []),.fslice [],.fslice []],none,[]⟩,⟨none,.store 5 (.t 14) (.t 12),none,[12]⟩,⟨some 9,.move (.t 13),none,[13]⟩,⟨some 10,.move (.t 11),none,[11]⟩] none [11,12,13,14]) (.seq (.region [⟨some 11,.bin .eql .none (.t 2) (.c (.d (.int .i64 0))),none,[]⟩,⟨some 12,.move (.t 4),some (11,true),[]⟩,⟨some 12,.bin .eql .none (.t 12) (.c (.d (.int .i64 0))),some (11,true),[]⟩,⟨some 11,.pick (.t 11) (.t 12) (.c (boolD false)),none,[]⟩,⟨some 12,.move (.t 3),some (11,true),[]⟩,⟨some 12,.toStr (.t 12),some (11,true),[]⟩,⟨some 12,.bin .eql .none (.t 12) (.c (.d (.str [123,34,97,34,58,91,116,114,117,101,44,110,117,108,108,93,44,34,98,34,58,49,125]))),some (11,true),[]⟩,⟨some 11,.pick (.t 11) (.t 12) (.c (boolD false)),none,[]⟩,⟨some 12,.move (.t 5),some (11,true),[]⟩,⟨some 12,.bin .eql .none (.t 12) (.c (.d (.int .i64 11))),some (11,true),[]⟩,⟨some 11,.pick (.t 11) (.t 12) (.c (boolD false)),none,[]⟩,⟨some 12,.move (.t 6),some (11,true),[]⟩,⟨some 12,.bin .eql .none (.t 12) (.c (.d (.int .i64 2))),some (11,true),[]⟩,⟨some 11,.pick (.t 11) (.t 12) (.c (boolD false)),none,[]⟩,⟨some 12,.move (.t 7),some (11,true),[]⟩,⟨some 12,.bin .eql .none (.t 12) (.c (.d (.int .i64 14))),some (11,true),[]⟩,⟨some 11,.pick (.t 11) (.t 12) (.c (boolD false)),none,[]⟩,⟨some 12,.move (.t 8),some (11,true),[]⟩,⟨some 12,.bin .eql .none (.t 12) (.c (.d (.int .i64 7))),some (11,true),[]⟩,⟨some 11,.pick (.t 11) (.t 12) (.c (boolD false)),none,[]⟩,⟨some 12,.move (.t 9),some (11,true),[]⟩,⟨some 12,.bin .eql .none (.t 12) (.c (.d (.int .i64 15))),some (11,true),[]⟩,⟨some 11,.pick (.t 11) (.t 12) (.c (boolD false)),none,[]⟩,⟨some 12,.move (.t 10),some (11,true),[]⟩,⟨some 12,.bin .eql .none (.t 12) (.c (.d (.int .i64 0))),some (11,true),[]⟩,⟨some 11,.pick (.t 11) (.t 12) (.c (boolD false)),none,[]⟩,⟨some 0,.move (.t 11),none,[11]⟩] none [11,12]) .ret)))))),[.t 0]⟩
def c12:CFn:=
 ⟨1,8,false,.seq (.region [⟨some 5,.box (.t 0),none,[]⟩,⟨some 3,.move (.c (.fslice [])),none,[]⟩,⟨some 4,.move (.c (.d (.int .i64 0))),none,[]⟩] none []) (.seq (.region [⟨some 7,.load true 5 (.t 5),none,[]⟩,⟨some 7,.call 20 [.t 7],none,[]⟩,⟨some 1,.un .not (.t 7),none,[]⟩] none [7]) (.cond (.t 1) (.seq (.region [⟨some 3,.move (.c (.fslice [])),none,[]⟩,⟨some 4,.move (.c (.d (.int .i64 1))),none,[]⟩] none []) .ret) (.seq .skip (.seq (.region [⟨some 7,.load true 5 (.t 5),none,[]⟩,⟨some 7,.call 28 [.c (.fslice []),.t 7],none,[]⟩,⟨some 6,.move (.t 7),none,[7]⟩] none [7]) (.seq (.region [⟨some 7,.len .sl (.t 6),none,[]⟩,⟨some 2,.bin .gtr .none (.t 7) (.c (.d (.int .i64 16384))),none,[]⟩] none [7]) (.cond (.t 2) (.seq (.region [⟨some 3,.move (.c (.fslice [])),none,[]⟩,⟨some 4,.move (.c (.d (.int .i64 13))),none,[]⟩] none []) .ret) (.seq .skip (.seq (.region [⟨some 7,.move (.t 6),none,[6]⟩,⟨some 3,.move (.t 7),none,[7]⟩,⟨some 4,.move (.c (.d (.int .i64 0))),none,[]⟩] none [7]) .ret)))))))),[.t 3,.t 4]⟩
def c13:CFn:=
 ⟨1,4,false,.seq (.region [⟨some 2,.box (.t 0),none,[]⟩,⟨some 1,.move (.c (boolD false)),none,[]⟩] none []) (.seq (.region [⟨some 3,.load true 5 (.t 2),none,[]⟩,⟨some 3,.call 29 [.t 3,.c (.d (.int .i64 12))],none,[]⟩,⟨some 1,.move (.t 3),none,[3]⟩] none [3]) .ret),[.t 1]⟩
def c14:CFn:=
 ⟨2,15,false,.seq (.region [⟨some 8,.box (.t 0),none,[]⟩,⟨some 9,.box (.t 1),none,[]⟩,⟨some 7,.move (.c (boolD false)),none,[]⟩] none []) (.seq (.region [⟨some 12,.fieldAddr 0 (.t 8),none,[]⟩,⟨some 12,.load false 1 (.t 12),none,[]⟩,⟨some 13,.fieldAddr 0 (.t 9),none,[]⟩,⟨some 13,.load false 1 (.t 13),none,[]⟩,⟨some 12,.bin .neq .none (.t 12) (.t 13),none,[]⟩,⟨some 13,.fieldAddr 1 (.t 8),some (12,false),[]⟩,⟨some 13,.load false 1 (.t 13),some (12,false),[]⟩,⟨some 14,.fieldAddr 1 (.t 9),some (12,false),[]⟩,⟨some 14,.load false 1 (.t 14),some (12,false),[]⟩,⟨some 13,.bin .neq .none (.t 13) (.t 14),some (12,false),[]⟩,⟨some 12,.pick (.t 12) (.c (boolD true)) (.t 13),none,[]⟩,⟨some 13,.fieldAddr 2 (.t 8),some (12,false),[]⟩,⟨some 13,.load false 1 (.t 13),some (12,false),[]⟩,⟨some 14,.fieldAddr 2 (.t 9),some (12,false),[]⟩,⟨some 14,.load false 1 (.t 14),some (12,false),[]⟩,⟨some 13,.bin .neq .none (.t 13) (.t 14),some (12,false),[]⟩,⟨some 12,.pick (.t 12) (.c (boolD true)) (.t 13),none,[]⟩,⟨some 13,.fieldAddr 3 (.t 8),some (12,false),[]⟩,⟨some 13,.load false 1 (.t 13),some (12,false),[]⟩,⟨some 13,.len .sl (.t 13),some (12,false),[]⟩,⟨some 14,.fieldAddr 3 (.t 9),some (12,false),[]⟩,⟨some 14,.load false 1 (.t 14),some (12,false),[]⟩,⟨some 14,.len .sl (.t 14),some (12,false),[]⟩,⟨some 13,.bin .neq .none (.t 13) (.t 14),some (12,false),[]⟩,⟨some 12,.pick (.t 12) (.c (boolD true)) (.t 13),none,[]⟩,⟨some 13,.fieldAddr 4 (.t 8),some (12,false),[]⟩,⟨some 13,.load false 1 (.t 13),some (12,false),[]⟩,⟨some 13,.len .sl (.t 13),some (12,false),[]⟩,⟨some 14,.fieldAddr 4 (.t 9),some (12,false),[]⟩,⟨some 14,.load false 1 (.t 14),some (12,false),[]⟩,⟨some 14,.len .sl (.t 14),some (12,false),[]⟩,⟨some 13,.bin .neq .none (.t 13) (.t 14),some (12,false),[]⟩,⟨some 2,.pick (.t 12) (.c (boolD true)) (.t 13),none,[]⟩] none [12,13,14]) (.cond (.t 2) (.seq (.region [⟨some 7,.move (.c (boolD false)),none,[]⟩] none []) .ret) (.seq .skip (.seq (.seq (.region [⟨some 10,.move (.c (.d (.int .i64 0))),none,[]⟩] none []) (.block 0 (.loop (.seq (.seq (.region [⟨some 12,.fieldAddr 3 (.t 8),none,[]⟩,⟨some 12,.load false 1 (.t 12),none,[]⟩,⟨some 12,.len .sl (.t 12),none,[]⟩,⟨some 3,.bin .lss .none (.t 10) (.t 12),none,[]⟩] none [12]) (.cond (.t 3) .skip (.exit 0))) (.seq (.block 1 (.seq (.region [⟨some 12,.fieldAddr 3 (.t 8),none,[]⟩,⟨some 12,.load false 1 (.t 12),none,[]⟩,⟨some 12,.idxSl 1 (.t 12) (.t 10),none,[]⟩,⟨some 12,.load false 1 (.t 12),none,[]⟩,⟨some 13,.fieldAddr 3 (.t 9),none,[]⟩,⟨some 13,.load false 1 (.t 13),none,[]⟩,⟨some 13,.idxSl 1 (.t 13) (.t 10),none,[]⟩,⟨some 13,.load false 1 (.t 13),none,[]⟩,⟨some 4,.bin .neq .none (.t 12) (.t 13),none,[]⟩] none [12,13]) (.cond (.t 4) (.seq (.region [⟨some 7,.move (.c (boolD false)),none,[]⟩] none []) .ret) .skip))) (.region [⟨some 12,.move (.t 10),none,[]⟩,⟨some 12,.bin .add .none (.t 12) (.c (.d (.int .i64 1))),none,[]⟩,⟨some 10,.move (.t 12),none,[12]⟩] none [12])))))) (.seq (.seq (.region [⟨some 11,.move (.c (.d (.int .i64 0))),none,[]⟩] none []) (.block 2 (.loop (.seq (.seq (.region [⟨some 12,.fieldAddr 4 (.t 8),none,[]⟩,⟨some 12,.load false 1 (.t 12),none,[]⟩,⟨some 12,.len .sl (.t 12),none,[]⟩,⟨some 5,.bin .lss .none (.t 11) (.t 12),none,[]⟩] none [12]) (.cond (.t 5) .skip (.exit 2))) (.seq (.block 3 (.seq (.region [⟨some 12,.fieldAddr 4 (.t 8),none,[]⟩,⟨some 12,.load false 1 (.t 12),none,[]⟩,⟨some 12,.idxSl 5 (.t 12) (.t 11),none,[]⟩,⟨some 12,.load true 5 (.t 12),none,[]⟩,⟨some 13,.fieldAddr 4 (.t 9),none,[]⟩,⟨some 13,.load false 1 (.t 13),none,[]⟩,⟨some 13,.idxSl 5 (.t 13) (.t 11),none,[]⟩,⟨some 13,.load true 5 (.t 13),none,[]⟩,⟨some 12,.call 14 [.t 12,.t 13],none,[]⟩,⟨some 6,.un .not (.t 12),none,[]⟩] none [12,13]) (.cond (.t 6) (.seq (.region [⟨some 7,.move (.c (boolD false)),none,[]⟩] none []) .ret) .skip))) (.region [⟨some 12,.move (.t 11),none,[]⟩,⟨some 12,.bin .add .none (.t 12) (.c (.d (.int .i64 1))),none,[]⟩,⟨some 11,.move (.t 12),none,[12]⟩] none [12])))))) (.seq (.region [⟨some 7,.move (.c (boolD true)),none,[]⟩] none []) .ret)))))),[.t 7]⟩
def c15:CFn:=
 ⟨1,5,false,.seq (.region [⟨some 3,.box (.t 0),none,[]⟩,⟨some 2,.new [.d (.int .i64 0),.d (.int .i64 0),.d (.str []),.fslice [],.fslice []],none,[]⟩] none []) (.seq (.region [⟨some 4,.load true 5 (.t 3),none,[]⟩,⟨some 4,.call 13 [.t 4],none,[]⟩,⟨some 1,.un .not (.t 4),none,[]⟩] none [4]) (.cond (.t 1) (.seq (.region [⟨some 4,.build [.d (.int .i64 0),.d (.int .i64 0),.d (.str []),.fslice [],.fslice []] [],none,[]⟩,⟨none,.store 5 (.t 2) (.t 4),none,[4]⟩] none [4]) .ret) (.seq .skip (.seq (.region [⟨some 4,.load true 5 (.t 3),none,[]⟩,⟨some 4,.call 30 [.t 4],none,[]⟩,⟨none,.store 5 (.t 2) (.t 4),none,[4]⟩] none [4]) .ret)))),[.cell 2 true 5]⟩
def c16:CFn:=
 ⟨1,4,false,.seq (.region [⟨some 2,.box (.t 0),none,[]⟩,⟨some 1,.move (.c (boolD false)),none,[]⟩] none []) (.seq (.region [⟨some 3,.load true 5 (.t 2),none,[]⟩,⟨some 3,.call 31 [.t 3,.c (.d (.int .i64 2000)),.c (.d (.int .i64 30))],none,[]⟩,⟨some 3,.bin .geq .none (.t 3) (.c (.d (.int .i64 0))),none,[]⟩,⟨some 1,.move (.t 3),none,[3]⟩] none [3]) .ret),[.t 1]⟩
def c17:CFn:=
 ⟨5,8,false,.seq (.region [⟨some 5,.move (.c (.fslice [])),none,[]⟩] none []) (.seq (.region [⟨some 7,.toBytes (.t 0),none,[]⟩,⟨some 7,.append 1 1 false (.t 7) (.t 1),none,[7]⟩,⟨some 7,.append 1 1 true (.t 7) (.t 2),none,[7]⟩,⟨some 7,.append 1 1 false (.t 7) (.t 3),none,[7]⟩,⟨some 6,.move (.t 7),none,[7]⟩] none [7]) (.seq (.region [⟨some 7,.move (.t 6),none,[6]⟩,⟨some 7,.append 1 1 true (.t 7) (.t 4),none,[7]⟩,⟨some 5,.move (.t 7),none,[7]⟩] none [7]) .ret)),[.t 5]⟩
def c18:CFn:=
 ⟨1,8,false,.seq (.region [⟨some 3,.move (.c (.d (.int .i64 0))),none,[]⟩] none []) (.seq (.seq (.region [⟨some 4,.move (.c (.d (.int .i64 0))),none,[]⟩] none []) (.block 0 (.loop (.seq (.seq (.region [⟨some 6,.len .str (.t 0),none,[]⟩,⟨some 1,.bin .lss .none (.t 4) (.t 6),none,[]⟩] none [6]) (.cond (.t 1) .skip (.exit 0))) (.block 1 (.seq (.region [⟨some 6,.call 32 [.t 0,.t 4],none,[]⟩,⟨some 7,.extract (.t 6) 0,none,[]⟩,⟨some 6,.extract (.t 6) 1,none,[]⟩,⟨some 7,.move (.t 7),none,[7]⟩,⟨some 5,.move (.t 6),none,[6]⟩] none [6,7]) (.seq (.region [⟨some 2,.bin .eql .none (.t 5) (.c (.d (.int .i64 0))),none,[]⟩] none []) (.cond (.t 2) (.seq (.region [⟨some 6,.move (.t 4),none,[4]⟩,⟨some 3,.move (.t 6),none,[6]⟩] none [6]) .ret) (.seq .skip (.region [⟨some 6,.move (.t 4),none,[]⟩,⟨some 6,.bin .add .none (.t 6) (.t 5),none,[]⟩,⟨some 4,.move (.t 6),none,[6]⟩] none [6])))))))))) (.seq (.region [⟨some 3,.move (.c (.d (.int .i64 (-1)))),none,[]⟩] none []) .ret)),[.t 3]⟩
def c19:CFn:=
 ⟨1,8,false,.seq (.region [⟨some 5,.box (.t 0),none,[]⟩,⟨some 3,.move (.c (.fslice [])),none,[]⟩,⟨some 4,.move (.c (.d (.int .i64 0))),none,[]⟩] none []) (.seq (.region [⟨some 7,.load true 5 (.t 5),none,[]⟩,⟨some 7,.call 13 [.t 7],none,[]⟩,⟨some 1,.un .not (.t 7),none,[]⟩] none [7]) (.cond (.t 1) (.seq (.region [⟨some 3,.move (.c (.fslice [])),none,[]⟩,⟨some 4,.move (.c (.d (.int .i64 1))),none,[]⟩] none []) .ret) (.seq .skip (.seq (.region [⟨some 7,.load true 5 (.t 5),none,[]⟩,⟨some 7,.call 30 [.t 7],none,[]⟩,⟨some 7,.call 33 [.t 7],none,[]⟩,⟨some 6,.move (.t 7),none,[7]⟩] none [7]) (.seq (.region [⟨some 7,.len .str (.t 6),none,[]⟩,⟨some 2,.bin .gtr .none (.t 7) (.c (.d (.int .i64 16384))),none,[]⟩] none [7]) (.cond (.t 2) (.seq (.region [⟨some 3,.move (.c (.fslice [])),none,[]⟩,⟨some 4,.move (.c (.d (.int .i64 13))),none,[]⟩] none []) .ret) (.seq .skip (.seq (.region [⟨some 7,.toBytes (.t 6),none,[]⟩,⟨some 3,.move (.t 7),none,[7]⟩,⟨some 4,.move (.c (.d (.int .i64 0))),none,[]⟩] none [7]) .ret)))))))),[.t 3,.t 4]⟩
def c20:CFn:=
 ⟨1,4,false,.seq (.region [⟨some 2,.box (.t 0),none,[]⟩,⟨some 1,.move (.c (boolD false)),none,[]⟩] none []) (.seq (.region [⟨some 3,.load true 5 (.t 2),none,[]⟩,⟨some 3,.call 34 [.t 3,.c (.d (.int .i64 12))],none,[]⟩,⟨some 1,.move (.t 3),none,[3]⟩] none [3]) .ret),[.t 1]⟩
def c21:CFn:=
 ⟨1,5,false,.seq (.region [⟨some 3,.box (.t 0),none,[]⟩,⟨some 2,.new [.d (.int .i64 0),.d (.int .i64 0),.d (.str []),.fslice [],.fslice []],none,[]⟩] none []) (.seq (.region [⟨some 4,.load true 5 (.t 3),none,[]⟩,⟨some 4,.call 20 [.t 4],none,[]⟩,⟨some 1,.un .not (.t 4),none,[]⟩] none [4]) (.cond (.t 1) (.seq (.region [⟨some 4,.build [.d (.int .i64 0),.d (.int .i64 0),.d (.str []),.fslice [],.fslice []] [],none,[]⟩,⟨none,.store 5 (.t 2) (.t 4),none,[4]⟩] none [4]) .ret) (.seq .skip (.seq (.region [⟨some 4,.load true 5 (.t 3),none,[]⟩,⟨some 4,.call 27 [.t 4],none,[]⟩,⟨none,.store 5 (.t 2) (.t 4),none,[4]⟩] none [4]) .ret)))),[.cell 2 true 5]⟩
def c22:CFn:=
 ⟨1,12,false,.seq (.region [⟨some 4,.move (.c (.d (.int .i64 0))),none,[]⟩] none []) (.seq (.seq (.region [⟨some 5,.rngStr (.t 0),none,[]⟩] none []) (.block 0 (.loop (.seq (.region [⟨some 6,.nextStr (.t 5),none,[]⟩,⟨some 1,.extract (.t 6) 0,none,[]⟩] none []) (.seq (.cond (.t 1) .skip (.exit 0)) (.block 1 (.seq (.region [⟨some 10,.extract (.t 6) 1,none,[]⟩,⟨some 11,.extract (.t 6) 2,none,[]⟩,⟨some 7,.move (.t 10),none,[10]⟩,⟨some 8,.move (.t 11),none,[11]⟩] none [10,11]) (.seq (.region [⟨some 2,.bin .eql .none (.t 8) (.c (.d (.int .i32 65533))),none,[]⟩] none []) (.cond (.t 2) (.seq (.region [⟨some 10,.slStr (.t 0) (some (.t 7)) none,none,[]⟩,⟨some 10,.call 35 [.t 10],none,[]⟩,⟨some 11,.extract (.t 10) 0,none,[]⟩,⟨some 10,.extract (.t 10) 1,none,[]⟩,⟨some 11,.move (.t 11),none,[11]⟩,⟨some 9,.move (.t 10),none,[10]⟩] none [10,11]) (.seq (.region [⟨some 3,.bin .eql .none (.t 9) (.c (.d (.int .i64 1))),none,[]⟩] none []) (.cond (.t 3) (.seq (.region [⟨some 10,.move (.t 7),none,[7]⟩,⟨some 4,.move (.t 10),none,[10]⟩] none [10]) .ret) .skip))) .skip))))))))) (.seq (.region [⟨some 4,.move (.c (.d (.int .i64 (-1)))),none,[]⟩] none []) .ret)),[.t 4]⟩
def c24:CFn:=
 ⟨1,5,true,.block 0 (.loop (.seq (.seq (.region [⟨some 2,.nilCheck (.t 0),none,[]⟩,⟨some 2,.fieldAddr 1 (.t 2),none,[]⟩,⟨some 2,.load false 1 (.t 2),none,[]⟩,⟨some 3,.nilCheck (.t 0),none,[]⟩,⟨some 3,.fieldAddr 0 (.t 3),none,[]⟩,⟨some 3,.load false 1 (.t 3),none,[]⟩,⟨some 3,.len .str (.t 3),none,[]⟩,⟨some 2,.bin .lss .none (.t 2) (.t 3),none,[]⟩,⟨some 3,.move (.t 0),some (2,true),[]⟩,⟨some 3,.nilCheck (.t 3),some (2,true),[]⟩,⟨some 3,.fieldAddr 0 (.t 3),some (2,true),[]⟩,⟨some 3,.load false 1 (.t 3),some (2,true),[]⟩,⟨some 4,.move (.t 0),some (2,true),[]⟩,⟨some 4,.nilCheck (.t 4),some (2,true),[]⟩,⟨some 4,.fieldAddr 1 (.t 4),some (2,true),[]⟩,⟨some 4,.load false 1 (.t 4),some (2,true),[]⟩,⟨some 3,.idxStr (.t 3) (.t 4),some (2,true),[]⟩,⟨some 3,.call 36 [.c (.d (.str [32,9,10,13])),.t 3],some (2,true),[]⟩,⟨some 3,.bin .geq .none (.t 3) (.c (.d (.int .i64 0))),some (2,true),[]⟩,⟨some 1,.pick (.t 2) (.t 3) (.c (boolD false)),none,[]⟩] none [2,3,4]) (.cond (.t 1) .skip (.exit 0))) (.block 1 (.region [⟨some 2,.nilCheck (.t 0),none,[]⟩,⟨some 2,.fieldAddr 1 (.t 2),none,[]⟩,⟨some 2,.load false 1 (.t 2),none,[]⟩,⟨some 2,.bin .add .none (.t 2) (.c (.d (.int .i64 1))),none,[]⟩,⟨some 3,.nilCheck (.t 0),none,[]⟩,⟨some 3,.fieldAddr 1 (.t 3),none,[]⟩,⟨none,.store 1 (.t 3) (.t 2),none,[2]⟩] none [2,3])))),[]⟩
def c25:CFn:=
 ⟨2,18,true,.seq (.region [⟨some 10,.new [.d (.int .i64 0),.d (.int .i64 0),.d (.str []),.fslice [],.fslice []],none,[]⟩] none []) (.seq (.region [⟨some 15,.call 37 [.t 0],none,[]⟩,⟨some 11,.move (.t 15),none,[15]⟩] none [15]) (.seq (.seq (.region [⟨some 15,.bin .gtr .none (.t 1) (.c (.d (.int .i64 12))),none,[]⟩,⟨some 16,.move (.t 11),some (15,true),[]⟩,⟨some 16,.bin .neq .none (.t 16) (.c (.d (.int .u8 0))),some (15,true),[]⟩,⟨some 15,.pick (.t 15) (.t 16) (.c (boolD false)),none,[]⟩,⟨some 16,.move (.t 11),some (15,true),[]⟩,⟨some 16,.call 38 [.t 16],some (15,true),[]⟩,⟨some 16,.move (.t 16),some (15,true),[]⟩,⟨some 17,.move (.t 11),some (16,false),[]⟩,⟨some 17,.call 36 [.c (.d (.str [91,123,34,110,116,102,45])),.t 17],some (16,false),[]⟩,⟨some 17,.bin .geq .none (.t 17) (.c (.d (.int .i64 0))),some (16,false),[]⟩,⟨some 16,.pick (.t 16) (.c (boolD true)) (.t 17),some (15,true),[]⟩,⟨some 2,.pick (.t 15) (.t 16) (.c (boolD false)),none,[]⟩] none [15,16,17]) (.cond (.t 2) (.region [⟨some 15,.nilCheck (.t 0),none,[]⟩,⟨some 15,.fieldAddr 1 (.t 15),none,[]⟩,⟨some 15,.load false 1 (.t 15),none,[]⟩,⟨some 15,.call 26 [.t 0,.c (.d (.int .i64 12)),.t 15],none,[]⟩] none [15]) .skip)) (.seq (.seq (.region [⟨some 12,.move (.t 11),none,[]⟩] none []) (.block 0 (.seq (.region [⟨some 15,.bin .eql .none (.t 12) (.c (.d (.int .u8 91))),none,[]⟩,⟨some 3,.move (.t 15),none,[15]⟩] none [15]) (.cond (.t 3) (.seq (.region [⟨some 15,.nilCheck (.t 0),none,[]⟩,⟨some 15,.fieldAddr 1 (.t 15),none,[]⟩,⟨some 15,.load false 1 (.t 15),none,[]⟩,⟨some 15,.bin .add .none (.t 15) (.c (.d (.int .i64 1))),none,[]⟩,⟨some 16,.nilCheck (.t 0),none,[]⟩,⟨some 16,.fieldAddr 1 (.t 16),none,[]⟩,⟨none,.store 1 (.t 16) (.t 15),none,[15]⟩] none [15,16]) (.seq (.region [⟨some 15,.build [.d (.int .i64 0),.d (.int .i64 0),.d (.str []),.fslice [],.fslice []] [(0,1,.c (.d (.int .i64 4)))],none,[]⟩,⟨some 13,.new [.d (.int .i64 0),.d (.int .i64 0),.d (.str []),.fslice [],.fslice []],none,[]⟩,⟨none,.store 5 (.t 13) (.t 15),none,[15]⟩] none [15]) (.seq (.seq (.region [⟨some 14,.move (.c (boolD true)),none,[]⟩] none []) (.block 1 (.loop (.seq (.seq (.region [⟨some 4,.call 39 [.t 0,.t 14,.c (.d (.int .u8 93))],none,[]⟩] none []) (.cond (.t 4) .skip (.exit 1))) (.seq (.block 2 (.region [⟨some 15,.fieldAddr 4 (.t 13),none,[]⟩,⟨some 15,.loadTake (.t 15),none,[]⟩,⟨some 16,.move (.t 0),none,[]⟩,⟨some 17,.move (.t 1),none,[]⟩,⟨some 17,.bin .add .none (.t 17) (.c (.d (.int .i64 1))),none,[]⟩,⟨some 16,.call 25 [.t 16,.t 17],none,[]⟩,⟨some 16,.buildSl 5 (.agg [.d (.int .i64 0),.d (.int .i64 0),.d (.str []),.fslice [],.fslice []]) 1 [(0,.t 16)],none,[]⟩,⟨some 15,.append 5 80 false (.t 15) (.t 16),none,[15]⟩,⟨some 16,.fieldAddr 4 (.t 13),none,[]⟩,⟨none,.store 1 (.t 16) (.t 15),none,[15]⟩] (some ⟨[1,5,6,7,9],[],[(6,5),(7,1),(7,5),(7,6),(9,1),(9,5),(9,6),(9,7)],none⟩) [15,16,17])) (.region [⟨some 14,.move (.c (boolD false)),none,[]⟩] none [])))))) (.seq (.region [⟨some 15,.load true 5 (.t 13),none,[]⟩,⟨none,.store 5 (.t 10) (.t 15),none,[15]⟩] none [15]) .ret)))) (.seq (.region [⟨some 15,.bin .eql .none (.t 12) (.c (.d (.int .u8 123))),none,[]⟩,⟨some 5,.move (.t 15),none,[15]⟩] none [15]) (.cond (.t 5) (.seq (.region [⟨some 15,.nilCheck (.t 0),none,[]⟩,⟨some 15,.fieldAddr 1 (.t 15),none,[]⟩,⟨some 15,.load false 1 (.t 15),none,[]⟩,⟨some 15,.bin .add .none (.t 15) (.c (.d (.int .i64 1))),none,[]⟩,⟨some 16,.nilCheck (.t 0),none,[]⟩,⟨some 16,.fieldAddr 1 (.t 16),none,[]⟩,⟨none,.store 1 (.t 16) (.t 15),none,[15]⟩] none [15,16]) (.seq (.region [⟨some 15,.call 40 [.t 0,.t 1],none,[]⟩,⟨none,.store 5 (.t 10) (.t 15),none,[15]⟩] none [15]) .ret)) (.seq (.region [⟨some 15,.bin .eql .none (.t 12) (.c (.d (.int .u8 34))),none,[]⟩,⟨some 6,.move (.t 15),none,[15]⟩] none [15]) (.cond (.t 6) (.seq (.region [⟨some 15,.call 41 [.t 0],none,[]⟩,⟨some 15,.build [.d (.int .i64 0),.d (.int .i64 0),.d (.str []),.fslice [],.fslice []] [(0,1,.c (.d (.int .i64 3))),(2,1,.t 15)],none,[]⟩,⟨none,.store 5 (.t 10) (.t 15),none,[15]⟩] none [15]) .ret) (.seq (.region [⟨some 15,.bin .eql .none (.t 12) (.c (.d (.int .u8 110))),none,[]⟩,⟨some 7,.move (.t 15),none,[15]⟩] none [15]) (.cond (.t 7) (.seq (.region [⟨some 15,.build [.d (.int .i64 0),.d (.int .i64 0),.d (.str []),.fslice [],.fslice []] [],none,[]⟩,⟨some 15,.call 42 [.t 0,.c (.d (.str [110,117,108,108])),.t 15],none,[]⟩,⟨none,.store 5 (.t 10) (.t 15),none,[15]⟩] none [15]) .ret) (.seq (.region [⟨some 15,.bin .eql .none (.t 12) (.c (.d (.int .u8 116))),none,[]⟩,⟨some 8,.move (.t 15),none,[15]⟩] none [15]) (.cond (.t 8) (.seq (.region [⟨some 15,.build [.d (.int .i64 0),.d (.int .i64 0),.d (.str []),.fslice [],.fslice []] [(0,1,.c (.d (.int .i64 1))),(1,1,.c (.d (.int .i64 1)))],none,[]⟩,⟨some 15,.call 42 [.t 0,.c (.d (.str [116,114,117,101])),.t 15],none,[]⟩,⟨none,.store 5 (.t 10) (.t 15),none,[15]⟩] none [15]) .ret) (.seq (.region [⟨some 15,.bin .eql .none (.t 12) (.c (.d (.int .u8 102))),none,[]⟩,⟨some 9,.move (.t 15),none,[15]⟩] none [15]) (.cond (.t 9) (.seq (.region [⟨some 15,.build [.d (.int .i64 0),.d (.int .i64 0),.d (.str []),.fslice [],.fslice []] [(0,1,.c (.d (.int .i64 1)))],none,[]⟩,⟨some 15,.call 42 [.t 0,.c (.d (.str [102,97,108,115,101])),.t 15],none,[]⟩,⟨none,.store 5 (.t 10) (.t 15),none,[15]⟩] none [15]) .ret) .skip)))))))))))))) (.seq (.region [⟨some 15,.call 43 [.t 0],none,[]⟩,⟨none,.store 5 (.t 10) (.t 15),none,[15]⟩] none [15]) .ret)))),[.cell 10 true 5]⟩
def c26:CFn:=
 ⟨3,4,true,.region [⟨some 3,.build [.d (.int .i64 0),.d (.int .i64 0)] [(0,1,.t 1),(1,1,.t 2)],none,[]⟩,⟨some 3,.mkIface 45 (.t 3),none,[]⟩,⟨none,.panic (.t 3),none,[]⟩] none [3],[]⟩
def c27:CFn:=
 ⟨1,18,false,.seq (.region [⟨some 5,.box (.t 0),none,[]⟩,⟨some 4,.new [.d (.int .i64 0),.d (.int .i64 0),.d (.str []),.fslice [],.fslice []],none,[]⟩] none []) (.seq (.region [⟨some 15,.fieldAddr 0 (.t 5),none,[]⟩,⟨some 15,.load false 1 (.t 15),none,[]⟩,⟨some 16,.fieldAddr 1 (.t 5),none,[]⟩,⟨some 16,.load false 1 (.t 16),none,[]⟩,⟨some 17,.fieldAddr 2 (.t 5),none,[]⟩,⟨some 17,.load false 1 (.t 17),none,[]⟩,⟨some 15,.build [.d (.int .i64 0),.d (.int .i64 0),.d (.str []),.fslice [],.fslice []] [(0,1,.t 15),(1,1,.t 16),(2,1,.t 17)],none,[]⟩,⟨some 6,.new [.d (.int .i64 0),.d (.int .i64 0),.d (.str []),.fslice [],.fslice []],none,[]⟩,⟨none,.store 5 (.t 6) (.t 15),none,[15]⟩] none [15,16,17]) (.seq (.region [⟨some 15,.fieldAddr 0 (.t 5),none,[]⟩,⟨some 15,.load false 1 (.t 15),none,[]⟩,⟨some 1,.bin .eql .none (.t 15) (.c (.d (.int .i64 5))),none,[]⟩] none [15]) (.cond (.t 1) (.seq (.seq (.region [⟨some 15,.fieldAddr 3 (.t 5),none,[]⟩,⟨some 15,.load false 1 (.t 15),none,[]⟩,⟨some 7,.call 44 [.t 15],none,[]⟩,⟨some 8,.len .sl (.t 7),none,[]⟩,⟨some 9,.move (.c (.d (.int .i64 0))),none,[]⟩] none [15]) (.block 0 (.loop (.seq (.region [⟨some 2,.bin .lss .none (.t 9) (.t 8),none,[]⟩] none []) (.seq (.cond (.t 2) .skip (.exit 0)) (.seq (.block 1 (.seq (.region [⟨some 15,.idxSl 1 (.t 7) (.t 9),none,[]⟩,⟨some 15,.load false 1 (.t 15),none,[]⟩,⟨some 10,.move (.t 15),none,[15]⟩] none [15]) (.seq (.region [⟨some 15,.fieldAddr 3 (.t 6),none,[]⟩,⟨some 15,.loadTake (.t 15),none,[]⟩,⟨some 16,.fieldAddr 3 (.t 5),none,[]⟩,⟨some 16,.load false 1 (.t 16),none,[]⟩,⟨some 17,.move (.t 10),none,[]⟩,⟨some 16,.idxSl 1 (.t 16) (.t 17),none,[]⟩,⟨some 16,.load false 1 (.t 16),none,[]⟩,⟨some 16,.buildSl 1 (.d (.str [])) 1 [(0,.t 16)],none,[]⟩,⟨some 15,.append 1 16 false (.t 15) (.t 16),none,[15]⟩,⟨some 16,.fieldAddr 3 (.t 6),none,[]⟩,⟨none,.store 1 (.t 16) (.t 15),none,[15]⟩] (some ⟨[1,7,8,10],[3,6],[(7,3),(7,6),(8,1),(8,7),(8,3),(8,6),(10,1),(10,7),(10,8),(10,3),(10,6),(6,3)],none⟩) [15,16,17]) (.region [⟨some 15,.fieldAddr 4 (.t 6),none,[]⟩,⟨some 15,.loadTake (.t 15),none,[]⟩,⟨some 16,.fieldAddr 4 (.t 5),none,[]⟩,⟨some 16,.load false 1 (.t 16),none,[]⟩,⟨some 17,.move (.t 10),none,[]⟩,⟨some 16,.idxSl 5 (.t 16) (.t 17),none,[]⟩,⟨some 16,.load true 5 (.t 16),none,[]⟩,⟨some 16,.call 27 [.t 16],none,[]⟩,⟨some 16,.buildSl 5 (.agg [.d (.int .i64 0),.d (.int .i64 0),.d (.str []),.fslice [],.fslice []]) 1 [(0,.t 16)],none,[]⟩,⟨some 15,.append 5 80 false (.t 15) (.t 16),none,[15]⟩,⟨some 16,.fieldAddr 4 (.t 6),none,[]⟩,⟨none,.store 1 (.t 16) (.t 15),none,[15]⟩] (some ⟨[1,7,8,9,11],[3,6],[(7,3),(7,6),(8,7),(8,3),(8,6),(9,1),(9,7),(9,8),(9,3),(9,6),(11,1),(11,7),(11,8),(11,9),(11,3),(11,6),(6,3)],none⟩) [15,16,17])))) (.region [⟨some 15,.bin .add .none (.t 9) (.c (.d (.int .i64 1))),none,[]⟩,⟨some 9,.move (.t 15),none,[]⟩] none [15]))))))) (.seq (.region [⟨some 15,.load true 5 (.t 6),none,[]⟩,⟨none,.store 5 (.t 4) (.t 15),none,[15]⟩] none [15]) .ret)) (.seq .skip (.seq (.seq (.region [⟨some 15,.fieldAddr 4 (.t 5),none,[]⟩,⟨some 11,.load false 1 (.t 15),none,[]⟩,⟨some 12,.len .sl (.t 11),none,[]⟩,⟨some 13,.move (.c (.d (.int .i64 0))),none,[]⟩] none [15]) (.block 2 (.loop (.seq (.region [⟨some 3,.bin .lss .none (.t 13) (.t 12),none,[]⟩] none []) (.seq (.cond (.t 3) .skip (.exit 2)) (.seq (.block 3 (.seq (.region [⟨some 15,.idxSl 5 (.t 11) (.t 13),none,[]⟩,⟨some 15,.load true 5 (.t 15),none,[]⟩,⟨some 14,.new [.d (.int .i64 0),.d (.int .i64 0),.d (.str []),.fslice [],.fslice []],none,[]⟩,⟨none,.store 5 (.t 14) (.t 15),none,[15]⟩] none [15]) (.region [⟨some 15,.fieldAddr 4 (.t 6),none,[]⟩,⟨some 15,.loadTake (.t 15),none,[]⟩,⟨some 16,.load true 5 (.t 14),none,[]⟩,⟨some 16,.call 27 [.t 16],none,[]⟩,⟨some 16,.buildSl 5 (.agg [.d (.int .i64 0),.d (.int .i64 0),.d (.str []),.fslice [],.fslice []]) 1 [(0,.t 16)],none,[]⟩,⟨some 15,.append 5 80 false (.t 15) (.t 16),none,[15]⟩,⟨some 16,.fieldAddr 4 (.t 6),none,[]⟩,⟨none,.store 1 (.t 16) (.t 15),none,[15]⟩] (some ⟨[1,3,4,5,7],[2],[(3,2),(4,3),(4,2),(5,1),(5,3),(5,4),(5,2),(7,1),(7,3),(7,4),(7,5),(7,2)],none⟩) [15,16]))) (.region [⟨some 15,.bin .add .none (.t 13) (.c (.d (.int .i64 1))),none,[]⟩,⟨some 13,.move (.t 15),none,[]⟩] none [15]))))))) (.seq (.region [⟨some 15,.load true 5 (.t 6),none,[]⟩,⟨none,.store 5 (.t 4) (.t 15),none,[15]⟩] none [15]) .ret)))))),[.cell 4 true 5]⟩
def c28:CFn:=
 ⟨2,28,false,.seq (.region [⟨some 13,.box (.t 1),none,[]⟩,⟨some 12,.move (.c (.fslice [])),none,[]⟩] none []) (.seq (.region [⟨some 25,.len .sl (.t 0),none,[]⟩,⟨some 2,.bin .gtr .none (.t 25) (.c (.d (.int .i64 16384))),none,[]⟩] none [25]) (.cond (.t 2) (.seq (.region [⟨some 25,.move (.t 0),none,[0]⟩,⟨some 12,.move (.t 25),none,[25]⟩] none [25]) .ret) (.seq .skip (.seq (.seq (.region [⟨some 25,.fieldAddr 0 (.t 13),none,[]⟩,⟨some 14,.load false 1 (.t 25),none,[]⟩] none [25]) (.block 0 (.seq (.region [⟨some 25,.bin .eql .none (.t 14) (.c (.d (.int .i64 1))),none,[]⟩,⟨some 3,.move (.t 25),none,[25]⟩] none [25]) (.cond (.t 3) (.seq (.region [⟨some 25,.move (.t 0),none,[0]⟩,⟨some 26,.fieldAddr 1 (.t 13),none,[]⟩,⟨some 26,.load false 1 (.t 26),none,[]⟩,⟨some 26,.bin .eql .none (.t 26) (.c (.d (.int .i64 1))),none,[]⟩,⟨some 25,.call 45 [.t 25,.t 26],none,[25]⟩,⟨some 12,.move (.t 25),none,[25]⟩] none [25,26]) .ret) (.seq (.region [⟨some 25,.bin .eql .none (.t 14) (.c (.d (.int .i64 2))),none,[]⟩,⟨some 4,.move (.t 25),none,[25]⟩] none [25]) (.cond (.t 4) (.seq (.region [⟨some 25,.move (.t 0),none,[0]⟩,⟨some 26,.fieldAddr 1 (.t 13),none,[]⟩,⟨some 26,.load false 1 (.t 26),none,[]⟩,⟨some 25,.call 46 [.t 25,.t 26,.c (.d (.int .i64 10))],none,[25]⟩,⟨some 12,.move (.t 25),none,[25]⟩] none [25,26]) .ret) (.seq (.region [⟨some 25,.bin .eql .none (.t 14) (.c (.d (.int .i64 3))),none,[]⟩,⟨some 5,.move (.t 25),none,[25]⟩] none [25]) (.cond (.t 5) (.seq (.region [⟨some 25,.move (.t 0),none,[0]⟩,⟨some 26,.fieldAddr 2 (.t 13),none,[]⟩,⟨some 26,.load false 1 (.t 26),none,[]⟩,⟨some 25,.call 47 [.t 25,.t 26],none,[25]⟩,⟨some 12,.move (.t 25),none,[25]⟩] none [25,26]) .ret) (.seq (.region [⟨some 25,.bin .eql .none (.t 14) (.c (.d (.int .i64 4))),none,[]⟩,⟨some 6,.move (.t 25),none,[25]⟩] none [25]) (.cond (.t 6) (.seq (.region [⟨some 25,.move (.t 0),none,[0]⟩,⟨some 26,.buildSl 1 (.d (.int .u8 0)) 1 [(0,.c (.d (.int .u8 91)))],none,[]⟩,⟨some 25,.append 1 1 false (.t 25) (.t 26),none,[25]⟩,⟨some 0,.move (.t 25),none,[25]⟩] none [25,26]) (.seq (.seq (.region [⟨some 25,.fieldAddr 4 (.t 13),none,[]⟩,⟨some 15,.load false 1 (.t 25),none,[]⟩,⟨some 16,.len .sl (.t 15),none,[]⟩,⟨some 17,.move (.c (.d (.int .i64 0))),none,[]⟩] none [25]) (.block 1 (.loop (.seq (.region [⟨some 7,.bin .lss .none (.t 17) (.t 16),none,[]⟩] none []) (.seq (.cond (.t 7) .skip (.exit 1)) (.seq (.block 2 (.seq (.region [⟨some 25,.move (.t 17),none,[17]⟩,⟨some 26,.idxSl 5 (.t 15) (.t 17),none,[]⟩,⟨some 26,.load true 5 (.t 26),none,[]⟩,⟨some 18,.new [.d (.int .i64 0),.d (.int .i64 0),.d (.str []),.fslice [],.fslice []],none,[]⟩,⟨some 19,.move (.t 25),none,[25]⟩,⟨none,.store 5 (.t 18) (.t 26),none,[26]⟩] none [25,26]) (.seq (.seq (.region [⟨some 8,.bin .gtr .none (.t 19) (.c (.d (.int .i64 0))),none,[]⟩] none []) (.cond (.t 8) (.region [⟨some 25,.move (.t 0),none,[0]⟩,⟨some 26,.buildSl 1 (.d (.int .u8 0)) 1 [(0,.c (.d (.int .u8 44)))],none,[]⟩,⟨some 25,.append 1 1 false (.t 25) (.t 26),none,[25]⟩,⟨some 0,.move (.t 25),none,[25]⟩] none [25,26]) .skip)) (.region [⟨some 25,.move (.t 0),none,[0]⟩,⟨some 26,.load true 5 (.t 18),none,[]⟩,⟨some 25,.call 28 [.t 25,.t 26],none,[25]⟩,⟨some 0,.move (.t 25),none,[25]⟩] none [25,26])))) (.region [⟨some 25,.bin .add .none (.t 17) (.c (.d (.int .i64 1))),none,[]⟩,⟨some 17,.move (.t 25),none,[]⟩] none [25]))))))) (.seq (.region [⟨some 25,.move (.t 0),none,[0]⟩,⟨some 26,.buildSl 1 (.d (.int .u8 0)) 1 [(0,.c (.d (.int .u8 93)))],none,[]⟩,⟨some 25,.append 1 1 false (.t 25) (.t 26),none,[25]⟩,⟨some 12,.move (.t 25),none,[25]⟩] none [25,26]) .ret))) (.seq (.region [⟨some 25,.bin .eql .none (.t 14) (.c (.d (.int .i64 5))),none,[]⟩,⟨some 9,.move (.t 25),none,[25]⟩] none [25]) (.cond (.t 9) (.seq (.region [⟨some 25,.move (.t 0),none,[0]⟩,⟨some 26,.buildSl 1 (.d (.int .u8 0)) 1 [(0,.c (.d (.int .u8 123)))],none,[]⟩,⟨some 25,.append 1 1 false (.t 25) (.t 26),none,[25]⟩,⟨some 0,.move (.t 25),none,[25]⟩] none [25,26]) (.seq (.seq (.region [⟨some 25,.fieldAddr 3 (.t 13),none,[]⟩,⟨some 25,.load false 1 (.t 25),none,[]⟩,⟨some 20,.call 44 [.t 25],none,[]⟩,⟨some 21,.len .sl (.t 20),none,[]⟩,⟨some 22,.move (.c (.d (.int .i64 0))),none,[]⟩] none [25]) (.block 3 (.loop (.seq (.region [⟨some 10,.bin .lss .none (.t 22) (.t 21),none,[]⟩] none []) (.seq (.cond (.t 10) .skip (.exit 3)) (.seq (.block 4 (.seq (.region [⟨some 25,.move (.t 22),none,[22]⟩,⟨some 26,.idxSl 1 (.t 20) (.t 22),none,[]⟩,⟨some 26,.load false 1 (.t 26),none,[]⟩,⟨some 23,.move (.t 25),none,[25]⟩,⟨some 24,.move (.t 26),none,[26]⟩] none [25,26]) (.seq (.seq (.region [⟨some 11,.bin .gtr .none (.t 23) (.c (.d (.int .i64 0))),none,[]⟩] none []) (.cond (.t 11) (.region [⟨some 25,.move (.t 0),none,[0]⟩,⟨some 26,.buildSl 1 (.d (.int .u8 0)) 1 [(0,.c (.d (.int .u8 44)))],none,[]⟩,⟨some 25,.append 1 1 false (.t 25) (.t 26),none,[25]⟩,⟨some 0,.move (.t 25),none,[25]⟩] none [25,26]) .skip)) (.region [⟨some 25,.move (.t 0),none,[0]⟩,⟨some 26,.fieldAddr 3 (.t 13),none,[]⟩,⟨some 26,.load false 1 (.t 26),none,[]⟩,⟨some 27,.move (.t 24),none,[]⟩,⟨some 26,.idxSl 1 (.t 26) (.t 27),none,[]⟩,⟨some 26,.load false 1 (.t 26),none,[]⟩,⟨some 25,.call 47 [.t 25,.t 26],none,[25]⟩,⟨some 26,.buildSl 1 (.d (.int .u8 0)) 1 [(0,.c (.d (.int .u8 58)))],none,[]⟩,⟨some 25,.append 1 1 false (.t 25) (.t 26),none,[25]⟩,⟨some 26,.fieldAddr 4 (.t 13),none,[]⟩,⟨some 26,.load false 1 (.t 26),none,[]⟩,⟨some 27,.move (.t 24),none,[]⟩,⟨some 26,.idxSl 5 (.t 26) (.t 27),none,[]⟩,⟨some 26,.load true 5 (.t 26),none,[]⟩,⟨some 25,.call 28 [.t 25,.t 26],none,[25]⟩,⟨some 0,.move (.t 25),none,[25]⟩] (some ⟨[6,7,8,14],[2,5,10,13],[(6,2),(6,5),(8,6),(8,7),(8,2),(8,5),(14,6),(14,7),(14,8),(14,2),(14,5),(14,10),(14,13),(5,2),(13,10)],none⟩) [25,26,27])))) (.region [⟨some 25,.bin .add .none (.t 22) (.c (.d (.int .i64 1))),none,[]⟩,⟨some 22,.move (.t 25),none,[]⟩] none [25]))))))) (.seq (.region [⟨some 25,.move (.t 0),none,[0]⟩,⟨some 26,.buildSl 1 (.d (.int .u8 0)) 1 [(0,.c (.d (.int .u8 125)))],none,[]⟩,⟨some 25,.append 1 1 false (.t 25) (.t 26),none,[25]⟩,⟨some 12,.move (.t 25),none,[25]⟩] none [25,26]) .ret))) .skip)))))))))))) (.seq (.region [⟨some 25,.move (.t 0),none,[0]⟩,⟨some 26,.buildSl 1 (.d (.int .u8 0)) 4 [(0,.c (.d (.int .u8 110))),(1,.c (.d (.int .u8 117))),(2,.c (.d (.int .u8 108))),(3,.c (.d (.int .u8 108)))],none,[]⟩,⟨some 25,.append 1 1 false (.t 25) (.t 26),none,[25]⟩,⟨some 12,.move (.t 25),none,[25]⟩] none [25,26]) .ret))))),[.t 12]⟩
def c29:CFn:=
 ⟨2,10,false,.seq (.region [⟨some 6,.box (.t 0),none,[]⟩,⟨some 5,.move (.c (boolD false)),none,[]⟩] none []) (.seq (.region [⟨some 8,.bin .lss .none (.t 1) (.c (.d (.int .i64 1))),none,[]⟩,⟨some 9,.load true 5 (.t 6),some (8,false),[]⟩,⟨some 9,.call 48 [.t 9],some (8,false),[]⟩,⟨some 9,.un .not (.t 9),some (8,false),[]⟩,⟨some 2,.pick (.t 8) (.c (boolD true)) (.t 9),none,[]⟩] none [8,9]) (.cond (.t 2) (.seq (.region [⟨some 5,.move (.c (boolD false)),none,[]⟩] none []) .ret) (.seq .skip (.seq (.seq (.region [⟨some 7,.move (.c (.d (.int .i64 0))),none,[]⟩] none []) (.block 0 (.loop (.seq (.seq (.region [⟨some 8,.fieldAddr 4 (.t 6),none,[]⟩,⟨some 8,.load false 1 (.t 8),none,[]⟩,⟨some 8,.len .sl (.t 8),none,[]⟩,⟨some 3,.bin .lss .none (.t 7) (.t 8),none,[]⟩] none [8]) (.cond (.t 3) .skip (.exit 0))) (.seq (.block 1 (.seq (.region [⟨some 8,.fieldAddr 4 (.t 6),none,[]⟩,⟨some 8,.load false 1 (.t 8),none,[]⟩,⟨some 8,.idxSl 5 (.t 8) (.t 7),none,[]⟩,⟨some 8,.load true 5 (.t 8),none,[]⟩,⟨some 9,.bin .sub .none (.t 1) (.c (.d (.int .i64 1))),none,[]⟩,⟨some 8,.call 29 [.t 8,.t 9],none,[]⟩,⟨some 4,.un .not (.t 8),none,[]⟩] none [8,9]) (.cond (.t 4) (.seq (.region [⟨some 5,.move (.c (boolD false)),none,[]⟩] none []) .ret) .skip))) (.region [⟨some 8,.move (.t 7),none,[]⟩,⟨some 8,.bin .add .none (.t 8) (.c (.d (.int .i64 1))),none,[]⟩,⟨some 7,.move (.t 8),none,[8]⟩] none [8])))))) (.seq (.region [⟨some 5,.move (.c (boolD true)),none,[]⟩] none []) .ret))))),[.t 5]⟩
def c30:CFn:=
 ⟨1,19,false,.seq (.region [⟨some 7,.box (.t 0),none,[]⟩,⟨some 6,.new [.d (.int .i64 0),.d (.int .i64 0),.d (.str []),.fslice [],.fslice []],none,[]⟩] none []) (.seq (.region [⟨some 14,.fieldAddr 0 (.t 7),none,[]⟩,⟨some 14,.load false 1 (.t 14),none,[]⟩,⟨some 15,.fieldAddr 1 (.t 7),none,[]⟩,⟨some 15,.load false 1 (.t 15),none,[]⟩,⟨some 16,.fieldAddr 2 (.t 7),none,[]⟩,⟨some 16,.load false 1 (.t 16),none,[]⟩,⟨some 14,.build [.d (.int .i64 0),.d (.int .i64 0),.d (.str []),.fslice [],.fslice []] [(0,1,.t 14),(1,1,.t 15),(2,1,.t 16)],none,[]⟩,⟨some 8,.new [.d (.int .i64 0),.d (.int .i64 0),.d (.str []),.fslice [],.fslice []],none,[]⟩,⟨none,.store 5 (.t 8) (.t 14),none,[14]⟩] none [14,15,16]) (.seq (.seq (.region [⟨some 14,.fieldAddr 0 (.t 7),none,[]⟩,⟨some 14,.load false 1 (.t 14),none,[]⟩,⟨some 1,.bin .eql .none (.t 14) (.c (.d (.int .i64 4))),none,[]⟩] none [14]) (.cond (.t 1) (.seq (.region [⟨some 9,.move (.c (.d (.int .i64 0))),none,[]⟩] none []) (.block 0 (.loop (.seq (.seq (.region [⟨some 14,.fieldAddr 4 (.t 7),none,[]⟩,⟨some 14,.load false 1 (.t 14),none,[]⟩,⟨some 14,.len .sl (.t 14),none,[]⟩,⟨some 2,.bin .lss .none (.t 9) (.t 14),none,[]⟩] none [14]) (.cond (.t 2) .skip (.exit 0))) (.seq (.block 1 (.region [⟨some 14,.fieldAddr 4 (.t 8),none,[]⟩,⟨some 14,.loadTake (.t 14),none,[]⟩,⟨some 15,.fieldAddr 4 (.t 7),none,[]⟩,⟨some 15,.load false 1 (.t 15),none,[]⟩,⟨some 16,.move (.t 9),none,[]⟩,⟨some 15,.idxSl 5 (.t 15) (.t 16),none,[]⟩,⟨some 15,.load true 5 (.t 15),none,[]⟩,⟨some 15,.call 30 [.t 15],none,[]⟩,⟨some 15,.buildSl 5 (.agg [.d (.int .i64 0),.d (.int .i64 0),.d (.str []),.fslice [],.fslice []]) 1 [(0,.t 15)],none,[]⟩,⟨some 14,.append 5 80 false (.t 14) (.t 15),none,[14]⟩,⟨some 15,.fieldAddr 4 (.t 8),none,[]⟩,⟨none,.store 1 (.t 15) (.t 14),none,[14]⟩] (some ⟨[1,7,8,9,11],[3,6],[(7,3),(7,6),(8,7),(8,3),(8,6),(9,1),(9,7),(9,8),(9,3),(9,6),(11,1),(11,7),(11,8),(11,9),(11,3),(11,6),(6,3)],none⟩) [14,15,16])) (.region [⟨some 14,.move (.t 9),none,[]⟩,⟨some 14,.bin .add .none (.t 14) (.c (.d (.int .i64 1))),none,[]⟩,⟨some 9,.move (.t 14),none,[14]⟩] none [14])))))) .skip)) (.seq (.region [⟨some 14,.fieldAddr 3 (.t 7),none,[]⟩,⟨some 14,.load false 1 (.t 14),none,[]⟩,⟨some 14,.len .sl (.t 14),none,[]⟩,⟨some 14,.mkSl 1 1 [boolD false] (.t 14) (.t 14),none,[]⟩,⟨some 10,.move (.t 14),none,[14]⟩] none [14]) (.seq (.seq (.region [⟨some 11,.move (.c (.d (.int .i64 0))),none,[]⟩] none []) (.block 2 (.loop (.seq (.seq (.region [⟨some 14,.fieldAddr 3 (.t 7),none,[]⟩,⟨some 14,.load false 1 (.t 14),none,[]⟩,⟨some 14,.len .sl (.t 14),none,[]⟩,⟨some 3,.bin .lss .none (.t 11) (.t 14),none,[]⟩] none [14]) (.cond (.t 3) .skip (.exit 2))) (.seq (.block 3 (.seq (.region [⟨some 12,.move (.c (.d (.int .i64 (-1)))),none,[]⟩] none []) (.seq (.seq (.region [⟨some 13,.move (.c (.d (.int .i64 0))),none,[]⟩] none []) (.block 4 (.loop (.seq (.seq (.region [⟨some 14,.fieldAddr 3 (.t 7),none,[]⟩,⟨some 14,.load false 1 (.t 14),none,[]⟩,⟨some 14,.len .sl (.t 14),none,[]⟩,⟨some 4,.bin .lss .none (.t 13) (.t 14),none,[]⟩] none [14]) (.cond (.t 4) .skip (.exit 4))) (.seq (.block 5 (.seq (.region [⟨some 14,.idxSl 1 (.t 10) (.t 13),none,[]⟩,⟨some 14,.load false 1 (.t 14),none,[]⟩,⟨some 14,.un .not (.t 14),none,[]⟩,⟨some 15,.move (.t 12),some (14,true),[]⟩,⟨some 15,.bin .lss .none (.t 15) (.c (.d (.int .i64 0))),some (14,true),[]⟩,⟨some 15,.move (.t 15),some (14,true),[]⟩,⟨some 16,.fieldAddr 3 (.t 7),some (15,false),[]⟩,⟨some 16,.load false 1 (.t 16),some (15,false),[]⟩,⟨some 17,.move (.t 13),some (15,false),[]⟩,⟨some 16,.idxSl 1 (.t 16) (.t 17),some (15,false),[]⟩,⟨some 16,.load false 1 (.t 16),some (15,false),[]⟩,⟨some 17,.fieldAddr 3 (.t 7),some (15,false),[]⟩,⟨some 17,.load false 1 (.t 17),some (15,false),[]⟩,⟨some 18,.move (.t 12),some (15,false),[]⟩,⟨some 17,.idxSl 1 (.t 17) (.t 18),some (15,false),[]⟩,⟨some 17,.load false 1 (.t 17),some (15,false),[]⟩,⟨some 16,.bin .lss .none (.t 16) (.t 17),some (15,false),[]⟩,⟨some 15,.pick (.t 15) (.c (boolD true)) (.t 16),some (14,true),[]⟩,⟨some 5,.pick (.t 14) (.t 15) (.c (boolD false)),none,[]⟩] none [14,15,16,17,18]) (.cond (.t 5) (.region [⟨some 14,.move (.t 13),none,[13]⟩,⟨some 12,.move (.t 14),none,[14]⟩] none [14]) .skip))) (.region [⟨some 14,.move (.t 13),none,[]⟩,⟨some 14,.bin .add .none (.t 14) (.c (.d (.int .i64 1))),none,[]⟩,⟨some 13,.move (.t 14),none,[14]⟩] none [14])))))) (.seq (.region [⟨some 14,.idxSl 1 (.t 10) (.t 12),none,[]⟩,⟨none,.store 1 (.t 14) (.c (boolD true)),none,[]⟩] none [14]) (.seq (.region [⟨some 14,.fieldAddr 3 (.t 8),none,[]⟩,⟨some 14,.loadTake (.t 14),none,[]⟩,⟨some 15,.fieldAddr 3 (.t 7),none,[]⟩,⟨some 15,.load false 1 (.t 15),none,[]⟩,⟨some 16,.move (.t 12),none,[]⟩,⟨some 15,.idxSl 1 (.t 15) (.t 16),none,[]⟩,⟨some 15,.load false 1 (.t 15),none,[]⟩,⟨some 15,.buildSl 1 (.d (.str [])) 1 [(0,.t 15)],none,[]⟩,⟨some 14,.append 1 16 false (.t 14) (.t 15),none,[14]⟩,⟨some 15,.fieldAddr 3 (.t 8),none,[]⟩,⟨none,.store 1 (.t 15) (.t 14),none,[14]⟩] (some ⟨[1,7,8,10],[3,6],[(7,3),(7,6),(8,1),(8,7),(8,3),(8,6),(10,1),(10,7),(10,8),(10,3),(10,6),(6,3)],none⟩) [14,15,16]) (.region [⟨some 14,.fieldAddr 4 (.t 8),none,[]⟩,⟨some 14,.loadTake (.t 14),none,[]⟩,⟨some 15,.fieldAddr 4 (.t 7),none,[]⟩,⟨some 15,.load false 1 (.t 15),none,[]⟩,⟨some 16,.move (.t 12),none,[]⟩,⟨some 15,.idxSl 5 (.t 15) (.t 16),none,[]⟩,⟨some 15,.load true 5 (.t 15),none,[]⟩,⟨some 15,.call 30 [.t 15],none,[]⟩,⟨some 15,.buildSl 5 (.agg [.d (.int .i64 0),.d (.int .i64 0),.d (.str []),.fslice [],.fslice []]) 1 [(0,.t 15)],none,[]⟩,⟨some 14,.append 5 80 false (.t 14) (.t 15),none,[14]⟩,⟨some 15,.fieldAddr 4 (.t 8),none,[]⟩,⟨none,.store 1 (.t 15) (.t 14),none,[14]⟩] (some ⟨[1,7,8,9,11],[3,6],[(7,3),(7,6),(8,7),(8,3),(8,6),(9,1),(9,7),(9,8),(9,3),(9,6),(11,1),(11,7),(11,8),(11,9),(11,3),(11,6),(6,3)],none⟩) [14,15,16])))))) (.region [⟨some 14,.move (.t 11),none,[]⟩,⟨some 14,.bin .add .none (.t 14) (.c (.d (.int .i64 1))),none,[]⟩,⟨some 11,.move (.t 14),none,[14]⟩] none [14])))))) (.seq (.region [⟨some 14,.load true 5 (.t 8),none,[]⟩,⟨none,.store 5 (.t 6) (.t 14),none,[14]⟩] none [14]) .ret))))),[.cell 6 true 5]⟩
def c31:CFn:=
 ⟨3,14,false,.seq (.region [⟨some 8,.box (.t 0),none,[]⟩,⟨some 7,.move (.c (.d (.int .i64 0))),none,[]⟩] none []) (.seq (.region [⟨some 11,.bin .lss .none (.t 1) (.c (.d (.int .i64 1))),none,[]⟩,⟨some 12,.move (.t 2),some (11,false),[]⟩,⟨some 12,.bin .lss .none (.t 12) (.c (.d (.int .i64 1))),some (11,false),[]⟩,⟨some 11,.pick (.t 11) (.c (boolD true)) (.t 12),none,[]⟩,⟨some 12,.fieldAddr 2 (.t 8),some (11,false),[]⟩,⟨some 12,.load false 1 (.t 12),some (11,false),[]⟩,⟨some 12,.len .str (.t 12),some (11,false),[]⟩,⟨some 12,.bin .gtr .none (.t 12) (.c (.d (.int .i64 2000))),some (11,false),[]⟩,⟨some 11,.pick (.t 11) (.c (boolD true)) (.t 12),none,[]⟩,⟨some 12,.fieldAddr 3 (.t 8),some (11,false),[]⟩,⟨some 12,.load false 1 (.t 12),some (11,false),[]⟩,⟨some 12,.len .sl (.t 12),some (11,false),[]⟩,⟨some 12,.bin .gtr .none (.t 12) (.c (.d (.int .i64 200))),some (11,false),[]⟩,⟨some 11,.pick (.t 11) (.c (boolD true)) (.t 12),none,[]⟩,⟨some 12,.fieldAddr 4 (.t 8),some (11,false),[]⟩,⟨some 12,.load false 1 (.t 12),some (11,false),[]⟩,⟨some 12,.len .sl (.t 12),some (11,false),[]⟩,⟨some 12,.bin .gtr .none (.t 12) (.c (.d (.int .i64 2000))),some (11,false),[]⟩,⟨some 3,.pick (.t 11) (.c (boolD true)) (.t 12),none,[]⟩] none [11,12]) (.cond (.t 3) (.seq (.region [⟨some 7,.move (.c (.d (.int .i64 (-1)))),none,[]⟩] none []) .ret) (.seq .skip (.seq (.region [⟨some 11,.move (.t 1),none,[]⟩,⟨some 11,.bin .sub .none (.t 11) (.c (.d (.int .i64 1))),none,[]⟩,⟨some 1,.move (.t 11),none,[11]⟩] none [11]) (.seq (.seq (.region [⟨some 9,.move (.c (.d (.int .i64 0))),none,[]⟩] none []) (.block 0 (.loop (.seq (.seq (.region [⟨some 11,.fieldAddr 3 (.t 8),none,[]⟩,⟨some 11,.load false 1 (.t 11),none,[]⟩,⟨some 11,.len .sl (.t 11),none,[]⟩,⟨some 4,.bin .lss .none (.t 9) (.t 11),none,[]⟩] none [11]) (.cond (.t 4) .skip (.exit 0))) (.seq (.block 1 (.seq (.region [⟨some 11,.fieldAddr 3 (.t 8),none,[]⟩,⟨some 11,.load false 1 (.t 11),none,[]⟩,⟨some 11,.idxSl 1 (.t 11) (.t 9),none,[]⟩,⟨some 11,.load false 1 (.t 11),none,[]⟩,⟨some 11,.len .str (.t 11),none,[]⟩,⟨some 5,.bin .gtr .none (.t 11) (.c (.d (.int .i64 2000))),none,[]⟩] none [11]) (.cond (.t 5) (.seq (.region [⟨some 7,.move (.c (.d (.int .i64 (-1)))),none,[]⟩] none []) .ret) .skip))) (.region [⟨some 11,.move (.t 9),none,[]⟩,⟨some 11,.bin .add .none (.t 11) (.c (.d (.int .i64 1))),none,[]⟩,⟨some 9,.move (.t 11),none,[11]⟩] none [11])))))) (.seq (.seq (.region [⟨some 10,.move (.c (.d (.int .i64 0))),none,[]⟩] none []) (.block 2 (.loop (.seq (.seq (.region [⟨some 11,.fieldAddr 4 (.t 8),none,[]⟩,⟨some 11,.load false 1 (.t 11),none,[]⟩,⟨some 11,.len .sl (.t 11),none,[]⟩,⟨some 11,.bin .lss .none (.t 10) (.t 11),none,[]⟩,⟨some 12,.move (.t 1),some (11,true),[]⟩,⟨some 12,.bin .geq .none (.t 12) (.c (.d (.int .i64 0))),some (11,true),[]⟩,⟨some 6,.pick (.t 11) (.t 12) (.c (boolD false)),none,[]⟩] none [11,12]) (.cond (.t 6) .skip (.exit 2))) (.seq (.block 3 (.region [⟨some 11,.fieldAddr 4 (.t 8),none,[]⟩,⟨some 11,.load false 1 (.t 11),none,[]⟩,⟨some 11,.idxSl 5 (.t 11) (.t 10),none,[]⟩,⟨some 11,.load true 5 (.t 11),none,[]⟩,⟨some 12,.move (.t 1),none,[]⟩,⟨some 13,.bin .sub .none (.t 2) (.c (.d (.int .i64 1))),none,[]⟩,⟨some 11,.call 31 [.t 11,.t 12,.t 13],none,[]⟩,⟨some 1,.move (.t 11),none,[11]⟩] none [11,12,13])) (.region [⟨some 11,.move (.t 10),none,[]⟩,⟨some 11,.bin .add .none (.t 11) (.c (.d (.int .i64 1))),none,[]⟩,⟨some 10,.move (.t 11),none,[11]⟩] none [11])))))) (.seq (.region [⟨some 11,.move (.t 1),none,[1]⟩,⟨some 7,.move (.t 11),none,[11]⟩] none [11]) .ret))))))),[.t 7]⟩
def c32:CFn:=
 ⟨2,19,false,.seq (.region [⟨some 9,.move (.c (.d (.int .i64 0))),none,[]⟩,⟨some 10,.move (.c (.d (.int .i64 0))),none,[]⟩] none []) (.seq (.region [⟨some 15,.idxStr (.t 0) (.t 1),none,[]⟩,⟨some 15,.toInt .i64 (.t 15),none,[]⟩,⟨some 11,.move (.t 15),none,[15]⟩] none [15]) (.seq (.region [⟨some 2,.bin .lss .none (.t 11) (.c (.d (.int .i64 128))),none,[]⟩] none []) (.cond (.t 2) (.seq (.region [⟨some 15,.move (.t 11),none,[11]⟩,⟨some 9,.move (.t 15),none,[15]⟩,⟨some 10,.move (.c (.d (.int .i64 1))),none,[]⟩] none [15]) .ret) (.seq .skip (.seq (.region [⟨some 12,.move (.c (.d (.int .i64 0))),none,[]⟩,⟨some 13,.move (.c (.d (.int .i64 0))),none,[]⟩] none []) (.seq (.block 0 (.seq (.region [⟨some 15,.bin .geq .none (.t 11) (.c (.d (.int .i64 192))),none,[]⟩,⟨some 16,.move (.t 11),some (15,true),[]⟩,⟨some 16,.bin .lss .none (.t 16) (.c (.d (.int .i64 224))),some (15,true),[]⟩,⟨some 15,.pick (.t 15) (.t 16) (.c (boolD false)),none,[]⟩,⟨some 3,.move (.t 15),none,[15]⟩] none [15,16]) (.cond (.t 3) (.seq (.region [⟨some 12,.move (.c (.d (.int .i64 1))),none,[]⟩] none []) (.seq (.region [⟨some 13,.move (.c (.d (.int .i64 128))),none,[]⟩] none []) (.region [⟨some 15,.move (.t 11),none,[]⟩,⟨some 15,.bin .and .none (.t 15) (.c (.d (.int .i64 31))),none,[]⟩,⟨some 11,.move (.t 15),none,[15]⟩] none [15]))) (.seq (.region [⟨some 15,.bin .geq .none (.t 11) (.c (.d (.int .i64 224))),none,[]⟩,⟨some 16,.move (.t 11),some (15,true),[]⟩,⟨some 16,.bin .lss .none (.t 16) (.c (.d (.int .i64 240))),some (15,true),[]⟩,⟨some 15,.pick (.t 15) (.t 16) (.c (boolD false)),none,[]⟩,⟨some 4,.move (.t 15),none,[15]⟩] none [15,16]) (.cond (.t 4) (.seq (.region [⟨some 12,.move (.c (.d (.int .i64 2))),none,[]⟩] none []) (.seq (.region [⟨some 13,.move (.c (.d (.int .i64 2048))),none,[]⟩] none []) (.region [⟨some 15,.move (.t 11),none,[]⟩,⟨some 15,.bin .and .none (.t 15) (.c (.d (.int .i64 15))),none,[]⟩,⟨some 11,.move (.t 15),none,[15]⟩] none [15]))) (.seq (.region [⟨some 15,.bin .geq .none (.t 11) (.c (.d (.int .i64 240))),none,[]⟩,⟨some 16,.move (.t 11),some (15,true),[]⟩,⟨some 16,.bin .lss .none (.t 16) (.c (.d (.int .i64 248))),some (15,true),[]⟩,⟨some 15,.pick (.t 15) (.t 16) (.c (boolD false)),none,[]⟩,⟨some 5,.move (.t 15),none,[15]⟩] none [15,16]) (.cond (.t 5) (.seq (.region [⟨some 12,.move (.c (.d (.int .i64 3))),none,[]⟩] none []) (.seq (.region [⟨some 13,.move (.c (.d (.int .i64 65536))),none,[]⟩] none []) (.region [⟨some 15,.move (.t 11),none,[]⟩,⟨some 15,.bin .and .none (.t 15) (.c (.d (.int .i64 7))),none,[]⟩,⟨some 11,.move (.t 15),none,[15]⟩] none [15]))) (.seq (.region [⟨some 9,.move (.c (.d (.int .i64 0))),none,[]⟩,⟨some 10,.move (.c (.d (.int .i64 0))),none,[]⟩] none []) .ret)))))))) (.seq (.seq (.region [⟨some 14,.move (.c (.d (.int .i64 1))),none,[]⟩] none []) (.block 1 (.loop (.seq (.seq (.region [⟨some 6,.bin .leq .none (.t 14) (.t 12),none,[]⟩] none []) (.cond (.t 6) .skip (.exit 1))) (.seq (.block 2 (.seq (.region [⟨some 15,.bin .add .none (.t 1) (.t 14),none,[]⟩,⟨some 16,.len .str (.t 0),none,[]⟩,⟨some 15,.bin .geq .none (.t 15) (.t 16),none,[]⟩,⟨some 16,.move (.t 0),some (15,false),[]⟩,⟨some 17,.move (.t 1),some (15,false),[]⟩,⟨some 18,.move (.t 14),some (15,false),[]⟩,⟨some 17,.bin .add .none (.t 17) (.t 18),some (15,false),[]⟩,⟨some 16,.idxStr (.t 16) (.t 17),some (15,false),[]⟩,⟨some 16,.bin .and .none (.t 16) (.c (.d (.int .u8 192))),some (15,false),[]⟩,⟨some 16,.bin .neq .none (.t 16) (.c (.d (.int .u8 128))),some (15,false),[]⟩,⟨some 7,.pick (.t 15) (.c (boolD true)) (.t 16),none,[]⟩] none [15,16,17,18]) (.cond (.t 7) (.seq (.region [⟨some 9,.move (.c (.d (.int .i64 0))),none,[]⟩,⟨some 10,.move (.c (.d (.int .i64 0))),none,[]⟩] none []) .ret) (.seq .skip (.region [⟨some 15,.move (.t 11),none,[]⟩,⟨some 15,.bin .shl .none (.t 15) (.c (.d (.int .u64 6))),none,[]⟩,⟨some 16,.bin .add .none (.t 1) (.t 14),none,[]⟩,⟨some 16,.idxStr (.t 0) (.t 16),none,[]⟩,⟨some 16,.bin .and .none (.t 16) (.c (.d (.int .u8 63))),none,[]⟩,⟨some 16,.toInt .i64 (.t 16),none,[]⟩,⟨some 15,.bin .or .none (.t 15) (.t 16),none,[]⟩,⟨some 11,.move (.t 15),none,[15]⟩] none [15,16]))))) (.region [⟨some 15,.move (.t 14),none,[]⟩,⟨some 15,.bin .add .none (.t 15) (.c (.d (.int .i64 1))),none,[]⟩,⟨some 14,.move (.t 15),none,[15]⟩] none [15])))))) (.seq (.region [⟨some 15,.bin .lss .none (.t 11) (.t 13),none,[]⟩,⟨some 16,.move (.t 11),some (15,false),[]⟩,⟨some 16,.call 49 [.t 16],some (15,false),[]⟩,⟨some 16,.un .not (.t 16),some (15,false),[]⟩,⟨some 8,.pick (.t 15) (.c (boolD true)) (.t 16),none,[]⟩] none [15,16]) (.cond (.t 8) (.seq (.region [⟨some 9,.move (.c (.d (.int .i64 0))),none,[]⟩,⟨some 10,.move (.c (.d (.int .i64 0))),none,[]⟩] none []) .ret) (.seq .skip (.seq (.region [⟨some 15,.move (.t 11),none,[11]⟩,⟨some 16,.bin .add .none (.t 12) (.c (.d (.int .i64 1))),none,[]⟩,⟨some 9,.move (.t 15),none,[15]⟩,⟨some 10,.move (.t 16),none,[16]⟩] none [15,16]) .ret))))))))))),[.t 9,.t 10]⟩
def c33:CFn:=
 ⟨1,21,false,.seq (.region [⟨some 12,.box (.t 0),none,[]⟩,⟨some 11,.move (.c (.d (.str []))),none,[]⟩] none []) (.seq (.seq (.region [⟨some 18,.fieldAddr 0 (.t 12),none,[]⟩,⟨some 13,.load false 1 (.t 18),none,[]⟩] none [18]) (.block 0 (.seq (.region [⟨some 18,.bin .eql .none (.t 13) (.c (.d (.int .i64 1))),none,[]⟩,⟨some 1,.move (.t 18),none,[18]⟩] none [18]) (.cond (.t 1) (.seq (.region [⟨some 18,.fieldAddr 1 (.t 12),none,[]⟩,⟨some 18,.load false 1 (.t 18),none,[]⟩,⟨some 2,.bin .eql .none (.t 18) (.c (.d (.int .i64 1))),none,[]⟩] none [18]) (.cond (.t 2) (.seq (.region [⟨some 11,.move (.c (.d (.str [116,114,117,101]))),none,[]⟩] none []) .ret) (.seq .skip (.seq (.region [⟨some 11,.move (.c (.d (.str [102,97,108,115,101]))),none,[]⟩] none []) .ret)))) (.seq (.region [⟨some 18,.bin .eql .none (.t 13) (.c (.d (.int .i64 2))),none,[]⟩,⟨some 3,.move (.t 18),none,[18]⟩] none [18]) (.cond (.t 3) (.seq (.region [⟨some 18,.fieldAddr 1 (.t 12),none,[]⟩,⟨some 18,.load false 1 (.t 18),none,[]⟩,⟨some 18,.call 50 [.t 18],none,[]⟩,⟨some 11,.move (.t 18),none,[18]⟩] none [18]) .ret) (.seq (.region [⟨some 18,.bin .eql .none (.t 13) (.c (.d (.int .i64 3))),none,[]⟩,⟨some 4,.move (.t 18),none,[18]⟩] none [18]) (.cond (.t 4) (.seq (.region [⟨some 18,.fieldAddr 2 (.t 12),none,[]⟩,⟨some 18,.load false 1 (.t 18),none,[]⟩,⟨some 18,.call 51 [.t 18],none,[]⟩,⟨some 11,.move (.t 18),none,[18]⟩] none [18]) .ret) (.seq (.region [⟨some 18,.bin .eql .none (.t 13) (.c (.d (.int .i64 4))),none,[]⟩,⟨some 5,.move (.t 18),none,[18]⟩] none [18]) (.cond (.t 5) (.seq (.region [⟨some 14,.move (.c (.d (.str [91]))),none,[]⟩] none []) (.seq (.seq (.region [⟨some 15,.move (.c (.d (.int .i64 0))),none,[]⟩] none []) (.block 1 (.loop (.seq (.seq (.region [⟨some 18,.fieldAddr 4 (.t 12),none,[]⟩,⟨some 18,.load false 1 (.t 18),none,[]⟩,⟨some 18,.len .sl (.t 18),none,[]⟩,⟨some 6,.bin .lss .none (.t 15) (.t 18),none,[]⟩] none [18]) (.cond (.t 6) .skip (.exit 1))) (.seq (.block 2 (.seq (.seq (.region [⟨some 7,.bin .gtr .none (.t 15) (.c (.d (.int .i64 0))),none,[]⟩] none []) (.cond (.t 7) (.region [⟨some 18,.move (.t 14),none,[]⟩,⟨some 18,.bin .add .none (.t 18) (.c (.d (.str [44]))),none,[]⟩,⟨some 14,.move (.t 18),none,[18]⟩] none [18]) .skip)) (.region [⟨some 18,.move (.t 14),none,[]⟩,⟨some 19,.fieldAddr 4 (.t 12),none,[]⟩,⟨some 19,.load false 1 (.t 19),none,[]⟩,⟨some 19,.idxSl 5 (.t 19) (.t 15),none,[]⟩,⟨some 19,.load true 5 (.t 19),none,[]⟩,⟨some 19,.call 33 [.t 19],none,[]⟩,⟨some 18,.bin .add .none (.t 18) (.t 19),none,[]⟩,⟨some 14,.move (.t 18),none,[18]⟩] none [18,19]))) (.region [⟨some 18,.move (.t 15),none,[]⟩,⟨some 18,.bin .add .none (.t 18) (.c (.d (.int .i64 1))),none,[]⟩,⟨some 15,.move (.t 18),none,[18]⟩] none [18])))))) (.seq (.region [⟨some 18,.bin .add .none (.t 14) (.c (.d (.str [93]))),none,[]⟩,⟨some 11,.move (.t 18),none,[18]⟩] none [18]) .ret))) (.seq (.region [⟨some 18,.bin .eql .none (.t 13) (.c (.d (.int .i64 5))),none,[]⟩,⟨some 8,.move (.t 18),none,[18]⟩] none [18]) (.cond (.t 8) (.seq (.region [⟨some 16,.move (.c (.d (.str [123]))),none,[]⟩] none []) (.seq (.seq (.region [⟨some 17,.move (.c (.d (.int .i64 0))),none,[]⟩] none []) (.block 3 (.loop (.seq (.seq (.region [⟨some 18,.fieldAddr 4 (.t 12),none,[]⟩,⟨some 18,.load false 1 (.t 18),none,[]⟩,⟨some 18,.len .sl (.t 18),none,[]⟩,⟨some 9,.bin .lss .none (.t 17) (.t 18),none,[]⟩] none [18]) (.cond (.t 9) .skip (.exit 3))) (.seq (.block 4 (.seq (.seq (.region [⟨some 10,.bin .gtr .none (.t 17) (.c (.d (.int .i64 0))),none,[]⟩] none []) (.cond (.t 10) (.region [⟨some 18,.move (.t 16),none,[]⟩,⟨some 18,.bin .add .none (.t 18) (.c (.d (.str [44]))),none,[]⟩,⟨some 16,.move (.t 18),none,[18]⟩] none [18]) .skip)) (.region [⟨some 18,.move (.t 16),none,[]⟩,⟨some 19,.fieldAddr 3 (.t 12),none,[]⟩,⟨some 19,.load false 1 (.t 19),none,[]⟩,⟨some 20,.move (.t 17),none,[]⟩,⟨some 19,.idxSl 1 (.t 19) (.t 20),none,[]⟩,⟨some 19,.load false 1 (.t 19),none,[]⟩,⟨some 19,.call 51 [.t 19],none,[]⟩,⟨some 18,.bin .add .none (.t 18) (.t 19),none,[]⟩,⟨some 18,.bin .add .none (.t 18) (.c (.d (.str [58]))),none,[]⟩,⟨some 19,.fieldAddr 4 (.t 12),none,[]⟩,⟨some 19,.load false 1 (.t 19),none,[]⟩,⟨some 20,.move (.t 17),none,[]⟩,⟨some 19,.idxSl 5 (.t 19) (.t 20),none,[]⟩,⟨some 19,.load true 5 (.t 19),none,[]⟩,⟨some 19,.call 33 [.t 19],none,[]⟩,⟨some 18,.bin .add .none (.t 18) (.t 19),none,[]⟩,⟨some 16,.move (.t 18),none,[18]⟩] (some ⟨[],[],[],some [([10,13],none)]⟩) [18,19,20]))) (.region [⟨some 18,.move (.t 17),none,[]⟩,⟨some 18,.bin .add .none (.t 18) (.c (.d (.int .i64 1))),none,[]⟩,⟨some 17,.move (.t 18),none,[18]⟩] none [18])))))) (.seq (.region [⟨some 18,.bin .add .none (.t 16) (.c (.d (.str [125]))),none,[]⟩,⟨some 11,.move (.t 18),none,[18]⟩] none [18]) .ret))) .skip)))))))))))) (.seq (.region [⟨some 11,.move (.c (.d (.str [110,117,108,108]))),none,[]⟩] none []) .ret)),[.t 11]⟩
def c34:CFn:=
 ⟨2,8,false,.seq (.region [⟨some 3,.box (.t 0),none,[]⟩,⟨some 4,.box (.t 1),none,[]⟩,⟨some 2,.move (.c (boolD false)),none,[]⟩] none []) (.seq (.region [⟨some 5,.load false 1 (.t 4),none,[]⟩,⟨some 5,.bin .gtr .none (.t 5) (.c (.d (.int .i64 0))),none,[]⟩,⟨some 6,.load true 5 (.t 3),some (5,true),[]⟩,⟨some 6,.call 52 [.t 6],some (5,true),[]⟩,⟨some 5,.pick (.t 5) (.t 6) (.c (boolD false)),none,[]⟩,⟨some 6,.fieldAddr 4 (.t 3),some (5,true),[]⟩,⟨some 6,.load false 1 (.t 6),some (5,true),[]⟩,⟨some 7,.mkFunc (.func 54) [.t 4],some (5,true),[]⟩,⟨some 6,.call 53 [.t 6,.t 7],some (5,true),[]⟩,⟨some 6,.un .not (.t 6),some (5,true),[]⟩,⟨some 5,.pick (.t 5) (.t 6) (.c (boolD false)),none,[]⟩,⟨some 2,.move (.t 5),none,[5]⟩] none [5,6,7]) .ret),[.t 2]⟩
def c36:CFn:=
 ⟨2,4,false,.seq (.region [⟨some 2,.move (.c (.d (.int .i64 0))),none,[]⟩] none []) (.seq (.region [⟨some 3,.call 56 [.t 0,.t 1],none,[]⟩,⟨some 2,.move (.t 3),none,[3]⟩] none [3]) .ret),[.t 2]⟩
def c37:CFn:=
 ⟨1,5,true,.seq (.region [⟨some 2,.move (.c (.d (.int .u8 0))),none,[]⟩] none []) (.seq (.region [⟨some 3,.nilCheck (.t 0),none,[]⟩,⟨some 3,.fieldAddr 1 (.t 3),none,[]⟩,⟨some 3,.load false 1 (.t 3),none,[]⟩,⟨some 4,.nilCheck (.t 0),none,[]⟩,⟨some 4,.fieldAddr 0 (.t 4),none,[]⟩,⟨some 4,.load false 1 (.t 4),none,[]⟩,⟨some 4,.len .str (.t 4),none,[]⟩,⟨some 1,.bin .eql .none (.t 3) (.t 4),none,[]⟩] none [3,4]) (.cond (.t 1) (.seq (.region [⟨some 2,.move (.c (.d (.int .u8 0))),none,[]⟩] none []) .ret) (.seq .skip (.seq (.region [⟨some 3,.nilCheck (.t 0),none,[]⟩,⟨some 3,.fieldAddr 0 (.t 3),none,[]⟩,⟨some 3,.load false 1 (.t 3),none,[]⟩,⟨some 4,.nilCheck (.t 0),none,[]⟩,⟨some 4,.fieldAddr 1 (.t 4),none,[]⟩,⟨some 4,.load false 1 (.t 4),none,[]⟩,⟨some 3,.idxStr (.t 3) (.t 4),none,[]⟩,⟨some 2,.move (.t 3),none,[3]⟩] none [3,4]) .ret)))),[.t 2]⟩
def c38:CFn:=
 ⟨1,4,false,.seq (.region [⟨some 1,.move (.c (boolD false)),none,[]⟩] none []) (.seq (.region [⟨some 2,.bin .leq .none (.c (.d (.int .u8 48))) (.t 0),none,[]⟩,⟨some 3,.move (.t 0),some (2,true),[]⟩,⟨some 3,.bin .leq .none (.t 3) (.c (.d (.int .u8 57))),some (2,true),[]⟩,⟨some 2,.pick (.t 2) (.t 3) (.c (boolD false)),none,[]⟩,⟨some 1,.move (.t 2),none,[2]⟩] none [2,3]) .ret),[.t 1]⟩
def c39:CFn:=
 ⟨3,9,true,.seq (.region [⟨some 5,.move (.c (boolD false)),none,[]⟩] none []) (.seq (.region [⟨some 6,.call 24 [.t 0],none,[]⟩] none [6]) (.seq (.region [⟨some 6,.call 37 [.t 0],none,[]⟩,⟨some 6,.bin .eql .none (.t 6) (.t 2),none,[]⟩,⟨some 7,.move (.t 0),some (6,true),[]⟩,⟨some 7,.nilCheck (.t 7),some (6,true),[]⟩,⟨some 7,.fieldAddr 1 (.t 7),some (6,true),[]⟩,⟨some 7,.load false 1 (.t 7),some (6,true),[]⟩,⟨some 8,.move (.t 0),some (6,true),[]⟩,⟨some 8,.nilCheck (.t 8),some (6,true),[]⟩,⟨some 8,.fieldAddr 0 (.t 8),some (6,true),[]⟩,⟨some 8,.load false 1 (.t 8),some (6,true),[]⟩,⟨some 8,.len .str (.t 8),some (6,true),[]⟩,⟨some 7,.bin .lss .none (.t 7) (.t 8),some (6,true),[]⟩,⟨some 3,.pick (.t 6) (.t 7) (.c (boolD false)),none,[]⟩] none [6,7,8]) (.cond (.t 3) (.seq (.region [⟨some 6,.nilCheck (.t 0),none,[]⟩,⟨some 6,.fieldAddr 1 (.t 6),none,[]⟩,⟨some 6,.load false 1 (.t 6),none,[]⟩,⟨some 6,.bin .add .none (.t 6) (.c (.d (.int .i64 1))),none,[]⟩,⟨some 7,.nilCheck (.t 0),none,[]⟩,⟨some 7,.fieldAddr 1 (.t 7),none,[]⟩,⟨none,.store 1 (.t 7) (.t 6),none,[6]⟩] none [6,7]) (.seq (.region [⟨some 5,.move (.c (boolD false)),none,[]⟩] none []) .ret)) (.seq .skip (.seq (.seq (.region [⟨some 4,.un .not (.t 1),none,[]⟩] none []) (.cond (.t 4) (.seq (.region [⟨some 6,.call 57 [.t 0,.c (.d (.int .u8 44))],none,[]⟩] none [6]) (.region [⟨some 6,.call 24 [.t 0],none,[]⟩] none [6])) .skip)) (.seq (.region [⟨some 5,.move (.c (boolD true)),none,[]⟩] none []) .ret)))))),[.t 5]⟩
def c40:CFn:=
 ⟨2,13,true,.seq (.region [⟨some 4,.new [.d (.int .i64 0),.d (.int .i64 0),.d (.str []),.fslice [],.fslice []],none,[]⟩] none []) (.seq (.region [⟨some 10,.build [.d (.int .i64 0),.d (.int .i64 0),.d (.str []),.fslice [],.fslice []] [(0,1,.c (.d (.int .i64 5)))],none,[]⟩,⟨some 5,.new [.d (.int .i64 0),.d (.int .i64 0),.d (.str []),.fslice [],.fslice []],none,[]⟩,⟨none,.store 5 (.t 5) (.t 10),none,[10]⟩] none [10]) (.seq (.region [⟨some 10,.mkMap .str,none,[]⟩,⟨some 6,.move (.t 10),none,[10]⟩] none [10]) (.seq (.seq (.region [⟨some 7,.move (.c (boolD true)),none,[]⟩] none []) (.block 0 (.loop (.seq (.seq (.region [⟨some 2,.call 39 [.t 0,.t 7,.c (.d (.int .u8 125))],none,[]⟩] none []) (.cond (.t 2) .skip (.exit 0))) (.seq (.block 1 (.seq (.region [⟨some 10,.nilCheck (.t 0),none,[]⟩,⟨some 10,.fieldAddr 1 (.t 10),none,[]⟩,⟨some 10,.load false 1 (.t 10),none,[]⟩,⟨some 8,.move (.t 10),none,[10]⟩] none [10]) (.seq (.region [⟨some 10,.call 41 [.t 0],none,[]⟩,⟨some 9,.move (.t 10),none,[10]⟩] none [10]) (.seq (.seq (.region [⟨some 3,.lookup .str (boolD false) (.t 6) (.t 9) false,none,[]⟩] none []) (.cond (.t 3) (.region [⟨some 10,.call 26 [.t 0,.c (.d (.int .i64 14)),.t 8],none,[]⟩] none [10]) .skip)) (.seq (.region [⟨none,.mapSet .str (.t 6) (.t 9) (.c (boolD true)),none,[]⟩] none []) (.seq (.region [⟨some 10,.call 24 [.t 0],none,[]⟩] none [10]) (.seq (.region [⟨some 10,.call 57 [.t 0,.c (.d (.int .u8 58))],none,[]⟩] none [10]) (.seq (.region [⟨some 10,.call 24 [.t 0],none,[]⟩] none [10]) (.seq (.region [⟨some 10,.fieldAddr 3 (.t 5),none,[]⟩,⟨some 10,.loadTake (.t 10),none,[]⟩,⟨some 11,.buildSl 1 (.d (.str [])) 1 [(0,.t 9)],none,[]⟩,⟨some 10,.append 1 16 false (.t 10) (.t 11),none,[10]⟩,⟨some 11,.fieldAddr 3 (.t 5),none,[]⟩,⟨none,.store 1 (.t 11) (.t 10),none,[10]⟩] none [10,11]) (.region [⟨some 10,.fieldAddr 4 (.t 5),none,[]⟩,⟨some 10,.loadTake (.t 10),none,[]⟩,⟨some 11,.move (.t 0),none,[]⟩,⟨some 12,.move (.t 1),none,[]⟩,⟨some 12,.bin .add .none (.t 12) (.c (.d (.int .i64 1))),none,[]⟩,⟨some 11,.call 25 [.t 11,.t 12],none,[]⟩,⟨some 11,.buildSl 5 (.agg [.d (.int .i64 0),.d (.int .i64 0),.d (.str []),.fslice [],.fslice []]) 1 [(0,.t 11)],none,[]⟩,⟨some 10,.append 5 80 false (.t 10) (.t 11),none,[10]⟩,⟨some 11,.fieldAddr 4 (.t 5),none,[]⟩,⟨none,.store 1 (.t 11) (.t 10),none,[10]⟩] (some ⟨[1,5,6,7,9],[],[(6,5),(7,1),(7,5),(7,6),(9,1),(9,5),(9,6),(9,7)],none⟩) [10,11,12])))))))))) (.region [⟨some 7,.move (.c (boolD false)),none,[]⟩] none [])))))) (.seq (.region [⟨some 10,.load true 5 (.t 5),none,[]⟩,⟨none,.store 5 (.t 4) (.t 10),none,[10]⟩] none [10]) .ret)))),[.cell 4 true 5]⟩
def c41:CFn:=
 ⟨1,9,true,.seq (.region [⟨some 4,.move (.c (.d (.str []))),none,[]⟩] none []) (.seq (.region [⟨some 7,.call 57 [.t 0,.c (.d (.int .u8 34))],none,[]⟩] none [7]) (.seq (.region [⟨some 5,.new [.d .nilptr,.fslice []],none,[]⟩] none []) (.block 0 (.loop (.block 1 (.seq (.region [⟨some 7,.call 37 [.t 0],none,[]⟩,⟨some 6,.move (.t 7),none,[7]⟩] none [7]) (.block 2 (.seq (.region [⟨some 7,.nilCheck (.t 0),none,[]⟩,⟨some 7,.fieldAddr 1 (.t 7),none,[]⟩,⟨some 7,.load false 1 (.t 7),none,[]⟩,⟨some 8,.nilCheck (.t 0),none,[]⟩,⟨some 8,.fieldAddr 0 (.t 8),none,[]⟩,⟨some 8,.load false 1 (.t 8),none,[]⟩,⟨some 8,.len .str (.t 8),none,[]⟩,⟨some 7,.bin .eql .none (.t 7) (.t 8),none,[]⟩,⟨some 8,.move (.t 6),some (7,false),[]⟩,⟨some 8,.bin .lss .none (.t 8) (.c (.d (.int .u8 32))),some (7,false),[]⟩,⟨some 7,.pick (.t 7) (.c (boolD true)) (.t 8),none,[]⟩,⟨some 1,.move (.t 7),none,[7]⟩] none [7,8]) (.cond (.t 1) (.region [⟨some 7,.nilCheck (.t 0),none,[]⟩,⟨some 7,.fieldAddr 1 (.t 7),none,[]⟩,⟨some 7,.load false 1 (.t 7),none,[]⟩,⟨some 7,.call 26 [.t 0,.c (.d (.int .i64 11)),.t 7],none,[]⟩] none [7]) (.seq (.region [⟨some 7,.bin .eql .none (.t 6) (.c (.d (.int .u8 34))),none,[]⟩,⟨some 2,.move (.t 7),none,[7]⟩] none [7]) (.cond (.t 2) (.seq (.region [⟨some 7,.nilCheck (.t 0),none,[]⟩,⟨some 7,.fieldAddr 1 (.t 7),none,[]⟩,⟨some 7,.load false 1 (.t 7),none,[]⟩,⟨some 7,.bin .add .none (.t 7) (.c (.d (.int .i64 1))),none,[]⟩,⟨some 8,.nilCheck (.t 0),none,[]⟩,⟨some 8,.fieldAddr 1 (.t 8),none,[]⟩,⟨none,.store 1 (.t 8) (.t 7),none,[7]⟩] none [7,8]) (.seq (.region [⟨some 7,.call 58 [.t 5],none,[]⟩,⟨some 4,.move (.t 7),none,[7]⟩] none [7]) .ret)) (.seq (.region [⟨some 7,.bin .eql .none (.t 6) (.c (.d (.int .u8 92))),none,[]⟩,⟨some 3,.move (.t 7),none,[7]⟩] none [7]) (.cond (.t 3) (.seq (.region [⟨some 7,.nilCheck (.t 0),none,[]⟩,⟨some 7,.fieldAddr 1 (.t 7),none,[]⟩,⟨some 7,.load false 1 (.t 7),none,[]⟩,⟨some 7,.bin .add .none (.t 7) (.c (.d (.int .i64 1))),none,[]⟩,⟨some 8,.nilCheck (.t 0),none,[]⟩,⟨some 8,.fieldAddr 1 (.t 8),none,[]⟩,⟨none,.store 1 (.t 8) (.t 7),none,[7]⟩] none [7,8]) (.region [⟨some 7,.call 60 [.t 0],none,[]⟩,⟨some 7,.call 59 [.t 5,.t 7],none,[]⟩] none [7])) (.seq (.region [⟨some 7,.call 61 [.t 5,.t 6],none,[]⟩] none [7]) (.region [⟨some 7,.nilCheck (.t 0),none,[]⟩,⟨some 7,.fieldAddr 1 (.t 7),none,[]⟩,⟨some 7,.load false 1 (.t 7),none,[]⟩,⟨some 7,.bin .add .none (.t 7) (.c (.d (.int .i64 1))),none,[]⟩,⟨some 8,.nilCheck (.t 0),none,[]⟩,⟨some 8,.fieldAddr 1 (.t 8),none,[]⟩,⟨none,.store 1 (.t 8) (.t 7),none,[7]⟩] none [7,8]))))))))))))))),[.t 4]⟩
def c42:CFn:=
 ⟨3,10,true,.seq (.region [⟨some 5,.box (.t 2),none,[]⟩,⟨some 4,.new [.d (.int .i64 0),.d (.int .i64 0),.d (.str []),.fslice [],.fslice []],none,[]⟩] none []) (.seq (.seq (.region [⟨some 6,.len .str (.t 1),none,[]⟩,⟨some 7,.move (.c (.d (.int .i64 0))),none,[]⟩] none []) (.block 0 (.loop (.seq (.region [⟨some 3,.bin .lss .none (.t 7) (.t 6),none,[]⟩] none []) (.seq (.cond (.t 3) .skip (.exit 0)) (.seq (.block 1 (.seq (.region [⟨some 9,.move (.t 7),none,[7]⟩,⟨some 8,.move (.t 9),none,[9]⟩] none [9]) (.region [⟨some 9,.idxStr (.t 1) (.t 8),none,[]⟩,⟨some 9,.call 57 [.t 0,.t 9],none,[]⟩] none [9]))) (.region [⟨some 9,.bin .add .none (.t 7) (.c (.d (.int .i64 1))),none,[]⟩,⟨some 7,.move (.t 9),none,[]⟩] none [9]))))))) (.seq (.region [⟨some 9,.load true 5 (.t 5),none,[]⟩,⟨none,.store 5 (.t 4) (.t 9),none,[9]⟩] none [9]) .ret)),[.cell 4 true 5]⟩
def c43:CFn:=
 ⟨1,16,true,.seq (.region [⟨some 8,.new [.d (.int .i64 0),.d (.int .i64 0),.d (.str []),.fslice [],.fslice []],none,[]⟩] none []) (.seq (.region [⟨some 13,.nilCheck (.t 0),none,[]⟩,⟨some 13,.fieldAddr 1 (.t 13),none,[]⟩,⟨some 13,.load false 1 (.t 13),none,[]⟩,⟨some 9,.move (.t 13),none,[13]⟩] none [13]) (.seq (.seq (.region [⟨some 13,.call 37 [.t 0],none,[]⟩,⟨some 1,.bin .eql .none (.t 13) (.c (.d (.int .u8 45))),none,[]⟩] none [13]) (.cond (.t 1) (.region [⟨some 13,.nilCheck (.t 0),none,[]⟩,⟨some 13,.fieldAddr 1 (.t 13),none,[]⟩,⟨some 13,.load false 1 (.t 13),none,[]⟩,⟨some 13,.bin .add .none (.t 13) (.c (.d (.int .i64 1))),none,[]⟩,⟨some 14,.nilCheck (.t 0),none,[]⟩,⟨some 14,.fieldAddr 1 (.t 14),none,[]⟩,⟨none,.store 1 (.t 14) (.t 13),none,[13]⟩] none [13,14]) .skip)) (.seq (.region [⟨some 13,.nilCheck (.t 0),none,[]⟩,⟨some 13,.fieldAddr 1 (.t 13),none,[]⟩,⟨some 13,.load false 1 (.t 13),none,[]⟩,⟨some 10,.move (.t 13),none,[13]⟩] none [13]) (.seq (.seq (.region [⟨some 13,.call 37 [.t 0],none,[]⟩,⟨some 13,.call 38 [.t 13],none,[]⟩,⟨some 2,.un .not (.t 13),none,[]⟩] none [13]) (.cond (.t 2) (.region [⟨some 13,.nilCheck (.t 0),none,[]⟩,⟨some 13,.fieldAddr 1 (.t 13),none,[]⟩,⟨some 13,.load false 1 (.t 13),none,[]⟩,⟨some 13,.call 26 [.t 0,.c (.d (.int .i64 11)),.t 13],none,[]⟩] none [13]) .skip)) (.seq (.region [⟨some 11,.move (.c (.d (.int .i64 0))),none,[]⟩] none []) (.seq (.block 0 (.loop (.seq (.seq (.region [⟨some 13,.call 37 [.t 0],none,[]⟩,⟨some 3,.call 38 [.t 13],none,[]⟩] none [13]) (.cond (.t 3) .skip (.exit 0))) (.block 1 (.seq (.seq (.region [⟨some 13,.nilCheck (.t 0),none,[]⟩,⟨some 13,.fieldAddr 1 (.t 13),none,[]⟩,⟨some 13,.load false 1 (.t 13),none,[]⟩,⟨some 14,.bin .add .none (.t 10) (.c (.d (.int .i64 1))),none,[]⟩,⟨some 13,.bin .eql .none (.t 13) (.t 14),none,[]⟩,⟨some 14,.move (.t 0),some (13,true),[]⟩,⟨some 14,.nilCheck (.t 14),some (13,true),[]⟩,⟨some 14,.fieldAddr 0 (.t 14),some (13,true),[]⟩,⟨some 14,.load false 1 (.t 14),some (13,true),[]⟩,⟨some 15,.move (.t 10),some (13,true),[]⟩,⟨some 14,.idxStr (.t 14) (.t 15),some (13,true),[]⟩,⟨some 14,.bin .eql .none (.t 14) (.c (.d (.int .u8 48))),some (13,true),[]⟩,⟨some 4,.pick (.t 13) (.t 14) (.c (boolD false)),none,[]⟩] none [13,14,15]) (.cond (.t 4) (.region [⟨some 13,.nilCheck (.t 0),none,[]⟩,⟨some 13,.fieldAddr 1 (.t 13),none,[]⟩,⟨some 13,.load false 1 (.t 13),none,[]⟩,⟨some 13,.call 26 [.t 0,.c (.d (.int .i64 11)),.t 13],none,[]⟩] none [13]) .skip)) (.seq (.seq (.region [⟨some 5,.bin .leq .none (.t 11) (.c (.d (.int .i64 9007199254740991))),none,[]⟩] none []) (.cond (.t 5) (.region [⟨some 13,.move (.t 11),none,[]⟩,⟨some 13,.bin .mul .none (.c (.d (.int .i64 10))) (.t 13),none,[]⟩,⟨some 14,.call 37 [.t 0],none,[]⟩,⟨some 14,.bin .sub .none (.t 14) (.c (.d (.int .u8 48))),none,[]⟩,⟨some 14,.toInt .i64 (.t 14),none,[]⟩,⟨some 13,.bin .add .none (.t 13) (.t 14),none,[]⟩,⟨some 11,.move (.t 13),none,[13]⟩] none [13,14]) .skip)) (.region [⟨some 13,.nilCheck (.t 0),none,[]⟩,⟨some 13,.fieldAddr 1 (.t 13),none,[]⟩,⟨some 13,.load false 1 (.t 13),none,[]⟩,⟨some 13,.bin .add .none (.t 13) (.c (.d (.int .i64 1))),none,[]⟩,⟨some 14,.nilCheck (.t 0),none,[]⟩,⟨some 14,.fieldAddr 1 (.t 14),none,[]⟩,⟨none,.store 1 (.t 14) (.t 13),none,[13]⟩] none [13,14]))))))) (.seq (.seq (.region [⟨some 13,.call 37 [.t 0],none,[]⟩,⟨some 12,.move (.t 13),none,[13]⟩] none [13]) (.seq (.region [⟨some 13,.bin .gtr .none (.t 11) (.c (.d (.int .i64 9007199254740991))),none,[]⟩,⟨some 14,.move (.t 12),some (13,false),[]⟩,⟨some 14,.bin .eql .none (.t 14) (.c (.d (.int .u8 46))),some (13,false),[]⟩,⟨some 13,.pick (.t 13) (.c (boolD true)) (.t 14),none,[]⟩,⟨some 14,.move (.t 12),some (13,false),[]⟩,⟨some 14,.bin .eql .none (.t 14) (.c (.d (.int .u8 101))),some (13,false),[]⟩,⟨some 13,.pick (.t 13) (.c (boolD true)) (.t 14),none,[]⟩,⟨some 14,.move (.t 12),some (13,false),[]⟩,⟨some 14,.bin .eql .none (.t 14) (.c (.d (.int .u8 69))),some (13,false),[]⟩,⟨some 6,.pick (.t 13) (.c (boolD true)) (.t 14),none,[]⟩] none [13,14]) (.cond (.t 6) (.region [⟨some 13,.call 26 [.t 0,.c (.d (.int .i64 15)),.t 9],none,[]⟩] none [13]) .skip))) (.seq (.seq (.region [⟨some 7,.bin .gtr .none (.t 10) (.t 9),none,[]⟩] none []) (.cond (.t 7) (.region [⟨some 13,.move (.t 11),none,[]⟩,⟨some 13,.un .neg (.t 13),none,[]⟩,⟨some 11,.move (.t 13),none,[13]⟩] none [13]) .skip)) (.seq (.region [⟨some 13,.build [.d (.int .i64 0),.d (.int .i64 0),.d (.str []),.fslice [],.fslice []] [(0,1,.c (.d (.int .i64 2))),(1,1,.t 11)],none,[]⟩,⟨none,.store 5 (.t 8) (.t 13),none,[13]⟩] none [13]) .ret))))))))),[.cell 8 true 5]⟩
def c44:CFn:=
 ⟨1,10,false,.seq (.region [⟨some 3,.box (.t 0),none,[]⟩,⟨some 2,.move (.c (.fslice [])),none,[]⟩] none []) (.seq (.region [⟨some 8,.load false 1 (.t 3),none,[]⟩,⟨some 8,.len .sl (.t 8),none,[]⟩,⟨some 8,.mkSl 1 8 [.d (.int .i64 0)] (.t 8) (.t 8),none,[]⟩,⟨some 4,.move (.t 8),none,[8]⟩] none [8]) (.seq (.seq (.region [⟨some 5,.len .sl (.t 4),none,[]⟩,⟨some 6,.move (.c (.d (.int .i64 0))),none,[]⟩] none []) (.block 0 (.loop (.seq (.region [⟨some 1,.bin .lss .none (.t 6) (.t 5),none,[]⟩] none []) (.seq (.cond (.t 1) .skip (.exit 0)) (.seq (.block 1 (.seq (.region [⟨some 8,.move (.t 6),none,[6]⟩,⟨some 7,.move (.t 8),none,[8]⟩] none [8]) (.region [⟨some 8,.move (.t 7),none,[7]⟩,⟨some 9,.idxSl 1 (.t 4) (.t 7),none,[]⟩,⟨none,.store 1 (.t 9) (.t 8),none,[8]⟩] none [8,9]))) (.region [⟨some 8,.bin .add .none (.t 6) (.c (.d (.int .i64 1))),none,[]⟩,⟨some 6,.move (.t 8),none,[]⟩] none [8]))))))) (.seq (.region [⟨some 8,.mkFunc (.func 63) [.t 3],none,[]⟩,⟨some 8,.call 62 [.t 4,.t 8],none,[]⟩] none [8]) (.seq (.region [⟨some 8,.move (.t 4),none,[4]⟩,⟨some 2,.move (.t 8),none,[8]⟩] none [8]) .ret)))),[.t 2]⟩
def c45:CFn:=
 ⟨2,4,false,.seq (.region [⟨some 2,.move (.c (.fslice [])),none,[]⟩] none []) (.seq (.region [⟨some 3,.move (.t 0),none,[0]⟩,⟨some 3,.call 64 [.t 3,.t 1],none,[3]⟩,⟨some 2,.move (.t 3),none,[3]⟩] none [3]) .ret),[.t 2]⟩
def c46:CFn:=
 ⟨3,5,false,.seq (.region [⟨some 3,.move (.c (.fslice [])),none,[]⟩] none []) (.seq (.region [⟨some 4,.move (.t 0),none,[0]⟩,⟨some 4,.call 65 [.t 4,.t 1,.t 2],none,[4]⟩,⟨some 3,.move (.t 4),none,[4]⟩] none [4]) .ret),[.t 3]⟩
def c47:CFn:=
 ⟨2,18,false,.seq (.region [⟨some 10,.move (.c (.fslice [])),none,[]⟩] none []) (.seq (.region [⟨some 15,.move (.t 0),none,[0]⟩,⟨some 16,.buildSl 1 (.d (.int .u8 0)) 1 [(0,.c (.d (.int .u8 34)))],none,[]⟩,⟨some 15,.append 1 1 false (.t 15) (.t 16),none,[15]⟩,⟨some 0,.move (.t 15),none,[15]⟩] none [15,16]) (.seq (.seq (.region [⟨some 11,.len .str (.t 1),none,[]⟩,⟨some 12,.move (.c (.d (.int .i64 0))),none,[]⟩] none []) (.block 0 (.loop (.seq (.region [⟨some 2,.bin .lss .none (.t 12) (.t 11),none,[]⟩] none []) (.seq (.cond (.t 2) .skip (.exit 0)) (.seq (.block 1 (.seq (.region [⟨some 15,.move (.t 12),none,[12]⟩,⟨some 13,.move (.t 15),none,[15]⟩] none [15]) (.seq (.region [⟨some 15,.idxStr (.t 1) (.t 13),none,[]⟩,⟨some 14,.move (.t 15),none,[15]⟩] none [15]) (.block 2 (.seq (.seq (.region [⟨some 15,.bin .eql .none (.t 14) (.c (.d (.int .u8 34))),none,[]⟩,⟨some 3,.move (.t 15),none,[15]⟩] none [15]) (.cond (.t 3) .skip (.region [⟨some 15,.bin .eql .none (.t 14) (.c (.d (.int .u8 92))),none,[]⟩,⟨some 3,.move (.t 15),none,[15]⟩] none [15]))) (.cond (.t 3) (.region [⟨some 15,.move (.t 0),none,[0]⟩,⟨some 16,.buildSl 1 (.d (.int .u8 0)) 2 [(0,.c (.d (.int .u8 92))),(1,.t 14)],none,[]⟩,⟨some 15,.append 1 1 false (.t 15) (.t 16),none,[15]⟩,⟨some 0,.move (.t 15),none,[15]⟩] none [15,16]) (.seq (.region [⟨some 15,.bin .eql .none (.t 14) (.c (.d (.int .u8 8))),none,[]⟩,⟨some 4,.move (.t 15),none,[15]⟩] none [15]) (.cond (.t 4) (.region [⟨some 15,.move (.t 0),none,[0]⟩,⟨some 16,.buildSl 1 (.d (.int .u8 0)) 2 [(0,.c (.d (.int .u8 92))),(1,.c (.d (.int .u8 98)))],none,[]⟩,⟨some 15,.append 1 1 false (.t 15) (.t 16),none,[15]⟩,⟨some 0,.move (.t 15),none,[15]⟩] none [15,16]) (.seq (.region [⟨some 15,.bin .eql .none (.t 14) (.c (.d (.int .u8 9))),none,[]⟩,⟨some 5,.move (.t 15),none,[15]⟩] none [15]) (.cond (.t 5) (.region [⟨some 15,.move (.t 0),none,[0]⟩,⟨some 16,.buildSl 1 (.d (.int .u8 0)) 2 [(0,.c (.d (.int .u8 92))),(1,.c (.d (.int .u8 116)))],none,[]⟩,⟨some 15,.append 1 1 false (.t 15) (.t 16),none,[15]⟩,⟨some 0,.move (.t 15),none,[15]⟩] none [15,16]) (.seq (.region [⟨some 15,.bin .eql .none (.t 14) (.c (.d (.int .u8 10))),none,[]⟩,⟨some 6,.move (.t 15),none,[15]⟩] none [15]) (.cond (.t 6) (.region [⟨some 15,.move (.t 0),none,[0]⟩,⟨some 16,.buildSl 1 (.d (.int .u8 0)) 2 [(0,.c (.d (.int .u8 92))),(1,.c (.d (.int .u8 110)))],none,[]⟩,⟨some 15,.append 1 1 false (.t 15) (.t 16),none,[15]⟩,⟨some 0,.move (.t 15),none,[15]⟩] none [15,16]) (.seq (.region [⟨some 15,.bin .eql .none (.t 14) (.c (.d (.int .u8 12))),none,[]⟩,⟨some 7,.move (.t 15),none,[15]⟩] none [15]) (.cond (.t 7) (.region [⟨some 15,.move (.t 0),none,[0]⟩,⟨some 16,.buildSl 1 (.d (.int .u8 0)) 2 [(0,.c (.d (.int .u8 92))),(1,.c (.d (.int .u8 102)))],none,[]⟩,⟨some 15,.append 1 1 false (.t 15) (.t 16),none,[15]⟩,⟨some 0,.move (.t 15),none,[15]⟩] none [15,16]) (.seq (.region [⟨some 15,.bin .eql .none (.t 14) (.c (.d (.int .u8 13))),none,[]⟩,⟨some 8,.move (.t 15),none,[15]⟩] none [15]) (.cond (.t 8) (.region [⟨some 15,.move (.t 0),none,[0]⟩,⟨some 16,.buildSl 1 (.d (.int .u8 0)) 2 [(0,.c (.d (.int .u8 92))),(1,.c (.d (.int .u8 114)))],none,[]⟩,⟨some 15,.append 1 1 false (.t 15) (.t 16),none,[15]⟩,⟨some 0,.move (.t 15),none,[15]⟩] none [15,16]) (.seq (.region [⟨some 15,.bin .lss .none (.t 14) (.c (.d (.int .u8 32))),none,[]⟩,⟨some 9,.move (.t 15),none,[15]⟩] none [15]) (.cond (.t 9) (.region [⟨some 15,.move (.t 0),none,[0]⟩,⟨some 16,.bin .shr .none (.t 14) (.c (.d (.int .u64 4))),none,[]⟩,⟨some 16,.idxStr (.c (.d (.str [48,49,50,51,52,53,54,55,56,57,97,98,99,100,101,102]))) (.t 16),none,[]⟩,⟨some 17,.bin .and .none (.t 14) (.c (.d (.int .u8 15))),none,[]⟩,⟨some 17,.idxStr (.c (.d (.str [48,49,50,51,52,53,54,55,56,57,97,98,99,100,101,102]))) (.t 17),none,[]⟩,⟨some 16,.buildSl 1 (.d (.int .u8 0)) 6 [(0,.c (.d (.int .u8 92))),(1,.c (.d (.int .u8 117))),(2,.c (.d (.int .u8 48))),(3,.c (.d (.int .u8 48))),(4,.t 16),(5,.t 17)],none,[]⟩,⟨some 15,.append 1 1 false (.t 15) (.t 16),none,[15]⟩,⟨some 0,.move (.t 15),none,[15]⟩] none [15,16,17]) (.region [⟨some 15,.move (.t 0),none,[0]⟩,⟨some 16,.buildSl 1 (.d (.int .u8 0)) 1 [(0,.t 14)],none,[]⟩,⟨some 15,.append 1 1 false (.t 15) (.t 16),none,[15]⟩,⟨some 0,.move (.t 15),none,[15]⟩] none [15,16]))))))))))))))))))) (.region [⟨some 15,.bin .add .none (.t 12) (.c (.d (.int .i64 1))),none,[]⟩,⟨some 12,.move (.t 15),none,[]⟩] none [15]))))))) (.seq (.region [⟨some 15,.move (.t 0),none,[0]⟩,⟨some 16,.buildSl 1 (.d (.int .u8 0)) 1 [(0,.c (.d (.int .u8 34)))],none,[]⟩,⟨some 15,.append 1 1 false (.t 15) (.t 16),none,[15]⟩,⟨some 10,.move (.t 15),none,[15]⟩] none [15,16]) .ret))),[.t 10]⟩
def c48:CFn:=
 ⟨1,13,false,.seq (.region [⟨some 8,.box (.t 0),none,[]⟩,⟨some 7,.move (.c (boolD false)),none,[]⟩] none []) (.seq (.region [⟨some 11,.fieldAddr 3 (.t 8),none,[]⟩,⟨some 11,.load false 1 (.t 11),none,[]⟩,⟨some 11,.len .sl (.t 11),none,[]⟩,⟨some 12,.fieldAddr 4 (.t 8),none,[]⟩,⟨some 12,.load false 1 (.t 12),none,[]⟩,⟨some 12,.len .sl (.t 12),none,[]⟩,⟨some 11,.bin .add .none (.t 11) (.t 12),none,[]⟩,⟨some 11,.bin .eql .none (.t 11) (.c (.d (.int .i64 0))),none,[]⟩,⟨some 9,.move (.t 11),none,[11]⟩] none [11,12]) (.seq (.seq (.region [⟨some 11,.fieldAddr 0 (.t 8),none,[]⟩,⟨some 10,.load false 1 (.t 11),none,[]⟩] none [11]) (.block 0 (.seq (.region [⟨some 11,.bin .eql .none (.t 10) (.c (.d (.int .i64 0))),none,[]⟩,⟨some 1,.move (.t 11),none,[11]⟩] none [11]) (.cond (.t 1) (.seq (.region [⟨some 11,.fieldAddr 1 (.t 8),some (9,true),[]⟩,⟨some 11,.load false 1 (.t 11),some (9,true),[]⟩,⟨some 11,.bin .eql .none (.t 11) (.c (.d (.int .i64 0))),some (9,true),[]⟩,⟨some 11,.pick (.t 9) (.t 11) (.c (boolD false)),none,[]⟩,⟨some 12,.fieldAddr 2 (.t 8),some (11,true),[]⟩,⟨some 12,.load false 1 (.t 12),some (11,true),[]⟩,⟨some 12,.bin .eql .none (.t 12) (.c (.d (.str []))),some (11,true),[]⟩,⟨some 11,.pick (.t 11) (.t 12) (.c (boolD false)),none,[]⟩,⟨some 7,.move (.t 11),none,[11]⟩] none [11,12]) .ret) (.seq (.region [⟨some 11,.bin .eql .none (.t 10) (.c (.d (.int .i64 1))),none,[]⟩,⟨some 2,.move (.t 11),none,[11]⟩] none [11]) (.cond (.t 2) (.seq (.region [⟨some 11,.fieldAddr 1 (.t 8),some (9,true),[]⟩,⟨some 11,.load false 1 (.t 11),some (9,true),[]⟩,⟨some 11,.bin .eql .none (.t 11) (.c (.d (.int .i64 0))),some (9,true),[]⟩,⟨some 11,.move (.t 11),some (9,true),[]⟩,⟨some 12,.fieldAddr 1 (.t 8),some (11,false),[]⟩,⟨some 12,.load false 1 (.t 12),some (11,false),[]⟩,⟨some 12,.bin .eql .none (.t 12) (.c (.d (.int .i64 1))),some (11,false),[]⟩,⟨some 11,.pick (.t 11) (.c (boolD true)) (.t 12),some (9,true),[]⟩,⟨some 11,.pick (.t 9) (.t 11) (.c (boolD false)),none,[]⟩,⟨some 12,.fieldAddr 2 (.t 8),some (11,true),[]⟩,⟨some 12,.load false 1 (.t 12),some (11,true),[]⟩,⟨some 12,.bin .eql .none (.t 12) (.c (.d (.str []))),some (11,true),[]⟩,⟨some 11,.pick (.t 11) (.t 12) (.c (boolD false)),none,[]⟩,⟨some 7,.move (.t 11),none,[11]⟩] none [11,12]) .ret) (.seq (.region [⟨some 11,.bin .eql .none (.t 10) (.c (.d (.int .i64 2))),none,[]⟩,⟨some 3,.move (.t 11),none,[11]⟩] none [11]) (.cond (.t 3) (.seq (.region [⟨some 11,.fieldAddr 1 (.t 8),some (9,true),[]⟩,⟨some 11,.load false 1 (.t 11),some (9,true),[]⟩,⟨some 11,.bin .geq .none (.t 11) (.c (.d (.int .i64 (-9007199254740991)))),some (9,true),[]⟩,⟨some 11,.pick (.t 9) (.t 11) (.c (boolD false)),none,[]⟩,⟨some 12,.fieldAddr 1 (.t 8),some (11,true),[]⟩,⟨some 12,.load false 1 (.t 12),some (11,true),[]⟩,⟨some 12,.bin .leq .none (.t 12) (.c (.d (.int .i64 9007199254740991))),some (11,true),[]⟩,⟨some 11,.pick (.t 11) (.t 12) (.c (boolD false)),none,[]⟩,⟨some 12,.fieldAddr 2 (.t 8),some (11,true),[]⟩,⟨some 12,.load false 1 (.t 12),some (11,true),[]⟩,⟨some 12,.bin .eql .none (.t 12) (.c (.d (.str []))),some (11,true),[]⟩,⟨some 11,.pick (.t 11) (.t 12) (.c (boolD false)),none,[]⟩,⟨some 7,.move (.t 11),none,[11]⟩] none [11,12]) .ret) (.seq (.region [⟨some 11,.bin .eql .none (.t 10) (.c (.d (.int .i64 3))),none,[]⟩,⟨some 4,.move (.t 11),none,[11]⟩] none [11]) (.cond (.t 4) (.seq (.region [⟨some 11,.fieldAddr 1 (.t 8),some (9,true),[]⟩,⟨some 11,.load false 1 (.t 11),some (9,true),[]⟩,⟨some 11,.bin .eql .none (.t 11) (.c (.d (.int .i64 0))),some (9,true),[]⟩,⟨some 11,.pick (.t 9) (.t 11) (.c (boolD false)),none,[]⟩,⟨some 12,.fieldAddr 2 (.t 8),some (11,true),[]⟩,⟨some 12,.load false 1 (.t 12),some (11,true),[]⟩,⟨some 12,.call 18 [.t 12],some (11,true),[]⟩,⟨some 12,.bin .lss .none (.t 12) (.c (.d (.int .i64 0))),some (11,true),[]⟩,⟨some 11,.pick (.t 11) (.t 12) (.c (boolD false)),none,[]⟩,⟨some 7,.move (.t 11),none,[11]⟩] none [11,12]) .ret) (.seq (.region [⟨some 11,.bin .eql .none (.t 10) (.c (.d (.int .i64 4))),none,[]⟩,⟨some 5,.move (.t 11),none,[11]⟩] none [11]) (.cond (.t 5) (.seq (.region [⟨some 11,.fieldAddr 3 (.t 8),none,[]⟩,⟨some 11,.load false 1 (.t 11),none,[]⟩,⟨some 11,.len .sl (.t 11),none,[]⟩,⟨some 11,.bin .eql .none (.t 11) (.c (.d (.int .i64 0))),none,[]⟩,⟨some 12,.fieldAddr 1 (.t 8),some (11,true),[]⟩,⟨some 12,.load false 1 (.t 12),some (11,true),[]⟩,⟨some 12,.bin .eql .none (.t 12) (.c (.d (.int .i64 0))),some (11,true),[]⟩,⟨some 11,.pick (.t 11) (.t 12) (.c (boolD false)),none,[]⟩,⟨some 12,.fieldAddr 2 (.t 8),some (11,true),[]⟩,⟨some 12,.load false 1 (.t 12),some (11,true),[]⟩,⟨some 12,.bin .eql .none (.t 12) (.c (.d (.str []))),some (11,true),[]⟩,⟨some 11,.pick (.t 11) (.t 12) (.c (boolD false)),none,[]⟩,⟨some 7,.move (.t 11),none,[11]⟩] none [11,12]) .ret) (.seq (.region [⟨some 11,.bin .eql .none (.t 10) (.c (.d (.int .i64 5))),none,[]⟩,⟨some 6,.move (.t 11),none,[11]⟩] none [11]) (.cond (.t 6) (.seq (.region [⟨some 11,.fieldAddr 3 (.t 8),none,[]⟩,⟨some 11,.load false 1 (.t 11),none,[]⟩,⟨some 11,.len .sl (.t 11),none,[]⟩,⟨some 12,.fieldAddr 4 (.t 8),none,[]⟩,⟨some 12,.load false 1 (.t 12),none,[]⟩,⟨some 12,.len .sl (.t 12),none,[]⟩,⟨some 11,.bin .eql .none (.t 11) (.t 12),none,[]⟩,⟨some 12,.fieldAddr 1 (.t 8),some (11,true),[]⟩,⟨some 12,.load false 1 (.t 12),some (11,true),[]⟩,⟨some 12,.bin .eql .none (.t 12) (.c (.d (.int .i64 0))),some (11,true),[]⟩,⟨some 11,.pick (.t 11) (.t 12) (.c (boolD false)),none,[]⟩,⟨some 12,.fieldAddr 2 (.t 8),some (11,true),[]⟩,⟨some 12,.load false 1 (.t 12),some (11,true),[]⟩,⟨some 12,.bin .eql .none (.t 12) (.c (.d (.str []))),some (11,true),[]⟩,⟨some 11,.pick (.t 11) (.t 12) (.c (boolD false)),none,[]⟩,⟨some 12,.fieldAddr 3 (.t 8),some (11,true),[]⟩,⟨some 12,.load false 1 (.t 12),some (11,true),[]⟩,⟨some 12,.call 66 [.t 12],some (11,true),[]⟩,⟨some 11,.pick (.t 11) (.t 12) (.c (boolD false)),none,[]⟩,⟨some 7,.move (.t 11),none,[11]⟩] none [11,12]) .ret) .skip)))))))))))))) (.seq (.region [⟨some 7,.move (.c (boolD false)),none,[]⟩] none []) .ret))),[.t 7]⟩
def c49:CFn:=
 ⟨1,5,false,.seq (.region [⟨some 1,.move (.c (boolD false)),none,[]⟩] none []) (.seq (.region [⟨some 2,.bin .geq .none (.t 0) (.c (.d (.int .i64 0))),none,[]⟩,⟨some 3,.move (.t 0),some (2,true),[]⟩,⟨some 3,.bin .leq .none (.t 3) (.c (.d (.int .i64 1114111))),some (2,true),[]⟩,⟨some 2,.pick (.t 2) (.t 3) (.c (boolD false)),none,[]⟩,⟨some 3,.move (.t 0),some (2,true),[]⟩,⟨some 3,.bin .lss .none (.t 3) (.c (.d (.int .i64 55296))),some (2,true),[]⟩,⟨some 3,.move (.t 3),some (2,true),[]⟩,⟨some 4,.move (.t 0),some (3,false),[]⟩,⟨some 4,.bin .gtr .none (.t 4) (.c (.d (.int .i64 57343))),some (3,false),[]⟩,⟨some 3,.pick (.t 3) (.c (boolD true)) (.t 4),some (2,true),[]⟩,⟨some 2,.pick (.t 2) (.t 3) (.c (boolD false)),none,[]⟩,⟨some 1,.move (.t 2),none,[2]⟩] none [2,3,4]) .ret),[.t 1]⟩
def c50:CFn:=
 ⟨1,7,false,.seq (.region [⟨some 3,.move (.c (.d (.str []))),none,[]⟩] none []) (.seq (.region [⟨some 1,.bin .lss .none (.t 0) (.c (.d (.int .i64 0))),none,[]⟩] none []) (.cond (.t 1) (.seq (.region [⟨some 5,.un .neg (.t 0),none,[]⟩,⟨some 5,.call 50 [.t 5],none,[]⟩,⟨some 5,.bin .add .none (.c (.d (.str [45]))) (.t 5),none,[]⟩,⟨some 3,.move (.t 5),none,[5]⟩] none [5]) .ret) (.seq .skip (.seq (.region [⟨some 4,.move (.c (.d (.str []))),none,[]⟩] none []) (.seq (.block 0 (.loop (.seq (.seq (.region [⟨some 5,.bin .eql .none (.t 4) (.c (.d (.str []))),none,[]⟩,⟨some 6,.move (.t 0),some (5,false),[]⟩,⟨some 6,.bin .gtr .none (.t 6) (.c (.d (.int .i64 0))),some (5,false),[]⟩,⟨some 2,.pick (.t 5) (.c (boolD true)) (.t 6),none,[]⟩] none [5,6]) (.cond (.t 2) .skip (.exit 0))) (.block 1 (.seq (.region [⟨some 5,.bin .rem .none (.t 0) (.c (.d (.int .i64 10))),none,[]⟩,⟨some 5,.bin .add .none (.c (.d (.int .i64 48))) (.t 5),none,[]⟩,⟨some 5,.toInt .u8 (.t 5),none,[]⟩,⟨some 5,.buildSl 1 (.d (.int .u8 0)) 1 [(0,.t 5)],none,[]⟩,⟨some 5,.toStr (.t 5),none,[]⟩,⟨some 6,.move (.t 4),none,[]⟩,⟨some 5,.bin .add .none (.t 5) (.t 6),none,[]⟩,⟨some 4,.move (.t 5),none,[5]⟩] none [5,6]) (.region [⟨some 5,.move (.t 0),none,[]⟩,⟨some 5,.bin .quo .none (.t 5) (.c (.d (.int .i64 10))),none,[]⟩,⟨some 0,.move (.t 5),none,[5]⟩] none [5])))))) (.seq (.region [⟨some 5,.move (.t 4),none,[4]⟩,⟨some 3,.move (.t 5),none,[5]⟩] none [5]) .ret)))))),[.t 3]⟩
def c51:CFn:=
 ⟨1,16,false,.seq (.region [⟨some 9,.move (.c (.d (.str []))),none,[]⟩] none []) (.seq (.region [⟨some 10,.move (.c (.d (.str [34]))),none,[]⟩] none []) (.seq (.seq (.region [⟨some 11,.move (.c (.d (.int .i64 0))),none,[]⟩] none []) (.block 0 (.loop (.seq (.seq (.region [⟨some 13,.len .str (.t 0),none,[]⟩,⟨some 1,.bin .lss .none (.t 11) (.t 13),none,[]⟩] none [13]) (.cond (.t 1) .skip (.exit 0))) (.seq (.block 1 (.seq (.region [⟨some 13,.idxStr (.t 0) (.t 11),none,[]⟩,⟨some 12,.move (.t 13),none,[13]⟩] none [13]) (.block 2 (.seq (.region [⟨some 13,.bin .eql .none (.t 12) (.c (.d (.int .u8 34))),none,[]⟩,⟨some 14,.move (.t 12),some (13,false),[]⟩,⟨some 14,.bin .eql .none (.t 14) (.c (.d (.int .u8 92))),some (13,false),[]⟩,⟨some 13,.pick (.t 13) (.c (boolD true)) (.t 14),none,[]⟩,⟨some 2,.move (.t 13),none,[13]⟩] none [13,14]) (.cond (.t 2) (.region [⟨some 13,.move (.t 10),none,[]⟩,⟨some 13,.bin .add .none (.t 13) (.c (.d (.str [92]))),none,[]⟩,⟨some 14,.bin .add .none (.t 11) (.c (.d (.int .i64 1))),none,[]⟩,⟨some 14,.slStr (.t 0) (some (.t 11)) (some (.t 14)),none,[]⟩,⟨some 13,.bin .add .none (.t 13) (.t 14),none,[]⟩,⟨some 10,.move (.t 13),none,[13]⟩] none [13,14]) (.seq (.region [⟨some 13,.bin .eql .none (.t 12) (.c (.d (.int .u8 8))),none,[]⟩,⟨some 3,.move (.t 13),none,[13]⟩] none [13]) (.cond (.t 3) (.region [⟨some 13,.move (.t 10),none,[]⟩,⟨some 13,.bin .add .none (.t 13) (.c (.d (.str [92,98]))),none,[]⟩,⟨some 10,.move (.t 13),none,[13]⟩] none [13]) (.seq (.region [⟨some 13,.bin .eql .none (.t 12) (.c (.d (.int .u8 9))),none,[]⟩,⟨some 4,.move (.t 13),none,[13]⟩] none [13]) (.cond (.t 4) (.region [⟨some 13,.move (.t 10),none,[]⟩,⟨some 13,.bin .add .none (.t 13) (.c (.d (.str [92,116]))),none,[]⟩,⟨some 10,.move (.t 13),none,[13]⟩] none [13]) (.seq (.region [⟨some 13,.bin .eql .none (.t 12) (.c (.d (.int .u8 10))),none,[]⟩,⟨some 5,.move (.t 13),none,[13]⟩] none [13]) (.cond (.t 5) (.region [⟨some 13,.move (.t 10),none,[]⟩,⟨some 13,.bin .add .none (.t 13) (.c (.d (.str [92,110]))),none,[]⟩,⟨some 10,.move (.t 13),none,[13]⟩] none [13]) (.seq (.region [⟨some 13,.bin .eql .none (.t 12) (.c (.d (.int .u8 12))),none,[]⟩,⟨some 6,.move (.t 13),none,[13]⟩] none [13]) (.cond (.t 6) (.region [⟨some 13,.move (.t 10),none,[]⟩,⟨some 13,.bin .add .none (.t 13) (.c (.d (.str [92,102]))),none,[]⟩,⟨some 10,.move (.t 13),none,[13]⟩] none [13]) (.seq (.region [⟨some 13,.bin .eql .none (.t 12) (.c (.d (.int .u8 13))),none,[]⟩,⟨some 7,.move (.t 13),none,[13]⟩] none [13]) (.cond (.t 7) (.region [⟨some 13,.move (.t 10),none,[]⟩,⟨some 13,.bin .add .none (.t 13) (.c (.d (.str [92,114]))),none,[]⟩,⟨some 10,.move (.t 13),none,[13]⟩] none [13]) (.seq (.region [⟨some 13,.bin .lss .none (.t 12) (.c (.d (.int .u8 32))),none,[]⟩,⟨some 8,.move (.t 13),none,[13]⟩] none [13]) (.cond (.t 8) (.region [⟨some 13,.move (.t 10),none,[]⟩,⟨some 13,.bin .add .none (.t 13) (.c (.d (.str [92,117,48,48]))),none,[]⟩,⟨some 14,.bin .quo .none (.t 12) (.c (.d (.int .u8 16))),none,[]⟩,⟨some 15,.bin .quo .none (.t 12) (.c (.d (.int .u8 16))),none,[]⟩,⟨some 15,.bin .add .none (.t 15) (.c (.d (.int .u8 1))),none,[]⟩,⟨some 14,.slStr (.c (.d (.str [48,49,50,51,52,53,54,55,56,57,97,98,99,100,101,102]))) (some (.t 14)) (some (.t 15)),none,[]⟩,⟨some 13,.bin .add .none (.t 13) (.t 14),none,[]⟩,⟨some 14,.bin .rem .none (.t 12) (.c (.d (.int .u8 16))),none,[]⟩,⟨some 15,.bin .rem .none (.t 12) (.c (.d (.int .u8 16))),none,[]⟩,⟨some 15,.bin .add .none (.t 15) (.c (.d (.int .u8 1))),none,[]⟩,⟨some 14,.slStr (.c (.d (.str [48,49,50,51,52,53,54,55,56,57,97,98,99,100,101,102]))) (some (.t 14)) (some (.t 15)),none,[]⟩,⟨some 13,.bin .add .none (.t 13) (.t 14),none,[]⟩,⟨some 10,.move (.t 13),none,[13]⟩] none [13,14,15]) (.region [⟨some 13,.move (.t 10),none,[]⟩,⟨some 14,.bin .add .none (.t 11) (.c (.d (.int .i64 1))),none,[]⟩,⟨some 14,.slStr (.t 0) (some (.t 11)) (some (.t 14)),none,[]⟩,⟨some 13,.bin .add .none (.t 13) (.t 14),none,[]⟩,⟨some 10,.move (.t 13),none,[13]⟩] none [13,14])))))))))))))))))) (.region [⟨some 13,.move (.t 11),none,[]⟩,⟨some 13,.bin .add .none (.t 13) (.c (.d (.int .i64 1))),none,[]⟩,⟨some 11,.move (.t 13),none,[13]⟩] none [13])))))) (.seq (.region [⟨some 13,.bin .add .none (.t 10) (.c (.d (.str [34]))),none,[]⟩,⟨some 9,.move (.t 13),none,[13]⟩] none [13]) .ret))),[.t 9]⟩
def c52:CFn:=
 ⟨1,14,false,.seq (.region [⟨some 8,.box (.t 0),none,[]⟩,⟨some 7,.move (.c (boolD false)),none,[]⟩] none []) (.seq (.region [⟨some 11,.fieldAddr 3 (.t 8),none,[]⟩,⟨some 11,.load false 1 (.t 11),none,[]⟩,⟨some 11,.len .sl (.t 11),none,[]⟩,⟨some 12,.fieldAddr 4 (.t 8),none,[]⟩,⟨some 12,.load false 1 (.t 12),none,[]⟩,⟨some 12,.len .sl (.t 12),none,[]⟩,⟨some 11,.bin .add .none (.t 11) (.t 12),none,[]⟩,⟨some 11,.bin .eql .none (.t 11) (.c (.d (.int .i64 0))),none,[]⟩,⟨some 9,.move (.t 11),none,[11]⟩] none [11,12]) (.seq (.seq (.region [⟨some 11,.fieldAddr 0 (.t 8),none,[]⟩,⟨some 10,.load false 1 (.t 11),none,[]⟩] none [11]) (.block 0 (.seq (.region [⟨some 11,.bin .eql .none (.t 10) (.c (.d (.int .i64 0))),none,[]⟩,⟨some 1,.move (.t 11),none,[11]⟩] none [11]) (.cond (.t 1) (.seq (.region [⟨some 11,.fieldAddr 1 (.t 8),some (9,true),[]⟩,⟨some 11,.load false 1 (.t 11),some (9,true),[]⟩,⟨some 11,.bin .eql .none (.t 11) (.c (.d (.int .i64 0))),some (9,true),[]⟩,⟨some 11,.pick (.t 9) (.t 11) (.c (boolD false)),none,[]⟩,⟨some 12,.fieldAddr 2 (.t 8),some (11,true),[]⟩,⟨some 12,.load false 1 (.t 12),some (11,true),[]⟩,⟨some 12,.bin .eql .none (.t 12) (.c (.d (.str []))),some (11,true),[]⟩,⟨some 11,.pick (.t 11) (.t 12) (.c (boolD false)),none,[]⟩,⟨some 7,.move (.t 11),none,[11]⟩] none [11,12]) .ret) (.seq (.region [⟨some 11,.bin .eql .none (.t 10) (.c (.d (.int .i64 1))),none,[]⟩,⟨some 2,.move (.t 11),none,[11]⟩] none [11]) (.cond (.t 2) (.seq (.region [⟨some 11,.fieldAddr 2 (.t 8),some (9,true),[]⟩,⟨some 11,.load false 1 (.t 11),some (9,true),[]⟩,⟨some 11,.bin .eql .none (.t 11) (.c (.d (.str []))),some (9,true),[]⟩,⟨some 11,.pick (.t 9) (.t 11) (.c (boolD false)),none,[]⟩,⟨some 12,.fieldAddr 1 (.t 8),some (11,true),[]⟩,⟨some 12,.load false 1 (.t 12),some (11,true),[]⟩,⟨some 12,.bin .eql .none (.t 12) (.c (.d (.int .i64 0))),some (11,true),[]⟩,⟨some 12,.move (.t 12),some (11,true),[]⟩,⟨some 13,.fieldAddr 1 (.t 8),some (12,false),[]⟩,⟨some 13,.load false 1 (.t 13),some (12,false),[]⟩,⟨some 13,.bin .eql .none (.t 13) (.c (.d (.int .i64 1))),some (12,false),[]⟩,⟨some 12,.pick (.t 12) (.c (boolD true)) (.t 13),some (11,true),[]⟩,⟨some 11,.pick (.t 11) (.t 12) (.c (boolD false)),none,[]⟩,⟨some 7,.move (.t 11),none,[11]⟩] none [11,12,13]) .ret) (.seq (.region [⟨some 11,.bin .eql .none (.t 10) (.c (.d (.int .i64 2))),none,[]⟩,⟨some 3,.move (.t 11),none,[11]⟩] none [11]) (.cond (.t 3) (.seq (.region [⟨some 11,.fieldAddr 2 (.t 8),some (9,true),[]⟩,⟨some 11,.load false 1 (.t 11),some (9,true),[]⟩,⟨some 11,.bin .eql .none (.t 11) (.c (.d (.str []))),some (9,true),[]⟩,⟨some 11,.pick (.t 9) (.t 11) (.c (boolD false)),none,[]⟩,⟨some 12,.fieldAddr 1 (.t 8),some (11,true),[]⟩,⟨some 12,.load false 1 (.t 12),some (11,true),[]⟩,⟨some 12,.bin .leq .none (.c (.d (.int .i64 (-9007199254740991)))) (.t 12),some (11,true),[]⟩,⟨some 11,.pick (.t 11) (.t 12) (.c (boolD false)),none,[]⟩,⟨some 12,.fieldAddr 1 (.t 8),some (11,true),[]⟩,⟨some 12,.load false 1 (.t 12),some (11,true),[]⟩,⟨some 12,.bin .leq .none (.t 12) (.c (.d (.int .i64 9007199254740991))),some (11,true),[]⟩,⟨some 11,.pick (.t 11) (.t 12) (.c (boolD false)),none,[]⟩,⟨some 7,.move (.t 11),none,[11]⟩] none [11,12]) .ret) (.seq (.region [⟨some 11,.bin .eql .none (.t 10) (.c (.d (.int .i64 3))),none,[]⟩,⟨some 4,.move (.t 11),none,[11]⟩] none [11]) (.cond (.t 4) (.seq (.region [⟨some 11,.fieldAddr 1 (.t 8),some (9,true),[]⟩,⟨some 11,.load false 1 (.t 11),some (9,true),[]⟩,⟨some 11,.bin .eql .none (.t 11) (.c (.d (.int .i64 0))),some (9,true),[]⟩,⟨some 11,.pick (.t 9) (.t 11) (.c (boolD false)),none,[]⟩,⟨some 12,.fieldAddr 2 (.t 8),some (11,true),[]⟩,⟨some 12,.load false 1 (.t 12),some (11,true),[]⟩,⟨some 12,.call 67 [.t 12],some (11,true),[]⟩,⟨some 11,.pick (.t 11) (.t 12) (.c (boolD false)),none,[]⟩,⟨some 7,.move (.t 11),none,[11]⟩] none [11,12]) .ret) (.seq (.region [⟨some 11,.bin .eql .none (.t 10) (.c (.d (.int .i64 4))),none,[]⟩,⟨some 5,.move (.t 11),none,[11]⟩] none [11]) (.cond (.t 5) (.seq (.region [⟨some 11,.fieldAddr 3 (.t 8),none,[]⟩,⟨some 11,.load false 1 (.t 11),none,[]⟩,⟨some 11,.len .sl (.t 11),none,[]⟩,⟨some 11,.bin .eql .none (.t 11) (.c (.d (.int .i64 0))),none,[]⟩,⟨some 12,.fieldAddr 1 (.t 8),some (11,true),[]⟩,⟨some 12,.load false 1 (.t 12),some (11,true),[]⟩,⟨some 12,.bin .eql .none (.t 12) (.c (.d (.int .i64 0))),some (11,true),[]⟩,⟨some 11,.pick (.t 11) (.t 12) (.c (boolD false)),none,[]⟩,⟨some 12,.fieldAddr 2 (.t 8),some (11,true),[]⟩,⟨some 12,.load false 1 (.t 12),some (11,true),[]⟩,⟨some 12,.bin .eql .none (.t 12) (.c (.d (.str []))),some (11,true),[]⟩,⟨some 11,.pick (.t 11) (.t 12) (.c (boolD false)),none,[]⟩,⟨some 7,.move (.t 11),none,[11]⟩] none [11,12]) .ret) (.seq (.region [⟨some 11,.bin .eql .none (.t 10) (.c (.d (.int .i64 5))),none,[]⟩,⟨some 6,.move (.t 11),none,[11]⟩] none [11]) (.cond (.t 6) (.seq (.region [⟨some 11,.fieldAddr 3 (.t 8),none,[]⟩,⟨some 11,.load false 1 (.t 11),none,[]⟩,⟨some 11,.len .sl (.t 11),none,[]⟩,⟨some 12,.fieldAddr 4 (.t 8),none,[]⟩,⟨some 12,.load false 1 (.t 12),none,[]⟩,⟨some 12,.len .sl (.t 12),none,[]⟩,⟨some 11,.bin .eql .none (.t 11) (.t 12),none,[]⟩,⟨some 12,.fieldAddr 1 (.t 8),some (11,true),[]⟩,⟨some 12,.load false 1 (.t 12),some (11,true),[]⟩,⟨some 12,.bin .eql .none (.t 12) (.c (.d (.int .i64 0))),some (11,true),[]⟩,⟨some 11,.pick (.t 11) (.t 12) (.c (boolD false)),none,[]⟩,⟨some 12,.fieldAddr 2 (.t 8),some (11,true),[]⟩,⟨some 12,.load false 1 (.t 12),some (11,true),[]⟩,⟨some 12,.bin .eql .none (.t 12) (.c (.d (.str []))),some (11,true),[]⟩,⟨some 11,.pick (.t 11) (.t 12) (.c (boolD false)),none,[]⟩,⟨some 12,.fieldAddr 3 (.t 8),some (11,true),[]⟩,⟨some 12,.load false 1 (.t 12),some (11,true),[]⟩,⟨some 12,.call 68 [.t 12],some (11,true),[]⟩,⟨some 11,.pick (.t 11) (.t 12) (.c (boolD false)),none,[]⟩,⟨some 7,.move (.t 11),none,[11]⟩] none [11,12]) .ret) .skip)))))))))))))) (.seq (.region [⟨some 7,.move (.c (boolD false)),none,[]⟩] none []) .ret))),[.t 7]⟩
def c53:CFn:=
 ⟨2,4,false,.seq (.region [⟨some 2,.move (.c (boolD false)),none,[]⟩] none []) (.seq (.region [⟨some 3,.call 69 [.t 0,.t 1],none,[]⟩,⟨some 3,.bin .geq .none (.t 3) (.c (.d (.int .i64 0))),none,[]⟩,⟨some 2,.move (.t 3),none,[3]⟩] none [3]) .ret),[.t 2]⟩
def c54:CFn:=
 ⟨2,6,false,.seq (.region [⟨some 3,.box (.t 0),none,[]⟩,⟨some 2,.move (.c (boolD false)),none,[]⟩] none []) (.seq (.region [⟨some 4,.load true 5 (.t 3),none,[]⟩,⟨some 5,.load false 1 (.t 1),none,[]⟩,⟨some 5,.bin .sub .none (.t 5) (.c (.d (.int .i64 1))),none,[]⟩,⟨some 4,.call 34 [.t 4,.t 5],none,[]⟩,⟨some 4,.un .not (.t 4),none,[]⟩,⟨some 2,.move (.t 4),none,[4]⟩] none [4,5]) .ret),[.t 2]⟩
def c56:CFn:=
 ⟨2,4,false,.seq (.region [⟨some 2,.move (.c (.d (.int .i64 0))),none,[]⟩] none []) (.seq (.region [⟨some 3,.call 70 [.t 0,.t 1],none,[]⟩,⟨some 2,.move (.t 3),none,[3]⟩] none [3]) .ret),[.t 2]⟩
def c57:CFn:=
 ⟨2,6,true,.seq (.seq (.region [⟨some 3,.nilCheck (.t 0),none,[]⟩,⟨some 3,.fieldAddr 1 (.t 3),none,[]⟩,⟨some 3,.load false 1 (.t 3),none,[]⟩,⟨some 4,.nilCheck (.t 0),none,[]⟩,⟨some 4,.fieldAddr 0 (.t 4),none,[]⟩,⟨some 4,.load false 1 (.t 4),none,[]⟩,⟨some 4,.len .str (.t 4),none,[]⟩,⟨some 3,.bin .eql .none (.t 3) (.t 4),none,[]⟩,⟨some 4,.move (.t 0),some (3,false),[]⟩,⟨some 4,.nilCheck (.t 4),some (3,false),[]⟩,⟨some 4,.fieldAddr 0 (.t 4),some (3,false),[]⟩,⟨some 4,.load false 1 (.t 4),some (3,false),[]⟩,⟨some 5,.move (.t 0),some (3,false),[]⟩,⟨some 5,.nilCheck (.t 5),some (3,false),[]⟩,⟨some 5,.fieldAddr 1 (.t 5),some (3,false),[]⟩,⟨some 5,.load false 1 (.t 5),some (3,false),[]⟩,⟨some 4,.idxStr (.t 4) (.t 5),some (3,false),[]⟩,⟨some 5,.move (.t 1),some (3,false),[]⟩,⟨some 4,.bin .neq .none (.t 4) (.t 5),some (3,false),[]⟩,⟨some 2,.pick (.t 3) (.c (boolD true)) (.t 4),none,[]⟩] none [3,4,5]) (.cond (.t 2) (.region [⟨some 3,.nilCheck (.t 0),none,[]⟩,⟨some 3,.fieldAddr 1 (.t 3),none,[]⟩,⟨some 3,.load false 1 (.t 3),none,[]⟩,⟨some 3,.call 26 [.t 0,.c (.d (.int .i64 11)),.t 3],none,[]⟩] none [3]) .skip)) (.region [⟨some 3,.nilCheck (.t 0),none,[]⟩,⟨some 3,.fieldAddr 1 (.t 3),none,[]⟩,⟨some 3,.load false 1 (.t 3),none,[]⟩,⟨some 3,.bin .add .none (.t 3) (.c (.d (.int .i64 1))),none,[]⟩,⟨some 4,.nilCheck (.t 0),none,[]⟩,⟨some 4,.fieldAddr 1 (.t 4),none,[]⟩,⟨none,.store 1 (.t 4) (.t 3),none,[3]⟩] none [3,4]),[]⟩
def c59:CFn:=
 ⟨2,7,true,.seq (.region [⟨some 2,.move (.c (.d (.int .i64 0))),none,[]⟩,⟨some 3,.move (.c .niliface),none,[]⟩] none []) (.seq (.region [⟨some 5,.call 71 [.t 0],none,[]⟩] none [5]) (.seq (.region [⟨some 5,.nilCheck (.t 0),none,[]⟩,⟨some 5,.fieldAddr 1 (.t 5),none,[]⟩,⟨some 5,.load false 1 (.t 5),none,[]⟩,⟨some 5,.len .sl (.t 5),none,[]⟩,⟨some 4,.move (.t 5),none,[5]⟩] none [5]) (.seq (.region [⟨some 5,.nilCheck (.t 0),none,[]⟩,⟨some 5,.fieldAddr 1 (.t 5),none,[]⟩,⟨some 5,.loadTake (.t 5),none,[]⟩,⟨some 5,.call 72 [.t 5,.t 1],none,[5]⟩,⟨some 6,.nilCheck (.t 0),none,[]⟩,⟨some 6,.fieldAddr 1 (.t 6),none,[]⟩,⟨none,.store 1 (.t 6) (.t 5),none,[5]⟩] none [5,6]) (.seq (.region [⟨some 5,.nilCheck (.t 0),none,[]⟩,⟨some 5,.fieldAddr 1 (.t 5),none,[]⟩,⟨some 5,.load false 1 (.t 5),none,[]⟩,⟨some 5,.len .sl (.t 5),none,[]⟩,⟨some 5,.bin .sub .none (.t 5) (.t 4),none,[]⟩,⟨some 2,.move (.t 5),none,[5]⟩,⟨some 3,.move (.c .niliface),none,[]⟩] none [5]) .ret)))),[.t 2,.t 3]⟩
def c60:CFn:=
 ⟨1,21,true,.seq (.region [⟨some 11,.move (.c (.d (.int .i32 0))),none,[]⟩] none []) (.seq (.region [⟨some 18,.nilCheck (.t 0),none,[]⟩,⟨some 18,.fieldAddr 1 (.t 18),none,[]⟩,⟨some 18,.load false 1 (.t 18),none,[]⟩,⟨some 18,.bin .sub .none (.t 18) (.c (.d (.int .i64 1))),none,[]⟩,⟨some 12,.move (.t 18),none,[18]⟩] none [18]) (.seq (.region [⟨some 18,.call 37 [.t 0],none,[]⟩,⟨some 13,.move (.t 18),none,[18]⟩] none [18]) (.seq (.seq (.region [⟨some 18,.call 36 [.c (.d (.str [34,92,47,98,102,110,114,116,117])),.t 13],none,[]⟩,⟨some 14,.move (.t 18),none,[18]⟩] none [18]) (.seq (.region [⟨some 18,.nilCheck (.t 0),none,[]⟩,⟨some 18,.fieldAddr 1 (.t 18),none,[]⟩,⟨some 18,.load false 1 (.t 18),none,[]⟩,⟨some 19,.nilCheck (.t 0),none,[]⟩,⟨some 19,.fieldAddr 0 (.t 19),none,[]⟩,⟨some 19,.load false 1 (.t 19),none,[]⟩,⟨some 19,.len .str (.t 19),none,[]⟩,⟨some 18,.bin .eql .none (.t 18) (.t 19),none,[]⟩,⟨some 19,.move (.t 14),some (18,false),[]⟩,⟨some 19,.bin .lss .none (.t 19) (.c (.d (.int .i64 0))),some (18,false),[]⟩,⟨some 1,.pick (.t 18) (.c (boolD true)) (.t 19),none,[]⟩] none [18,19]) (.cond (.t 1) (.region [⟨some 18,.nilCheck (.t 0),none,[]⟩,⟨some 18,.fieldAddr 1 (.t 18),none,[]⟩,⟨some 18,.load false 1 (.t 18),none,[]⟩,⟨some 18,.call 26 [.t 0,.c (.d (.int .i64 11)),.t 18],none,[]⟩] none [18]) .skip))) (.seq (.region [⟨some 18,.nilCheck (.t 0),none,[]⟩,⟨some 18,.fieldAddr 1 (.t 18),none,[]⟩,⟨some 18,.load false 1 (.t 18),none,[]⟩,⟨some 18,.bin .add .none (.t 18) (.c (.d (.int .i64 1))),none,[]⟩,⟨some 19,.nilCheck (.t 0),none,[]⟩,⟨some 19,.fieldAddr 1 (.t 19),none,[]⟩,⟨none,.store 1 (.t 19) (.t 18),none,[18]⟩] none [18,19]) (.seq (.seq (.region [⟨some 15,.move (.t 13),none,[]⟩] none []) (.block 0 (.seq (.region [⟨some 18,.bin .eql .none (.t 15) (.c (.d (.int .u8 98))),none,[]⟩,⟨some 2,.move (.t 18),none,[18]⟩] none [18]) (.cond (.t 2) (.seq (.region [⟨some 11,.move (.c (.d (.int .i32 8))),none,[]⟩] none []) .ret) (.seq (.region [⟨some 18,.bin .eql .none (.t 15) (.c (.d (.int .u8 102))),none,[]⟩,⟨some 3,.move (.t 18),none,[18]⟩] none [18]) (.cond (.t 3) (.seq (.region [⟨some 11,.move (.c (.d (.int .i32 12))),none,[]⟩] none []) .ret) (.seq (.region [⟨some 18,.bin .eql .none (.t 15) (.c (.d (.int .u8 110))),none,[]⟩,⟨some 4,.move (.t 18),none,[18]⟩] none [18]) (.cond (.t 4) (.seq (.region [⟨some 11,.move (.c (.d (.int .i32 10))),none,[]⟩] none []) .ret) (.seq (.region [⟨some 18,.bin .eql .none (.t 15) (.c (.d (.int .u8 114))),none,[]⟩,⟨some 5,.move (.t 18),none,[18]⟩] none [18]) (.cond (.t 5) (.seq (.region [⟨some 11,.move (.c (.d (.int .i32 13))),none,[]⟩] none []) .ret) (.seq (.region [⟨some 18,.bin .eql .none (.t 15) (.c (.d (.int .u8 116))),none,[]⟩,⟨some 6,.move (.t 18),none,[18]⟩] none [18]) (.cond (.t 6) (.seq (.region [⟨some 11,.move (.c (.d (.int .i32 9))),none,[]⟩] none []) .ret) (.seq (.region [⟨some 18,.bin .eql .none (.t 15) (.c (.d (.int .u8 117))),none,[]⟩,⟨some 7,.move (.t 18),none,[18]⟩] none [18]) (.cond (.t 7) (.seq (.region [⟨some 18,.call 73 [.t 0],none,[]⟩,⟨some 16,.move (.t 18),none,[18]⟩] none [18]) (.seq (.region [⟨some 18,.bin .lss .none (.t 16) (.c (.d (.int .i32 55296))),none,[]⟩,⟨some 19,.move (.t 16),some (18,false),[]⟩,⟨some 19,.bin .gtr .none (.t 19) (.c (.d (.int .i32 57343))),some (18,false),[]⟩,⟨some 8,.pick (.t 18) (.c (boolD true)) (.t 19),none,[]⟩] none [18,19]) (.cond (.t 8) (.seq (.region [⟨some 18,.move (.t 16),none,[16]⟩,⟨some 11,.move (.t 18),none,[18]⟩] none [18]) .ret) (.seq .skip (.seq (.seq (.region [⟨some 18,.bin .geq .none (.t 16) (.c (.d (.int .i32 56320))),none,[]⟩,⟨some 19,.move (.t 0),some (18,false),[]⟩,⟨some 19,.nilCheck (.t 19),some (18,false),[]⟩,⟨some 19,.fieldAddr 0 (.t 19),some (18,false),[]⟩,⟨some 19,.load false 1 (.t 19),some (18,false),[]⟩,⟨some 20,.move (.t 0),some (18,false),[]⟩,⟨some 20,.nilCheck (.t 20),some (18,false),[]⟩,⟨some 20,.fieldAddr 1 (.t 20),some (18,false),[]⟩,⟨some 20,.load false 1 (.t 20),some (18,false),[]⟩,⟨some 19,.slStr (.t 19) (some (.t 20)) none,some (18,false),[]⟩,⟨some 19,.call 74 [.t 19,.c (.d (.str [92,117]))],some (18,false),[]⟩,⟨some 19,.un .not (.t 19),some (18,false),[]⟩,⟨some 9,.pick (.t 18) (.c (boolD true)) (.t 19),none,[]⟩] none [18,19,20]) (.cond (.t 9) (.region [⟨some 18,.call 26 [.t 0,.c (.d (.int .i64 11)),.t 12],none,[]⟩] none [18]) .skip)) (.seq (.region [⟨some 18,.nilCheck (.t 0),none,[]⟩,⟨some 18,.fieldAddr 1 (.t 18),none,[]⟩,⟨some 18,.load false 1 (.t 18),none,[]⟩,⟨some 18,.bin .add .none (.t 18) (.c (.d (.int .i64 2))),none,[]⟩,⟨some 19,.nilCheck (.t 0),none,[]⟩,⟨some 19,.fieldAddr 1 (.t 19),none,[]⟩,⟨none,.store 1 (.t 19) (.t 18),none,[18]⟩] none [18,19]) (.seq (.region [⟨some 18,.call 73 [.t 0],none,[]⟩,⟨some 17,.move (.t 18),none,[18]⟩] none [18]) (.seq (.seq (.region [⟨some 18,.bin .lss .none (.t 17) (.c (.d (.int .i32 56320))),none,[]⟩,⟨some 19,.move (.t 17),some (18,false),[]⟩,⟨some 19,.bin .gtr .none (.t 19) (.c (.d (.int .i32 57343))),some (18,false),[]⟩,⟨some 10,.pick (.t 18) (.c (boolD true)) (.t 19),none,[]⟩] none [18,19]) (.cond (.t 10) (.region [⟨some 18,.call 26 [.t 0,.c (.d (.int .i64 11)),.t 12],none,[]⟩] none [18]) .skip)) (.seq (.region [⟨some 18,.bin .sub .none (.t 16) (.c (.d (.int .i32 55296))),none,[]⟩,⟨some 18,.bin .shl .none (.t 18) (.c (.d (.int .u64 10))),none,[]⟩,⟨some 18,.bin .add .none (.c (.d (.int .i32 65536))) (.t 18),none,[]⟩,⟨some 18,.bin .add .none (.t 18) (.t 17),none,[]⟩,⟨some 18,.bin .sub .none (.t 18) (.c (.d (.int .i32 56320))),none,[]⟩,⟨some 11,.move (.t 18),none,[18]⟩] none [18]) .ret))))))))) .skip)))))))))))))) (.seq (.region [⟨some 18,.toInt .i32 (.t 13),none,[]⟩,⟨some 11,.move (.t 18),none,[18]⟩] none [18]) .ret)))))),[.t 11]⟩
def c61:CFn:=
 ⟨2,5,true,.seq (.region [⟨some 2,.move (.c .niliface),none,[]⟩] none []) (.seq (.region [⟨some 3,.call 71 [.t 0],none,[]⟩] none [3]) (.seq (.region [⟨some 3,.nilCheck (.t 0),none,[]⟩,⟨some 3,.fieldAddr 1 (.t 3),none,[]⟩,⟨some 3,.loadTake (.t 3),none,[]⟩,⟨some 4,.buildSl 1 (.d (.int .u8 0)) 1 [(0,.t 1)],none,[]⟩,⟨some 3,.append 1 1 false (.t 3) (.t 4),none,[3]⟩,⟨some 4,.nilCheck (.t 0),none,[]⟩,⟨some 4,.fieldAddr 1 (.t 4),none,[]⟩,⟨none,.store 1 (.t 4) (.t 3),none,[3]⟩] none [3,4]) (.seq (.region [⟨some 2,.move (.c .niliface),none,[]⟩] none []) .ret))),[.t 2]⟩
def c63:CFn:=
 ⟨3,8,false,.seq (.region [⟨some 5,.move (.c (.d (.int .i64 0))),none,[]⟩] none []) (.seq (.block 0 (.seq (.region [⟨some 6,.load false 1 (.t 2),none,[]⟩,⟨some 6,.idxSl 1 (.t 6) (.t 0),none,[]⟩,⟨some 6,.load false 1 (.t 6),none,[]⟩,⟨some 7,.load false 1 (.t 2),none,[]⟩,⟨some 7,.idxSl 1 (.t 7) (.t 1),none,[]⟩,⟨some 7,.load false 1 (.t 7),none,[]⟩,⟨some 6,.bin .lss .none (.t 6) (.t 7),none,[]⟩,⟨some 3,.move (.t 6),none,[6]⟩] none [6,7]) (.cond (.t 3) (.seq (.region [⟨some 5,.move (.c (.d (.int .i64 (-1)))),none,[]⟩] none []) .ret) (.seq (.region [⟨some 6,.load false 1 (.t 2),none,[]⟩,⟨some 6,.idxSl 1 (.t 6) (.t 0),none,[]⟩,⟨some 6,.load false 1 (.t 6),none,[]⟩,⟨some 7,.load false 1 (.t 2),none,[]⟩,⟨some 7,.idxSl 1 (.t 7) (.t 1),none,[]⟩,⟨some 7,.load false 1 (.t 7),none,[]⟩,⟨some 6,.bin .gtr .none (.t 6) (.t 7),none,[]⟩,⟨some 4,.move (.t 6),none,[6]⟩] none [6,7]) (.cond (.t 4) (.seq (.region [⟨some 5,.move (.c (.d (.int .i64 1))),none,[]⟩] none []) .ret) .skip))))) (.seq (.region [⟨some 5,.move (.c (.d (.int .i64 0))),none,[]⟩] none []) .ret)),[.t 5]⟩
def c64:CFn:=
 ⟨2,5,false,.seq (.region [⟨some 3,.move (.c (.fslice [])),none,[]⟩] none []) (.seq (.region [⟨some 2,.move (.t 1),none,[]⟩] none []) (.cond (.t 2) (.seq (.region [⟨some 4,.move (.t 0),none,[0]⟩,⟨some 4,.append 1 1 true (.t 4) (.c (.d (.str [116,114,117,101]))),none,[4]⟩,⟨some 3,.move (.t 4),none,[4]⟩] none [4]) .ret) (.seq .skip (.seq (.region [⟨some 4,.move (.t 0),none,[0]⟩,⟨some 4,.append 1 1 true (.t 4) (.c (.d (.str [102,97,108,115,101]))),none,[4]⟩,⟨some 3,.move (.t 4),none,[4]⟩] none [4]) .ret)))),[.t 3]⟩
def c65:CFn:=
 ⟨3,8,false,.seq (.region [⟨some 4,.move (.c (.fslice [])),none,[]⟩] none []) (.seq (.region [⟨some 6,.toInt .u64 (.t 1),none,[]⟩,⟨some 5,.move (.t 6),none,[6]⟩] none [6]) (.seq (.seq (.region [⟨some 3,.bin .lss .none (.t 1) (.c (.d (.int .i64 0))),none,[]⟩] none []) (.cond (.t 3) (.seq (.region [⟨some 6,.move (.t 0),none,[0]⟩,⟨some 7,.buildSl 1 (.d (.int .u8 0)) 1 [(0,.c (.d (.int .u8 45)))],none,[]⟩,⟨some 6,.append 1 1 false (.t 6) (.t 7),none,[6]⟩,⟨some 0,.move (.t 6),none,[6]⟩] none [6,7]) (.region [⟨some 6,.move (.t 5),none,[]⟩,⟨some 6,.un .neg (.t 6),none,[]⟩,⟨some 5,.move (.t 6),none,[6]⟩] none [6])) .skip)) (.seq (.region [⟨some 6,.move (.t 0),none,[0]⟩,⟨some 6,.call 77 [.t 6,.t 5,.t 2],none,[6]⟩,⟨some 4,.move (.t 6),none,[6]⟩] none [6]) .ret))),[.t 4]⟩
def c66:CFn:=
 ⟨1,10,false,.seq (.region [⟨some 5,.move (.c (boolD false)),none,[]⟩] none []) (.seq (.seq (.region [⟨some 6,.move (.c (.d (.int .i64 0))),none,[]⟩] none []) (.block 0 (.loop (.seq (.seq (.region [⟨some 8,.len .sl (.t 0),none,[]⟩,⟨some 1,.bin .lss .none (.t 6) (.t 8),none,[]⟩] none [8]) (.cond (.t 1) .skip (.exit 0))) (.seq (.block 1 (.seq (.region [⟨some 8,.idxSl 1 (.t 0) (.t 6),none,[]⟩,⟨some 8,.load false 1 (.t 8),none,[]⟩,⟨some 8,.call 18 [.t 8],none,[]⟩,⟨some 2,.bin .geq .none (.t 8) (.c (.d (.int .i64 0))),none,[]⟩] none [8]) (.cond (.t 2) (.seq (.region [⟨some 5,.move (.c (boolD false)),none,[]⟩] none []) .ret) (.seq .skip (.seq (.region [⟨some 7,.move (.c (.d (.int .i64 0))),none,[]⟩] none []) (.block 2 (.loop (.seq (.seq (.region [⟨some 3,.bin .lss .none (.t 7) (.t 6),none,[]⟩] none []) (.cond (.t 3) .skip (.exit 2))) (.seq (.block 3 (.seq (.region [⟨some 8,.idxSl 1 (.t 0) (.t 6),none,[]⟩,⟨some 8,.load false 1 (.t 8),none,[]⟩,⟨some 9,.idxSl 1 (.t 0) (.t 7),none,[]⟩,⟨some 9,.load false 1 (.t 9),none,[]⟩,⟨some 4,.bin .eql .none (.t 8) (.t 9),none,[]⟩] none [8,9]) (.cond (.t 4) (.seq (.region [⟨some 5,.move (.c (boolD false)),none,[]⟩] none []) .ret) .skip))) (.region [⟨some 8,.move (.t 7),none,[]⟩,⟨some 8,.bin .add .none (.t 8) (.c (.d (.int .i64 1))),none,[]⟩,⟨some 7,.move (.t 8),none,[8]⟩] none [8])))))))))) (.region [⟨some 8,.move (.t 6),none,[]⟩,⟨some 8,.bin .add .none (.t 8) (.c (.d (.int .i64 1))),none,[]⟩,⟨some 6,.move (.t 8),none,[8]⟩] none [8])))))) (.seq (.region [⟨some 5,.move (.c (boolD true)),none,[]⟩] none []) .ret)),[.t 5]⟩
def c68:CFn:=
 ⟨1,11,false,.seq (.region [⟨some 3,.move (.c (boolD false)),none,[]⟩] none []) (.seq (.region [⟨some 9,.mkMap .str,none,[]⟩,⟨some 4,.move (.t 9),none,[9]⟩] none [9]) (.seq (.seq (.region [⟨some 5,.move (.t 0),none,[]⟩,⟨some 6,.len .sl (.t 5),none,[]⟩,⟨some 7,.move (.c (.d (.int .i64 0))),none,[]⟩] none []) (.block 0 (.loop (.seq (.region [⟨some 1,.bin .lss .none (.t 7) (.t 6),none,[]⟩] none []) (.seq (.cond (.t 1) .skip (.exit 0)) (.seq (.block 1 (.seq (.region [⟨some 9,.idxSl 1 (.t 5) (.t 7),none,[]⟩,⟨some 9,.load false 1 (.t 9),none,[]⟩,⟨some 8,.move (.t 9),none,[9]⟩] none [9]) (.seq (.region [⟨some 9,.lookup .str (boolD false) (.t 4) (.t 8) false,none,[]⟩,⟨some 10,.move (.t 8),some (9,false),[]⟩,⟨some 10,.call 67 [.t 10],some (9,false),[]⟩,⟨some 10,.un .not (.t 10),some (9,false),[]⟩,⟨some 2,.pick (.t 9) (.c (boolD true)) (.t 10),none,[]⟩] none [9,10]) (.cond (.t 2) (.seq (.region [⟨some 3,.move (.c (boolD false)),none,[]⟩] none []) .ret) (.seq .skip (.region [⟨none,.mapSet .str (.t 4) (.t 8) (.c (boolD true)),none,[]⟩] none [])))))) (.region [⟨some 9,.bin .add .none (.t 7) (.c (.d (.int .i64 1))),none,[]⟩,⟨some 7,.move (.t 9),none,[]⟩] none [9]))))))) (.seq (.region [⟨some 3,.move (.c (boolD true)),none,[]⟩] none []) .ret))),[.t 3]⟩
def c69:CFn:=
 ⟨2,9,false,.seq (.region [⟨some 4,.move (.c (.d (.int .i64 0))),none,[]⟩] none []) (.seq (.seq (.region [⟨some 5,.len .sl (.t 0),none,[]⟩,⟨some 6,.move (.c (.d (.int .i64 0))),none,[]⟩] none []) (.block 0 (.loop (.seq (.region [⟨some 2,.bin .lss .none (.t 6) (.t 5),none,[]⟩] none []) (.seq (.cond (.t 2) .skip (.exit 0)) (.seq (.block 1 (.seq (.region [⟨some 8,.move (.t 6),none,[6]⟩,⟨some 7,.move (.t 8),none,[8]⟩] none [8]) (.seq (.region [⟨some 8,.idxSl 5 (.t 0) (.t 7),none,[]⟩,⟨some 8,.load true 5 (.t 8),none,[]⟩,⟨some 3,.callV (.t 1) [.t 8],none,[]⟩] none [8]) (.cond (.t 3) (.seq (.region [⟨some 8,.move (.t 7),none,[7]⟩,⟨some 4,.move (.t 8),none,[8]⟩] none [8]) .ret) .skip)))) (.region [⟨some 8,.bin .add .none (.t 6) (.c (.d (.int .i64 1))),none,[]⟩,⟨some 6,.move (.t 8),none,[]⟩] none [8]))))))) (.seq (.region [⟨some 4,.move (.c (.d (.int .i64 (-1)))),none,[]⟩] none []) .ret)),[.t 4]⟩
def c72:CFn:=
 ⟨2,6,false,.seq (.region [⟨some 3,.move (.c (.fslice [])),none,[]⟩] none []) (.seq (.region [⟨some 4,.toInt .u32 (.t 1),none,[]⟩,⟨some 2,.bin .leq .none (.t 4) (.c (.d (.int .u32 127))),none,[]⟩] none [4]) (.cond (.t 2) (.seq (.region [⟨some 4,.move (.t 0),none,[0]⟩,⟨some 5,.toInt .u8 (.t 1),none,[]⟩,⟨some 5,.buildSl 1 (.d (.int .u8 0)) 1 [(0,.t 5)],none,[]⟩,⟨some 4,.append 1 1 false (.t 4) (.t 5),none,[4]⟩,⟨some 3,.move (.t 4),none,[4]⟩] none [4,5]) .ret) (.seq .skip (.seq (.region [⟨some 4,.move (.t 0),none,[0]⟩,⟨some 4,.call 80 [.t 4,.t 1],none,[4]⟩,⟨some 3,.move (.t 4),none,[4]⟩] none [4]) .ret)))),[.t 3]⟩
def c73:CFn:=
 ⟨1,10,true,.seq (.region [⟨some 4,.move (.c (.d (.int .i32 0))),none,[]⟩] none []) (.seq (.region [⟨some 5,.move (.c (.d (.int .i32 0))),none,[]⟩] none []) (.seq (.seq (.region [⟨some 6,.move (.c (.d (.int .i64 0))),none,[]⟩] none []) (.block 0 (.loop (.seq (.region [⟨some 1,.bin .lss .none (.t 6) (.c (.d (.int .i64 4))),none,[]⟩] none []) (.seq (.cond (.t 1) .skip (.exit 0)) (.seq (.block 1 (.seq (.region [⟨some 8,.call 37 [.t 0],none,[]⟩,⟨some 8,.call 36 [.c (.d (.str [48,49,50,51,52,53,54,55,56,57,97,98,99,100,101,102,65,66,67,68,69,70])),.t 8],none,[]⟩,⟨some 7,.move (.t 8),none,[8]⟩] none [8]) (.seq (.seq (.region [⟨some 8,.nilCheck (.t 0),none,[]⟩,⟨some 8,.fieldAddr 1 (.t 8),none,[]⟩,⟨some 8,.load false 1 (.t 8),none,[]⟩,⟨some 9,.nilCheck (.t 0),none,[]⟩,⟨some 9,.fieldAddr 0 (.t 9),none,[]⟩,⟨some 9,.load false 1 (.t 9),none,[]⟩,⟨some 9,.len .str (.t 9),none,[]⟩,⟨some 8,.bin .eql .none (.t 8) (.t 9),none,[]⟩,⟨some 9,.move (.t 7),some (8,false),[]⟩,⟨some 9,.bin .lss .none (.t 9) (.c (.d (.int .i64 0))),some (8,false),[]⟩,⟨some 2,.pick (.t 8) (.c (boolD true)) (.t 9),none,[]⟩] none [8,9]) (.cond (.t 2) (.region [⟨some 8,.nilCheck (.t 0),none,[]⟩,⟨some 8,.fieldAddr 1 (.t 8),none,[]⟩,⟨some 8,.load false 1 (.t 8),none,[]⟩,⟨some 8,.call 26 [.t 0,.c (.d (.int .i64 11)),.t 8],none,[]⟩] none [8]) .skip)) (.seq (.seq (.region [⟨some 3,.bin .gtr .none (.t 7) (.c (.d (.int .i64 15))),none,[]⟩] none []) (.cond (.t 3) (.region [⟨some 8,.move (.t 7),none,[]⟩,⟨some 8,.bin .sub .none (.t 8) (.c (.d (.int .i64 6))),none,[]⟩,⟨some 7,.move (.t 8),none,[8]⟩] none [8]) .skip)) (.seq (.region [⟨some 8,.move (.t 5),none,[]⟩,⟨some 8,.bin .shl .none (.t 8) (.c (.d (.int .u64 4))),none,[]⟩,⟨some 9,.toInt .i32 (.t 7),none,[]⟩,⟨some 8,.bin .or .none (.t 8) (.t 9),none,[]⟩,⟨some 5,.move (.t 8),none,[8]⟩] none [8,9]) (.region [⟨some 8,.nilCheck (.t 0),none,[]⟩,⟨some 8,.fieldAddr 1 (.t 8),none,[]⟩,⟨some 8,.load false 1 (.t 8),none,[]⟩,⟨some 8,.bin .add .none (.t 8) (.c (.d (.int .i64 1))),none,[]⟩,⟨some 9,.nilCheck (.t 0),none,[]⟩,⟨some 9,.fieldAddr 1 (.t 9),none,[]⟩,⟨none,.store 1 (.t 9) (.t 8),none,[8]⟩] none [8,9])))))) (.region [⟨some 8,.bin .add .none (.t 6) (.c (.d (.int .i64 1))),none,[]⟩,⟨some 6,.move (.t 8),none,[]⟩] none [8]))))))) (.seq (.region [⟨some 8,.move (.t 5),none,[5]⟩,⟨some 4,.move (.t 8),none,[8]⟩] none [8]) .ret))),[.t 4]⟩
def c74:CFn:=
 ⟨2,4,false,.seq (.region [⟨some 2,.move (.c (boolD false)),none,[]⟩] none []) (.seq (.region [⟨some 3,.call 81 [.t 0,.t 1],none,[]⟩,⟨some 2,.move (.t 3),none,[3]⟩] none [3]) .ret),[.t 2]⟩
def c77:CFn:=
 ⟨3,10,false,.seq (.region [⟨some 5,.move (.c (.fslice [])),none,[]⟩] none []) (.seq (.region [⟨some 3,.bin .eql .none (.t 2) (.c (.d (.int .i64 10))),none,[]⟩] none []) (.cond (.t 3) (.seq (.region [⟨some 4,.bin .lss .none (.t 1) (.c (.d (.int .u64 100))),none,[]⟩] none []) (.cond (.t 4) (.seq (.region [⟨some 8,.move (.t 0),none,[0]⟩,⟨some 9,.toInt .i64 (.t 1),none,[]⟩,⟨some 9,.call 92 [.t 9],none,[]⟩,⟨some 8,.append 1 1 true (.t 8) (.t 9),none,[8]⟩,⟨some 5,.move (.t 8),none,[8]⟩] none [8,9]) .ret) (.seq .skip (.seq (.region [⟨some 6,.new [.d (.int .u8 0),.d (.int .u8 0),.d (.int .u8 0),.d (.int .u8 0),.d (.int .u8 0),.d (.int .u8 0),.d (.int .u8 0),.d (.int .u8 0),.d (.int .u8 0),.d (.int .u8 0),.d (.int .u8 0),.d (.int .u8 0),.d (.int .u8 0),.d (.int .u8 0),.d (.int .u8 0),.d (.int .u8 0),.d (.int .u8 0),.d (.int .u8 0),.d (.int .u8 0),.d (.int .u8 0),.d (.int .u8 0),.d (.int .u8 0),.d (.int .u8 0),.d (.int .u8 0)],none,[]⟩] none []) (.seq (.region [⟨some 8,.call 93 [.t 1],none,[]⟩,⟨some 7,.move (.t 8),none,[8]⟩] none [8]) (.seq (.region [⟨some 8,.slArr 24 1 (.t 6) none (some (.t 7)),none,[]⟩,⟨some 8,.call 94 [.t 8,.t 1],none,[]⟩] none [8]) (.seq (.region [⟨some 8,.move (.t 0),none,[0]⟩,⟨some 9,.slArr 24 1 (.t 6) none (some (.t 7)),none,[]⟩,⟨some 8,.append 1 1 false (.t 8) (.t 9),none,[8]⟩,⟨some 5,.move (.t 8),none,[8]⟩] none [8,9]) .ret))))))) (.seq .skip (.seq (.region [⟨some 8,.move (.t 0),none,[]⟩,⟨some 8,.call 95 [.t 8,.t 1,.t 2,.c (boolD false),.c (boolD true)],none,[]⟩,⟨some 9,.extract (.t 8) 0,none,[]⟩,⟨some 8,.extract (.t 8) 1,none,[]⟩,⟨some 0,.move (.t 9),none,[9]⟩] none [8,9]) (.seq (.region [⟨some 8,.move (.t 0),none,[0]⟩,⟨some 5,.move (.t 8),none,[8]⟩] none [8]) .ret))))),[.t 5]⟩
def c80:CFn:=
 ⟨2,12,false,.seq (.region [⟨some 5,.move (.c (.fslice [])),none,[]⟩] none []) (.seq (.region [⟨some 7,.toInt .u32 (.t 1),none,[]⟩,⟨some 6,.move (.t 7),none,[7]⟩] none [7]) (.block 0 (.seq (.region [⟨some 7,.bin .leq .none (.t 6) (.c (.d (.int .u32 2047))),none,[]⟩,⟨some 2,.move (.t 7),none,[7]⟩] none [7]) (.cond (.t 2) (.seq (.region [⟨some 7,.move (.t 0),none,[0]⟩,⟨some 8,.bin .shr .none (.t 1) (.c (.d (.int .u64 6))),none,[]⟩,⟨some 8,.toInt .u8 (.t 8),none,[]⟩,⟨some 8,.bin .or .none (.c (.d (.int .u8 192))) (.t 8),none,[]⟩,⟨some 9,.toInt .u8 (.t 1),none,[]⟩,⟨some 9,.bin .and .none (.t 9) (.c (.d (.int .u8 63))),none,[]⟩,⟨some 9,.bin .or .none (.c (.d (.int .u8 128))) (.t 9),none,[]⟩,⟨some 8,.buildSl 1 (.d (.int .u8 0)) 2 [(0,.t 8),(1,.t 9)],none,[]⟩,⟨some 7,.append 1 1 false (.t 7) (.t 8),none,[7]⟩,⟨some 5,.move (.t 7),none,[7]⟩] none [7,8,9]) .ret) (.seq (.seq (.region [⟨some 7,.bin .lss .none (.t 6) (.c (.d (.int .u32 55296))),none,[]⟩,⟨some 3,.move (.t 7),none,[7]⟩] none [7]) (.cond (.t 3) .skip (.region [⟨some 7,.bin .lss .none (.c (.d (.int .u32 57343))) (.t 6),none,[]⟩,⟨some 8,.move (.t 6),some (7,true),[]⟩,⟨some 8,.bin .leq .none (.t 8) (.c (.d (.int .u32 65535))),some (7,true),[]⟩,⟨some 7,.pick (.t 7) (.t 8) (.c (boolD false)),none,[]⟩,⟨some 3,.move (.t 7),none,[7]⟩] none [7,8]))) (.cond (.t 3) (.seq (.region [⟨some 7,.move (.t 0),none,[0]⟩,⟨some 8,.bin .shr .none (.t 1) (.c (.d (.int .u64 12))),none,[]⟩,⟨some 8,.toInt .u8 (.t 8),none,[]⟩,⟨some 8,.bin .or .none (.c (.d (.int .u8 224))) (.t 8),none,[]⟩,⟨some 9,.bin .shr .none (.t 1) (.c (.d (.int .u64 6))),none,[]⟩,⟨some 9,.toInt .u8 (.t 9),none,[]⟩,⟨some 9,.bin .and .none (.t 9) (.c (.d (.int .u8 63))),none,[]⟩,⟨some 9,.bin .or .none (.c (.d (.int .u8 128))) (.t 9),none,[]⟩,⟨some 10,.toInt .u8 (.t 1),none,[]⟩,⟨some 10,.bin .and .none (.t 10) (.c (.d (.int .u8 63))),none,[]⟩,⟨some 10,.bin .or .none (.c (.d (.int .u8 128))) (.t 10),none,[]⟩,⟨some 8,.buildSl 1 (.d (.int .u8 0)) 3 [(0,.t 8),(1,.t 9),(2,.t 10)],none,[]⟩,⟨some 7,.append 1 1 false (.t 7) (.t 8),none,[7]⟩,⟨some 5,.move (.t 7),none,[7]⟩] none [7,8,9,10]) .ret) (.seq (.region [⟨some 7,.bin .gtr .none (.t 6) (.c (.d (.int .u32 65535))),none,[]⟩,⟨some 8,.move (.t 6),some (7,true),[]⟩,⟨some 8,.bin .leq .none (.t 8) (.c (.d (.int .u32 1114111))),some (7,true),[]⟩,⟨some 7,.pick (.t 7) (.t 8) (.c (boolD false)),none,[]⟩,⟨some 4,.move (.t 7),none,[7]⟩] none [7,8]) (.cond (.t 4) (.seq (.region [⟨some 7,.move (.t 0),none,[0]⟩,⟨some 8,.bin .shr .none (.t 1) (.c (.d (.int .u64 18))),none,[]⟩,⟨some 8,.toInt .u8 (.t 8),none,[]⟩,⟨some 8,.bin .or .none (.c (.d (.int .u8 240))) (.t 8),none,[]⟩,⟨some 9,.bin .shr .none (.t 1) (.c (.d (.int .u64 12))),none,[]⟩,⟨some 9,.toInt .u8 (.t 9),none,[]⟩,⟨some 9,.bin .and .none (.t 9) (.c (.d (.int .u8 63))),none,[]⟩,⟨some 9,.bin .or .none (.c (.d (.int .u8 128))) (.t 9),none,[]⟩,⟨some 10,.bin .shr .none (.t 1) (.c (.d (.int .u64 6))),none,[]⟩,⟨some 10,.toInt .u8 (.t 10),none,[]⟩,⟨some 10,.bin .and .none (.t 10) (.c (.d (.int .u8 63))),none,[]⟩,⟨some 10,.bin .or .none (.c (.d (.int .u8 128))) (.t 10),none,[]⟩,⟨some 11,.toInt .u8 (.t 1),none,[]⟩,⟨some 11,.bin .and .none (.t 11) (.c (.d (.int .u8 63))),none,[]⟩,⟨some 11,.bin .or .none (.c (.d (.int .u8 128))) (.t 11),none,[]⟩,⟨some 8,.buildSl 1 (.d (.int .u8 0)) 4 [(0,.t 8),(1,.t 9),(2,.t 10),(3,.t 11)],none,[]⟩,⟨some 7,.append 1 1 false (.t 7) (.t 8),none,[7]⟩,⟨some 5,.move (.t 7),none,[7]⟩] none [7,8,9,10,11]) .ret) (.seq (.region [⟨some 7,.move (.t 0),none,[0]⟩,⟨some 8,.buildSl 1 (.d (.int .u8 0)) 3 [(0,.c (.d (.int .u8 239))),(1,.c (.d (.int .u8 191))),(2,.c (.d (.int .u8 189)))],none,[]⟩,⟨some 7,.append 1 1 false (.t 7) (.t 8),none,[7]⟩,⟨some 5,.move (.t 7),none,[7]⟩] none [7,8]) .ret))))))))),[.t 5]⟩
def c81:CFn:=
 ⟨2,6,false,.seq (.region [⟨some 2,.move (.c (boolD false)),none,[]⟩] none []) (.seq (.region [⟨some 3,.len .str (.t 0),none,[]⟩,⟨some 4,.len .str (.t 1),none,[]⟩,⟨some 3,.bin .geq .none (.t 3) (.t 4),none,[]⟩,⟨some 4,.move (.t 0),some (3,true),[]⟩,⟨some 5,.move (.t 1),some (3,true),[]⟩,⟨some 5,.len .str (.t 5),some (3,true),[]⟩,⟨some 4,.slStr (.t 4) none (some (.t 5)),some (3,true),[]⟩,⟨some 5,.move (.t 1),some (3,true),[]⟩,⟨some 4,.bin .eql .none (.t 4) (.t 5),some (3,true),[]⟩,⟨some 3,.pick (.t 3) (.t 4) (.c (boolD false)),none,[]⟩,⟨some 2,.move (.t 3),none,[3]⟩] none [3,4,5]) .ret),[.t 2]⟩
def c93:CFn:=
 ⟨1,4,false,.seq (.region [⟨some 1,.move (.c (.d (.int .i64 0))),none,[]⟩] none []) (.seq (.region [⟨some 3,.call 91 [.t 0],none,[]⟩,⟨some 3,.call 101 [.t 3],none,[]⟩,⟨some 2,.move (.t 3),none,[3]⟩] none [3]) (.seq (.region [⟨some 3,.idxArr 20 1 (.c (.pref tab3)) (.t 2),none,[]⟩,⟨some 3,.load false 1 (.t 3),none,[]⟩,⟨some 3,.bin .geq .none (.t 0) (.t 3),none,[]⟩,⟨some 3,.call 102 [.t 3],none,[]⟩,⟨some 3,.bin .add .none (.t 2) (.t 3),none,[]⟩,⟨some 1,.move (.t 3),none,[3]⟩] none [3]) .ret)),[.t 1]⟩
def c101:CFn:=
 ⟨1,3,false,.seq (.region [⟨some 1,.move (.c (.d (.int .i64 0))),none,[]⟩] none []) (.seq (.region [⟨some 2,.bin .mul .none (.t 0) (.c (.d (.int .i64 78913))),none,[]⟩,⟨some 2,.bin .shr .none (.t 2) (.c (.d (.int .u64 18))),none,[]⟩,⟨some 1,.move (.t 2),none,[2]⟩] none [2]) .ret),[.t 1]⟩
def c102:CFn:=
 ⟨1,3,false,.seq (.region [⟨some 2,.move (.c (.d (.int .i64 0))),none,[]⟩] none []) (.seq (.region [⟨some 1,.move (.t 0),none,[]⟩] none []) (.cond (.t 1) (.seq (.region [⟨some 2,.move (.c (.d (.int .i64 1))),none,[]⟩] none []) .ret) (.seq .skip (.seq (.region [⟨some 2,.move (.c (.d (.int .i64 0))),none,[]⟩] none []) .ret)))),[.t 2]⟩
def codeL:List (Option CFn):= [none,none,none,some c3,some c4,some c5,some c6,none,none,none,none,some c11,some c12,some c13,some c14,some c15,some c16,some c17,some c18,some c19,some c20,some c21,some c22,none,some c24,some c25,some c26,some c27,some c28,some c29,some c30,some c31,some c32,some c33,some c34,none,some c36,some c37,some c38,some c39,some c40,some c41,some c42,some c43,some c44,some c45,some c46,some c47,some c48,some c49,some c50,some c51,some c52,some c53,some c54,none,some c56,some c57,none,some c59,some c60,some c61,none,some c63,some c64,some c65,some c66,none,some c68,some c69,none,none,some c72,some c73,some c74,none,none,some c77,none,none,some c80,some c81,none,none,none,none,none,none,none,none,none,none,none,some c93,none,none,none,none,none,none,none,some c101,some c102]
abbrev code:FuncId→Option CFn:=Qdy codeL
def pf:FuncId→Bool:=fun f=> [25,26,39,40,41,42,43,57,60,73].contains f
abbrev QdV(e p:Nat):PV:=(45,.agg [.int .i64 e,.int .i64 p])
abbrev rdO(s:Tx)(p:Nat):AObj:= .cells [.d (.str s),intD p]
def Qkl:QbO:=fun lim args H=>match args with
 | [.ptr r 0]=>match H[r]? with
   |some (.cells [.d (.str s),.d (.int .i64 p)])=>if lim≤r∧0≤p∧p≤s.length∧s.length≤16384 then match Qbq s p.toNat with
    |.ok (t,q)=>some (.d (.str t),H.set r (rdO s q))
    |.error _=>none
    else none
   |_=>none
 |_=>none
def Qg7:Qfy:=fun lim args H=>match args with
 | [.ptr r 0]=>match H[r]? with
   |some (.cells [.d (.str s),.d (.int .i64 p)])=>if lim≤r∧0≤p∧p≤s.length∧s.length≤16384 then match Qbq s p.toNat with
    |.ok _=>none
    |.error (e,q)=>some (QdV e q)
    else none
   |_=>none
 |_=>none
def Qki:QbO:=fun _ args H=>match args with
 | [.d (.str s)]=>if s.length≤9223372036854775807 then some (boolD (Lib.validD s),H)else none
 |_=>none
def dg(s:Tx):Nat×Nat:=if s.length=0 then(65533,0)else dec s 0
def decF:QbO:=fun _ args H=>match args with
 | [.d (.str s)]=>some (.tuple [.d (.int .i32 ((dg s).1:Nat)),intD ((dg s).2:Nat)],H)
 |_=>none
def QdU:List D→Option (List Tx)
 | []=>some []
 |.str s::l=>(QdU l).map fun r=>s::r
 |_::_=>none
def QlP:QbO:=fun lim args H=>match args with
 | [.oslice r 0 n _ 1,.func (.func 63) [.ptr k 0]]=>match H[r]?,H[k]? with
   |some (.cells cs),some (.cells [.d (.slice xs)])=>match QdU xs with
    |some ks=>if lim≤r∧r≠k∧n=ks.length∧n<1000000000000∧ks.Nodup∧cs.length=n∧AObj.beq (.cells cs) (.cells ((List.range n).map fun(i:Nat)=>intD (i:Int)))=true then some (.tuple [],H.set r (.cells ((Qar ks).map fun(i:Nat)=>intD (i:Int))))else none
    |none=>none
   |_,_=>none
 |_=>none
def QdX(n:Nat):Tx:=if n<10 then [UInt8.ofNat (48+n)]else [UInt8.ofNat (48+n/10),UInt8.ofNat (48+n % 10)]
def QiH:QbO:=fun _ args H=>match args with
 | [.d (.int .i64 i)]=>if 0≤i∧i<100 then some (.d (.str (QdX i.toNat)),H)else none
 |_=>none
def Qi4:QbO:=fun _ args H=>match args with
 | [.d (.int .u64 u)]=>if 0≤u∧u<18446744073709551616 then some (intD (Lib.bitLen u.toNat:Nat),H)else none
 |_=>none
def fbF:QbO:=fun lim args H=>match args with
 | [.oslice r 0 n _ 1,.d (.int .u64 u)]=>match H[r]? with
   |some (.cells cs)=>if lim≤r∧0≤u∧u<18446744073709551616∧n=Lib.nDigits u.toNat∧n≤24∧n≤cs.length∧AV.beqs (cs.take n) (List.replicate n (.d (.int .u8 0)))=true then
     some (.tuple [],H.set r (.cells (splice cs 0 ((Lib.decDigits u.toNat).map fun b=>AV.d (byteD b)))))else none
   |_=>none
 |_=>none
def Qid(H:Qaa):AV→Option Tx
 |.d (.slice xs)=>bytesOf xs
 |.oslice r off len _ sz=>if sz=1 then match H[r]? with
  |some (.cells cs)=>if off+len≤cs.length then AV.bytes ((cs.drop off).take len)else none
  |_=>none else none
 |_=>none
abbrev QbC:Except (Nat×Nat) J→AV
 |.ok j=> .tuple [.d j.d,intD 0,intD 0]
 |.error e=> .tuple [.d J.zero.d,intD e.1,intD e.2]
def Qh1:QbO:=fun _ args H=>match args with
 | [v]=>(Qid H v).map fun s=>(QbC (QaA s),H)
 |_=>none
def QaL:FuncId→Option QbO:=fun f=>if f=67 then some Qki else if f=70 then some Qc7 else if f=35 then some decF else if f=62 then some QlP else if f=92 then some QiH else if f=91 then some Qi4 else if f=94 then some fbF else none
def Qbi:FuncId→Option QbO:=fun f=>if f=41 then some Qkl else QaL f
def Qd4:FuncId→Option Qfy:=fun f=>if f=41 then some Qg7 else none
def Qhi:FuncId→Option QbO:=fun f=>if f=10 then some Qh1 else Qbi f
def QqU:QbO:=fun _ args H=>match args with
 | []=>some (boolD true,H)
 |_=>none
def Qaq:FuncId→Option QbO:=fun f=>if f=11 then some QqU else Qhi f
def low(f:FuncId):Bool:= !([10,11,35,41,62,67,70,91,92,94]:List FuncId).contains f
class POK (pr:FuncId→Option QbO):Prop where
 low:∀f,low f=true→pr f=none
 idx:pr 70=some Qc7
 dec:pr 35=some decF
 valid:pr 67=some Qki
 sort:pr 62=some QlP
 small:pr 92=some QiH
 len:pr 91=some Qi4
 fb:pr 94=some fbF
class PPOK (pr:FuncId→Option QbO) (pP:FuncId→Option Qfy):Prop where
 low:∀f,low f=true→pP f=none
 disj:QeD pr pP
theorem pn{pr:FuncId→Option QbO} [h:POK pr]{f:FuncId}(hf:low f=true):pr f=none:=h.low f hf
theorem pnP{pr:FuncId→Option QbO}{pP:FuncId→Option Qfy} [h:PPOK pr pP]{f:FuncId}(hf:low f=true):pP f=none:=h.low f hf
instance{pr:FuncId→Option QbO}{pP:FuncId→Option Qfy} [h:PPOK pr pP]:Parts (QaH code pr) (QcH code pf pr pP):=⟨Qnz h.disj⟩
theorem QkU{f:FuncId}(h:low f=true):f≠10∧f≠11∧f≠35∧f≠41∧f≠62∧f≠67∧f≠70∧f≠91∧f≠92∧f≠94:=by
 refine⟨?_, ?_, ?_, ?_, ?_, ?_, ?_, ?_, ?_, ?_⟩<;>(rintro rfl;cases h)
instance:POK QaL:=⟨fun f h=>by have:=QkU h;simp only[QaL,this,if_false],rfl,rfl,rfl,rfl,rfl,rfl,rfl⟩
instance:POK Qbi:=⟨fun f h=>by have:=QkU h;simp only[Qbi,QaL,this,if_false],rfl,rfl,rfl,rfl,rfl,rfl,rfl⟩
instance:POK Qhi:=⟨fun f h=>by have:=QkU h;simp only[Qhi,Qbi,QaL,this,if_false],rfl,rfl,rfl,rfl,rfl,rfl,rfl⟩
instance:POK Qaq:=⟨fun f h=>by have:=QkU h;simp only[Qaq,Qhi,Qbi,QaL,this,if_false],rfl,rfl,rfl,rfl,rfl,rfl,rfl⟩
instance{pr:FuncId→Option QbO}:PPOK pr (fun _=>none):=⟨fun _ _=>rfl,fun _ _ h=>by cases h⟩
theorem QiN:QeD Qbi Qd4:=fun f FP h=>by
 unfold Qd4 at h
 split at h
 ·rename_i hf
  subst hf
  simp only[Option.some.injEq]at h;subst h
  refine⟨Qkl,rfl,fun lim a H v h=> ?_⟩
  unfold Qg7 at h
  unfold Qkl
  split at h
  ·split at h
   ·rename_i hg
    split at h
    ·rename_i hc
     split at h
     ·cases h
     ·rename_i h1;simp[hg,hc,h1]
    ·cases h
   ·cases h
  ·cases h
 ·cases h
abbrev X0:Nat→Qbl:=QaH code Qbi
abbrev XP:Nat→Qgv:=QcH code pf Qbi Qd4
instance:PPOK Qbi Qd4:=⟨fun f h=>by have:=QkU h;simp only[Qd4,this,if_false],QiN⟩
abbrev X1:Nat→Qbl:=QaH code QaL
abbrev XP1:Nat→Qgv:=QcH code pf QaL (fun _=>none)
theorem k3:(Qae Tryd.prog Qaz false [13,21,39,2,0,3,4,5,6,7,8,9] 3).bind (fun c0=>if pf 3&& !panCk pf c0.body then none else Qak [13,21,39,2,0,3,4,5,6,7,8,9] 15 c0)=some c3:=by kernel_rfl
theorem k4:(Qae Tryd.prog Qaz false [16,32,4,2,3,5,6,7,8] 4).bind (fun c0=>if pf 4&& !panCk pf c0.body then none else Qak [16,32,4,2,3,5,6,7,8] 14 c0)=some c4:=by kernel_rfl
theorem k5:(Qae Tryd.prog Qaz false [22,62,68,79,4,0,1,5,6,8,9,11,12,13,14,15] 5).bind (fun c0=>if pf 5&& !panCk pf c0.body then none else Qak [22,62,68,79,4,0,1,5,6,8,9,11,12,13,14,15] 20 c0)=some c5:=by kernel_rfl
theorem k6:(Qae Tryd.prog Qaz false [11,25,2,0,3,4,5,6,7] 6).bind (fun c0=>if pf 6&& !panCk pf c0.body then none else Qak [11,25,2,0,3,4,5,6,7] 12 c0)=some c6:=by kernel_rfl
theorem k11:(Qae Tryd.prog Qaz false [0,1,2,4,5,7,8,10,11,13,14] 11).bind (fun c0=>if pf 11&& !panCk pf c0.body then none else Qak [0,1,2,4,5,7,8,10,11,13,14] 15 c0)=some c11:=by kernel_rfl
theorem k12:(Qae Tryd.prog Qaz false [7,12,2,3,1,4] 12).bind (fun c0=>if pf 12&& !panCk pf c0.body then none else Qak [7,12,2,3,1,4] 8 c0)=some c12:=by kernel_rfl
theorem k13:(Qae Tryd.prog Qaz false [2,1] 13).bind (fun c0=>if pf 13&& !panCk pf c0.body then none else Qak [2,1] 4 c0)=some c13:=by kernel_rfl
theorem k14:(Qae Tryd.prog Qaz false [43,48,61,66,80,4,2,3,5,6] 14).bind (fun c0=>if pf 14&& !panCk pf c0.body then none else Qak [43,48,61,66,80,4,2,3,5,6] 15 c0)=some c14:=by kernel_rfl
theorem k15:(Qae Tryd.prog Qaz false [5,2,1] 15).bind (fun c0=>if pf 15&& !panCk pf c0.body then none else Qak [5,2,1] 5 c0)=some c15:=by kernel_rfl
theorem k16:(Qae Tryd.prog Qaz false [2,1] 16).bind (fun c0=>if pf 16&& !panCk pf c0.body then none else Qak [2,1] 4 c0)=some c16:=by kernel_rfl
theorem k17:(Qae Tryd.prog Qaz false [10,11] 17).bind (fun c0=>if pf 17&& !panCk pf c0.body then none else Qak [10,11] 8 c0)=some c17:=by kernel_rfl
theorem k18:(Qae Tryd.prog Qaz false [9,17,2,3,0,5] 18).bind (fun c0=>if pf 18&& !panCk pf c0.body then none else Qak [9,17,2,3,0,5] 8 c0)=some c18:=by kernel_rfl
theorem k19:(Qae Tryd.prog Qaz false [7,13,2,3,1,4] 19).bind (fun c0=>if pf 19&& !panCk pf c0.body then none else Qak [7,13,2,3,1,4] 8 c0)=some c19:=by kernel_rfl
theorem k20:(Qae Tryd.prog Qaz false [2,1] 20).bind (fun c0=>if pf 20&& !panCk pf c0.body then none else Qak [2,1] 4 c0)=some c20:=by kernel_rfl
theorem k21:(Qae Tryd.prog Qaz false [5,2,1] 21).bind (fun c0=>if pf 21&& !panCk pf c0.body then none else Qak [5,2,1] 5 c0)=some c21:=by kernel_rfl
theorem k22:(Qae Tryd.prog Qaz false [10,14,23,2,0,8,9,3,4,6] 22).bind (fun c0=>if pf 22&& !panCk pf c0.body then none else Qak [10,14,23,2,0,8,9,3,4,6] 12 c0)=some c22:=by kernel_rfl
theorem k24:(Qae Tryd.prog Qaz true [24,0] 24).bind (fun c0=>if pf 24&& !panCk pf c0.body then none else Qak [24,0] 5 c0)=some c24:=by kernel_rfl
theorem k25:(Qae Tryd.prog Qaz true [24,32,44,55,67,72,77,82,4,0,5,1,31,6,7] 25).bind (fun c0=>if pf 25&& !panCk pf c0.body then none else Qak [24,32,44,55,67,72,77,82,4,0,5,1,31,6,7] 18 c0)=some c25:=by kernel_rfl
theorem k26:(Qae Tryd.prog Qaz true [] 26).bind (fun c0=>if pf 26&& !panCk pf c0.body then none else Qak [] 4 c0)=some c26:=by kernel_rfl
theorem k27:(Qae Tryd.prog Qaz false [17,23,53,2,1,3,20,21,22,5,50,51,52,7] 27).bind (fun c0=>if pf 27&& !panCk pf c0.body then none else Qak [17,23,53,2,1,3,20,21,22,5,50,51,52,7] 18 c0)=some c27:=by kernel_rfl
theorem k28:(Qae Tryd.prog Qaz false [11,15,22,28,34,43,48,59,69,74,4,3,0,14,40,41,42,6,5,66,67,68,7,8] 28).bind (fun c0=>if pf 28&& !panCk pf c0.body then none else Qak [11,15,22,28,34,43,48,59,69,74,4,3,0,14,40,41,42,6,5,66,67,68,7,8] 28 c0)=some c28:=by kernel_rfl
theorem k29:(Qae Tryd.prog Qaz false [12,17,28,4,2,1,5] 29).bind (fun c0=>if pf 29&& !panCk pf c0.body then none else Qak [12,17,28,4,2,1,5] 10 c0)=some c29:=by kernel_rfl
theorem k30:(Qae Tryd.prog Qaz false [18,23,45,52,76,2,1,3,4,5,6,7,8] 30).bind (fun c0=>if pf 30&& !panCk pf c0.body then none else Qak [18,23,45,52,76,2,1,3,4,5,6,7,8] 19 c0)=some c30:=by kernel_rfl
theorem k31:(Qae Tryd.prog Qaz false [32,39,48,57,6,3,1,2,7,8] 31).bind (fun c0=>if pf 31&& !panCk pf c0.body then none else Qak [32,39,48,57,6,3,1,2,7,8] 14 c0)=some c31:=by kernel_rfl
theorem k32:(Qae Tryd.prog Qaz false [15,17,26,35,46,63,81,4,5,0,1,6,7,8,9] 32).bind (fun c0=>if pf 32&& !panCk pf c0.body then none else Qak [15,17,26,35,46,63,81,4,5,0,1,6,7,8,9] 19 c0)=some c32:=by kernel_rfl
theorem k33:(Qae Tryd.prog Qaz false [9,13,14,19,24,30,34,47,53,57,2,1,8,3,4,5,6] 33).bind (fun c0=>if pf 33&& !panCk pf c0.body then none else Qak [9,13,14,19,24,30,34,47,53,57,2,1,8,3,4,5,6] 21 c0)=some c33:=by kernel_rfl
theorem k34:(Qae Tryd.prog Qaz false [4,2,3] 34).bind (fun c0=>if pf 34&& !panCk pf c0.body then none else Qak [4,2,3] 8 c0)=some c34:=by kernel_rfl
theorem k36:(Qae Tryd.prog Qaz false [4] 36).bind (fun c0=>if pf 36&& !panCk pf c0.body then none else Qak [4] 4 c0)=some c36:=by kernel_rfl
theorem k37:(Qae Tryd.prog Qaz true [12,2,0] 37).bind (fun c0=>if pf 37&& !panCk pf c0.body then none else Qak [12,2,0] 5 c0)=some c37:=by kernel_rfl
theorem k38:(Qae Tryd.prog Qaz false [2] 38).bind (fun c0=>if pf 38&& !panCk pf c0.body then none else Qak [2] 4 c0)=some c38:=by kernel_rfl
theorem k39:(Qae Tryd.prog Qaz true [24,33,6,0] 39).bind (fun c0=>if pf 39&& !panCk pf c0.body then none else Qak [24,33,6,0] 9 c0)=some c39:=by kernel_rfl
theorem k40:(Qae Tryd.prog Qaz true [14,23,4,5,6,7,0,8,9] 40).bind (fun c0=>if pf 40&& !panCk pf c0.body then none else Qak [14,23,4,5,6,7,0,8,9] 13 c0)=some c40:=by kernel_rfl
theorem k41:(Qae Tryd.prog Qaz true [18,39,50,2,0,3,4] 41).bind (fun c0=>if pf 41&& !panCk pf c0.body then none else Qak [18,39,50,2,0,3,4] 9 c0)=some c41:=by kernel_rfl
theorem k42:(Qae Tryd.prog Qaz true [11,6,5,1,9,10,7] 42).bind (fun c0=>if pf 42&& !panCk pf c0.body then none else Qak [11,6,5,1,9,10,7] 10 c0)=some c42:=by kernel_rfl
theorem k43:(Qae Tryd.prog Qaz true [13,28,37,53,61,91,97,2,0,3,4,5,6] 43).bind (fun c0=>if pf 43&& !panCk pf c0.body then none else Qak [13,28,37,53,61,91,97,2,0,3,4,5,6] 16 c0)=some c43:=by kernel_rfl
theorem k44:(Qae Tryd.prog Qaz false [11,2,1,3,9,10,4] 44).bind (fun c0=>if pf 44&& !panCk pf c0.body then none else Qak [11,2,1,3,9,10,4] 10 c0)=some c44:=by kernel_rfl
theorem k45:(Qae Tryd.prog Qaz false [4] 45).bind (fun c0=>if pf 45&& !panCk pf c0.body then none else Qak [4] 4 c0)=some c45:=by kernel_rfl
theorem k46:(Qae Tryd.prog Qaz false [6] 46).bind (fun c0=>if pf 46&& !panCk pf c0.body then none else Qak [6] 5 c0)=some c46:=by kernel_rfl
theorem k47:(Qae Tryd.prog Qaz false [13,22,31,37,43,49,55,61,4,0,1,11,12,5,6] 47).bind (fun c0=>if pf 47&& !panCk pf c0.body then none else Qak [13,22,31,37,43,49,55,61,4,0,1,11,12,5,6] 18 c0)=some c47:=by kernel_rfl
theorem k48:(Qae Tryd.prog Qaz false [14,27,45,63,77,93,2,1,3,13] 48).bind (fun c0=>if pf 48&& !panCk pf c0.body then none else Qak [14,27,45,63,77,93,2,1,3,13] 13 c0)=some c48:=by kernel_rfl
theorem k49:(Qae Tryd.prog Qaz false [2] 49).bind (fun c0=>if pf 49&& !panCk pf c0.body then none else Qak [2] 5 c0)=some c49:=by kernel_rfl
theorem k50:(Qae Tryd.prog Qaz false [5,15,2,0,3] 50).bind (fun c0=>if pf 50&& !panCk pf c0.body then none else Qak [5,15,2,0,3] 7 c0)=some c50:=by kernel_rfl
theorem k51:(Qae Tryd.prog Qaz false [9,22,37,42,47,52,57,62,2,3,4,0,5] 51).bind (fun c0=>if pf 51&& !panCk pf c0.body then none else Qak [9,22,37,42,47,52,57,62,2,3,4,0,5] 16 c0)=some c51:=by kernel_rfl
theorem k52:(Qae Tryd.prog Qaz false [14,27,45,63,76,92,2,1,3,13] 52).bind (fun c0=>if pf 52&& !panCk pf c0.body then none else Qak [14,27,45,63,76,92,2,1,3,13] 14 c0)=some c52:=by kernel_rfl
theorem k53:(Qae Tryd.prog Qaz false [4] 53).bind (fun c0=>if pf 53&& !panCk pf c0.body then none else Qak [4] 4 c0)=some c53:=by kernel_rfl
theorem k54:(Qae Tryd.prog Qaz false [3,2] 54).bind (fun c0=>if pf 54&& !panCk pf c0.body then none else Qak [3,2] 6 c0)=some c54:=by kernel_rfl
theorem k56:(Qae Tryd.prog Qaz false [4] 56).bind (fun c0=>if pf 56&& !panCk pf c0.body then none else Qak [4] 4 c0)=some c56:=by kernel_rfl
theorem k57:(Qae Tryd.prog Qaz true [26,0] 57).bind (fun c0=>if pf 57&& !panCk pf c0.body then none else Qak [26,0] 6 c0)=some c57:=by kernel_rfl
theorem k59:(Qae Tryd.prog Qaz true [4,5,0,6] 59).bind (fun c0=>if pf 59&& !panCk pf c0.body then none else Qak [4,5,0,6] 7 c0)=some c59:=by kernel_rfl
theorem k60:(Qae Tryd.prog Qaz true [30,45,47,49,51,53,55,64,80,98,2,0,3,4,5,44,6,7] 60).bind (fun c0=>if pf 60&& !panCk pf c0.body then none else Qak [30,45,47,49,51,53,55,64,80,98,2,0,3,4,5,44,6,7] 21 c0)=some c60:=by kernel_rfl
theorem k61:(Qae Tryd.prog Qaz true [4,0] 61).bind (fun c0=>if pf 61&& !panCk pf c0.body then none else Qak [4,0] 5 c0)=some c61:=by kernel_rfl
theorem k63:(Qae Tryd.prog Qaz false [6,16,5,2,0,1] 63).bind (fun c0=>if pf 63&& !panCk pf c0.body then none else Qak [6,16,5,2,0,1] 8 c0)=some c63:=by kernel_rfl
theorem k64:(Qae Tryd.prog Qaz false [5,4,0] 64).bind (fun c0=>if pf 64&& !panCk pf c0.body then none else Qak [5,4,0] 5 c0)=some c64:=by kernel_rfl
theorem k65:(Qae Tryd.prog Qaz false [11,6,1,7,0] 65).bind (fun c0=>if pf 65&& !panCk pf c0.body then none else Qak [11,6,1,7,0] 8 c0)=some c65:=by kernel_rfl
theorem k66:(Qae Tryd.prog Qaz false [8,16,19,30,2,3,0,4] 66).bind (fun c0=>if pf 66&& !panCk pf c0.body then none else Qak [8,16,19,30,2,3,0,4] 10 c0)=some c66:=by kernel_rfl
theorem k68:(Qae Tryd.prog Qaz false [10,20,2,3,7,8,9,5] 68).bind (fun c0=>if pf 68&& !panCk pf c0.body then none else Qak [10,20,2,3,7,8,9,5] 11 c0)=some c68:=by kernel_rfl
theorem k69:(Qae Tryd.prog Qaz false [9,16,4,0,7,8,5] 69).bind (fun c0=>if pf 69&& !panCk pf c0.body then none else Qak [9,16,4,0,7,8,5] 9 c0)=some c69:=by kernel_rfl
theorem k72:(Qae Tryd.prog Qaz false [7,4,1,0] 72).bind (fun c0=>if pf 72&& !panCk pf c0.body then none else Qak [7,4,1,0] 6 c0)=some c72:=by kernel_rfl
theorem k73:(Qae Tryd.prog Qaz true [6,23,31,2,3,5,0,4] 73).bind (fun c0=>if pf 73&& !panCk pf c0.body then none else Qak [6,23,31,2,3,5,0,4] 10 c0)=some c73:=by kernel_rfl
theorem k74:(Qae Tryd.prog Qaz false [4] 74).bind (fun c0=>if pf 74&& !panCk pf c0.body then none else Qak [4] 4 c0)=some c74:=by kernel_rfl
theorem k77:(Qae Tryd.prog Qaz false [10,12,6,2,1,0,7,8] 77).bind (fun c0=>if pf 77&& !panCk pf c0.body then none else Qak [10,12,6,2,1,0,7,8] 10 c0)=some c77:=by kernel_rfl
theorem k80:(Qae Tryd.prog Qaz false [11,25,50,4,1,5,0] 80).bind (fun c0=>if pf 80&& !panCk pf c0.body then none else Qak [11,25,50,4,1,5,0] 12 c0)=some c80:=by kernel_rfl
theorem k81:(Qae Tryd.prog Qaz false [4] 81).bind (fun c0=>if pf 81&& !panCk pf c0.body then none else Qak [4] 6 c0)=some c81:=by kernel_rfl
theorem k93:(Qae Tryd.prog Qaz false [2,0,3] 93).bind (fun c0=>if pf 93&& !panCk pf c0.body then none else Qak [2,0,3] 4 c0)=some c93:=by kernel_rfl
theorem k101:(Qae Tryd.prog Qaz false [2] 101).bind (fun c0=>if pf 101&& !panCk pf c0.body then none else Qak [2] 3 c0)=some c101:=by kernel_rfl
theorem k102:(Qae Tryd.prog Qaz false [3,2] 102).bind (fun c0=>if pf 102&& !panCk pf c0.body then none else Qak [3,2] 3 c0)=some c102:=by kernel_rfl
theorem QeT:AllSlimP Tryd.prog pf 0 codeL:=⟨⟨Qaz,false,[13,21,39,2,0,3,4,5,6,7,8,9],15,k3⟩,⟨⟨Qaz,false,[16,32,4,2,3,5,6,7,8],14,k4⟩,⟨⟨Qaz,false,[22,62,68,79,4,0,1,5,6,8,9,11,12,13,14,15],20,k5⟩,⟨⟨Qaz,false,[11,25,2,0,3,4,5,6,7],12,k6⟩,⟨⟨Qaz,false,[0,1,2,4,5,7,8,10,11,13,14],15,k11⟩,⟨⟨Qaz,false,[7,12,2,3,1,4],8,k12⟩,⟨⟨Qaz,false,[2,1],4,k13⟩,⟨⟨Qaz,false,[43,48,61,66,80,4,2,3,5,6],15,k14⟩,⟨⟨Qaz,false,[5,2,1],5,k15⟩,⟨⟨Qaz,false,[2,1],4,k16⟩,⟨⟨Qaz,false,[10,11],8,k17⟩,⟨⟨Qaz,false,[9,17,2,3,0,5],8,k18⟩,⟨⟨Qaz,false,[7,13,2,3,1,4],8,k19⟩,⟨⟨Qaz,false,[2,1],4,k20⟩,⟨⟨Qaz,false,[5,2,1],5,k21⟩,⟨⟨Qaz,false,[10,14,23,2,0,8,9,3,4,6],12,k22⟩,⟨⟨Qaz,true,[24,0],5,k24⟩,⟨⟨Qaz,true,[24,32,44,55,67,72,77,82,4,0,5,1,31,6,7],18,k25⟩,⟨⟨Qaz,true,[],4,k26⟩,⟨⟨Qaz,false,[17,23,53,2,1,3,20,21,22,5,50,51,52,7],18,k27⟩,⟨⟨Qaz,false,[11,15,22,28,34,43,48,59,69,74,4,3,0,14,40,41,42,6,5,66,67,68,7,8],28,k28⟩,⟨⟨Qaz,false,[12,17,28,4,2,1,5],10,k29⟩,⟨⟨Qaz,false,[18,23,45,52,76,2,1,3,4,5,6,7,8],19,k30⟩,⟨⟨Qaz,false,[32,39,48,57,6,3,1,2,7,8],14,k31⟩,⟨⟨Qaz,false,[15,17,26,35,46,63,81,4,5,0,1,6,7,8,9],19,k32⟩,⟨⟨Qaz,false,[9,13,14,19,24,30,34,47,53,57,2,1,8,3,4,5,6],21,k33⟩,⟨⟨Qaz,false,[4,2,3],8,k34⟩,⟨⟨Qaz,false,[4],4,k36⟩,⟨⟨Qaz,true,[12,2,0],5,k37⟩,⟨⟨Qaz,false,[2],4,k38⟩,⟨⟨Qaz,true,[24,33,6,0],9,k39⟩,⟨⟨Qaz,true,[14,23,4,5,6,7,0,8,9],13,k40⟩,⟨⟨Qaz,true,[18,39,50,2,0,3,4],9,k41⟩,⟨⟨Qaz,true,[11,6,5,1,9,10,7],10,k42⟩,⟨⟨Qaz,true,[13,28,37,53,61,91,97,2,0,3,4,5,6],16,k43⟩,⟨⟨Qaz,false,[11,2,1,3,9,10,4],10,k44⟩,⟨⟨Qaz,false,[4],4,k45⟩,⟨⟨Qaz,false,[6],5,k46⟩,⟨⟨Qaz,false,[13,22,31,37,43,49,55,61,4,0,1,11,12,5,6],18,k47⟩,⟨⟨Qaz,false,[14,27,45,63,77,93,2,1,3,13],13,k48⟩,⟨⟨Qaz,false,[2],5,k49⟩,⟨⟨Qaz,false,[5,15,2,0,3],7,k50⟩,⟨⟨Qaz,false,[9,22,37,42,47,52,57,62,2,3,4,0,5],16,k51⟩,⟨⟨Qaz,false,[14,27,45,63,76,92,2,1,3,13],14,k52⟩,⟨⟨Qaz,false,[4],4,k53⟩,⟨⟨Qaz,false,[3,2],6,k54⟩,⟨⟨Qaz,false,[4],4,k56⟩,⟨⟨Qaz,true,[26,0],6,k57⟩,⟨⟨Qaz,true,[4,5,0,6],7,k59⟩,⟨⟨Qaz,true,[30,45,47,49,51,53,55,64,80,98,2,0,3,4,5,44,6,7],21,k60⟩,⟨⟨Qaz,true,[4,0],5,k61⟩,⟨⟨Qaz,false,[6,16,5,2,0,1],8,k63⟩,⟨⟨Qaz,false,[5,4,0],5,k64⟩,⟨⟨Qaz,false,[11,6,1,7,0],8,k65⟩,⟨⟨Qaz,false,[8,16,19,30,2,3,0,4],10,k66⟩,⟨⟨Qaz,false,[10,20,2,3,7,8,9,5],11,k68⟩,⟨⟨Qaz,false,[9,16,4,0,7,8,5],9,k69⟩,⟨⟨Qaz,false,[7,4,1,0],6,k72⟩,⟨⟨Qaz,true,[6,23,31,2,3,5,0,4],10,k73⟩,⟨⟨Qaz,false,[4],4,k74⟩,⟨⟨Qaz,false,[10,12,6,2,1,0,7,8],10,k77⟩,⟨⟨Qaz,false,[11,25,50,4,1,5,0],12,k80⟩,⟨⟨Qaz,false,[4],6,k81⟩,⟨⟨Qaz,false,[2,0,3],4,k93⟩,⟨⟨Qaz,false,[2],3,k101⟩,⟨⟨Qaz,false,[3,2],3,k102⟩,trivial⟩⟩⟩⟩⟩⟩⟩⟩⟩⟩⟩⟩⟩⟩⟩⟩⟩⟩⟩⟩⟩⟩⟩⟩⟩⟩⟩⟩⟩⟩⟩⟩⟩⟩⟩⟩⟩⟩⟩⟩⟩⟩⟩⟩⟩⟩⟩⟩⟩⟩⟩⟩⟩⟩⟩⟩⟩⟩⟩⟩⟩⟩⟩⟩⟩⟩
end Go.Proofs.YtmhmjlfajlpabaaDoor
set_option maxRecDepth 100000
namespace Go.Proofs.YtmhmjlfajlpabaaDoor
open Go Go.Abs
variable {pr:FuncId→Option QbO} {pP:FuncId→Option Qfy} [POK pr] [PPOK pr pP]
theorem Qdt{s:Tx}{p:Nat}(h:p<s.length):s[p]? =some (nx s p):=by
 rw[nx,List.getElem?_eq_getElem h];rfl
theorem nx_end{s:Tx}{p:Nat}(h:s.length≤p):nx s p=0:=by
 rw[nx,List.getElem?_eq_none h];rfl
theorem QjM(a b:Nat):((a:Int)==(b:Int))=decide (a=b):=by
 rw[Bool.eq_iff_iff];simp;omega
theorem Qeg(b:UInt8):byteD b= .int .u8 (b.toNat:Int):=rfl
theorem QhG(lim:Nat)(H:Qaa)(s:Tx)(c:UInt8):Ev (QaH code pr) 36 lim [.d (.str s),.d (.int .u8 c.toNat)] H (.d (.int .i64 (Lib.indexByte s c))) H:=by
 have e0:∀lim,Ev (QaH code pr) 70 lim [.d (.str s),.d (.int .u8 c.toNat)] H (.d (.int .i64 (Lib.indexByte s c))) H:=fun lim=>Qde (F:=Qc7) POK.idx (by
  unfold Qc7
  simp)
 have e1:∀lim,Ev (QaH code pr) 56 lim [.d (.str s),.d (.int .u8 c.toNat)] H (.d (.int .i64 (Lib.indexByte s c))) H:=fun lim=>by
  refine Fn.ev ?_
  refine Qa2 (pn rfl) rfl (show code 56=some c56 from rfl) rfl ?_;simp only[List.length_cons,List.length_nil,List.cons_append,List.nil_append,simprocAttr]
  refine w_s trivial ?_
  refine w_s trivial ?_
  refine w_s trivial ?_
  refine w_1 (e0 H.length) trivial ?_
  refine w_r trivial ?_
  exact Qad rfl rfl ⟨rfl,rfl⟩
 refine Fn.ev ?_
 refine Qa2 (pn rfl) rfl (show code 36=some c36 from rfl) rfl ?_;simp only[List.length_cons,List.length_nil,List.cons_append,List.nil_append,simprocAttr]
 refine w_s trivial ?_
 refine w_s trivial ?_
 refine w_s trivial ?_
 refine w_1 (e1 H.length) trivial ?_
 refine w_r trivial ?_
 exact Qad rfl rfl ⟨rfl,rfl⟩
theorem QbA(lim:Nat)(H:Qaa)(r:Nat)(s:Tx)(p:Nat)(gr:H[r]? =some (rdO s p))(hp:p≤s.length):Ev (QaH code pr) 37 lim [.ptr r 0] H (.d (.int .u8 (nx s p).toNat)) H:=by
 refine Fn.ev ?_
 refine Qa2 (pn rfl) rfl (show code 37=some c37 from rfl) rfl ?_;simp only[List.length_cons,List.length_nil,List.cons_append,List.nil_append,simprocAttr]
 by_cases q:p=s.length
 ·have f0:decide (p=s.length)=true:=by simp[q]
  refine w_r (j_ gr (j_ @QjM f0)) ?_
  rw[nx_end (by omega)]
  exact Qbe rfl ⟨rfl,rfl⟩
 ·have f0:decide (p=s.length)=false:=by simp[q]
  have f1:=Qdt (s:=s) (p:=p) (by omega)
  refine w_r (j_ gr (j_ @QjM (j_ f0 f1))) ?_
  exact Qbe rfl ⟨rfl,rfl⟩
theorem dig_eq(c:UInt8):QaE c=(decide (48≤c.toNat)&&decide (c.toNat≤57)):=rfl
theorem Qez(lim:Nat)(H:Qaa)(c:UInt8):Ev (QaH code pr) 38 lim [.d (.int .u8 c.toNat)] H (boolD (QaE c)) H:=by
 refine Fn.ev ?_
 refine Qa2 (pn rfl) rfl (show code 38=some c38 from rfl) rfl ?_;simp only[List.length_cons,List.length_nil,List.cons_append,List.nil_append,simprocAttr]
 have f0:decide ((48:Int)≤(c.toNat:Int))=decide (48≤c.toNat):=by rw[Bool.eq_iff_iff];simp;omega
 have f1:decide ((c.toNat:Int)≤57)=decide (c.toNat≤57):=by rw[Bool.eq_iff_iff];simp;omega
 rw[dig_eq]
 cases h:decide (48≤c.toNat)with
 |true=>
  rw[h]at f0
  refine w_r (j_ f0 f1) ?_
  exact Qad rfl rfl ⟨rfl,rfl⟩
 |false=>
  rw[h]at f0
  refine w_r (j_ f0 f1) ?_
  exact Qad rfl rfl ⟨rfl,rfl⟩
end Go.Proofs.YtmhmjlfajlpabaaDoor
namespace Go.Proofs.YtmhmjlfajlpabaaDoor
open Go Go.Abs
variable {pr:FuncId→Option QbO} {pP:FuncId→Option Qfy} [POK pr] [PPOK pr pP]
theorem Qqc(l:Tx)(c:UInt8):decide (Lib.indexByte l c≥0)=l.contains c:=by
 rw[Bool.eq_iff_iff,decide_eq_true_iff]
 induction l with
 |nil=>simp[Lib.indexByte]
 |cons b l ih=>
  have h0:=Lib.indexByte_ge l c
  simp only[Lib.indexByte,List.contains_cons,Bool.or_eq_true,←ih]
  by_cases hb:b=c
  ·subst hb;simp
  ·have h1:¬(b==c)=true:=by simpa using hb
   have h2:¬(c==b)=true:=by simpa using fun h=>hb h.symm
   rw[if_neg h1]
   by_cases hm:Lib.indexByte l c= -1
   ·rw[hm];simp[h2]
   ·have:¬(Lib.indexByte l c== -1)=true:=by simpa using hm
    rw[if_neg this]
    simp only[h2,false_or];omega
theorem blank_in(c:UInt8):([32,9,10,13]:Tx).contains c=Qaj c:=by
 unfold Qaj
 simp only[List.contains_cons,List.contains_nil,Bool.or_false,Bool.or_assoc]
theorem Qmw{s:Tx}{p:Nat}(h:p<s.length)(hb:Qaj (nx s p)=true):Qac s p=Qac s (p+1):=by
 unfold Qac
 rw[List.drop_eq_getElem_cons h]
 have:s[p]=nx s p:=by have:=Qdt h;rw[List.getElem?_eq_getElem h]at this;exact Option.some.inj this
 rw[this,List.takeWhile_cons_of_pos hb]
 simp;omega
theorem Qii{s:Tx}{p:Nat}(h:¬(p<s.length∧Qaj (nx s p)=true)):Qac s p=p:=by
 unfold Qac
 by_cases hp:p<s.length
 ·rw[List.drop_eq_getElem_cons hp]
  have:s[p]=nx s p:=by have:=Qdt hp;rw[List.getElem?_eq_getElem hp]at this;exact Option.some.inj this
  rw[this,List.takeWhile_cons_of_neg (fun q=>h ⟨hp,q⟩)];rfl
 ·rw[List.drop_eq_nil_of_le (by omega)];rfl
theorem QqL(s:Tx)(p:Nat)(h:p≤s.length):p≤Qac s p∧Qac s p≤s.length:=by
 unfold Qac
 have:=(List.takeWhile_prefix (p:=Qaj) (l:=s.drop p)).length_le
 rw[List.length_drop]at this
 omega
theorem Qhg{H:Qaa}{r:Nat}{s:Tx}{p:Nat}(gr:H[r]? =some (rdO s p))(q:Nat):(H.set r (rdO s q))[r]? =some (rdO s q):=Qk5 _ gr
theorem Qd2(H:Qaa)(r:Nat)(a b:AObj):(H.set r a).set r b=H.set r b:=List.set_set ..
theorem QlW{H:Qaa}{r:Nat}{s:Tx}{p:Nat}(gr:H[r]? =some (rdO s p)):H.set r (rdO s p)=H:=by
 obtain⟨h,e⟩:=List.getElem?_eq_some_iff.1 gr
 rw[←e];exact List.set_getElem_self h
theorem QlE{p:Nat}(h:p<100000):IntKind.i64.wrap ((p:Int)+1)=((p+1:Nat):Int):=Qdf (by omega)
theorem QdB(lim:Nat)(H:Qaa)(r:Nat)(s:Tx)(p:Nat)(gr:H[r]? =some (rdO s p))(hl:lim≤r)(hp:p≤s.length)(hs:s.length≤16384):Ev (QaH code pr) 24 lim [.ptr r 0] H (.tuple []) (H.set r (rdO s (Qac s p))):=by
 refine Fn.ev ?_
 refine Qa2 (pn rfl) rfl (show code 24=some c24 from rfl) rfl ?_
 simp only[List.length_cons,List.length_nil,List.cons_append,List.nil_append,simprocAttr]
 refine W_bk ?_
 refine QgT (fun k st=>∃q,q≤s.length∧k=s.length-q∧Qac s q=Qac s p∧∃x:Nat→AV,st=⟨[.ptr r 0,x 1,x 2,x 3,x 4],H.set r (rdO s q)⟩) ?_ _ _ ⟨p,hp,rfl,rfl,by rw[QlW gr];exact Qao _ _ _ rfl⟩
 rintro k _ ⟨q,hq,rfl,hb,x,rfl⟩
 have gq:=Qhg gr q
 have w1:IntKind.i64.wrap ((q:Int)+1)=((q+1:Nat):Int):=QlE (by omega)
 by_cases h0:q<s.length
 ·have f0:decide ((q:Int)<(s.length:Int))=true:=by simp;omega
  have f1:=Qdt h0
  have f2:=Qqc [32,9,10,13] (nx s q)
  rw[blank_in]at f2
  cases hc:Qaj (nx s q)with
  |true=>
   rw[hc]at f2
   (iterate 2 refine w_s trivial ?_)
   (apply QlA;focus(refine Evl.call (X:=(QaH code pr)) (QhG lim (H.set r (rdO s q)) [32,9,10,13] (nx s q)) (Evl.all fun k e1=> ?_);simp(maxSteps:=100000000) only[zz,zd,simprocAttr,gq,f0,f1,f2,Qeg,e1];(first|done|with_reducible exact rfl)))<;>(try simp only[zp,simprocAttr])
   refine w_r (j_ gq (j_ w1 hl)) ?_
   refine⟨s.length-(q+1),by omega,q+1,by omega,rfl,by rw[←hb,Qmw h0 hc], ?_⟩
   rw[Qd2]
   exact Qao _ _ _ rfl
  |false=>
   rw[hc]at f2
   (iterate 2 refine w_s trivial ?_)
   (apply QlA;focus(refine Evl.call (X:=(QaH code pr)) (QhG lim (H.set r (rdO s q)) [32,9,10,13] (nx s q)) (Evl.all fun k e1=> ?_);simp(maxSteps:=100000000) only[zz,zd,simprocAttr,gq,f0,f1,f2,Qeg,e1];(first|done|with_reducible exact rfl)))<;>(try simp only[zp,simprocAttr])
   refine w_r trivial ?_
   rw[Qii (fun k=>by rw[hc]at k;cases k.2)]at hb
   exact Qin rfl ⟨rfl,by rw[←hb]⟩
 ·have f0:decide ((q:Int)<(s.length:Int))=false:=by simp;omega
  refine w_r (j_ gq f0) ?_
  rw[Qii (fun k=>h0 k.1)]at hb
  exact Qin rfl ⟨rfl,by rw[←hb]⟩
end Go.Proofs.YtmhmjlfajlpabaaDoor
namespace Go.Proofs.YtmhmjlfajlpabaaDoor
open Go Go.Abs
variable {pr:FuncId→Option QbO} {pP:FuncId→Option Qfy} [POK pr] [PPOK pr pP]
theorem Qbg(lim:Nat)(H:Qaa)(r e p:Nat):EvP (QcH code pf pr pP) 26 lim [.ptr r 0,intD e,intD p] H (QdV e p):=by
 refine Fv.evP (X:=(QaH code pr)) ?_
 refine QoO (pn rfl) rfl (by first|exact rfl|exact pnP (pr:=pr) rfl) rfl (show code 26=some c26 from rfl) rfl ?_;simp only[List.length_cons,List.length_nil,List.cons_append,List.nil_append,simprocAttr]
 refine Qas ?_
 apply QbE 2
 ·intro _;simp only[zz,simprocAttr];exact rfl
 ·simp only[List.drop_succ_cons,List.drop_zero]
  exact VO_panic rfl rfl
theorem Qjw(lim:Nat)(H:Qaa)(r:Nat)(s:Tx)(p:Nat)(c:UInt8)(gr:H[r]? =some (rdO s p))(hl:lim≤r)(hs:s.length≤16384)(h:s[p]? =some c):Ev (QaH code pr) 57 lim [.ptr r 0,.d (.int .u8 c.toNat)] H (.tuple []) (H.set r (rdO s (p+1))):=by
 refine @Fv.ev _ (QaH code pr) (QcH code pf pr fun _=>none) _ _ _ _ _ _ ?_
 have hp:=(List.getElem?_eq_some_iff.1 h).1
 have w1:IntKind.i64.wrap ((p:Int)+1)=((p+1:Nat):Int):=QlE (by omega)
 have f0:decide (p=s.length)=false:=by simp;omega
 have f1:((c.toNat:Int) !=(c.toNat:Int))=false:=by simp
 refine QoO (pn rfl) rfl (by first|exact rfl|exact pnP (pr:=pr) rfl) rfl (show code 57=some c57 from rfl) rfl ?_;simp only[List.length_cons,List.length_nil,List.cons_append,List.nil_append,simprocAttr]
 (repeat((first|refine Qkc ?_|refine QmE ?_|refine QeW ?_|refine Qc1 ?_|refine Qc0 ?_|(apply Qjr;focus(intro _;simp only[zz,simprocAttr,gr,QjM,f0,f1,h,Qeg,w1,hl];(first|done|with_reducible exact rfl)))|(refine QmC ?_ ?_;focus(simp only[zp,simprocAttr];done))|(refine QmD ?_ ?_;focus(simp only[zp,simprocAttr];done)))<;>(try simp only[zp,simprocAttr])))
 exact Qin rfl ⟨rfl,rfl⟩
theorem Qjx(lim:Nat)(H:Qaa)(r:Nat)(s:Tx)(p:Nat)(c:UInt8)(gr:H[r]? =some (rdO s p))(hp:p≤s.length)(h:s[p]? ≠some c):EvP (QcH code pf pr pP) 57 lim [.ptr r 0,.d (.int .u8 c.toNat)] H (QdV 11 p):=by
 refine Fv.evP (X:=(QaH code pr)) ?_
 refine QoO (pn rfl) rfl (by first|exact rfl|exact pnP (pr:=pr) rfl) rfl (show code 57=some c57 from rfl) rfl ?_;simp only[List.length_cons,List.length_nil,List.cons_append,List.nil_append,simprocAttr]
 by_cases q:p=s.length
 ·have f0:decide (p=s.length)=true:=by simp[q]
  (iterate 4 refine v_s (j_ gr (j_ @QjM f0)) ?_)
  refine Qas ?_;apply QbE 3;(focus(intro _;simp only[zz,simprocAttr,gr];(first|done|with_reducible exact rfl)));simp only[List.drop_succ_cons,List.drop_zero];refine QaJ rfl ?_;simp only[zz,simprocAttr]
  exact EvP.fv (Qbg _ _ r 11 p) rfl
 ·have f0:decide (p=s.length)=false:=by simp[q]
  have f1:=Qdt (s:=s) (p:=p) (by omega)
  have f2:(((nx s p).toNat:Int) !=(c.toNat:Int))=true:=by
   simp only[bne_iff_ne,ne_eq]
   intro e
   have:(nx s p).toNat=c.toNat:=by omega
   exact h (by rw[f1,UInt8.toNat_inj.1 this])
  (iterate 4 ((first|refine Qkc ?_|refine QmE ?_|refine QeW ?_|refine Qc1 ?_|refine Qc0 ?_|(apply Qjr;focus(intro _;simp only[zz,simprocAttr,gr,QjM,f0,f1,f2,Qeg];(first|done|with_reducible exact rfl)))|(refine QmC ?_ ?_;focus(simp only[zp,simprocAttr];done))|(refine QmD ?_ ?_;focus(simp only[zp,simprocAttr];done)))<;>(try simp only[zp,simprocAttr])))
  refine Qas ?_;apply QbE 3;(focus(intro _;simp only[zz,simprocAttr,gr];(first|done|with_reducible exact rfl)));simp only[List.drop_succ_cons,List.drop_zero];refine QaJ rfl ?_;simp only[zz,simprocAttr]
  exact EvP.fv (Qbg _ _ r 11 p) rfl
end Go.Proofs.YtmhmjlfajlpabaaDoor
namespace Go.Proofs.YtmhmjlfajlpabaaDoor
open Go Go.Abs
variable {pr:FuncId→Option QbO} {pP:FuncId→Option Qfy} [POK pr] [PPOK pr pP]
theorem QcE(s:Tx)(c:UInt8)(p:Nat):(s[p]? =some c∧QbP s c p= .ok (p+1))∨(s[p]? ≠some c∧QbP s c p= .error (11,p)):=by
 unfold QbP
 by_cases h:s[p]? =some c
 ·exact .inl ⟨h,by rw[if_pos h]⟩
 ·exact .inr ⟨h,by rw[if_neg h]⟩
abbrev flatD(k n:Int):D:= .agg [.int .i64 k,.int .i64 n,.str [],.slice [],.slice []]
abbrev flatC(k n:Int):List AV:= [intD k,intD n,.d (.str []),.fslice [],.fslice []]
theorem QmI{s:Tx}:∀ {w:Tx} {p:Nat},(∀j,j<w.length→s[p+j]? =w[j]?)→QbF s w p= .ok (p+w.length)
 | [],p,_=>rfl
 |c::w,p,h=>by
  unfold QbF
  have h0:=h 0 (by simp)
  rcases QcE s c p with⟨h1,h2⟩|⟨h1,h2⟩
  ·rw[h2]
   have:=QmI (s:=s) (w:=w) (p:=p+1) fun j hj=>by
    have:=h (j+1) (by simpa using hj)
    rw[show p+1+j=p+(j+1) by omega,this];simp
   simp only[this,List.length_cons]
   rw[show p+1+w.length=p+(w.length+1) by omega]
  ·exact absurd (by simpa using h0) h1
theorem QoT{s:Tx}:∀ {w:Tx} {p i:Nat},i<w.length→(∀j,j<i→s[p+j]? =w[j]?)→s[p+i]? ≠w[i]? →QbF s w p= .error (11,p+i)
 | [],p,i,hi,_,_=>by cases hi
 |c::w,p,0,_,_,hn=>by
  unfold QbF
  rcases QcE s c p with⟨h1,h2⟩|⟨h1,h2⟩
  ·exact absurd (by simpa using h1) hn
  ·rw[h2];rfl
 |c::w,p,i+1,hi,h,hn=>by
  unfold QbF
  have h0:=h 0 (by omega)
  rcases QcE s c p with⟨h1,h2⟩|⟨h1,h2⟩
  ·rw[h2]
   have:=QoT (s:=s) (w:=w) (p:=p+1) (i:=i) (by simpa using hi) (fun j hj=>by
    have:=h (j+1) (by omega)
    rw[show p+1+j=p+(j+1) by omega,this];simp) (by rw[show p+1+i=p+(i+1) by omega];simpa using hn)
   simp only[this]
   rw[show p+1+i=p+(i+1) by omega]
  ·exact absurd (by simpa using h0) h1
theorem two_more{H:Qaa}{r:Nat}{o:AObj}(gr:H[r]? =some o)(A B:AObj):∃KK:AObj→AObj→Qaa,(∀x y,KK x y=H.set r x++ [A,y])∧KK o B=H++ [A,B]∧(∀x y,(KK x y)[r]? =some x)∧(∀x y,(KK x y)[H.length]? =some A)∧(∀x y,(KK x y)[H.length+1]? =some y)∧
  (∀x x' y,(KK x y).set r x'=KK x' y)∧∀x y y',(KK x y).set (H.length+1) y'=KK x y':=by
 obtain⟨hr,e⟩:=List.getElem?_eq_some_iff.1 gr
 refine⟨fun x y=>H.set r x++ [A,y],fun _ _=>rfl, ?_,fun x y=> ?_,fun x y=> ?_,fun x y=> ?_,fun x x' y=> ?_,fun x y y'=> ?_⟩
 ·simp only;rw[←e,List.set_getElem_self hr]
 ·simp only;rw[List.getElem?_append_left (by simpa using hr)];simp[hr]
 ·simp only;rw[List.getElem?_append_right (by simp)];simp
 ·simp only;rw[List.getElem?_append_right (by simp)];simp
 ·simp only;rw[List.set_append_left _ _ (by simpa using hr),List.set_set]
 ·simp only;rw[List.set_append_right _ _ (by simp)];simp
theorem len_app2(H:Qaa)(A:AObj):(H++ [A]).length=H.length+1:=by simp
theorem app2(H:Qaa)(A B:AObj):H++ [A]++ [B]=H++ [A,B]:=by simp
theorem QlF(lim:Nat)(H:Qaa)(r:Nat)(s:Tx)(p:Nat)(w:Tx)(k n:Int)(gr:H[r]? =some (rdO s p))(hl:lim≤r)(hs:s.length≤16384)(hw:w.length≤10)(hp:p≤s.length):
  Fv (QaH code pr) (QcH code pf pr pP) 42 lim [.ptr r 0,.d (.str w),.agg [intD k,intD n,.d (.str []),.fslice [],.fslice []]] H (fun v H'=>∃q,QbF s w p= .ok q∧v= .d (flatD k n)∧H'=H.set r (rdO s q)) (fun z=>∃e,QbF s w p= .error e∧z=QdV e.1 e.2):=by
 refine QnJ (pn rfl) rfl (by first|exact rfl|exact pnP (pr:=pr) rfl) rfl (show code 42=some c42 from rfl) rfl ?_;simp only[List.length_cons,List.length_nil,List.cons_append,List.nil_append,simprocAttr]
 obtain⟨KK,kk0,kk1,kk2,kk3,kk4,kk5,kk6⟩:=two_more gr (.cells (flatC k n)) (.cells [intD 0,intD 0,.d (.str []),.fslice [],.fslice []])
 (iterate 4 refine v_s (j_ @len_app2 @app2) ?_)
 rw[←kk1]
 (iterate 2 refine v_s trivial ?_)
 refine V_lp (fun m st=>∃i,i≤w.length∧m=w.length-i∧(∀j,j<i→s[p+j]? =w[j]?)∧∃x:Nat→AV,st=⟨[.ptr r 0,.d (.str w),x 2,x 3,.ptr (H.length+1) 0,.ptr H.length 0,intD w.length,intD i,x 8,x 9],KK (rdO s (p+i)) (.cells [intD 0,intD 0,.d (.str []),.fslice [],.fslice []])⟩) ?_ _ _ ⟨0,Nat.zero_le _,rfl,fun j hj=>by omega,Qao _ _ _ rfl⟩
 rintro m _ ⟨i,hi,rfl,hm,x,rfl⟩
 have gi:=kk2 (rdO s (p+i)) (.cells [intD 0,intD 0,.d (.str []),.fslice [],.fslice []])
 by_cases h0:i<w.length
 ·have f0:decide ((i:Int)<(w.length:Int))=true:=by simp;omega
  have w1:IntKind.i64.wrap ((i:Int)+1)=((i+1:Nat):Int):=QlE (by omega)
  have hc:=Qdt h0
  by_cases h1:s[p+i]? =w[i]?
  ·rw[hc]at h1
   (repeat((first|refine Qkc ?_|refine QmE ?_|refine QeW ?_|refine Qc1 ?_|refine Qc0 ?_|(apply Qjr;focus(intro _;simp only[zz,simprocAttr,f0,hc,Qeg];(first|done|with_reducible exact rfl)))|(refine QmC ?_ ?_;focus(simp only[zp,simprocAttr];done))|(refine QmD ?_ ?_;focus(simp only[zp,simprocAttr];done)))<;>(try simp only[zp,simprocAttr])))
   refine Qas ?_;apply QbE 1;(focus(intro _;simp only[zz,simprocAttr,hc,Qeg];(first|done|with_reducible exact rfl)));simp only[List.drop_succ_cons,List.drop_zero];refine QaJ rfl ?_;simp only[zz,simprocAttr];refine Ev.fv (Qjw _ _ r s (p+i) (nx w i) gi hl hs h1) ?_
   (apply Qq4;(focus(intro _;simp only[zz,simprocAttr];(first|done|with_reducible exact rfl))))<;>(try simp only[zp,simprocAttr])
   refine v_r (j_ w1 kk5) ?_
   refine⟨w.length-(i+1),by omega,i+1,h0,rfl,fun j hj=> ?_,Qao _ _ _ rfl⟩
   rcases Nat.lt_or_ge j i with hji|hji
   ·exact hm j hji
   ·obtain rfl:j=i:=by omega
    rw[h1,hc]
  ·(repeat((first|refine Qkc ?_|refine QmE ?_|refine QeW ?_|refine Qc1 ?_|refine Qc0 ?_|(apply Qjr;focus(intro _;simp only[zz,simprocAttr,f0,hc,Qeg];(first|done|with_reducible exact rfl)))|(refine QmC ?_ ?_;focus(simp only[zp,simprocAttr];done))|(refine QmD ?_ ?_;focus(simp only[zp,simprocAttr];done)))<;>(try simp only[zp,simprocAttr])))
   refine Qas ?_
   apply QbE 1
   ·intro _;simp only[zz,simprocAttr,hc,Qeg];with_reducible exact rfl
   ·simp only[List.drop_succ_cons,List.drop_zero]
    refine QaJ rfl ?_
    simp only[zz,simprocAttr]
    have hpi:p+i≤s.length:=by
     cases i with
     |zero=>exact hp
     |succ i=>
      have h2:=hm i (by omega)
      rw[List.getElem?_eq_getElem (show i<w.length by omega)]at h2
      have:=(List.getElem?_eq_some_iff.1 h2).1
      omega
    exact EvP.fv (Qjx _ _ r s (p+i) (nx w i) gi hpi (by rw[←hc];exact h1)) ⟨(11,p+i),QoT h0 hm (by rw[hc,←hc];exact h1),rfl⟩
 ·obtain rfl:i=w.length:=by omega
  have f0:decide ((w.length:Int)<(w.length:Int))=false:=by simp
  have hl2:lim≤H.length+1:=by have:=(List.getElem?_eq_some_iff.1 gr).1;omega
  refine v_r (j_ f0 (j_ kk3 (j_ kk4 (j_ kk6 hl2)))) ?_
  refine Qca (vs:= [.d (flatD k n)]) ?_ (kk0 _ _) (List.getElem?_eq_some_iff.1 gr).1 rfl rfl ⟨p+w.length,QmI hm,rfl,rfl⟩
  simp only[Qcc,zz,simprocAttr,kk4]
end Go.Proofs.YtmhmjlfajlpabaaDoor
namespace Go.Proofs.YtmhmjlfajlpabaaDoor
open Go Go.Abs
variable {pr:FuncId→Option QbO} {pP:FuncId→Option Qfy} [POK pr] [PPOK pr pP]
abbrev HX:Tx:= [48,49,50,51,52,53,54,55,56,57,97,98,99,100,101,102,65,66,67,68,69,70]
def Qqe(c:UInt8):Bool:=match Qqd c with
 |none=>decide (Lib.indexByte HX c<0)
 |some v=>decide (v<16)&&(decide (Lib.indexByte HX c=v)||(decide (15<Lib.indexByte HX c)&&decide (Lib.indexByte HX c=v+6)))&&(decide (Lib.indexByte HX c≤15)||decide (Lib.indexByte HX c=v+6))
theorem hex_all:∀i:Fin 256,Qqe (UInt8.ofNat i.val)=true:=by decide+kernel
theorem hex_ok(c:UInt8):Qqe c=true:=by
 have:=hex_all ⟨c.toNat,c.toNat_lt⟩
 simpa using this
theorem i32n(a:Nat)(h:a<2147483648):IntKind.i32.wrap (a:Int)=a:=w32 (by omega) (by omega)
theorem shl4(n:Nat)(h:n<65536):QbQ .shl .i32 (n:Int) 4=some (.int .i32 ((n*16:Nat):Int)):=by
 have h1:QbQ .shl .i32 (n:Int) 4=some (.int .i32 (IntKind.i32.wrap ((n:Int)*2^4))):=rfl
 have:(n:Int)*2^4=((n*16:Nat):Int):=by omega
 rw[h1,this,i32n _ (by omega)]
theorem or4(n v:Nat)(h:n<65536)(hv:v<16):Qba .or .i32 ((n*16:Nat):Int) (v:Int)=some (.int .i32 ((n*16+v:Nat):Int)):=by
 have h1:Qba .or .i32 ((n*16:Nat):Int) (v:Int)=some (.int .i32 (IntKind.i32.wrap ((BitVec.ofInt 32 ((n*16:Nat):Int)|||BitVec.ofInt 32 (v:Int)).toNat:Nat))):=rfl
 have e:=Nat.shiftLeft_add_eq_or_of_lt (i:=4) (b:=v) (by omega) n
 rw[Nat.shiftLeft_eq]at e
 rw[h1,Qdp,Qdp,BitVec.toNat_or,BitVec.toNat_ofNat,BitVec.toNat_ofNat,Nat.mod_eq_of_lt (a:=n*16) (show n*16<2^32 by omega),Nat.mod_eq_of_lt (a:=v) (show v<2^32 by omega),←e,i32n _ (by omega)]
theorem Qh4:∀ {k n p m q:Nat} {s:Tx},Qbo s k n p= .ok (m,q)→m<(n+1)*16^k∧q=p+k∧(p≤s.length→q≤s.length)
 |0,n,p,m,q,s,h=>by unfold Qbo at h;cases h;exact⟨by omega,by omega,fun h=>h⟩
 |k+1,n,p,m,q,s,h=>by
  unfold Qbo at h
  split at h
  ·cases h
  ·rename_i c hc
   split at h
   ·cases h
   ·rename_i v hv
    obtain⟨h1,h2,h3⟩:=Qh4 h
    have hk:=hex_ok c
    unfold Qqe at hk
    rw[hv]at hk
    simp only[Bool.and_eq_true,decide_eq_true_eq]at hk
    have:=(List.getElem?_eq_some_iff.1 hc).1
    refine⟨?_,by omega,fun _=>h3 (by omega)⟩
    have h4:(16*n+v+1)*16^k≤(n+1)*16*16^k:=Nat.mul_le_mul_right _ (by omega)
    rw[Nat.pow_succ,Nat.mul_comm (16^k) 16,←Nat.mul_assoc]
    omega
abbrev i32D(n:Int):AV:= .d (.int .i32 n)
theorem QqF(lim:Nat)(H:Qaa)(r:Nat)(s:Tx)(p:Nat)(gr:H[r]? =some (rdO s p))(hl:lim≤r)(hs:s.length≤16384)(hp:p≤s.length):
  Fv (QaH code pr) (QcH code pf pr pP) 73 lim [.ptr r 0] H (fun v H'=>∃n q,Qbo s 4 0 p= .ok (n,q)∧v=i32D n∧H'=H.set r (rdO s q)) (fun z=>∃e,Qbo s 4 0 p= .error e∧z=QdV e.1 e.2):=by
 refine QoO (pn rfl) rfl (by first|exact rfl|exact pnP (pr:=pr) rfl) rfl (show code 73=some c73 from rfl) rfl ?_;simp only[List.length_cons,List.length_nil,List.cons_append,List.nil_append,simprocAttr]
 refine v_r trivial ?_
 refine V_lp (fun m st=>∃i n,i≤4∧m=4-i∧n<16^i∧p+i≤s.length∧Qbo s 4 0 p=Qbo s (4-i) n (p+i)∧∃x:Nat→AV,st=⟨[.ptr r 0,x 1,x 2,x 3,x 4,i32D n,intD i,x 7,x 8,x 9],H.set r (rdO s (p+i))⟩) ?_ _ _ ⟨0,0,by omega,rfl,by simp,hp,rfl,Qdu (QlW gr).symm rfl⟩
 rintro m _ ⟨i,n,hi,rfl,hn,hpi,hc,x,rfl⟩
 have gi:=Qhg gr (p+i)
 by_cases h0:i<4
 ·have f0:decide ((i:Int)<4)=true:=by simp;omega
  have w1:IntKind.i64.wrap ((i:Int)+1)=((i+1:Nat):Int):=QlE (by omega)
  have hk:=hex_ok (nx s (p+i))
  have hn2:n<65536:=Nat.lt_of_lt_of_le hn (Nat.pow_le_pow_right (by omega) (show i≤4 by omega))
  by_cases h1:p+i=s.length
  ·have f1:decide (p+i=s.length)=true:=by simp[h1]
   have he:Qbo s (4-i) n (p+i)= .error (11,p+i):=by
    rw[show 4-i=(3-i)+1 by omega];unfold Qbo
    rw[List.getElem?_eq_none (by omega)]
   refine v_r f0 ?_
   (apply Qa6;focus(refine Evl.call (X:=(QaH code pr)) (QbA lim (H.set r (rdO s (p+i))) r s (p+i) gi hpi) (Evl.call (X:=(QaH code pr)) (QhG lim (H.set r (rdO s (p+i))) HX (nx s (p+i))) (Evl.all fun k e2 e1=> ?_));simp(maxSteps:=100000000) only[zz,zd,simprocAttr,e2,e1];(first|done|with_reducible exact rfl)))<;>(try simp only[zp,simprocAttr])
   refine v_r (j_ gi (j_ @QjM f1)) ?_
   refine Qas ?_;apply QbE 3;(focus(intro _;simp only[zz,simprocAttr,gi];(first|done|with_reducible exact rfl)));simp only[List.drop_succ_cons,List.drop_zero];refine QaJ rfl ?_;simp only[zz,simprocAttr]
   exact EvP.fv (Qbg _ _ r 11 (p+i)) ⟨_,by rw[hc,he],rfl⟩
  ·have f1:decide (p+i=s.length)=false:=by simp[h1]
   have hat:=Qdt (s:=s) (p:=p+i) (by omega)
   cases hv:Qqd (nx s (p+i))with
   |none=>
    unfold Qqe at hk
    rw[hv]at hk
    have he:Qbo s (4-i) n (p+i)= .error (11,p+i):=by
     rw[show 4-i=(3-i)+1 by omega];unfold Qbo
     rw[hat];simp only[hv]
    refine v_r f0 ?_
    (apply Qa6;focus(refine Evl.call (X:=(QaH code pr)) (QbA lim (H.set r (rdO s (p+i))) r s (p+i) gi hpi) (Evl.call (X:=(QaH code pr)) (QhG lim (H.set r (rdO s (p+i))) HX (nx s (p+i))) (Evl.all fun k e2 e1=> ?_));simp(maxSteps:=100000000) only[zz,zd,simprocAttr,e2,e1];(first|done|with_reducible exact rfl)))<;>(try simp only[zp,simprocAttr])
    refine v_r (j_ gi (j_ @QjM (j_ f1 hk))) ?_
    refine Qas ?_;apply QbE 3;(focus(intro _;simp only[zz,simprocAttr,gi];(first|done|with_reducible exact rfl)));simp only[List.drop_succ_cons,List.drop_zero];refine QaJ rfl ?_;simp only[zz,simprocAttr]
    exact EvP.fv (Qbg _ _ r 11 (p+i)) ⟨_,by rw[hc,he],rfl⟩
   |some v=>
    unfold Qqe at hk
    rw[hv]at hk
    simp only[Bool.and_eq_true,Bool.or_eq_true,decide_eq_true_eq]at hk
    obtain⟨⟨hv16,hk1⟩,hk2⟩:=hk
    have he:Qbo s (4-i) n (p+i)=Qbo s (4-(i+1)) (16*n+v) (p+(i+1)):=by
     rw[show 4-i=(3-i)+1 by omega,show 4-(i+1)=3-i by omega]
     conv=>lhs;unfold Qbo
     rw[hat];simp only[hv];rfl
    have f2:decide (Lib.indexByte HX (nx s (p+i))<0)=false:=by simp;omega
    have s4:=shl4 n hn2
    have o4:=or4 n v hn2 hv16
    have wv:IntKind.i32.wrap (v:Int)=v:=i32n v (by omega)
    have wp:IntKind.i64.wrap (((p+i:Nat):Int)+1)=((p+(i+1):Nat):Int):=by rw[QlE (by omega)];rfl
    have hn3:n*16+v<16^(i+1):=by rw[Nat.pow_succ];omega
    refine v_r f0 ?_
    (apply Qa6;focus(refine Evl.call (X:=(QaH code pr)) (QbA lim (H.set r (rdO s (p+i))) r s (p+i) gi hpi) (Evl.call (X:=(QaH code pr)) (QhG lim (H.set r (rdO s (p+i))) HX (nx s (p+i))) (Evl.all fun k e2 e1=> ?_));simp(maxSteps:=100000000) only[zz,zd,simprocAttr,e2,e1];(first|done|with_reducible exact rfl)))<;>(try simp only[zp,simprocAttr])
    rcases Int.lt_or_le 15 (Lib.indexByte HX (nx s (p+i)))with h2|h2
    ·have e6:Lib.indexByte HX (nx s (p+i))=v+6:=by rcases hk1 with h|h<;>rcases hk2 with h'|h'<;>omega
     have f3:decide (Lib.indexByte HX (nx s (p+i))>15)=true:=by simp;omega
     have w2:IntKind.i64.wrap (Lib.indexByte HX (nx s (p+i))-6)=(v:Int):=by rw[e6,w64 (by omega) (by omega)];omega
     (repeat((first|refine Qkc ?_|refine QmE ?_|refine QeW ?_|refine Qc1 ?_|refine Qc0 ?_|(apply Qjr;focus(intro _;simp only[zz,simprocAttr,gi,QjM,f1,f2,f3,w2,s4,o4,wv,wp,hl,Qd2,w1];(first|done|with_reducible exact rfl)))|(refine QmC ?_ ?_;focus(simp only[zp,simprocAttr];done))|(refine QmD ?_ ?_;focus(simp only[zp,simprocAttr];done)))<;>(try simp only[zp,simprocAttr])))
     refine⟨4-(i+1),by omega,i+1,n*16+v,by omega,rfl,hn3,by omega,by rw[hc,he,Nat.mul_comm 16 n],Qao _ _ _ rfl⟩
    ·have e6:Lib.indexByte HX (nx s (p+i))=v:=by rcases hk1 with h|h<;>rcases hk2 with h'|h'<;>omega
     have f3:decide (Lib.indexByte HX (nx s (p+i))>15)=false:=by simp;omega
     refine v_r (j_ gi (j_ @QjM (j_ f1 (j_ f2 f3)))) ?_
     (repeat((first|refine Qkc ?_|refine QmE ?_|refine QeW ?_|refine Qc1 ?_|refine Qc0 ?_|(apply Qjr;focus(intro _;simp only[zz,simprocAttr,gi,e6,s4,o4,wv,wp,hl,Qd2,w1];(first|done|with_reducible exact rfl)))|(refine QmC ?_ ?_;focus(simp only[zp,simprocAttr];done))|(refine QmD ?_ ?_;focus(simp only[zp,simprocAttr];done)))<;>(try simp only[zp,simprocAttr])))
     refine⟨4-(i+1),by omega,i+1,n*16+v,by omega,rfl,hn3,by omega,by rw[hc,he,Nat.mul_comm 16 n],Qao _ _ _ rfl⟩
 ·obtain rfl:i=4:=by omega
  have f0:decide (((4:Nat):Int)<4)=false:=by simp
  refine v_r f0 ?_
  exact Qbe rfl ⟨n,p+4,by rw[hc];rfl,rfl,rfl⟩
end Go.Proofs.YtmhmjlfajlpabaaDoor
namespace Go.Proofs.YtmhmjlfajlpabaaDoor
open Go Go.Abs
theorem nx_end'{s:Tx}{p:Nat}(h:s.length≤p):nx s p=0:=by
 unfold nx;rw[List.getElem?_eq_none h];rfl
theorem Qfc{s:Tx}{p:Nat}(h:nx s p≠0):p<s.length:=by
 rcases Nat.lt_or_ge p s.length with h1|h1
 ·exact h1
 ·exact absurd (nx_end' h1) h
theorem QiA{c k:UInt8}{n:Int}(h:c=k)(hn:(k.toNat:Int)=n):((c.toNat:Int)==n)=true:=by subst h;simpa using hn
theorem Qir{c k:UInt8}{n:Int}(h:c≠k)(hn:(k.toNat:Int)=n):((c.toNat:Int)==n)=false:=by
 rw[Bool.eq_false_iff]
 intro e
 have:(c.toNat:Int)=n:=by simpa using e
 exact h (UInt8.toNat_inj.1 (by omega))
theorem Qbz(s:Tx)(p:Nat):p≤Qac s p∧(p≤s.length→Qac s p≤s.length):=by
 unfold Qac
 have:=(List.takeWhile_prefix (p:=Qaj) (l:=s.drop p)).length_le
 rw[List.length_drop]at this
 omega
theorem QeI{s:Tx}{c:UInt8}{p q:Nat}(h:QbP s c p= .ok q):q=p+1∧q≤s.length:=by
 unfold QbP at h
 split at h
 ·rename_i h1;have:=(List.getElem?_eq_some_iff.1 h1).1;cases h;omega
 ·cases h
theorem Qju{s:Tx}:∀ {w:Tx} {p q:Nat},QbF s w p= .ok q→q=p+w.length∧(p≤s.length→q≤s.length)
 | [],p,q,h=>by cases h;exact⟨rfl,fun h=>h⟩
 |c::w,p,q,h=>by
  unfold QbF at h
  split at h
  ·rename_i q' h1
   obtain⟨rfl,h2⟩:=QeI h1
   have:=Qju h
   simp only[List.length_cons];omega
  ·cases h
theorem Qlh{s:Tx}{first:Nat}:∀ {f n p m q:Nat},Qa0 s first f n p= .ok (m,q)→p≤q∧(p≤s.length→q≤s.length)∧(QaE (nx s p)=true→p<q)
 |0,_,_,_,_,h=>by cases h
 |f+1,n,p,m,q,h=>by
  unfold Qa0 at h
  split at h
  ·rename_i hd
   split at h
   ·cases h
   ·have hp:p<s.length:=Qfc fun h=>by rw[h]at hd;cases hd
    have:=Qlh h
    omega
  ·rename_i hd
   cases h;exact⟨Nat.le_refl _,fun h=>h,fun h=>absurd h hd⟩
theorem QpN{s:Tx}{p q:Nat}{j:J}(h:QaZ s p= .ok (j,q)):p<q∧q≤s.length:=by
 unfold QaZ at h
 simp only at h
 generalize hf:(if nx s p=45 then p+1 else p)=f at h
 have hpf:p≤f:=by rw[←hf];split<;>omega
 split at h
 ·rename_i hd
  split at h
  ·cases h
  ·rename_i n q' h1
   split at h
   ·cases h
   ·have hl:f<s.length:=Qfc fun h=>by rw[h]at hd;cases hd
    have:=Qlh h1
    have:=this.2.2 hd
    cases h;omega
 ·cases h
theorem Qms{s:Tx}:∀ {k n p m q:Nat},Qbo s k n p= .ok (m,q)→p≤q∧(p≤s.length→q≤s.length)
 |0,n,p,m,q,h=>by unfold Qbo at h;cases h;omega
 |k+1,n,p,m,q,h=>by
  unfold Qbo at h
  split at h
  ·cases h
  ·rename_i c hc
   have:=(List.getElem?_eq_some_iff.1 hc).1
   split at h
   ·cases h
   ·have:=Qms h;omega
theorem Qqt{s:Tx}{p n q:Nat}(h:QdR s p= .ok (n,q)):p<q∧q≤s.length:=by
 unfold QdR at h
 split at h
 ·cases h
 ·rename_i c hc
  have hl:=(List.getElem?_eq_some_iff.1 hc).1
  iterate 6 (split at h;· have:=congrArg Prod.snd (Except.ok.inj h);simp only at this;omega)
  split at h
  ·split at h
   ·cases h
   ·rename_i n1 p1 h1
    have:=Qms h1
    split at h
    ·have:=congrArg Prod.snd (Except.ok.inj h);simp only at this;omega
    ·split at h
     ·cases h
     ·rename_i hh
      have h92:s[p1]? =some 92∧s[p1+1]? =some 117:=Classical.byContradiction fun k=>hh (.inr k)
      have:=(List.getElem?_eq_some_iff.1 h92.2).1
      split at h
      ·cases h
      ·rename_i n2 p2 h2
       have:=Qms h2
       split at h
       ·cases h
       ·have:=congrArg Prod.snd (Except.ok.inj h);simp only at this;omega
  ·cases h
theorem Qj6{s:Tx}:∀ {f:Nat} {acc:Tx} {p q:Nat} {t:Tx},QaW s f acc p= .ok (t,q)→p<q∧q≤s.length
 |0,_,_,_,_,h=>by cases h
 |f+1,acc,p,q,t,h=>by
  unfold QaW at h
  split at h
  ·cases h
  ·rename_i c hc
   have hl:=(List.getElem?_eq_some_iff.1 hc).1
   split at h
   ·cases h
   ·split at h
    ·cases h;omega
    ·split at h
     ·split at h
      ·cases h
      ·rename_i n1 p1 h1
       have:=Qqt h1
       have:=Qj6 h
       omega
     ·have:=Qj6 h;omega
theorem QlJ{s:Tx}{p q:Nat}{t:Tx}(h:Qbq s p= .ok (t,q)):p<q∧q≤s.length:=by
 unfold Qbq at h
 split at h
 ·cases h
 ·rename_i p1 h1
  have:=QeI h1
  have:=Qj6 h
  omega
theorem Qc9{s:Tx}{first:Bool}{e:UInt8}{p q:Nat}{b:Bool}(h:QbI s first e p= .ok (b,q)):p≤q∧(p≤s.length→q≤s.length)∧(b=false→p<q):=by
 unfold QbI at h
 simp only at h
 have hb:=Qbz s p
 split at h
 ·rename_i h1;have:=(List.getElem?_eq_some_iff.1 h1).1;cases h;refine⟨by omega,fun _=>by omega,fun _=>by omega⟩
 ·split at h
  ·cases h;exact⟨hb.1,hb.2,fun h=>by cases h⟩
  ·split at h
   ·cases h
   ·rename_i q1 h1
    have:=QeI h1
    have hb2:=Qbz s q1
    cases h;exact⟨by omega,fun _=>hb2.2 (by omega),fun h=>by cases h⟩
theorem all_lt(s:Tx):∀f:Nat,(∀deep p j q,QaB s f deep p= .ok (j,q)→p<q∧(q≤s.length))∧
  (∀deep first acc p l q,Qbs s f deep first acc p= .ok (l,q)→p<q∧(p≤s.length→q≤s.length))∧
  (∀deep first ks acc p k l q,QaN s f deep first ks acc p= .ok (k,l,q)→p<q∧(p≤s.length→q≤s.length)):=by
 intro f
 induction f with
 |zero=>
  refine⟨fun _ _ _ _ h=> ?_,fun _ _ _ _ _ _ h=> ?_,fun _ _ _ _ _ _ _ _ h=> ?_⟩
  ·unfold QaB at h;cases h
  ·unfold Qbs at h;cases h
  ·unfold QaN at h;cases h
 |succ f ih=>
  refine⟨fun deep p j q h=> ?_,fun deep first acc p l q h=> ?_,fun deep first ks acc p k l q h=> ?_⟩
  ·unfold QaB at h
   split at h
   ·cases h
   split at h
   ·rename_i hc
    have hp:p<s.length:=Qfc (by rw[hc];decide)
    split at h
    ·cases h
    ·rename_i l q' h1
     have:=ih.2.1 _ _ _ _ _ _ h1
     cases h;omega
   split at h
   ·rename_i hc
    have hp:p<s.length:=Qfc (by rw[hc];decide)
    split at h
    ·cases h
    ·rename_i k l q' h1
     have:=ih.2.2 _ _ _ _ _ _ _ _ h1
     cases h;omega
   split at h
   ·split at h
    ·cases h
    ·rename_i t q' h1
     have:=QlJ h1
     cases h;exact this
   split at h
   ·rename_i hc
    have hp:p<s.length:=Qfc (by rw[hc];decide)
    split at h
    ·cases h
    ·rename_i q' h1
     have:=Qju h1
     cases h;simp only[List.length_cons,List.length_nil]at this;omega
   split at h
   ·rename_i hc
    have hp:p<s.length:=Qfc (by rw[hc];decide)
    split at h
    ·cases h
    ·rename_i q' h1
     have:=Qju h1
     cases h;simp only[List.length_cons,List.length_nil]at this;omega
   split at h
   ·rename_i hc
    have hp:p<s.length:=Qfc (by rw[hc];decide)
    split at h
    ·cases h
    ·rename_i q' h1
     have:=Qju h1
     cases h;simp only[List.length_cons,List.length_nil]at this;omega
   exact QpN h
  ·unfold Qbs at h
   split at h
   ·cases h
   ·rename_i q' h1
    have:=Qc9 h1
    have:=this.2.2 rfl
    cases h;omega
   ·rename_i p' h1
    have:=Qc9 h1
    split at h
    ·cases h
    ·rename_i j q' h2
     have:=ih.1 _ _ _ _ h2
     have:=ih.2.1 _ _ _ _ _ _ h
     omega
  ·unfold QaN at h
   split at h
   ·cases h
   ·rename_i q' h1
    have:=Qc9 h1
    have:=this.2.2 rfl
    cases h;omega
   ·rename_i p' h1
    have:=Qc9 h1
    split at h
    ·cases h
    ·rename_i k' q' h2
     have:=QlJ h2
     split at h
     ·cases h
     ·split at h
      ·cases h
      ·rename_i r h3
       have:=QeI h3
       split at h
       ·cases h
       ·rename_i j z h4
        have:=ih.1 _ _ _ _ h4
        have:=ih.2.2 _ _ _ _ _ _ _ _ h
        have:=Qbz s q'
        have:=Qbz s r
        omega
theorem QgE{s:Tx}{f deep p q:Nat}{j:J}(h:QaB s f deep p= .ok (j,q)):p<q∧q≤s.length:=(all_lt s f).1 _ _ _ _ h
variable {pr:FuncId→Option QbO} {pP:FuncId→Option Qfy} [POK pr] [PPOK pr pP]
theorem Qpu(lim:Nat)(H:Qaa)(a b:Tx)(ha:a.length≤16384):Ev (QaH code pr) 74 lim [.d (.str a),.d (.str b)] H (boolD (b.isPrefixOf a)) H:=by
 have e1:∀lim,Ev (QaH code pr) 81 lim [.d (.str a),.d (.str b)] H (boolD (b.isPrefixOf a)) H:=fun lim=>by
  refine Fn.ev ?_
  refine Qa2 (pn rfl) rfl (show code 81=some c81 from rfl) rfl ?_;simp only[List.length_cons,List.length_nil,List.cons_append,List.nil_append,simprocAttr]
  by_cases h:b.length≤a.length
  ·have f0:decide ((a.length:Int)≥(b.length:Int))=true:=by simp;omega
   have f1:((b.length:Int)≤(a.length:Int))=True:=eq_true (by omega)
   have f2:(a.take b.length==b)=b.isPrefixOf a:=by
    rw[Bool.eq_iff_iff]
    simp only[beq_iff_eq,List.isPrefixOf_iff_prefix]
    exact⟨fun h=>⟨a.drop b.length,(congrArg (· ++a.drop b.length) h.symm).trans (List.take_append_drop _ _)⟩,fun⟨t,ht⟩=>by rw[←ht];simp⟩
   refine w_r (j_ f0 (j_ f1 f2)) ?_
   exact Qad rfl rfl ⟨rfl,rfl⟩
  ·have f0:decide ((a.length:Int)≥(b.length:Int))=false:=by simp;omega
   have f2:b.isPrefixOf a=false:=by
    rw[Bool.eq_false_iff]
    intro hp
    have:=(List.isPrefixOf_iff_prefix.1 hp).length_le
    omega
   refine w_r f0 ?_
   exact Qad rfl rfl ⟨by rw[f2],rfl⟩
 refine Fn.ev ?_
 refine Qa2 (pn rfl) rfl (show code 74=some c74 from rfl) rfl ?_;simp only[List.length_cons,List.length_nil,List.cons_append,List.nil_append,simprocAttr]
 (iterate 3 refine w_s trivial ?_)
 refine w_1 (e1 H.length) trivial ?_
 refine w_r trivial ?_
 exact Qad rfl rfl ⟨rfl,rfl⟩
abbrev EX:Tx:= [34,92,47,98,102,110,114,116,117]
theorem idx_lt(l:Tx)(c:UInt8):decide (Lib.indexByte l c<0)= !l.contains c:=by
 rw[←Qqc,Bool.eq_iff_iff];simp
theorem Qny{s:Tx}{p:Nat}(h:s[p]? =none∨∃c,s[p]? =some c∧EX.contains c=false):QdR s p= .error (11,p):=by
 unfold QdR
 rcases h with h|⟨c,h,hc⟩
 ·rw[h]
 ·rw[h]
  simp only[List.contains_cons,List.contains_nil,Bool.or_false,Bool.or_eq_false_iff,beq_eq_false_iff_ne,ne_eq]at hc
  obtain⟨h1,h2,h3,h4,h5,h6,h7,h8,h9⟩:=hc
  simp only[h1,h2,h3,h4,h5,h6,h7,h8,h9,or_self,if_false]
theorem esc_u{s:Tx}{p:Nat}(h:s[p]? =some 117):QdR s p=match Qbo s 4 0 (p+1)with
  |.error e=> .error e
  |.ok (n,p')=>if n<55296∨57343<n then .ok (n,p')
   else if 56320≤n∨¬(s[p']? =some 92∧s[p'+1]? =some 117)then .error (11,p-1)
   else match Qbo s 4 0 (p'+2)with
    |.error e=> .error e
    |.ok (m,q)=>if m<56320∨57343<m then .error (11,p-1)else .ok (65536+(n-55296)*1024+(m-56320),q):=by
 conv=>lhs;unfold QdR
 rw[h];rfl
theorem pre_two(s:Tx)(q:Nat):([92,117]:Tx).isPrefixOf (s.drop q)=decide (s[q]? =some 92∧s[q+1]? =some 117):=by
 have e0:s[q]? =(s.drop q)[0]? :=by simp
 have e1:s[q+1]? =(s.drop q)[1]? :=by simp
 rw[e0,e1]
 rcases s.drop q with _|⟨a,_|⟨b,l⟩⟩
 ·rfl
 ·simp[List.isPrefixOf]
 ·simp only[List.isPrefixOf,Bool.and_true,List.getElem?_cons_zero,List.getElem?_cons_succ,Option.some.injEq]
  rw[Bool.eq_iff_iff];simp only[Bool.and_eq_true,beq_iff_eq,decide_eq_true_eq]
  exact⟨fun⟨h1,h2⟩=>⟨h1.symm,h2.symm⟩,fun⟨h1,h2⟩=>⟨h1.symm,h2.symm⟩⟩
theorem shl10(n:Nat)(h:n<65536):QbQ .shl .i32 (n:Int) 10=some (.int .i32 ((n*1024:Nat):Int)):=by
 have h1:QbQ .shl .i32 (n:Int) 10=some (.int .i32 (IntKind.i32.wrap ((n:Int)*2^10))):=rfl
 have:(n:Int)*2^10=((n*1024:Nat):Int):=by omega
 rw[h1,this,i32n _ (by omega)]
theorem esc_ev(lim:Nat)(H:Qaa)(r:Nat)(s:Tx)(p:Nat)(gr:H[r]? =some (rdO s p))(hl:lim≤r)(hs:s.length≤16384)(hp:p≤s.length)(h1:1≤p):
  Fv (QaH code pr) (QcH code pf pr pP) 60 lim [.ptr r 0] H (fun v H'=>∃n q,QdR s p= .ok (n,q)∧v=i32D n∧H'=H.set r (rdO s q)) (fun z=>∃e,QdR s p= .error e∧z=QdV e.1 e.2):=by
 have wm:IntKind.i64.wrap ((p:Int)-1)=((p-1:Nat):Int):=by rw[w64 (by omega) (by omega)];omega
 have wp:IntKind.i64.wrap ((p:Int)+1)=((p+1:Nat):Int):=QlE (by omega)
 have gp:=Qhg gr (p+1)
 have f2:=idx_lt EX (nx s p)
 refine QoO (pn rfl) rfl (by first|exact rfl|exact pnP (pr:=pr) rfl) rfl (show code 60=some c60 from rfl) rfl ?_;simp only[List.length_cons,List.length_nil,List.cons_append,List.nil_append,simprocAttr]
 refine v_r (j_ gr wm) ?_
 (apply Qa6;focus(refine Evl.call (X:=(QaH code pr)) (QbA lim H r s p gr hp) (Evl.all fun k e1=> ?_);simp(maxSteps:=100000000) only[zz,zd,simprocAttr,e1];(first|done|with_reducible exact rfl)))<;>(try simp only[zp,simprocAttr])
 refine v_r trivial ?_
 (apply Qa6;focus(refine Evl.call (X:=(QaH code pr)) (QhG lim H EX (nx s p)) (Evl.all fun k e1=> ?_);simp(maxSteps:=100000000) only[zz,zd,simprocAttr,e1];(first|done|with_reducible exact rfl)))<;>(try simp only[zp,simprocAttr])
 by_cases hq:p=s.length
 ·have f1:decide (p=s.length)=true:=by simp[hq]
  refine v_r (j_ gr (j_ @QjM f1)) ?_
  refine Qas ?_;apply QbE 3;(focus(intro _;simp only[zz,simprocAttr,gr];(first|done|with_reducible exact rfl)));simp only[List.drop_succ_cons,List.drop_zero];refine QaJ rfl ?_;simp only[zz,simprocAttr]
  exact EvP.fv (Qbg _ _ r 11 p) ⟨_,Qny (.inl (List.getElem?_eq_none (by omega))),rfl⟩
 have f1:decide (p=s.length)=false:=by simp[hq]
 have hat:=Qdt (s:=s) (p:=p) (by omega)
 cases hc:EX.contains (nx s p)with
 |false=>
  rw[hc]at f2
  refine v_r (j_ gr (j_ @QjM (j_ f1 f2))) ?_
  refine Qas ?_;apply QbE 3;(focus(intro _;simp only[zz,simprocAttr,gr];(first|done|with_reducible exact rfl)));simp only[List.drop_succ_cons,List.drop_zero];refine QaJ rfl ?_;simp only[zz,simprocAttr]
  exact EvP.fv (Qbg _ _ r 11 p) ⟨_,Qny (.inr ⟨_,hat,hc⟩),rfl⟩
 |true=>
  rw[hc]at f2
  have hin:nx s p=34∨nx s p=92∨nx s p=47∨nx s p=98∨nx s p=102∨nx s p=110∨nx s p=114∨nx s p=116∨nx s p=117:=by simpa using hc
  refine v_r (j_ gr (j_ @QjM (j_ f1 f2))) ?_
  rcases hin with e|e|e|e|e|e|e|e|e
  ·have ec:((nx s p).toNat:Int)=34:=by rw[e];rfl
   have wc:IntKind.i32.wrap 34=34:=by decide
   refine v_r (j_ gr (j_ wp (j_ hl (j_ ec wc)))) ?_
   exact Qbe rfl ⟨34,p+1,by unfold QdR;rw[hat,e];rfl,rfl,rfl⟩
  ·have ec:((nx s p).toNat:Int)=92:=by rw[e];rfl
   have wc:IntKind.i32.wrap 92=92:=by decide
   refine v_r (j_ gr (j_ wp (j_ hl (j_ ec wc)))) ?_
   exact Qbe rfl ⟨92,p+1,by unfold QdR;rw[hat,e];rfl,rfl,rfl⟩
  ·have ec:((nx s p).toNat:Int)=47:=by rw[e];rfl
   have wc:IntKind.i32.wrap 47=47:=by decide
   refine v_r (j_ gr (j_ wp (j_ hl (j_ ec wc)))) ?_
   exact Qbe rfl ⟨47,p+1,by unfold QdR;rw[hat,e];rfl,rfl,rfl⟩
  ·have ec:((nx s p).toNat:Int)=98:=by rw[e];rfl
   have wc:IntKind.i32.wrap 98=98:=by decide
   refine v_r (j_ gr (j_ wp (j_ hl (j_ ec wc)))) ?_
   exact Qbe rfl ⟨8,p+1,by unfold QdR;rw[hat,e];rfl,rfl,rfl⟩
  ·have ec:((nx s p).toNat:Int)=102:=by rw[e];rfl
   have wc:IntKind.i32.wrap 102=102:=by decide
   refine v_r (j_ gr (j_ wp (j_ hl (j_ ec wc)))) ?_
   exact Qbe rfl ⟨12,p+1,by unfold QdR;rw[hat,e];rfl,rfl,rfl⟩
  ·have ec:((nx s p).toNat:Int)=110:=by rw[e];rfl
   have wc:IntKind.i32.wrap 110=110:=by decide
   refine v_r (j_ gr (j_ wp (j_ hl (j_ ec wc)))) ?_
   exact Qbe rfl ⟨10,p+1,by unfold QdR;rw[hat,e];rfl,rfl,rfl⟩
  ·have ec:((nx s p).toNat:Int)=114:=by rw[e];rfl
   have wc:IntKind.i32.wrap 114=114:=by decide
   refine v_r (j_ gr (j_ wp (j_ hl (j_ ec wc)))) ?_
   exact Qbe rfl ⟨13,p+1,by unfold QdR;rw[hat,e];rfl,rfl,rfl⟩
  ·have ec:((nx s p).toNat:Int)=116:=by rw[e];rfl
   have wc:IntKind.i32.wrap 116=116:=by decide
   refine v_r (j_ gr (j_ wp (j_ hl (j_ ec wc)))) ?_
   exact Qbe rfl ⟨9,p+1,by unfold QdR;rw[hat,e];rfl,rfl,rfl⟩
  have ec:((nx s p).toNat:Int)=117:=by rw[e];rfl
  have hu:=esc_u (s:=s) (p:=p) (by rw[hat,e])
  refine v_r (j_ gr (j_ wp (j_ hl ec))) ?_
  refine Qas ?_;refine QaJ rfl ?_;simp only[zz,simprocAttr]
  refine Fv.mono (QqF _ _ r s (p+1) gp hl hs (by omega)) ?_ ?_
  rotate_left
  ·rintro z ⟨e',he,rfl⟩
   exact⟨e',by rw[hu,he],rfl⟩
  rintro v H' ⟨n,q,hcode,rfl,rfl⟩
  rw[hcode]at hu
  simp only at hu
  obtain⟨hn,-,hq2⟩:=Qh4 hcode
  have hq2:=hq2 (by omega)
  rw[Qd2]
  have gq:=Qhg gr q
  (apply Qq4;(focus(intro _;simp only[zz,simprocAttr];(first|done|with_reducible exact rfl))))<;>(try simp only[zp,simprocAttr])
  by_cases c1:n<55296
  ·have g1:decide ((n:Int)<55296)=true:=by simp;omega
   rw[if_pos (.inl c1)]at hu
   refine v_r g1 ?_
   exact Qbe rfl ⟨n,q,hu,rfl,rfl⟩
  have g1:decide ((n:Int)<55296)=false:=by simp;omega
  by_cases c2:57343<n
  ·have g2:decide ((n:Int)>57343)=true:=by simp;omega
   rw[if_pos (.inr c2)]at hu
   refine v_r (j_ g1 g2) ?_
   exact Qbe rfl ⟨n,q,hu,rfl,rfl⟩
  have g2:decide ((n:Int)>57343)=false:=by simp;omega
  rw[if_neg (by omega)]at hu
  by_cases c3:56320≤n
  ·have g3:decide ((n:Int)≥56320)=true:=by simp;omega
   rw[if_pos (.inl c3)]at hu
   refine v_r (j_ g1 (j_ g2 g3)) ?_
   refine Qas ?_;refine QaJ rfl ?_;simp only[zz,simprocAttr]
   exact EvP.fv (Qbg _ _ r 11 (p-1)) ⟨_,hu,rfl⟩
  have g3:decide ((n:Int)≥56320)=false:=by simp;omega
  have hpre:=Qpu (pr:=pr) lim (H.set r (rdO s q)) (s.drop q) [92,117] (by rw[List.length_drop];omega)
  rw[pre_two]at hpre
  have sl1:((q:Int)≤(s.length:Int))=True:=eq_true (by omega)
  have sl2:s.take s.length=s:=List.take_length
  by_cases c4:s[q]? =some 92∧s[q+1]? =some 117
  ·rw[decide_eq_true c4]at hpre
   rw[if_neg (by rintro(h|h);exact c3 h;exact h c4)]at hu
   have wq:IntKind.i64.wrap ((q:Int)+2)=((q+2:Nat):Int):=by rw[w64 (by omega) (by omega)];omega
   have hql:=(List.getElem?_eq_some_iff.1 c4.2).1
   refine v_r (j_ g1 g2) ?_
   (apply Qa6;focus(refine Evl.call (X:=(QaH code pr)) (hpre) (Evl.all fun k e1=> ?_);simp(maxSteps:=100000000) only[zz,zd,simprocAttr,gq,g3,sl1,sl2,e1];(first|done|with_reducible exact rfl)))<;>(try simp only[zp,simprocAttr])
   (repeat((first|refine Qkc ?_|refine QmE ?_|refine QeW ?_|refine Qc1 ?_|refine Qc0 ?_|(apply Qjr;focus(intro _;simp only[zz,simprocAttr,gq,wq,hl,Qd2];(first|done|with_reducible exact rfl)))|(refine QmC ?_ ?_;focus(simp only[zp,simprocAttr];done))|(refine QmD ?_ ?_;focus(simp only[zp,simprocAttr];done)))<;>(try simp only[zp,simprocAttr])))
   have gq2:=Qhg gr (q+2)
   refine Qas ?_;refine QaJ rfl ?_;simp only[zz,simprocAttr]
   refine Fv.mono (QqF _ _ r s (q+2) gq2 hl hs (by omega)) ?_ ?_
   rotate_left
   ·rintro z ⟨e',he,rfl⟩
    rw[he]at hu
    exact⟨e',hu,rfl⟩
   rintro v H' ⟨m,q3,hcode2,rfl,rfl⟩
   rw[hcode2]at hu
   simp only at hu
   obtain⟨hm,-,-⟩:=Qh4 hcode2
   rw[Qd2]
   (apply Qq4;(focus(intro _;simp only[zz,simprocAttr];(first|done|with_reducible exact rfl))))<;>(try simp only[zp,simprocAttr])
   by_cases d1:m<56320
   ·have g4:decide ((m:Int)<56320)=true:=by simp;omega
    rw[if_pos (.inl d1)]at hu
    refine v_r g4 ?_
    refine Qas ?_;refine QaJ rfl ?_;simp only[zz,simprocAttr]
    exact EvP.fv (Qbg _ _ r 11 (p-1)) ⟨_,hu,rfl⟩
   have g4:decide ((m:Int)<56320)=false:=by simp;omega
   by_cases d2:57343<m
   ·have g5:decide ((m:Int)>57343)=true:=by simp;omega
    rw[if_pos (.inr d2)]at hu
    refine v_r (j_ g4 g5) ?_
    refine Qas ?_;refine QaJ rfl ?_;simp only[zz,simprocAttr]
    exact EvP.fv (Qbg _ _ r 11 (p-1)) ⟨_,hu,rfl⟩
   have g5:decide ((m:Int)>57343)=false:=by simp;omega
   rw[if_neg (by omega)]at hu
   have a1:IntKind.i32.wrap ((n:Int)-55296)=((n-55296:Nat):Int):=by rw[w32 (by omega) (by omega)];omega
   have a2:=shl10 (n-55296) (by omega)
   have a3:IntKind.i32.wrap (65536+(((n-55296)*1024:Nat):Int))=((65536+(n-55296)*1024:Nat):Int):=by rw[w32 (by omega) (by omega)];omega
   have a4:IntKind.i32.wrap (((65536+(n-55296)*1024:Nat):Int)+(m:Int))=((65536+(n-55296)*1024+m:Nat):Int):=by rw[w32 (by omega) (by omega)];omega
   have a5:IntKind.i32.wrap (((65536+(n-55296)*1024+m:Nat):Int)-56320)=((65536+(n-55296)*1024+(m-56320):Nat):Int):=by rw[w32 (by omega) (by omega)];omega
   refine v_r (j_ g4 g5) ?_
   refine v_r (j_ a1 (j_ a2 (j_ a3 (j_ a4 a5)))) ?_
   exact Qbe rfl ⟨_,q3,hu,rfl,rfl⟩
  ·rw[decide_eq_false c4]at hpre
   rw[if_pos (.inr c4)]at hu
   refine v_r (j_ g1 g2) ?_
   (apply Qa6;focus(refine Evl.call (X:=(QaH code pr)) (hpre) (Evl.all fun k e1=> ?_);simp(maxSteps:=100000000) only[zz,zd,simprocAttr,gq,g3,sl1,sl2,e1];(first|done|with_reducible exact rfl)))<;>(try simp only[zp,simprocAttr])
   refine v_r trivial ?_
   refine Qas ?_;refine QaJ rfl ?_;simp only[zz,simprocAttr]
   exact EvP.fv (Qbg _ _ r 11 (p-1)) ⟨_,hu,rfl⟩
end Go.Proofs.YtmhmjlfajlpabaaDoor
namespace Go.Proofs.YtmhmjlfajlpabaaDoor
open Go Go.Abs Go.Lib
theorem dec_at(s:List UInt8)(i:Nat):dec s i=decodeN (s.length-i) (by' s i) (by' s (i+1)) (by' s (i+2)) (by' s (i+3)):=by
 have e:∀j,((⟨s.toArray⟩:ByteArray).get! j).toNat=by' s j:=fun j=>by
  unfold by'
  show(s.toArray[j]!).toNat=_
  rw[Array.getElem!_eq_getD]
  simp only[Array.getD_eq_getD_getElem?,List.getElem?_toArray]
  cases s[j]? <;>rfl
 unfold dec
 rw[decode_at]
 simp only[e]
 rfl
theorem Qh2(s:List UInt8)(i:Nat):dec s i=dc (s.drop i):=by
 rw[dec_at];unfold dc;simp only[Qif,List.length_drop,Nat.add_zero]
theorem QlL:tab0=(List.range 256).map fun b=> .int .u8 (firstT b:Nat):=by kernel_rfl
theorem tab0_get{b:Nat}(h:b<256):(tab0.drop b)[0]? =some (.int .u8 (firstT b:Nat)):=by
 rw[QlL,List.getElem?_drop,Nat.add_zero,List.getElem?_map,List.getElem?_range h];rfl
end Go.Proofs.YtmhmjlfajlpabaaDoor
namespace Go.Proofs.YtmhmjlfajlpabaaDoor
open Go Go.Abs
variable {pr:FuncId→Option QbO} {pP:FuncId→Option Qfy} [POK pr] [PPOK pr pP]
theorem dg_drop{s:Tx}{p:Nat}(h:p<s.length):dg (s.drop p)=dec s p:=by
 unfold dg
 rw[if_neg (by rw[List.length_drop];omega),Qh2,Qh2,List.drop_zero]
theorem dec_ev(lim:Nat)(H:Qaa)(t:Tx):Ev (QaH code pr) 35 lim [.d (.str t)] H (.tuple [.d (.int .i32 ((dg t).1:Nat)),intD ((dg t).2:Nat)]) H:=Qde (F:=decF) POK.dec rfl
theorem QqJ(lim:Nat)(H:Qaa)(s:Tx)(hs:s.length≤1000000000):Ev (QaH code pr) 22 lim [.d (.str s)] H (intD (Qaw s)) H:=by
 refine Fn.ev ?_
 refine Qa2 (pn rfl) rfl (show code 22=some c22 from rfl) rfl ?_;simp only[List.length_cons,List.length_nil,List.cons_append,List.nil_append,simprocAttr]
 (iterate 6 refine w_s trivial ?_)
 refine QgT (fun m st=>∃p f,p≤s.length∧m=s.length-p∧s.length-p<f∧Qaw s=QbD s f p∧∃x:Nat→AV,st=⟨[.d (.str s),x 1,x 2,x 3,x 4,.ptr H.length 0,x 6,x 7,x 8,x 9,x 10,x 11],H++ [.siter s p]⟩) ?_ _ _ ⟨0,s.length+1,Nat.zero_le _,rfl,by omega,rfl,Qao _ _ _ rfl⟩
 rintro m _ ⟨p,f,hp,rfl,hf,hb,x,rfl⟩
 obtain⟨f,rfl⟩:∃k,f=k+1:=⟨f-1,by omega⟩
 unfold QbD at hb
 by_cases h0:p<s.length
 ·rw[if_pos h0]at hb
  have hd:=dg_drop h0
  have hdc:=Qh2 s p
  have hpos:1≤(dec s p).2:=by rw[hdc];exact Qfp _
  have hle:(dec s p).2≤s.length-p:=by
   rw[hdc]
   have:=dc_le (s:=s.drop p) (by intro e;have:=congrArg List.length e;rw[List.length_drop]at this;simp at this;omega)
   rwa [List.length_drop]at this
  have s1:((p:Int)≤(s.length:Int))=True:=eq_true (by omega)
  have s2:s.take s.length=s:=List.take_length
  have s3:((0:Int)≤(p:Int))=True:=eq_true (by omega)
  generalize hD:dec s p=D at*
  obtain⟨c,n⟩:=D
  have he:Ev (QaH code pr) 35 H.length [.d (.str (s.drop p))] (H++ [.siter s (p+n)]) (.tuple [.d (.int .i32 (c:Nat)),intD (n:Nat)]) (H++ [.siter s (p+n)]):=by
   have:=dec_ev (pr:=pr) H.length (H++ [.siter s (p+n)]) (s.drop p)
   rwa [hd]at this
  have next:∀ {st:St},Qaw s=QbD s f (p+n)→(∃x:Nat→AV,st=⟨[.d (.str s),x 1,x 2,x 3,x 4,.ptr H.length 0,x 6,x 7,x 8,x 9,x 10,x 11],H++ [.siter s (p+n)]⟩)→
    ∃m,m<s.length-p∧∃p f,p≤s.length∧m=s.length-p∧s.length-p<f∧Qaw s=QbD s f p∧∃x:Nat→AV,st=⟨[.d (.str s),x 1,x 2,x 3,x 4,.ptr H.length 0,x 6,x 7,x 8,x 9,x 10,x 11],H++ [.siter s p]⟩:=
   fun h1 h2=>⟨s.length-(p+n),by simp only at hpos hle;omega,p+n,f,by simp only at hpos hle;omega,rfl,by simp only at hpos hle;omega,h1,h2⟩
  simp only at hpos hle
  by_cases h1:c=65533
  ·subst h1
   have c1:(((65533:Nat):Int)==65533)=true:=rfl
   by_cases h2:n=1
   ·subst h2
    rw[if_pos rfl]at hb
    have c2:(((1:Nat):Int)==1)=true:=rfl
    refine w_r (j_ h0 (j_ hD c1)) ?_
    refine w_1 he (j_ s1 (j_ s2 s3)) ?_
    refine w_r c2 ?_
    exact Qad rfl rfl ⟨by rw[hb],rfl⟩
   ·rw[if_neg (by simpa using h2)]at hb
    have c2:((n:Int)==1)=false:=by simp;omega
    refine w_r (j_ h0 (j_ hD c1)) ?_
    refine w_1 he (j_ s1 (j_ s2 s3)) ?_
    refine w_r c2 ?_
    exact next hb (Qao _ _ _ rfl)
  ·rw[if_neg (by simp[h1])]at hb
   have c1:((c:Int)==65533)=false:=by simp;omega
   refine w_r (j_ h0 (j_ hD c1)) ?_
   exact next hb (Qao _ _ _ rfl)
 ·rw[if_neg h0]at hb
  refine w_r h0 ?_
  exact Qad rfl rfl ⟨by rw[hb],rfl⟩
end Go.Proofs.YtmhmjlfajlpabaaDoor
namespace Go.Proofs.YtmhmjlfajlpabaaDoor
open Go Go.Abs
theorem QqK:∀(x y:List UInt8),Op.bytesLess x y=decide (x<y)
 | [],[]=>by simp[Op.bytesLess]
 |_::_,[]=>by simp[Op.bytesLess]
 | [],_::_=>by simp[Op.bytesLess]
 |a::x,b::y=>by
  rw[Op.bytesLess,QqK x y]
  simp only[List.cons_lt_cons_iff]
  by_cases h1:a<b<;>by_cases h2:a=b<;>by_cases h3:x<y<;>simp[h1,h2,h3]
theorem Qg5(a b:Tx):tless a b=true↔a<b:=by rw[tless,QqK];simp
abbrev Qct(ks:List Tx)(i:Nat):Tx:=ks.getD i []
theorem QhF(ks:List Tx)(i:Nat):∀l:List Nat,(insK ks i l).Perm (i::l)
 | []=> .refl _
 |j::l=>by
  unfold insK
  split
  ·exact((QhF ks i l).cons j).trans (.swap i j l)
  ·exact .refl _
theorem QiG(ks:List Tx):∀l:List Nat,(QnY ks l).Perm l
 | []=> .refl _
 |i::l=>(QhF ks i _).trans ((QiG ks l).cons i)
abbrev leK(ks:List Tx)(i j:Nat):Prop:=¬Qct ks j<Qct ks i
theorem QkX{ks:List Tx}{i j k:Nat}(h1:leK ks i j)(h2:leK ks j k):leK ks i k:=by
 unfold leK at*
 rw[List.not_lt]at*
 exact List.le_trans h1 h2
theorem QhE(ks:List Tx)(i:Nat):∀l:List Nat,l.Pairwise (leK ks)→(insK ks i l).Pairwise (leK ks)
 | [],_=>by simp[insK]
 |j::l,h=>by
  unfold insK
  obtain⟨h1,h2⟩:=List.pairwise_cons.1 h
  split
  ·rename_i hc
   rw[Qg5]at hc
   refine List.pairwise_cons.2 ⟨fun k hk=> ?_,QhE ks i l h2⟩
   rcases List.mem_cons.1 ((QhF ks i l).mem_iff.1 hk)with rfl|hk
   ·exact fun h=>List.lt_irrefl _ (List.lt_trans h hc)
   ·exact h1 k hk
  ·rename_i hc
   rw[Qg5]at hc
   refine List.pairwise_cons.2 ⟨fun k hk=> ?_,h⟩
   rcases List.mem_cons.1 hk with rfl|hk
   ·exact hc
   ·exact QkX hc (h1 k hk)
theorem QdW(ks:List Tx):∀l:List Nat,(QnY ks l).Pairwise (leK ks)
 | []=>by simp[QnY]
 |i::l=>QhE ks i _ (QdW ks l)
theorem Qa1(ks:List Tx):(Qar ks).Perm (List.range ks.length):=QiG ks _
theorem QaV(ks:List Tx):(Qar ks).length=ks.length:=by rw[(Qa1 ks).length_eq,List.length_range]
theorem Qjn{ks:List Tx}{i:Nat}:i∈Qar ks↔i<ks.length:=by rw[(Qa1 ks).mem_iff,List.mem_range]
theorem Qbu{ks:List Tx}{i:Nat}(h:i∈Qar ks):i<ks.length:=Qjn.1 h
theorem Qeh(ks:List Tx):(Qar ks).Nodup:=(Qa1 ks).nodup_iff.2 List.nodup_range
theorem QkZ{ks:List Tx}(hd:ks.Nodup){i j:Nat}(hi:i<ks.length)(hj:j<ks.length)(h:Qct ks i=Qct ks j):i=j:=by
 simp only[Qct,List.getD,List.getElem?_eq_getElem hi,List.getElem?_eq_getElem hj,Option.getD_some]at h
 exact(List.getElem?_inj hi hd).1 (by rw[List.getElem?_eq_getElem hi,List.getElem?_eq_getElem hj,h])
theorem Qni{ks:List Tx}(hd:ks.Nodup){i j:Nat}(hi:i<ks.length)(hj:j<ks.length)(h1:leK ks i j)(h2:leK ks j i):i=j:=by
 refine QkZ hd hi hj ?_
 unfold leK at h1 h2
 rw[List.not_lt]at h1 h2
 exact List.le_antisymm h1 h2
theorem Qfs{ks:List Tx}(hd:ks.Nodup){l:List Nat}(hp:l.Perm (List.range ks.length))(hs:l.Pairwise (leK ks)):l=Qar ks:=by
 refine List.Perm.eq_of_pairwise (le:=leK ks) (fun a b ha hb h1 h2=> ?_) hs (QdW ks _) (hp.trans (Qa1 ks).symm)
 exact Qni hd (List.mem_range.1 (hp.mem_iff.1 ha)) (Qbu hb) h1 h2
theorem Qdq(a b:Tx):(!tless b a)=true↔¬b<a:=by rw[←Qg5];cases tless b a<;>simp
theorem Qls{ks:List Tx}(hd:ks.Nodup):(List.range ks.length).mergeSort (fun i j=> !tless (Qct ks j) (Qct ks i))=Qar ks:=by
 refine Qfs hd (List.mergeSort_perm _ _) ?_
 have:=List.pairwise_mergeSort (le:=fun i j=> !tless (Qct ks j) (Qct ks i)) (fun a b c h1 h2=> ?_) (fun a b=> ?_) (List.range ks.length)
 ·exact this.imp fun{a b} h=>(Qdq _ _).1 h
 ·exact(Qdq _ _).2 (QkX (ks:=ks) (i:=a) (j:=b) (k:=c) ((Qdq _ _).1 h1) ((Qdq _ _).1 h2))
 ·rw[Bool.or_eq_true,Qdq,Qdq]
  by_cases h:Qct ks b<Qct ks a
  ·exact .inr fun h2=>List.lt_irrefl _ (List.lt_trans h h2)
  ·exact .inl h
theorem Qig{ks:List Tx}(hd:ks.Nodup):(Qar ks).Pairwise fun i j=>Qct ks i<Qct ks j:=by
 have h1:=QdW ks (List.range ks.length)
 have h2:=Qeh ks
 have h3:(Qar ks).Pairwise fun i j=>leK ks i j∧i≠j∧i<ks.length∧j<ks.length:=by
  rw[List.pairwise_iff_getElem]at h1⊢
  intro i j hi hj hij
  refine⟨h1 i j hi hj hij,fun e=> ?_,Qbu (List.getElem_mem _),Qbu (List.getElem_mem _)⟩
  exact Nat.ne_of_lt hij ((List.getElem?_inj hi h2).1 (by rw[List.getElem?_eq_getElem hi,List.getElem?_eq_getElem hj,e]))
 refine h3.imp fun{i j} ⟨q1,q2,q3,q4⟩=> ?_
 by_cases h:Qct ks i<Qct ks j
 ·exact h
 ·exact absurd (Qni hd q3 q4 q1 h) q2
end Go.Proofs.YtmhmjlfajlpabaaDoor
