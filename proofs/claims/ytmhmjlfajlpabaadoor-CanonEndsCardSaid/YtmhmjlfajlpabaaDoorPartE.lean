/- Part 5. -/
import Derived.Test.YtmhmjlfajlpabaaDoorPartD
import Derived.Test.YtmhmjlfajlpabaaDoorProg
import Derived.KernelRfl
import Derived.Lib.ItoaNum
set_option linter.all false
namespace Go.Proofs.YtmhmjlfajlpabaaDoor
open Go Go.Abs
theorem k7:(Qac Tryd.prog Qau false [23,53,0,1,2,3,4,5,8,9,10,51,52,11,12,13,15,16,18,19,21] 7).bind (fun c0=>if pf 7&& !panCk pf c0.body then none else Qai [23,53,0,1,2,3,4,5,8,9,10,51,52,11,12,13,15,16,18,19,21] 25 c0)=some c7:=by kernel_rfl
theorem k11:(Qac Tryd.prog Qau false [0,1,2,4,5,7,8,10,11,13,14] 11).bind (fun c0=>if pf 11&& !panCk pf c0.body then none else Qai [0,1,2,4,5,7,8,10,11,13,14] 15 c0)=some c11:=by kernel_rfl
theorem k12:(Qac Tryd.prog Qau false [7,12,2,3,1,4] 12).bind (fun c0=>if pf 12&& !panCk pf c0.body then none else Qai [7,12,2,3,1,4] 8 c0)=some c12:=by kernel_rfl
theorem k13:(Qac Tryd.prog Qau false [2,1] 13).bind (fun c0=>if pf 13&& !panCk pf c0.body then none else Qai [2,1] 4 c0)=some c13:=by kernel_rfl
theorem k14:(Qac Tryd.prog Qau false [43,48,61,66,80,4,2,3,5,6] 14).bind (fun c0=>if pf 14&& !panCk pf c0.body then none else Qai [43,48,61,66,80,4,2,3,5,6] 15 c0)=some c14:=by kernel_rfl
theorem k15:(Qac Tryd.prog Qau false [5,2,1] 15).bind (fun c0=>if pf 15&& !panCk pf c0.body then none else Qai [5,2,1] 5 c0)=some c15:=by kernel_rfl
theorem k16:(Qac Tryd.prog Qau false [2,1] 16).bind (fun c0=>if pf 16&& !panCk pf c0.body then none else Qai [2,1] 4 c0)=some c16:=by kernel_rfl
theorem k17:(Qac Tryd.prog Qau false [10,11] 17).bind (fun c0=>if pf 17&& !panCk pf c0.body then none else Qai [10,11] 8 c0)=some c17:=by kernel_rfl
theorem k18:(Qac Tryd.prog Qau false [9,17,2,3,0,5] 18).bind (fun c0=>if pf 18&& !panCk pf c0.body then none else Qai [9,17,2,3,0,5] 8 c0)=some c18:=by kernel_rfl
theorem k19:(Qac Tryd.prog Qau false [7,13,2,3,1,4] 19).bind (fun c0=>if pf 19&& !panCk pf c0.body then none else Qai [7,13,2,3,1,4] 8 c0)=some c19:=by kernel_rfl
theorem k20:(Qac Tryd.prog Qau false [2,1] 20).bind (fun c0=>if pf 20&& !panCk pf c0.body then none else Qai [2,1] 4 c0)=some c20:=by kernel_rfl
theorem k21:(Qac Tryd.prog Qau false [5,2,1] 21).bind (fun c0=>if pf 21&& !panCk pf c0.body then none else Qai [5,2,1] 5 c0)=some c21:=by kernel_rfl
theorem k22:(Qac Tryd.prog Qau false [10,14,23,2,0,8,9,3,4,6] 22).bind (fun c0=>if pf 22&& !panCk pf c0.body then none else Qai [10,14,23,2,0,8,9,3,4,6] 12 c0)=some c22:=by kernel_rfl
theorem k24:(Qac Tryd.prog Qau true [24,0] 24).bind (fun c0=>if pf 24&& !panCk pf c0.body then none else Qai [24,0] 5 c0)=some c24:=by kernel_rfl
theorem k25:(Qac Tryd.prog Qau true [24,32,44,55,67,72,77,82,4,0,5,1,31,6,7] 25).bind (fun c0=>if pf 25&& !panCk pf c0.body then none else Qai [24,32,44,55,67,72,77,82,4,0,5,1,31,6,7] 18 c0)=some c25:=by kernel_rfl
theorem k26:(Qac Tryd.prog Qau true [] 26).bind (fun c0=>if pf 26&& !panCk pf c0.body then none else Qai [] 4 c0)=some c26:=by kernel_rfl
theorem k27:(Qac Tryd.prog Qau false [17,23,53,2,1,3,20,21,22,5,50,51,52,7] 27).bind (fun c0=>if pf 27&& !panCk pf c0.body then none else Qai [17,23,53,2,1,3,20,21,22,5,50,51,52,7] 18 c0)=some c27:=by kernel_rfl
theorem k28:(Qac Tryd.prog Qau false [11,15,22,28,34,43,48,59,69,74,4,3,0,14,40,41,42,6,5,66,67,68,7,8] 28).bind (fun c0=>if pf 28&& !panCk pf c0.body then none else Qai [11,15,22,28,34,43,48,59,69,74,4,3,0,14,40,41,42,6,5,66,67,68,7,8] 28 c0)=some c28:=by kernel_rfl
theorem k29:(Qac Tryd.prog Qau false [12,17,28,4,2,1,5] 29).bind (fun c0=>if pf 29&& !panCk pf c0.body then none else Qai [12,17,28,4,2,1,5] 10 c0)=some c29:=by kernel_rfl
theorem k30:(Qac Tryd.prog Qau false [18,23,45,52,76,2,1,3,4,5,6,7,8] 30).bind (fun c0=>if pf 30&& !panCk pf c0.body then none else Qai [18,23,45,52,76,2,1,3,4,5,6,7,8] 19 c0)=some c30:=by kernel_rfl
theorem k31:(Qac Tryd.prog Qau false [32,39,48,57,6,3,1,2,7,8] 31).bind (fun c0=>if pf 31&& !panCk pf c0.body then none else Qai [32,39,48,57,6,3,1,2,7,8] 14 c0)=some c31:=by kernel_rfl
theorem k32:(Qac Tryd.prog Qau false [15,17,26,35,46,63,81,4,5,0,1,6,7,8,9] 32).bind (fun c0=>if pf 32&& !panCk pf c0.body then none else Qai [15,17,26,35,46,63,81,4,5,0,1,6,7,8,9] 19 c0)=some c32:=by kernel_rfl
theorem k33:(Qac Tryd.prog Qau false [9,13,14,19,24,30,34,47,53,57,2,1,8,3,4,5,6] 33).bind (fun c0=>if pf 33&& !panCk pf c0.body then none else Qai [9,13,14,19,24,30,34,47,53,57,2,1,8,3,4,5,6] 21 c0)=some c33:=by kernel_rfl
theorem k34:(Qac Tryd.prog Qau false [4,2,3] 34).bind (fun c0=>if pf 34&& !panCk pf c0.body then none else Qai [4,2,3] 8 c0)=some c34:=by kernel_rfl
theorem k36:(Qac Tryd.prog Qau false [4] 36).bind (fun c0=>if pf 36&& !panCk pf c0.body then none else Qai [4] 4 c0)=some c36:=by kernel_rfl
theorem k37:(Qac Tryd.prog Qau true [12,2,0] 37).bind (fun c0=>if pf 37&& !panCk pf c0.body then none else Qai [12,2,0] 5 c0)=some c37:=by kernel_rfl
theorem k38:(Qac Tryd.prog Qau false [2] 38).bind (fun c0=>if pf 38&& !panCk pf c0.body then none else Qai [2] 4 c0)=some c38:=by kernel_rfl
theorem k39:(Qac Tryd.prog Qau true [24,33,6,0] 39).bind (fun c0=>if pf 39&& !panCk pf c0.body then none else Qai [24,33,6,0] 9 c0)=some c39:=by kernel_rfl
theorem k40:(Qac Tryd.prog Qau true [14,23,4,5,6,7,0,8,9] 40).bind (fun c0=>if pf 40&& !panCk pf c0.body then none else Qai [14,23,4,5,6,7,0,8,9] 13 c0)=some c40:=by kernel_rfl
theorem k41:(Qac Tryd.prog Qau true [18,39,50,2,0,3,4] 41).bind (fun c0=>if pf 41&& !panCk pf c0.body then none else Qai [18,39,50,2,0,3,4] 9 c0)=some c41:=by kernel_rfl
theorem k42:(Qac Tryd.prog Qau true [11,6,5,1,9,10,7] 42).bind (fun c0=>if pf 42&& !panCk pf c0.body then none else Qai [11,6,5,1,9,10,7] 10 c0)=some c42:=by kernel_rfl
theorem k43:(Qac Tryd.prog Qau true [13,28,37,53,61,91,97,2,0,3,4,5,6] 43).bind (fun c0=>if pf 43&& !panCk pf c0.body then none else Qai [13,28,37,53,61,91,97,2,0,3,4,5,6] 16 c0)=some c43:=by kernel_rfl
theorem k44:(Qac Tryd.prog Qau false [11,2,1,3,9,10,4] 44).bind (fun c0=>if pf 44&& !panCk pf c0.body then none else Qai [11,2,1,3,9,10,4] 10 c0)=some c44:=by kernel_rfl
theorem k45:(Qac Tryd.prog Qau false [4] 45).bind (fun c0=>if pf 45&& !panCk pf c0.body then none else Qai [4] 4 c0)=some c45:=by kernel_rfl
theorem k46:(Qac Tryd.prog Qau false [6] 46).bind (fun c0=>if pf 46&& !panCk pf c0.body then none else Qai [6] 5 c0)=some c46:=by kernel_rfl
theorem k47:(Qac Tryd.prog Qau false [13,22,31,37,43,49,55,61,4,0,1,11,12,5,6] 47).bind (fun c0=>if pf 47&& !panCk pf c0.body then none else Qai [13,22,31,37,43,49,55,61,4,0,1,11,12,5,6] 18 c0)=some c47:=by kernel_rfl
theorem k48:(Qac Tryd.prog Qau false [14,27,45,63,77,93,2,1,3,13] 48).bind (fun c0=>if pf 48&& !panCk pf c0.body then none else Qai [14,27,45,63,77,93,2,1,3,13] 13 c0)=some c48:=by kernel_rfl
theorem k49:(Qac Tryd.prog Qau false [2] 49).bind (fun c0=>if pf 49&& !panCk pf c0.body then none else Qai [2] 5 c0)=some c49:=by kernel_rfl
theorem k50:(Qac Tryd.prog Qau false [5,15,2,0,3] 50).bind (fun c0=>if pf 50&& !panCk pf c0.body then none else Qai [5,15,2,0,3] 7 c0)=some c50:=by kernel_rfl
theorem k51:(Qac Tryd.prog Qau false [9,22,37,42,47,52,57,62,2,3,4,0,5] 51).bind (fun c0=>if pf 51&& !panCk pf c0.body then none else Qai [9,22,37,42,47,52,57,62,2,3,4,0,5] 16 c0)=some c51:=by kernel_rfl
theorem k52:(Qac Tryd.prog Qau false [14,27,45,63,76,92,2,1,3,13] 52).bind (fun c0=>if pf 52&& !panCk pf c0.body then none else Qai [14,27,45,63,76,92,2,1,3,13] 14 c0)=some c52:=by kernel_rfl
theorem k53:(Qac Tryd.prog Qau false [4] 53).bind (fun c0=>if pf 53&& !panCk pf c0.body then none else Qai [4] 4 c0)=some c53:=by kernel_rfl
theorem k54:(Qac Tryd.prog Qau false [3,2] 54).bind (fun c0=>if pf 54&& !panCk pf c0.body then none else Qai [3,2] 6 c0)=some c54:=by kernel_rfl
theorem k56:(Qac Tryd.prog Qau false [4] 56).bind (fun c0=>if pf 56&& !panCk pf c0.body then none else Qai [4] 4 c0)=some c56:=by kernel_rfl
theorem k57:(Qac Tryd.prog Qau true [26,0] 57).bind (fun c0=>if pf 57&& !panCk pf c0.body then none else Qai [26,0] 6 c0)=some c57:=by kernel_rfl
theorem k59:(Qac Tryd.prog Qau true [4,5,0,6] 59).bind (fun c0=>if pf 59&& !panCk pf c0.body then none else Qai [4,5,0,6] 7 c0)=some c59:=by kernel_rfl
theorem k60:(Qac Tryd.prog Qau true [30,45,47,49,51,53,55,64,80,98,2,0,3,4,5,44,6,7] 60).bind (fun c0=>if pf 60&& !panCk pf c0.body then none else Qai [30,45,47,49,51,53,55,64,80,98,2,0,3,4,5,44,6,7] 21 c0)=some c60:=by kernel_rfl
theorem k61:(Qac Tryd.prog Qau true [4,0] 61).bind (fun c0=>if pf 61&& !panCk pf c0.body then none else Qai [4,0] 5 c0)=some c61:=by kernel_rfl
theorem k63:(Qac Tryd.prog Qau false [6,16,5,2,0,1] 63).bind (fun c0=>if pf 63&& !panCk pf c0.body then none else Qai [6,16,5,2,0,1] 8 c0)=some c63:=by kernel_rfl
theorem k64:(Qac Tryd.prog Qau false [5,4,0] 64).bind (fun c0=>if pf 64&& !panCk pf c0.body then none else Qai [5,4,0] 5 c0)=some c64:=by kernel_rfl
theorem k65:(Qac Tryd.prog Qau false [11,6,1,7,0] 65).bind (fun c0=>if pf 65&& !panCk pf c0.body then none else Qai [11,6,1,7,0] 8 c0)=some c65:=by kernel_rfl
theorem k66:(Qac Tryd.prog Qau false [8,16,19,30,2,3,0,4] 66).bind (fun c0=>if pf 66&& !panCk pf c0.body then none else Qai [8,16,19,30,2,3,0,4] 10 c0)=some c66:=by kernel_rfl
theorem k68:(Qac Tryd.prog Qau false [10,20,2,3,7,8,9,5] 68).bind (fun c0=>if pf 68&& !panCk pf c0.body then none else Qai [10,20,2,3,7,8,9,5] 11 c0)=some c68:=by kernel_rfl
theorem k69:(Qac Tryd.prog Qau false [9,16,4,0,7,8,5] 69).bind (fun c0=>if pf 69&& !panCk pf c0.body then none else Qai [9,16,4,0,7,8,5] 9 c0)=some c69:=by kernel_rfl
theorem k72:(Qac Tryd.prog Qau false [7,4,1,0] 72).bind (fun c0=>if pf 72&& !panCk pf c0.body then none else Qai [7,4,1,0] 6 c0)=some c72:=by kernel_rfl
theorem k73:(Qac Tryd.prog Qau true [6,23,31,2,3,5,0,4] 73).bind (fun c0=>if pf 73&& !panCk pf c0.body then none else Qai [6,23,31,2,3,5,0,4] 10 c0)=some c73:=by kernel_rfl
theorem k74:(Qac Tryd.prog Qau false [4] 74).bind (fun c0=>if pf 74&& !panCk pf c0.body then none else Qai [4] 4 c0)=some c74:=by kernel_rfl
theorem k77:(Qac Tryd.prog Qau false [10,12,6,2,1,0,7,8] 77).bind (fun c0=>if pf 77&& !panCk pf c0.body then none else Qai [10,12,6,2,1,0,7,8] 10 c0)=some c77:=by kernel_rfl
theorem k80:(Qac Tryd.prog Qau false [11,25,50,4,1,5,0] 80).bind (fun c0=>if pf 80&& !panCk pf c0.body then none else Qai [11,25,50,4,1,5,0] 12 c0)=some c80:=by kernel_rfl
theorem k81:(Qac Tryd.prog Qau false [4] 81).bind (fun c0=>if pf 81&& !panCk pf c0.body then none else Qai [4] 6 c0)=some c81:=by kernel_rfl
theorem k93:(Qac Tryd.prog Qau false [2,0,3] 93).bind (fun c0=>if pf 93&& !panCk pf c0.body then none else Qai [2,0,3] 4 c0)=some c93:=by kernel_rfl
theorem k101:(Qac Tryd.prog Qau false [2] 101).bind (fun c0=>if pf 101&& !panCk pf c0.body then none else Qai [2] 3 c0)=some c101:=by kernel_rfl
theorem k102:(Qac Tryd.prog Qau false [3,2] 102).bind (fun c0=>if pf 102&& !panCk pf c0.body then none else Qai [3,2] 3 c0)=some c102:=by kernel_rfl
theorem QiT:AllSlimP Tryd.prog pf 0 codeL:=⟨⟨Qau,false,[23,53,0,1,2,3,4,5,8,9,10,51,52,11,12,13,15,16,18,19,21],25,k7⟩,⟨⟨Qau,false,[0,1,2,4,5,7,8,10,11,13,14],15,k11⟩,⟨⟨Qau,false,[7,12,2,3,1,4],8,k12⟩,⟨⟨Qau,false,[2,1],4,k13⟩,⟨⟨Qau,false,[43,48,61,66,80,4,2,3,5,6],15,k14⟩,⟨⟨Qau,false,[5,2,1],5,k15⟩,⟨⟨Qau,false,[2,1],4,k16⟩,⟨⟨Qau,false,[10,11],8,k17⟩,⟨⟨Qau,false,[9,17,2,3,0,5],8,k18⟩,⟨⟨Qau,false,[7,13,2,3,1,4],8,k19⟩,⟨⟨Qau,false,[2,1],4,k20⟩,⟨⟨Qau,false,[5,2,1],5,k21⟩,⟨⟨Qau,false,[10,14,23,2,0,8,9,3,4,6],12,k22⟩,⟨⟨Qau,true,[24,0],5,k24⟩,⟨⟨Qau,true,[24,32,44,55,67,72,77,82,4,0,5,1,31,6,7],18,k25⟩,⟨⟨Qau,true,[],4,k26⟩,⟨⟨Qau,false,[17,23,53,2,1,3,20,21,22,5,50,51,52,7],18,k27⟩,⟨⟨Qau,false,[11,15,22,28,34,43,48,59,69,74,4,3,0,14,40,41,42,6,5,66,67,68,7,8],28,k28⟩,⟨⟨Qau,false,[12,17,28,4,2,1,5],10,k29⟩,⟨⟨Qau,false,[18,23,45,52,76,2,1,3,4,5,6,7,8],19,k30⟩,⟨⟨Qau,false,[32,39,48,57,6,3,1,2,7,8],14,k31⟩,⟨⟨Qau,false,[15,17,26,35,46,63,81,4,5,0,1,6,7,8,9],19,k32⟩,⟨⟨Qau,false,[9,13,14,19,24,30,34,47,53,57,2,1,8,3,4,5,6],21,k33⟩,⟨⟨Qau,false,[4,2,3],8,k34⟩,⟨⟨Qau,false,[4],4,k36⟩,⟨⟨Qau,true,[12,2,0],5,k37⟩,⟨⟨Qau,false,[2],4,k38⟩,⟨⟨Qau,true,[24,33,6,0],9,k39⟩,⟨⟨Qau,true,[14,23,4,5,6,7,0,8,9],13,k40⟩,⟨⟨Qau,true,[18,39,50,2,0,3,4],9,k41⟩,⟨⟨Qau,true,[11,6,5,1,9,10,7],10,k42⟩,⟨⟨Qau,true,[13,28,37,53,61,91,97,2,0,3,4,5,6],16,k43⟩,⟨⟨Qau,false,[11,2,1,3,9,10,4],10,k44⟩,⟨⟨Qau,false,[4],4,k45⟩,⟨⟨Qau,false,[6],5,k46⟩,⟨⟨Qau,false,[13,22,31,37,43,49,55,61,4,0,1,11,12,5,6],18,k47⟩,⟨⟨Qau,false,[14,27,45,63,77,93,2,1,3,13],13,k48⟩,⟨⟨Qau,false,[2],5,k49⟩,⟨⟨Qau,false,[5,15,2,0,3],7,k50⟩,⟨⟨Qau,false,[9,22,37,42,47,52,57,62,2,3,4,0,5],16,k51⟩,⟨⟨Qau,false,[14,27,45,63,76,92,2,1,3,13],14,k52⟩,⟨⟨Qau,false,[4],4,k53⟩,⟨⟨Qau,false,[3,2],6,k54⟩,⟨⟨Qau,false,[4],4,k56⟩,⟨⟨Qau,true,[26,0],6,k57⟩,⟨⟨Qau,true,[4,5,0,6],7,k59⟩,⟨⟨Qau,true,[30,45,47,49,51,53,55,64,80,98,2,0,3,4,5,44,6,7],21,k60⟩,⟨⟨Qau,true,[4,0],5,k61⟩,⟨⟨Qau,false,[6,16,5,2,0,1],8,k63⟩,⟨⟨Qau,false,[5,4,0],5,k64⟩,⟨⟨Qau,false,[11,6,1,7,0],8,k65⟩,⟨⟨Qau,false,[8,16,19,30,2,3,0,4],10,k66⟩,⟨⟨Qau,false,[10,20,2,3,7,8,9,5],11,k68⟩,⟨⟨Qau,false,[9,16,4,0,7,8,5],9,k69⟩,⟨⟨Qau,false,[7,4,1,0],6,k72⟩,⟨⟨Qau,true,[6,23,31,2,3,5,0,4],10,k73⟩,⟨⟨Qau,false,[4],4,k74⟩,⟨⟨Qau,false,[10,12,6,2,1,0,7,8],10,k77⟩,⟨⟨Qau,false,[11,25,50,4,1,5,0],12,k80⟩,⟨⟨Qau,false,[4],6,k81⟩,⟨⟨Qau,false,[2,0,3],4,k93⟩,⟨⟨Qau,false,[2],3,k101⟩,⟨⟨Qau,false,[3,2],3,k102⟩,trivial⟩⟩⟩⟩⟩⟩⟩⟩⟩⟩⟩⟩⟩⟩⟩⟩⟩⟩⟩⟩⟩⟩⟩⟩⟩⟩⟩⟩⟩⟩⟩⟩⟩⟩⟩⟩⟩⟩⟩⟩⟩⟩⟩⟩⟩⟩⟩⟩⟩⟩⟩⟩⟩⟩⟩⟩⟩⟩⟩⟩⟩⟩⟩
end Go.Proofs.YtmhmjlfajlpabaaDoor
namespace Go.Abs
open Go.RowKit
section
variable [Tab] [Dfr] {P:Program} {tk:FuncId→Nat→Bool} {pf:FuncId→Bool} {X:Nat→Qbk} {XP:Nat→Qfw} {g:Gh} {w:World} {st:St} {a:Act} {Q:Exit→Act→World→Prop} {lim:Nat}
theorem W_wp(hS:EnvS P pf X XP){kp:List Nat}{c:Code}{cc:CCode}(hc:Qab P tk kp c=some cc)(hinv:Inv g st a w)(hlim:lim≤st.H.length){Qa:AExit→St→Prop}
  (hW:W X lim cc st Qa)(hq:∀x st' g' a' w',Qa x st'→WF g w g' w'→Inv g' st' a' w'→Q x.exit' a' w'):c.wp P Q a w:=by
 obtain⟨e,st',⟨k0,h⟩,hqa⟩:=Qpg hW
 exact Qar (hS.e k0) (Qfq hS.mx (hS.e k0)) (fun body s r h=>⟨k0,h⟩) c cc hc hinv hlim (h k0 k0 (Nat.le_refl _) (Nat.le_refl _)) fun g' a' w' h1 h2 _=>hq e st' g' a' w' hqa h1 h2
theorem Qcv(hS:EnvS P pf X XP){kp:List Nat}{c d:Code}{cc:CCode}(hc:Qab P tk kp c=some cc)(hinv:Inv g st a w){Qa:St→Prop}
  (hW:W X 0 cc st fun e s=>e= .normal∧Qa s)(hq:∀st' g' a' w',Qa st'→WF g w g' w'→Inv g' st' a' w'→d.wp P Q a' w'):(Code.seq c d).wp P Q a w:=by
 refine wp_seq (W_wp hS hc hinv (Nat.zero_le _) hW ?_)
 rintro x st' g' a' w' ⟨rfl,h⟩ h1 h2
 exact hq _ _ _ _ h h1 h2
theorem Inv.thaw(h:Inv g st a w){i r n:Nat}{xs:List D}(hT:st.T[i]? =some (.oslice r 0 n n 1))(hO:st.H[r]? =some (.cells (xs.map .d)))(hx:∀x∈xs,x.isCell=true∧x.cells= [x])(hn:xs.length=n)(hne:xs≠ []):
  ∃g',WF g w g' w∧Inv g' ⟨st.T.set i (.fslice xs),st.H.set r .dead⟩ a w:=by
 have hr:r<g.n:=by rw[h.heap.n];exact(List.getElem?_eq_some_iff.1 hO).1
 have hal:Qb2 st.H r:=Qco hO (by simp)
 obtain⟨ho1,ho2⟩:=h.heap.own r hr hal
 obtain⟨vs,e,fr,h1,⟨h2,h2'⟩,h3,h4,h5⟩:=h.heap.obj r _ hO
 have hlt:=(List.getElem?_eq_some_iff.1 hT).1
 obtain⟨v,hv⟩:∃v,a.tmps[i]? =some v:=⟨_,Array.getElem?_eq_getElem (by rw[←h.size];exact hlt)⟩
 have hvr:=(h.tok i _ v hT hv).1
 obtain⟨cap,rfl,hcap,hroom⟩:∃cap,v= .slice (some ⟨g.rho r,0,none⟩) n cap∧n≤cap∧0+cap*1≤g.rm r:=by
  cases hvr with
  |osl r off len cap cap' sz q1 q2 q3 q4=>exact⟨cap',rfl,q3,q4⟩
 have hbd:∀b k,k<g.bd b→k<(g.fresh (g.rho r) (.slot i) n).bd b∧QaR w b k=QaR w b k:=fun b k hk=>by
  refine⟨?_,rfl⟩
  show k<if b=g.rho r then n else g.bd b
  by_cases hb:b=g.rho r
  ·subst hb;omega
  ·rw[if_neg hb];exact hk
 have hw:WF g w (g.fresh (g.rho r) (.slot i) n) w:= {
  os:=rfl,tape:=rfl,output:=rfl,size:=Nat.le_refl _
  idle:=fun b _ hb=>by
   have hbn:b≠g.rho r:=fun e=>by subst e;rw[ho1]at hb;rcases hb with hb|hb<;>cases hb
   exact⟨rfl,by simp[Gh.fresh,hbn],by simp[Gh.fresh,hbn]⟩
  stays:=hbd
  n:=Nat.le_refl _
  rho:=fun _ _=>rfl
  out:=fun b hb=>by
   have hbn:b≠g.rho r:=fun e=>by subst e;simp[Gh.fresh]at hb
   simpa[Gh.fresh,hbn]using hb
  mine:=fun b hb=>by
   have hbn:b≠g.rho r:=fun e=>by subst e;rw[ho1]at hb;cases hb
   simpa[Gh.fresh,hbn]using hb }
 have hfok:∀(loc:Own) x u,loc≠ .obj r→FOK g w loc x u→FOK (g.fresh (g.rho r) (.slot i) n) w loc x u:=fun loc x u hl hf=>
  hf.keep fun b hb=>by
   have hbn:b≠g.rho r:=fun e=>by subst e;rw[ho1]at hb;exact hl hb.symm
   exact⟨by simpa[Gh.fresh,hbn]using hb,by simp[Gh.fresh,hbn],fun cs e fr hh hz=>⟨cs,fr,hh,rfl,hz⟩⟩
 have hgr:∀s,s<g.n→Qb2 st.H s→s≠r→g.rho s≠g.rho r:=fun s hs ha hne e=>hne (h.heap.rho_inj hs hr ha hal e)
 have hget:∀(s:Nat) o,(st.H.set r .dead)[s]? =some o→(s=r∧o= .dead)∨(s≠r∧st.H[s]? =some o):=fun s o ho=>by
  by_cases hs:s=r
  ·subst hs
   rw[List.getElem?_set_self (List.getElem?_eq_some_iff.1 hO).1]at ho
   injection ho with ho;exact .inl ⟨rfl,ho.symm⟩
  ·rw[List.getElem?_set_ne (Ne.symm hs)]at ho;exact .inr ⟨hs,ho⟩
 refine⟨g.fresh (g.rho r) (.slot i) n,hw,⟨{ n:=by simpa[Gh.fresh]using h.heap.n,own:= ?_,obj:= ?_,new:= ?_,glob:=fun k cs hk=>hw.vr (h.heap.glob k cs hk) },by simp[h.size], ?_, ?_,h.defers⟩⟩
 ·intro s hs ha
  have hsr:s≠r:=fun e=>by
   subst e
   exact ha (List.getElem?_set_self (List.getElem?_eq_some_iff.1 hO).1)
  have ha':Qb2 st.H s:=by unfold Qb2 at ha⊢;rwa [List.getElem?_set_ne (Ne.symm hsr)]at ha
  have hb:=hgr s hs ha' hsr
  obtain⟨q1,q2⟩:=h.heap.own s hs ha'
  exact⟨by simpa[Gh.fresh,hb]using q1,by simpa[Gh.fresh,hb]using q2⟩
 ·intro s o ho
  rcases hget s o ho with⟨rfl,rfl⟩|⟨hs,ho⟩
  ·trivial
  ·have hsl:s<g.n:=by rw[h.heap.n];exact(List.getElem?_eq_some_iff.1 ho).1
   exact(h.heap.obj s o ho).keep hw hsl (fun _=>rfl) fun j x u hf=>hfok _ _ _ (by simp) hf
 ·intro b hb
  have hbn:b≠g.rho r:=fun e=>by subst e;exact absurd (h.heap.rho_lt hr hal) (by omega)
  have:=h.heap.new b hb
  exact⟨by simpa[Gh.fresh,hbn]using this.1,by simpa[Gh.fresh,hbn]using this.2⟩
 ·intro k x u hx' hu
  by_cases hk:k=i
  ·subst hk
   rw[List.getElem?_set_self hlt]at hx'
   rw[hv]at hu
   injection hx' with hx';injection hu with hu;subst hx' hu
   have hcell:∀k x,xs[k]? =some x→∃u,vs[k]? =some u∧DR g.bd w x u:=fun k x hk=>by
    have hkl:=(List.getElem?_eq_some_iff.1 hk).1
    have:k<vs.size:=by simp at h2;omega
    refine⟨_,Array.getElem?_eq_getElem this, ?_⟩
    have q:=(h5 k (.d x) _ (by rw[List.getElem?_map,hk];rfl) (Array.getElem?_eq_getElem this)).1
    cases q with
    |d _ _ q=>exact q
   have hat:∀k u,vs[k]? =some u→QaR w (g.rho r) k=some u:=fun k u hk=>by
    unfold QaR World.cell?
    simp only[h1]
    simpa using hk
   have hsz:vs.size=g.rm r:=h2'
   have hl2:xs.length≤vs.size:=by simpa using h2
   refine⟨.fsl _ _ (.slice xs (g.rho r) 0 n cap 1 (fun k=>vs.getD k undef) hn.symm hcap (fun x hm=>by rw[(hx x hm).2];rfl) (fun x hm c hc=> ?_) (fun k hk=> ?_) (fun k j x c hk hc=> ?_)), ?_⟩
   ·rw[(hx x hm).2,List.mem_singleton]at hc;subst hc;exact(hx c hm).1
   ·have hk':k<xs.length:=by omega
    obtain⟨u,q1,_⟩:=hcell k _ (List.getElem?_eq_getElem hk')
    refine⟨?_, ?_⟩
    ·show 0+k<if g.rho r=g.rho r then n else _
     rw[if_pos rfl];omega
    ·rw[Nat.zero_add,hat k u q1,Array.getD_eq_getD_getElem?,q1];rfl
   ·have hm:=List.mem_of_getElem? hk
    rw[(hx x hm).2]at hc
    match j,hc with
    |0,hc=>
     simp at hc;subst hc
     obtain⟨u,q1,q2⟩:=hcell k x hk
     simp only[Nat.mul_one,Nat.add_zero,Array.getD_eq_getD_getElem?,q1,Option.getD_some]
     exact q2.mono hbd
   ·intro ys hy
    injection hy with hy;subst hy
    refine .inr ⟨g.rho r,0,cap,1,by rw[hn],hne,fun x hm=>by rw[(hx x hm).2];rfl,by simp[Gh.fresh],by simp[Gh.fresh,hn],vs,e,fr,h1,by omega,h3⟩
  ·rw[List.getElem?_set_ne (Ne.symm hk)]at hx'
   obtain⟨q1,q2⟩:=h.tok k x u hx' hu
   exact⟨hw.vr q1,hfok _ _ _ (by simp) q2⟩
 ·intro b hb
  by_cases hbn:b=g.rho r
  ·subst hbn;simp[Gh.fresh]at hb
  ·exact h.nores b (by simpa[Gh.fresh,hbn]using hb)
end
theorem QmI [Tab]{P:Program}{f:FuncId}{F:QbC}(hF:FSound P f F){args:List AV}{b:Bool}(h:F 0 args []=some (.d (.bool b),[])){vals:Array Value}{w:World}(hf:Qii P f)(hG:Qpk w)(hv:ArgsOK w args vals.toList)
  (hC:Qii P f→∀v w',(callFunc f vals).run P w= .ok (.value v) w'→False):Calls P f vals w fun e w'=>e= .returned (.bool b)∧Below w.heap.size w w':=by
 obtain⟨h1,h2⟩:=hv.get
 obtain⟨_,hs⟩:=hF 0 args [] _ [] h (Nat.le_refl _)
 rcases hs vals (Gh.still w) w (Qmu w hG) (fun b=>by simp[Gh.still]) (by simpa using h1) fun i x v hx hv=>⟨(h2 i x v hx (by simpa using hv)).1,FOK.triv (h2 i x v hx (by simpa using hv)).2⟩with⟨_,h⟩|⟨v,g',w',h,_⟩
 ·refine Calls.mono h ?_
  rintro e w' ⟨v,g',rfl,hw,hh,hvr,_⟩
  exact⟨by rw[Qdt hvr],Qku hw⟩
 ·exact(hC hf v w' h).elim
end Go.Abs
set_option maxRecDepth 100000
namespace Go.Proofs.YtmhmjlfajlpabaaDoor
open Go Go.Abs
variable {pr:FuncId→Option QbC} {pP:FuncId→Option QeW} [POK pr] [PPOK pr pP]
theorem Qdd{s:Tx}{p:Nat}(h:p<s.length):s[p]? =some (nx s p):=by
 rw[nx,List.getElem?_eq_getElem h];rfl
theorem nx_end{s:Tx}{p:Nat}(h:s.length≤p):nx s p=0:=by
 rw[nx,List.getElem?_eq_none h];rfl
theorem QiA(a b:Nat):((a:Int)==(b:Int))=decide (a=b):=by
 rw[Bool.eq_iff_iff];simp;omega
theorem QdW(b:UInt8):byteD b= .int .u8 (b.toNat:Int):=rfl
theorem QgM(lim:Nat)(H:Qaa)(s:Tx)(c:UInt8):Ev (QaF code pr) 36 lim [.d (.str s),.d (.int .u8 c.toNat)] H (.d (.int .i64 (Lib.indexByte s c))) H:=by
 have e0:∀lim,Ev (QaF code pr) 70 lim [.d (.str s),.d (.int .u8 c.toNat)] H (.d (.int .i64 (Lib.indexByte s c))) H:=fun lim=>QcO (F:=QcR) POK.idx (by
  unfold QcR
  simp)
 have e1:∀lim,Ev (QaF code pr) 56 lim [.d (.str s),.d (.int .u8 c.toNat)] H (.d (.int .i64 (Lib.indexByte s c))) H:=fun lim=>by
  refine Fn.ev ?_
  refine Qbj (pn rfl) rfl (show code 56=some c56 from rfl) rfl ?_;simp only[List.length_cons,List.length_nil,List.cons_append,List.nil_append,simprocAttr]
  refine w_s trivial ?_
  refine w_s trivial ?_
  refine w_s trivial ?_
  refine w_1 (e0 H.length) trivial ?_
  refine w_r trivial ?_
  exact Qae rfl rfl ⟨rfl,rfl⟩
 refine Fn.ev ?_
 refine Qbj (pn rfl) rfl (show code 36=some c36 from rfl) rfl ?_;simp only[List.length_cons,List.length_nil,List.cons_append,List.nil_append,simprocAttr]
 refine w_s trivial ?_
 refine w_s trivial ?_
 refine w_s trivial ?_
 refine w_1 (e1 H.length) trivial ?_
 refine w_r trivial ?_
 exact Qae rfl rfl ⟨rfl,rfl⟩
theorem Qbo(lim:Nat)(H:Qaa)(r:Nat)(s:Tx)(p:Nat)(gr:H[r]? =some (rdO s p))(hp:p≤s.length):Ev (QaF code pr) 37 lim [.ptr r 0] H (.d (.int .u8 (nx s p).toNat)) H:=by
 refine Fn.ev ?_
 refine Qbj (pn rfl) rfl (show code 37=some c37 from rfl) rfl ?_;simp only[List.length_cons,List.length_nil,List.cons_append,List.nil_append,simprocAttr]
 by_cases q:p=s.length
 ·have f0:decide (p=s.length)=true:=by simp[q]
  refine w_r (j_ gr (j_ @QiA f0)) ?_
  rw[nx_end (by omega)]
  exact Qa5 rfl ⟨rfl,rfl⟩
 ·have f0:decide (p=s.length)=false:=by simp[q]
  have f1:=Qdd (s:=s) (p:=p) (by omega)
  refine w_r (j_ gr (j_ @QiA (j_ f0 f1))) ?_
  exact Qa5 rfl ⟨rfl,rfl⟩
theorem dig_eq(c:UInt8):QaS c=(decide (48≤c.toNat)&&decide (c.toNat≤57)):=rfl
theorem Qd9(lim:Nat)(H:Qaa)(c:UInt8):Ev (QaF code pr) 38 lim [.d (.int .u8 c.toNat)] H (boolD (QaS c)) H:=by
 refine Fn.ev ?_
 refine Qbj (pn rfl) rfl (show code 38=some c38 from rfl) rfl ?_;simp only[List.length_cons,List.length_nil,List.cons_append,List.nil_append,simprocAttr]
 have f0:decide ((48:Int)≤(c.toNat:Int))=decide (48≤c.toNat):=by rw[Bool.eq_iff_iff];simp;omega
 have f1:decide ((c.toNat:Int)≤57)=decide (c.toNat≤57):=by rw[Bool.eq_iff_iff];simp;omega
 rw[dig_eq]
 cases h:decide (48≤c.toNat)with
 |true=>
  rw[h]at f0
  refine w_r (j_ f0 f1) ?_
  exact Qae rfl rfl ⟨rfl,rfl⟩
 |false=>
  rw[h]at f0
  refine w_r (j_ f0 f1) ?_
  exact Qae rfl rfl ⟨rfl,rfl⟩
end Go.Proofs.YtmhmjlfajlpabaaDoor
namespace Go.Proofs.YtmhmjlfajlpabaaDoor
open Go Go.Abs
variable {pr:FuncId→Option QbC} {pP:FuncId→Option QeW} [POK pr] [PPOK pr pP]
theorem QoB(l:Tx)(c:UInt8):decide (Lib.indexByte l c≥0)=l.contains c:=by
 rw[Bool.eq_iff_iff,decide_eq_true_iff]
 induction l with
 |nil=>simp[Lib.indexByte]
 |cons b l ih=>
  have h0:=Lib.indexByte_ge l c
  simp only[Lib.indexByte,List.contains_cons,Bool.or_eq_true,←ih]
  by_cases hb:b=c
  ·subst hb;simp
  ·have h1:¬(b==c)=true:=by simpa using hb
   have h2:¬(c==b)=true:=by simpa using fun h=>hb h.symm
   rw[if_neg h1]
   by_cases hm:Lib.indexByte l c= -1
   ·rw[hm];simp[h2]
   ·have:¬(Lib.indexByte l c== -1)=true:=by simpa using hm
    rw[if_neg this]
    simp only[h2,false_or];omega
theorem blank_in(c:UInt8):([32,9,10,13]:Tx).contains c=Qao c:=by
 unfold Qao
 simp only[List.contains_cons,List.contains_nil,Bool.or_false,Bool.or_assoc]
theorem Qle{s:Tx}{p:Nat}(h:p<s.length)(hb:Qao (nx s p)=true):Qaf s p=Qaf s (p+1):=by
 unfold Qaf
 rw[List.drop_eq_getElem_cons h]
 have:s[p]=nx s p:=by have:=Qdd h;rw[List.getElem?_eq_getElem h]at this;exact Option.some.inj this
 rw[this,List.takeWhile_cons_of_pos hb]
 simp;omega
theorem Qhf{s:Tx}{p:Nat}(h:¬(p<s.length∧Qao (nx s p)=true)):Qaf s p=p:=by
 unfold Qaf
 by_cases hp:p<s.length
 ·rw[List.drop_eq_getElem_cons hp]
  have:s[p]=nx s p:=by have:=Qdd hp;rw[List.getElem?_eq_getElem hp]at this;exact Option.some.inj this
  rw[this,List.takeWhile_cons_of_neg (fun q=>h ⟨hp,q⟩)];rfl
 ·rw[List.drop_eq_nil_of_le (by omega)];rfl
theorem Qo3(s:Tx)(p:Nat)(h:p≤s.length):p≤Qaf s p∧Qaf s p≤s.length:=by
 unfold Qaf
 have:=(List.takeWhile_prefix (p:=Qao) (l:=s.drop p)).length_le
 rw[List.length_drop]at this
 omega
theorem Qgu{H:Qaa}{r:Nat}{s:Tx}{p:Nat}(gr:H[r]? =some (rdO s p))(q:Nat):(H.set r (rdO s q))[r]? =some (rdO s q):=QjR _ gr
theorem QdI(H:Qaa)(r:Nat)(a b:AObj):(H.set r a).set r b=H.set r b:=List.set_set ..
theorem QkE{H:Qaa}{r:Nat}{s:Tx}{p:Nat}(gr:H[r]? =some (rdO s p)):H.set r (rdO s p)=H:=by
 obtain⟨h,e⟩:=List.getElem?_eq_some_iff.1 gr
 rw[←e];exact List.set_getElem_self h
theorem Qkl{p:Nat}(h:p<100000):IntKind.i64.wrap ((p:Int)+1)=((p+1:Nat):Int):=Qef (by omega)
theorem Qdi(lim:Nat)(H:Qaa)(r:Nat)(s:Tx)(p:Nat)(gr:H[r]? =some (rdO s p))(hl:lim≤r)(hp:p≤s.length)(hs:s.length≤16384):Ev (QaF code pr) 24 lim [.ptr r 0] H (.tuple []) (H.set r (rdO s (Qaf s p))):=by
 refine Fn.ev ?_
 refine Qbj (pn rfl) rfl (show code 24=some c24 from rfl) rfl ?_
 simp only[List.length_cons,List.length_nil,List.cons_append,List.nil_append,simprocAttr]
 refine W_bk ?_
 refine Qki (fun k st=>∃q,q≤s.length∧k=s.length-q∧Qaf s q=Qaf s p∧∃x:Nat→AV,st=⟨[.ptr r 0,x 1,x 2,x 3,x 4],H.set r (rdO s q)⟩) ?_ _ _ ⟨p,hp,rfl,rfl,by rw[QkE gr];exact Qam _ _ _ rfl⟩
 rintro k _ ⟨q,hq,rfl,hb,x,rfl⟩
 have gq:=Qgu gr q
 have w1:IntKind.i64.wrap ((q:Int)+1)=((q+1:Nat):Int):=Qkl (by omega)
 by_cases h0:q<s.length
 ·have f0:decide ((q:Int)<(s.length:Int))=true:=by simp;omega
  have f1:=Qdd h0
  have f2:=QoB [32,9,10,13] (nx s q)
  rw[blank_in]at f2
  cases hc:Qao (nx s q)with
  |true=>
   rw[hc]at f2
   (iterate 2 refine w_s trivial ?_)
   (apply Qpi;focus(refine Evl.call (X:=(QaF code pr)) (QgM lim (H.set r (rdO s q)) [32,9,10,13] (nx s q)) (Evl.all fun k e1=> ?_);simp(maxSteps:=100000000) only[zz,zd,simprocAttr,gq,f0,f1,f2,QdW,e1];(first|done|with_reducible exact rfl)))<;>(try simp only[zp,simprocAttr])
   refine w_r (j_ gq (j_ w1 hl)) ?_
   refine⟨s.length-(q+1),by omega,q+1,by omega,rfl,by rw[←hb,Qle h0 hc], ?_⟩
   rw[QdI]
   exact Qam _ _ _ rfl
  |false=>
   rw[hc]at f2
   (iterate 2 refine w_s trivial ?_)
   (apply Qpi;focus(refine Evl.call (X:=(QaF code pr)) (QgM lim (H.set r (rdO s q)) [32,9,10,13] (nx s q)) (Evl.all fun k e1=> ?_);simp(maxSteps:=100000000) only[zz,zd,simprocAttr,gq,f0,f1,f2,QdW,e1];(first|done|with_reducible exact rfl)))<;>(try simp only[zp,simprocAttr])
   refine w_r trivial ?_
   rw[Qhf (fun k=>by rw[hc]at k;cases k.2)]at hb
   exact Qhk rfl ⟨rfl,by rw[←hb]⟩
 ·have f0:decide ((q:Int)<(s.length:Int))=false:=by simp;omega
  refine w_r (j_ gq f0) ?_
  rw[Qhf (fun k=>h0 k.1)]at hb
  exact Qhk rfl ⟨rfl,by rw[←hb]⟩
end Go.Proofs.YtmhmjlfajlpabaaDoor
namespace Go.Proofs.YtmhmjlfajlpabaaDoor
open Go Go.Abs
variable {pr:FuncId→Option QbC} {pP:FuncId→Option QeW} [POK pr] [PPOK pr pP]
theorem Qa9(lim:Nat)(H:Qaa)(r e p:Nat):EvP (Qcl code pf pr pP) 26 lim [.ptr r 0,intD e,intD p] H (QdB e p):=by
 refine Fv.evP (X:=(QaF code pr)) ?_
 refine Qnk (pn rfl) rfl (by first|exact rfl|exact pnP (pr:=pr) rfl) rfl (show code 26=some c26 from rfl) rfl ?_;simp only[List.length_cons,List.length_nil,List.cons_append,List.nil_append,simprocAttr]
 refine Qan ?_
 apply Qbq 2
 ·intro _;simp only[zz,simprocAttr];exact rfl
 ·simp only[List.drop_succ_cons,List.drop_zero]
  exact VO_panic rfl rfl
theorem Qim(lim:Nat)(H:Qaa)(r:Nat)(s:Tx)(p:Nat)(c:UInt8)(gr:H[r]? =some (rdO s p))(hl:lim≤r)(hs:s.length≤16384)(h:s[p]? =some c):Ev (QaF code pr) 57 lim [.ptr r 0,.d (.int .u8 c.toNat)] H (.tuple []) (H.set r (rdO s (p+1))):=by
 refine @Fv.ev _ (QaF code pr) (Qcl code pf pr fun _=>none) _ _ _ _ _ _ ?_
 have hp:=(List.getElem?_eq_some_iff.1 h).1
 have w1:IntKind.i64.wrap ((p:Int)+1)=((p+1:Nat):Int):=Qkl (by omega)
 have f0:decide (p=s.length)=false:=by simp;omega
 have f1:((c.toNat:Int) !=(c.toNat:Int))=false:=by simp
 refine Qnk (pn rfl) rfl (by first|exact rfl|exact pnP (pr:=pr) rfl) rfl (show code 57=some c57 from rfl) rfl ?_;simp only[List.length_cons,List.length_nil,List.cons_append,List.nil_append,simprocAttr]
 (repeat((first|refine Qi0 ?_|refine Qlm ?_|refine Qer ?_|refine QcN ?_|refine QcM ?_|(apply Qih;focus(intro _;simp only[zz,simprocAttr,gr,QiA,f0,f1,h,QdW,w1,hl];(first|done|with_reducible exact rfl)))|(refine Qlk ?_ ?_;focus(simp only[zp,simprocAttr];done))|(refine Qll ?_ ?_;focus(simp only[zp,simprocAttr];done)))<;>(try simp only[zp,simprocAttr])))
 exact Qhk rfl ⟨rfl,rfl⟩
theorem Qin(lim:Nat)(H:Qaa)(r:Nat)(s:Tx)(p:Nat)(c:UInt8)(gr:H[r]? =some (rdO s p))(hp:p≤s.length)(h:s[p]? ≠some c):EvP (Qcl code pf pr pP) 57 lim [.ptr r 0,.d (.int .u8 c.toNat)] H (QdB 11 p):=by
 refine Fv.evP (X:=(QaF code pr)) ?_
 refine Qnk (pn rfl) rfl (by first|exact rfl|exact pnP (pr:=pr) rfl) rfl (show code 57=some c57 from rfl) rfl ?_;simp only[List.length_cons,List.length_nil,List.cons_append,List.nil_append,simprocAttr]
 by_cases q:p=s.length
 ·have f0:decide (p=s.length)=true:=by simp[q]
  (iterate 4 refine v_s (j_ gr (j_ @QiA f0)) ?_)
  refine Qan ?_;apply Qbq 3;(focus(intro _;simp only[zz,simprocAttr,gr];(first|done|with_reducible exact rfl)));simp only[List.drop_succ_cons,List.drop_zero];refine QaD rfl ?_;simp only[zz,simprocAttr]
  exact EvP.fv (Qa9 _ _ r 11 p) rfl
 ·have f0:decide (p=s.length)=false:=by simp[q]
  have f1:=Qdd (s:=s) (p:=p) (by omega)
  have f2:(((nx s p).toNat:Int) !=(c.toNat:Int))=true:=by
   simp only[bne_iff_ne,ne_eq]
   intro e
   have:(nx s p).toNat=c.toNat:=by omega
   exact h (by rw[f1,UInt8.toNat_inj.1 this])
  (iterate 4 ((first|refine Qi0 ?_|refine Qlm ?_|refine Qer ?_|refine QcN ?_|refine QcM ?_|(apply Qih;focus(intro _;simp only[zz,simprocAttr,gr,QiA,f0,f1,f2,QdW];(first|done|with_reducible exact rfl)))|(refine Qlk ?_ ?_;focus(simp only[zp,simprocAttr];done))|(refine Qll ?_ ?_;focus(simp only[zp,simprocAttr];done)))<;>(try simp only[zp,simprocAttr])))
  refine Qan ?_;apply Qbq 3;(focus(intro _;simp only[zz,simprocAttr,gr];(first|done|with_reducible exact rfl)));simp only[List.drop_succ_cons,List.drop_zero];refine QaD rfl ?_;simp only[zz,simprocAttr]
  exact EvP.fv (Qa9 _ _ r 11 p) rfl
end Go.Proofs.YtmhmjlfajlpabaaDoor
namespace Go.Proofs.YtmhmjlfajlpabaaDoor
open Go Go.Abs
variable {pr:FuncId→Option QbC} {pP:FuncId→Option QeW} [POK pr] [PPOK pr pP]
theorem Qcq(s:Tx)(c:UInt8)(p:Nat):(s[p]? =some c∧Qcb s c p= .ok (p+1))∨(s[p]? ≠some c∧Qcb s c p= .error (11,p)):=by
 unfold Qcb
 by_cases h:s[p]? =some c
 ·exact .inl ⟨h,by rw[if_pos h]⟩
 ·exact .inr ⟨h,by rw[if_neg h]⟩
abbrev flatD(k n:Int):D:= .agg [.int .i64 k,.int .i64 n,.str [],.slice [],.slice []]
abbrev flatC(k n:Int):List AV:= [intD k,intD n,.d (.str []),.fslice [],.fslice []]
theorem Qlp{s:Tx}:∀ {w:Tx} {p:Nat},(∀j,j<w.length→s[p+j]? =w[j]?)→Qdk s w p= .ok (p+w.length)
 | [],p,_=>rfl
 |c::w,p,h=>by
  unfold Qdk
  have h0:=h 0 (by simp)
  rcases Qcq s c p with⟨h1,h2⟩|⟨h1,h2⟩
  ·rw[h2]
   have:=Qlp (s:=s) (w:=w) (p:=p+1) fun j hj=>by
    have:=h (j+1) (by simpa using hj)
    rw[show p+1+j=p+(j+1) by omega,this];simp
   simp only[this,List.length_cons]
   rw[show p+1+w.length=p+(w.length+1) by omega]
  ·exact absurd (by simpa using h0) h1
theorem Qnp{s:Tx}:∀ {w:Tx} {p i:Nat},i<w.length→(∀j,j<i→s[p+j]? =w[j]?)→s[p+i]? ≠w[i]? →Qdk s w p= .error (11,p+i)
 | [],p,i,hi,_,_=>by cases hi
 |c::w,p,0,_,_,hn=>by
  unfold Qdk
  rcases Qcq s c p with⟨h1,h2⟩|⟨h1,h2⟩
  ·exact absurd (by simpa using h1) hn
  ·rw[h2];rfl
 |c::w,p,i+1,hi,h,hn=>by
  unfold Qdk
  have h0:=h 0 (by omega)
  rcases Qcq s c p with⟨h1,h2⟩|⟨h1,h2⟩
  ·rw[h2]
   have:=Qnp (s:=s) (w:=w) (p:=p+1) (i:=i) (by simpa using hi) (fun j hj=>by
    have:=h (j+1) (by omega)
    rw[show p+1+j=p+(j+1) by omega,this];simp) (by rw[show p+1+i=p+(i+1) by omega];simpa using hn)
   simp only[this]
   rw[show p+1+i=p+(i+1) by omega]
  ·exact absurd (by simpa using h0) h1
theorem two_more{H:Qaa}{r:Nat}{o:AObj}(gr:H[r]? =some o)(A B:AObj):∃KK:AObj→AObj→Qaa,(∀x y,KK x y=H.set r x++ [A,y])∧KK o B=H++ [A,B]∧(∀x y,(KK x y)[r]? =some x)∧(∀x y,(KK x y)[H.length]? =some A)∧(∀x y,(KK x y)[H.length+1]? =some y)∧
  (∀x x' y,(KK x y).set r x'=KK x' y)∧∀x y y',(KK x y).set (H.length+1) y'=KK x y':=by
 obtain⟨hr,e⟩:=List.getElem?_eq_some_iff.1 gr
 refine⟨fun x y=>H.set r x++ [A,y],fun _ _=>rfl, ?_,fun x y=> ?_,fun x y=> ?_,fun x y=> ?_,fun x x' y=> ?_,fun x y y'=> ?_⟩
 ·simp only;rw[←e,List.set_getElem_self hr]
 ·simp only;rw[List.getElem?_append_left (by simpa using hr)];simp[hr]
 ·simp only;rw[List.getElem?_append_right (by simp)];simp
 ·simp only;rw[List.getElem?_append_right (by simp)];simp
 ·simp only;rw[List.set_append_left _ _ (by simpa using hr),List.set_set]
 ·simp only;rw[List.set_append_right _ _ (by simp)];simp
theorem len_app2(H:Qaa)(A:AObj):(H++ [A]).length=H.length+1:=by simp
theorem app2(H:Qaa)(A B:AObj):H++ [A]++ [B]=H++ [A,B]:=by simp
theorem Qkm(lim:Nat)(H:Qaa)(r:Nat)(s:Tx)(p:Nat)(w:Tx)(k n:Int)(gr:H[r]? =some (rdO s p))(hl:lim≤r)(hs:s.length≤16384)(hw:w.length≤10)(hp:p≤s.length):
  Fv (QaF code pr) (Qcl code pf pr pP) 42 lim [.ptr r 0,.d (.str w),.agg [intD k,intD n,.d (.str []),.fslice [],.fslice []]] H (fun v H'=>∃q,Qdk s w p= .ok q∧v= .d (flatD k n)∧H'=H.set r (rdO s q)) (fun z=>∃e,Qdk s w p= .error e∧z=QdB e.1 e.2):=by
 refine Qml (pn rfl) rfl (by first|exact rfl|exact pnP (pr:=pr) rfl) rfl (show code 42=some c42 from rfl) rfl ?_;simp only[List.length_cons,List.length_nil,List.cons_append,List.nil_append,simprocAttr]
 obtain⟨KK,kk0,kk1,kk2,kk3,kk4,kk5,kk6⟩:=two_more gr (.cells (flatC k n)) (.cells [intD 0,intD 0,.d (.str []),.fslice [],.fslice []])
 (iterate 4 refine v_s (j_ @len_app2 @app2) ?_)
 rw[←kk1]
 (iterate 2 refine v_s trivial ?_)
 refine V_lp (fun m st=>∃i,i≤w.length∧m=w.length-i∧(∀j,j<i→s[p+j]? =w[j]?)∧∃x:Nat→AV,st=⟨[.ptr r 0,.d (.str w),x 2,x 3,.ptr (H.length+1) 0,.ptr H.length 0,intD w.length,intD i,x 8,x 9],KK (rdO s (p+i)) (.cells [intD 0,intD 0,.d (.str []),.fslice [],.fslice []])⟩) ?_ _ _ ⟨0,Nat.zero_le _,rfl,fun j hj=>by omega,Qam _ _ _ rfl⟩
 rintro m _ ⟨i,hi,rfl,hm,x,rfl⟩
 have gi:=kk2 (rdO s (p+i)) (.cells [intD 0,intD 0,.d (.str []),.fslice [],.fslice []])
 by_cases h0:i<w.length
 ·have f0:decide ((i:Int)<(w.length:Int))=true:=by simp;omega
  have w1:IntKind.i64.wrap ((i:Int)+1)=((i+1:Nat):Int):=Qkl (by omega)
  have hc:=Qdd h0
  by_cases h1:s[p+i]? =w[i]?
  ·rw[hc]at h1
   (repeat((first|refine Qi0 ?_|refine Qlm ?_|refine Qer ?_|refine QcN ?_|refine QcM ?_|(apply Qih;focus(intro _;simp only[zz,simprocAttr,f0,hc,QdW];(first|done|with_reducible exact rfl)))|(refine Qlk ?_ ?_;focus(simp only[zp,simprocAttr];done))|(refine Qll ?_ ?_;focus(simp only[zp,simprocAttr];done)))<;>(try simp only[zp,simprocAttr])))
   refine Qan ?_;apply Qbq 1;(focus(intro _;simp only[zz,simprocAttr,hc,QdW];(first|done|with_reducible exact rfl)));simp only[List.drop_succ_cons,List.drop_zero];refine QaD rfl ?_;simp only[zz,simprocAttr];refine Ev.fv (Qim _ _ r s (p+i) (nx w i) gi hl hs h1) ?_
   (apply Qpj;(focus(intro _;simp only[zz,simprocAttr];(first|done|with_reducible exact rfl))))<;>(try simp only[zp,simprocAttr])
   refine v_r (j_ w1 kk5) ?_
   refine⟨w.length-(i+1),by omega,i+1,h0,rfl,fun j hj=> ?_,Qam _ _ _ rfl⟩
   rcases Nat.lt_or_ge j i with hji|hji
   ·exact hm j hji
   ·obtain rfl:j=i:=by omega
    rw[h1,hc]
  ·(repeat((first|refine Qi0 ?_|refine Qlm ?_|refine Qer ?_|refine QcN ?_|refine QcM ?_|(apply Qih;focus(intro _;simp only[zz,simprocAttr,f0,hc,QdW];(first|done|with_reducible exact rfl)))|(refine Qlk ?_ ?_;focus(simp only[zp,simprocAttr];done))|(refine Qll ?_ ?_;focus(simp only[zp,simprocAttr];done)))<;>(try simp only[zp,simprocAttr])))
   refine Qan ?_
   apply Qbq 1
   ·intro _;simp only[zz,simprocAttr,hc,QdW];with_reducible exact rfl
   ·simp only[List.drop_succ_cons,List.drop_zero]
    refine QaD rfl ?_
    simp only[zz,simprocAttr]
    have hpi:p+i≤s.length:=by
     cases i with
     |zero=>exact hp
     |succ i=>
      have h2:=hm i (by omega)
      rw[List.getElem?_eq_getElem (show i<w.length by omega)]at h2
      have:=(List.getElem?_eq_some_iff.1 h2).1
      omega
    exact EvP.fv (Qin _ _ r s (p+i) (nx w i) gi hpi (by rw[←hc];exact h1)) ⟨(11,p+i),Qnp h0 hm (by rw[hc,←hc];exact h1),rfl⟩
 ·obtain rfl:i=w.length:=by omega
  have f0:decide ((w.length:Int)<(w.length:Int))=false:=by simp
  have hl2:lim≤H.length+1:=by have:=(List.getElem?_eq_some_iff.1 gr).1;omega
  refine v_r (j_ f0 (j_ kk3 (j_ kk4 (j_ kk6 hl2)))) ?_
  refine QbW (vs:= [.d (flatD k n)]) ?_ (kk0 _ _) (List.getElem?_eq_some_iff.1 gr).1 rfl rfl ⟨p+w.length,Qlp hm,rfl,rfl⟩
  simp only[Qcg,zz,simprocAttr,kk4]
end Go.Proofs.YtmhmjlfajlpabaaDoor
namespace Go.Proofs.YtmhmjlfajlpabaaDoor
open Go Go.Abs
variable {pr:FuncId→Option QbC} {pP:FuncId→Option QeW} [POK pr] [PPOK pr pP]
abbrev HX:Tx:= [48,49,50,51,52,53,54,55,56,57,97,98,99,100,101,102,65,66,67,68,69,70]
def QoC(c:UInt8):Bool:=match hexV c with
 |none=>decide (Lib.indexByte HX c<0)
 |some v=>decide (v<16)&&(decide (Lib.indexByte HX c=v)||(decide (15<Lib.indexByte HX c)&&decide (Lib.indexByte HX c=v+6)))&&(decide (Lib.indexByte HX c≤15)||decide (Lib.indexByte HX c=v+6))
theorem hex_all:∀i:Fin 256,QoC (UInt8.ofNat i.val)=true:=by decide+kernel
theorem hex_ok(c:UInt8):QoC c=true:=by
 have:=hex_all ⟨c.toNat,c.toNat_lt⟩
 simpa using this
theorem i32n(a:Nat)(h:a<2147483648):IntKind.i32.wrap (a:Int)=a:=w32 (by omega) (by omega)
theorem shl4(n:Nat)(h:n<65536):Qbz .shl .i32 (n:Int) 4=some (.int .i32 ((n*16:Nat):Int)):=by
 have h1:Qbz .shl .i32 (n:Int) 4=some (.int .i32 (IntKind.i32.wrap ((n:Int)*2^4))):=rfl
 have:(n:Int)*2^4=((n*16:Nat):Int):=by omega
 rw[h1,this,i32n _ (by omega)]
theorem or4(n v:Nat)(h:n<65536)(hv:v<16):Qa7 .or .i32 ((n*16:Nat):Int) (v:Int)=some (.int .i32 ((n*16+v:Nat):Int)):=by
 have h1:Qa7 .or .i32 ((n*16:Nat):Int) (v:Int)=some (.int .i32 (IntKind.i32.wrap ((BitVec.ofInt 32 ((n*16:Nat):Int)|||BitVec.ofInt 32 (v:Int)).toNat:Nat))):=rfl
 have e:=Nat.shiftLeft_add_eq_or_of_lt (i:=4) (b:=v) (by omega) n
 rw[Nat.shiftLeft_eq]at e
 rw[h1,Qc9,Qc9,BitVec.toNat_or,BitVec.toNat_ofNat,BitVec.toNat_ofNat,Nat.mod_eq_of_lt (a:=n*16) (show n*16<2^32 by omega),Nat.mod_eq_of_lt (a:=v) (show v<2^32 by omega),←e,i32n _ (by omega)]
theorem Qg5:∀ {k n p m q:Nat} {s:Tx},QbB s k n p= .ok (m,q)→m<(n+1)*16^k∧q=p+k∧(p≤s.length→q≤s.length)
 |0,n,p,m,q,s,h=>by unfold QbB at h;cases h;exact⟨by omega,by omega,fun h=>h⟩
 |k+1,n,p,m,q,s,h=>by
  unfold QbB at h
  split at h
  ·cases h
  ·rename_i c hc
   split at h
   ·cases h
   ·rename_i v hv
    obtain⟨h1,h2,h3⟩:=Qg5 h
    have hk:=hex_ok c
    unfold QoC at hk
    rw[hv]at hk
    simp only[Bool.and_eq_true,decide_eq_true_eq]at hk
    have:=(List.getElem?_eq_some_iff.1 hc).1
    refine⟨?_,by omega,fun _=>h3 (by omega)⟩
    have h4:(16*n+v+1)*16^k≤(n+1)*16*16^k:=Nat.mul_le_mul_right _ (by omega)
    rw[Nat.pow_succ,Nat.mul_comm (16^k) 16,←Nat.mul_assoc]
    omega
abbrev i32D(n:Int):AV:= .d (.int .i32 n)
theorem QoY(lim:Nat)(H:Qaa)(r:Nat)(s:Tx)(p:Nat)(gr:H[r]? =some (rdO s p))(hl:lim≤r)(hs:s.length≤16384)(hp:p≤s.length):
  Fv (QaF code pr) (Qcl code pf pr pP) 73 lim [.ptr r 0] H (fun v H'=>∃n q,QbB s 4 0 p= .ok (n,q)∧v=i32D n∧H'=H.set r (rdO s q)) (fun z=>∃e,QbB s 4 0 p= .error e∧z=QdB e.1 e.2):=by
 refine Qnk (pn rfl) rfl (by first|exact rfl|exact pnP (pr:=pr) rfl) rfl (show code 73=some c73 from rfl) rfl ?_;simp only[List.length_cons,List.length_nil,List.cons_append,List.nil_append,simprocAttr]
 refine v_r trivial ?_
 refine V_lp (fun m st=>∃i n,i≤4∧m=4-i∧n<16^i∧p+i≤s.length∧QbB s 4 0 p=QbB s (4-i) n (p+i)∧∃x:Nat→AV,st=⟨[.ptr r 0,x 1,x 2,x 3,x 4,i32D n,intD i,x 7,x 8,x 9],H.set r (rdO s (p+i))⟩) ?_ _ _ ⟨0,0,by omega,rfl,by simp,hp,rfl,QdU (QkE gr).symm rfl⟩
 rintro m _ ⟨i,n,hi,rfl,hn,hpi,hc,x,rfl⟩
 have gi:=Qgu gr (p+i)
 by_cases h0:i<4
 ·have f0:decide ((i:Int)<4)=true:=by simp;omega
  have w1:IntKind.i64.wrap ((i:Int)+1)=((i+1:Nat):Int):=Qkl (by omega)
  have hk:=hex_ok (nx s (p+i))
  have hn2:n<65536:=Nat.lt_of_lt_of_le hn (Nat.pow_le_pow_right (by omega) (show i≤4 by omega))
  by_cases h1:p+i=s.length
  ·have f1:decide (p+i=s.length)=true:=by simp[h1]
   have he:QbB s (4-i) n (p+i)= .error (11,p+i):=by
    rw[show 4-i=(3-i)+1 by omega];unfold QbB
    rw[List.getElem?_eq_none (by omega)]
   refine v_r f0 ?_
   (apply QaX;focus(refine Evl.call (X:=(QaF code pr)) (Qbo lim (H.set r (rdO s (p+i))) r s (p+i) gi hpi) (Evl.call (X:=(QaF code pr)) (QgM lim (H.set r (rdO s (p+i))) HX (nx s (p+i))) (Evl.all fun k e2 e1=> ?_));simp(maxSteps:=100000000) only[zz,zd,simprocAttr,e2,e1];(first|done|with_reducible exact rfl)))<;>(try simp only[zp,simprocAttr])
   refine v_r (j_ gi (j_ @QiA f1)) ?_
   refine Qan ?_;apply Qbq 3;(focus(intro _;simp only[zz,simprocAttr,gi];(first|done|with_reducible exact rfl)));simp only[List.drop_succ_cons,List.drop_zero];refine QaD rfl ?_;simp only[zz,simprocAttr]
   exact EvP.fv (Qa9 _ _ r 11 (p+i)) ⟨_,by rw[hc,he],rfl⟩
  ·have f1:decide (p+i=s.length)=false:=by simp[h1]
   have hat:=Qdd (s:=s) (p:=p+i) (by omega)
   cases hv:hexV (nx s (p+i))with
   |none=>
    unfold QoC at hk
    rw[hv]at hk
    have he:QbB s (4-i) n (p+i)= .error (11,p+i):=by
     rw[show 4-i=(3-i)+1 by omega];unfold QbB
     rw[hat];simp only[hv]
    refine v_r f0 ?_
    (apply QaX;focus(refine Evl.call (X:=(QaF code pr)) (Qbo lim (H.set r (rdO s (p+i))) r s (p+i) gi hpi) (Evl.call (X:=(QaF code pr)) (QgM lim (H.set r (rdO s (p+i))) HX (nx s (p+i))) (Evl.all fun k e2 e1=> ?_));simp(maxSteps:=100000000) only[zz,zd,simprocAttr,e2,e1];(first|done|with_reducible exact rfl)))<;>(try simp only[zp,simprocAttr])
    refine v_r (j_ gi (j_ @QiA (j_ f1 hk))) ?_
    refine Qan ?_;apply Qbq 3;(focus(intro _;simp only[zz,simprocAttr,gi];(first|done|with_reducible exact rfl)));simp only[List.drop_succ_cons,List.drop_zero];refine QaD rfl ?_;simp only[zz,simprocAttr]
    exact EvP.fv (Qa9 _ _ r 11 (p+i)) ⟨_,by rw[hc,he],rfl⟩
   |some v=>
    unfold QoC at hk
    rw[hv]at hk
    simp only[Bool.and_eq_true,Bool.or_eq_true,decide_eq_true_eq]at hk
    obtain⟨⟨hv16,hk1⟩,hk2⟩:=hk
    have he:QbB s (4-i) n (p+i)=QbB s (4-(i+1)) (16*n+v) (p+(i+1)):=by
     rw[show 4-i=(3-i)+1 by omega,show 4-(i+1)=3-i by omega]
     conv=>lhs;unfold QbB
     rw[hat];simp only[hv];rfl
    have f2:decide (Lib.indexByte HX (nx s (p+i))<0)=false:=by simp;omega
    have s4:=shl4 n hn2
    have o4:=or4 n v hn2 hv16
    have wv:IntKind.i32.wrap (v:Int)=v:=i32n v (by omega)
    have wp:IntKind.i64.wrap (((p+i:Nat):Int)+1)=((p+(i+1):Nat):Int):=by rw[Qkl (by omega)];rfl
    have hn3:n*16+v<16^(i+1):=by rw[Nat.pow_succ];omega
    refine v_r f0 ?_
    (apply QaX;focus(refine Evl.call (X:=(QaF code pr)) (Qbo lim (H.set r (rdO s (p+i))) r s (p+i) gi hpi) (Evl.call (X:=(QaF code pr)) (QgM lim (H.set r (rdO s (p+i))) HX (nx s (p+i))) (Evl.all fun k e2 e1=> ?_));simp(maxSteps:=100000000) only[zz,zd,simprocAttr,e2,e1];(first|done|with_reducible exact rfl)))<;>(try simp only[zp,simprocAttr])
    rcases Int.lt_or_le 15 (Lib.indexByte HX (nx s (p+i)))with h2|h2
    ·have e6:Lib.indexByte HX (nx s (p+i))=v+6:=by rcases hk1 with h|h<;>rcases hk2 with h'|h'<;>omega
     have f3:decide (Lib.indexByte HX (nx s (p+i))>15)=true:=by simp;omega
     have w2:IntKind.i64.wrap (Lib.indexByte HX (nx s (p+i))-6)=(v:Int):=by rw[e6,w64 (by omega) (by omega)];omega
     (repeat((first|refine Qi0 ?_|refine Qlm ?_|refine Qer ?_|refine QcN ?_|refine QcM ?_|(apply Qih;focus(intro _;simp only[zz,simprocAttr,gi,QiA,f1,f2,f3,w2,s4,o4,wv,wp,hl,QdI,w1];(first|done|with_reducible exact rfl)))|(refine Qlk ?_ ?_;focus(simp only[zp,simprocAttr];done))|(refine Qll ?_ ?_;focus(simp only[zp,simprocAttr];done)))<;>(try simp only[zp,simprocAttr])))
     refine⟨4-(i+1),by omega,i+1,n*16+v,by omega,rfl,hn3,by omega,by rw[hc,he,Nat.mul_comm 16 n],Qam _ _ _ rfl⟩
    ·have e6:Lib.indexByte HX (nx s (p+i))=v:=by rcases hk1 with h|h<;>rcases hk2 with h'|h'<;>omega
     have f3:decide (Lib.indexByte HX (nx s (p+i))>15)=false:=by simp;omega
     refine v_r (j_ gi (j_ @QiA (j_ f1 (j_ f2 f3)))) ?_
     (repeat((first|refine Qi0 ?_|refine Qlm ?_|refine Qer ?_|refine QcN ?_|refine QcM ?_|(apply Qih;focus(intro _;simp only[zz,simprocAttr,gi,e6,s4,o4,wv,wp,hl,QdI,w1];(first|done|with_reducible exact rfl)))|(refine Qlk ?_ ?_;focus(simp only[zp,simprocAttr];done))|(refine Qll ?_ ?_;focus(simp only[zp,simprocAttr];done)))<;>(try simp only[zp,simprocAttr])))
     refine⟨4-(i+1),by omega,i+1,n*16+v,by omega,rfl,hn3,by omega,by rw[hc,he,Nat.mul_comm 16 n],Qam _ _ _ rfl⟩
 ·obtain rfl:i=4:=by omega
  have f0:decide (((4:Nat):Int)<4)=false:=by simp
  refine v_r f0 ?_
  exact Qa5 rfl ⟨n,p+4,by rw[hc];rfl,rfl,rfl⟩
end Go.Proofs.YtmhmjlfajlpabaaDoor
namespace Go.Proofs.YtmhmjlfajlpabaaDoor
open Go Go.Abs
theorem nx_end'{s:Tx}{p:Nat}(h:s.length≤p):nx s p=0:=by
 unfold nx;rw[List.getElem?_eq_none h];rfl
theorem QeE{s:Tx}{p:Nat}(h:nx s p≠0):p<s.length:=by
 rcases Nat.lt_or_ge p s.length with h1|h1
 ·exact h1
 ·exact absurd (nx_end' h1) h
theorem Qhw{c k:UInt8}{n:Int}(h:c=k)(hn:(k.toNat:Int)=n):((c.toNat:Int)==n)=true:=by subst h;simpa using hn
theorem Qhn{c k:UInt8}{n:Int}(h:c≠k)(hn:(k.toNat:Int)=n):((c.toNat:Int)==n)=false:=by
 rw[Bool.eq_false_iff]
 intro e
 have:(c.toNat:Int)=n:=by simpa using e
 exact h (UInt8.toNat_inj.1 (by omega))
theorem Qbn(s:Tx)(p:Nat):p≤Qaf s p∧(p≤s.length→Qaf s p≤s.length):=by
 unfold Qaf
 have:=(List.takeWhile_prefix (p:=Qao) (l:=s.drop p)).length_le
 rw[List.length_drop]at this
 omega
theorem Qeg{s:Tx}{c:UInt8}{p q:Nat}(h:Qcb s c p= .ok q):q=p+1∧q≤s.length:=by
 unfold Qcb at h
 split at h
 ·rename_i h1;have:=(List.getElem?_eq_some_iff.1 h1).1;cases h;omega
 ·cases h
theorem Qik{s:Tx}:∀ {w:Tx} {p q:Nat},Qdk s w p= .ok q→q=p+w.length∧(p≤s.length→q≤s.length)
 | [],p,q,h=>by cases h;exact⟨rfl,fun h=>h⟩
 |c::w,p,q,h=>by
  unfold Qdk at h
  split at h
  ·rename_i q' h1
   obtain⟨rfl,h2⟩:=Qeg h1
   have:=Qik h
   simp only[List.length_cons];omega
  ·cases h
theorem Qj1{s:Tx}{first:Nat}:∀ {f n p m q:Nat},Qbp s first f n p= .ok (m,q)→p≤q∧(p≤s.length→q≤s.length)∧(QaS (nx s p)=true→p<q)
 |0,_,_,_,_,h=>by cases h
 |f+1,n,p,m,q,h=>by
  unfold Qbp at h
  split at h
  ·rename_i hd
   split at h
   ·cases h
   ·have hp:p<s.length:=QeE fun h=>by rw[h]at hd;cases hd
    have:=Qj1 h
    omega
  ·rename_i hd
   cases h;exact⟨Nat.le_refl _,fun h=>h,fun h=>absurd h hd⟩
theorem Qoi{s:Tx}{p q:Nat}{j:J}(h:QcB s p= .ok (j,q)):p<q∧q≤s.length:=by
 unfold QcB at h
 simp only at h
 generalize hf:(if nx s p=45 then p+1 else p)=f at h
 have hpf:p≤f:=by rw[←hf];split<;>omega
 split at h
 ·rename_i hd
  split at h
  ·cases h
  ·rename_i n q' h1
   split at h
   ·cases h
   ·have hl:f<s.length:=QeE fun h=>by rw[h]at hd;cases hd
    have:=Qj1 h1
    have:=this.2.2 hd
    cases h;omega
 ·cases h
theorem Qk8{s:Tx}:∀ {k n p m q:Nat},QbB s k n p= .ok (m,q)→p≤q∧(p≤s.length→q≤s.length)
 |0,n,p,m,q,h=>by unfold QbB at h;cases h;omega
 |k+1,n,p,m,q,h=>by
  unfold QbB at h
  split at h
  ·cases h
  ·rename_i c hc
   have:=(List.getElem?_eq_some_iff.1 hc).1
   split at h
   ·cases h
   ·have:=Qk8 h;omega
theorem QoP{s:Tx}{p n q:Nat}(h:Qec s p= .ok (n,q)):p<q∧q≤s.length:=by
 unfold Qec at h
 split at h
 ·cases h
 ·rename_i c hc
  have hl:=(List.getElem?_eq_some_iff.1 hc).1
  iterate 6 (split at h;· have:=congrArg Prod.snd (Except.ok.inj h);simp only at this;omega)
  split at h
  ·split at h
   ·cases h
   ·rename_i n1 p1 h1
    have:=Qk8 h1
    split at h
    ·have:=congrArg Prod.snd (Except.ok.inj h);simp only at this;omega
    ·split at h
     ·cases h
     ·rename_i hh
      have h92:s[p1]? =some 92∧s[p1+1]? =some 117:=Classical.byContradiction fun k=>hh (.inr k)
      have:=(List.getElem?_eq_some_iff.1 h92.2).1
      split at h
      ·cases h
      ·rename_i n2 p2 h2
       have:=Qk8 h2
       split at h
       ·cases h
       ·have:=congrArg Prod.snd (Except.ok.inj h);simp only at this;omega
  ·cases h
theorem QiV{s:Tx}:∀ {f:Nat} {acc:Tx} {p q:Nat} {t:Tx},QbG s f acc p= .ok (t,q)→p<q∧q≤s.length
 |0,_,_,_,_,h=>by cases h
 |f+1,acc,p,q,t,h=>by
  unfold QbG at h
  split at h
  ·cases h
  ·rename_i c hc
   have hl:=(List.getElem?_eq_some_iff.1 hc).1
   split at h
   ·cases h
   ·split at h
    ·cases h;omega
    ·split at h
     ·split at h
      ·cases h
      ·rename_i n1 p1 h1
       have:=QoP h1
       have:=QiV h
       omega
     ·have:=QiV h;omega
theorem Qkp{s:Tx}{p q:Nat}{t:Tx}(h:Qcc s p= .ok (t,q)):p<q∧q≤s.length:=by
 unfold Qcc at h
 split at h
 ·cases h
 ·rename_i p1 h1
  have:=Qeg h1
  have:=QiV h
  omega
theorem QcV{s:Tx}{first:Bool}{e:UInt8}{p q:Nat}{b:Bool}(h:Qcd s first e p= .ok (b,q)):p≤q∧(p≤s.length→q≤s.length)∧(b=false→p<q):=by
 unfold Qcd at h
 simp only at h
 have hb:=Qbn s p
 split at h
 ·rename_i h1;have:=(List.getElem?_eq_some_iff.1 h1).1;cases h;refine⟨by omega,fun _=>by omega,fun _=>by omega⟩
 ·split at h
  ·cases h;exact⟨hb.1,hb.2,fun h=>by cases h⟩
  ·split at h
   ·cases h
   ·rename_i q1 h1
    have:=Qeg h1
    have hb2:=Qbn s q1
    cases h;exact⟨by omega,fun _=>hb2.2 (by omega),fun h=>by cases h⟩
theorem all_lt(s:Tx):∀f:Nat,(∀deep p j q,Qa8 s f deep p= .ok (j,q)→p<q∧(q≤s.length))∧
  (∀deep first acc p l q,Qdp s f deep first acc p= .ok (l,q)→p<q∧(p≤s.length→q≤s.length))∧
  (∀deep first ks acc p k l q,Qa0 s f deep first ks acc p= .ok (k,l,q)→p<q∧(p≤s.length→q≤s.length)):=by
 intro f
 induction f with
 |zero=>
  refine⟨fun _ _ _ _ h=> ?_,fun _ _ _ _ _ _ h=> ?_,fun _ _ _ _ _ _ _ _ h=> ?_⟩
  ·unfold Qa8 at h;cases h
  ·unfold Qdp at h;cases h
  ·unfold Qa0 at h;cases h
 |succ f ih=>
  refine⟨fun deep p j q h=> ?_,fun deep first acc p l q h=> ?_,fun deep first ks acc p k l q h=> ?_⟩
  ·unfold Qa8 at h
   split at h
   ·cases h
   split at h
   ·rename_i hc
    have hp:p<s.length:=QeE (by rw[hc];decide)
    split at h
    ·cases h
    ·rename_i l q' h1
     have:=ih.2.1 _ _ _ _ _ _ h1
     cases h;omega
   split at h
   ·rename_i hc
    have hp:p<s.length:=QeE (by rw[hc];decide)
    split at h
    ·cases h
    ·rename_i k l q' h1
     have:=ih.2.2 _ _ _ _ _ _ _ _ h1
     cases h;omega
   split at h
   ·split at h
    ·cases h
    ·rename_i t q' h1
     have:=Qkp h1
     cases h;exact this
   split at h
   ·rename_i hc
    have hp:p<s.length:=QeE (by rw[hc];decide)
    split at h
    ·cases h
    ·rename_i q' h1
     have:=Qik h1
     cases h;simp only[List.length_cons,List.length_nil]at this;omega
   split at h
   ·rename_i hc
    have hp:p<s.length:=QeE (by rw[hc];decide)
    split at h
    ·cases h
    ·rename_i q' h1
     have:=Qik h1
     cases h;simp only[List.length_cons,List.length_nil]at this;omega
   split at h
   ·rename_i hc
    have hp:p<s.length:=QeE (by rw[hc];decide)
    split at h
    ·cases h
    ·rename_i q' h1
     have:=Qik h1
     cases h;simp only[List.length_cons,List.length_nil]at this;omega
   exact Qoi h
  ·unfold Qdp at h
   split at h
   ·cases h
   ·rename_i q' h1
    have:=QcV h1
    have:=this.2.2 rfl
    cases h;omega
   ·rename_i p' h1
    have:=QcV h1
    split at h
    ·cases h
    ·rename_i j q' h2
     have:=ih.1 _ _ _ _ h2
     have:=ih.2.1 _ _ _ _ _ _ h
     omega
  ·unfold Qa0 at h
   split at h
   ·cases h
   ·rename_i q' h1
    have:=QcV h1
    have:=this.2.2 rfl
    cases h;omega
   ·rename_i p' h1
    have:=QcV h1
    split at h
    ·cases h
    ·rename_i k' q' h2
     have:=Qkp h2
     split at h
     ·cases h
     ·split at h
      ·cases h
      ·rename_i r h3
       have:=Qeg h3
       split at h
       ·cases h
       ·rename_i j z h4
        have:=ih.1 _ _ _ _ h4
        have:=ih.2.2 _ _ _ _ _ _ _ _ h
        have:=Qbn s q'
        have:=Qbn s r
        omega
theorem QfW{s:Tx}{f deep p q:Nat}{j:J}(h:Qa8 s f deep p= .ok (j,q)):p<q∧q≤s.length:=(all_lt s f).1 _ _ _ _ h
variable {pr:FuncId→Option QbC} {pP:FuncId→Option QeW} [POK pr] [PPOK pr pP]
theorem QnZ(lim:Nat)(H:Qaa)(a b:Tx)(ha:a.length≤16384):Ev (QaF code pr) 74 lim [.d (.str a),.d (.str b)] H (boolD (b.isPrefixOf a)) H:=by
 have e1:∀lim,Ev (QaF code pr) 81 lim [.d (.str a),.d (.str b)] H (boolD (b.isPrefixOf a)) H:=fun lim=>by
  refine Fn.ev ?_
  refine Qbj (pn rfl) rfl (show code 81=some c81 from rfl) rfl ?_;simp only[List.length_cons,List.length_nil,List.cons_append,List.nil_append,simprocAttr]
  by_cases h:b.length≤a.length
  ·have f0:decide ((a.length:Int)≥(b.length:Int))=true:=by simp;omega
   have f1:((b.length:Int)≤(a.length:Int))=True:=eq_true (by omega)
   have f2:(a.take b.length==b)=b.isPrefixOf a:=by
    rw[Bool.eq_iff_iff]
    simp only[beq_iff_eq,List.isPrefixOf_iff_prefix]
    exact⟨fun h=>⟨a.drop b.length,(congrArg (· ++a.drop b.length) h.symm).trans (List.take_append_drop _ _)⟩,fun⟨t,ht⟩=>by rw[←ht];simp⟩
   refine w_r (j_ f0 (j_ f1 f2)) ?_
   exact Qae rfl rfl ⟨rfl,rfl⟩
  ·have f0:decide ((a.length:Int)≥(b.length:Int))=false:=by simp;omega
   have f2:b.isPrefixOf a=false:=by
    rw[Bool.eq_false_iff]
    intro hp
    have:=(List.isPrefixOf_iff_prefix.1 hp).length_le
    omega
   refine w_r f0 ?_
   exact Qae rfl rfl ⟨by rw[f2],rfl⟩
 refine Fn.ev ?_
 refine Qbj (pn rfl) rfl (show code 74=some c74 from rfl) rfl ?_;simp only[List.length_cons,List.length_nil,List.cons_append,List.nil_append,simprocAttr]
 (iterate 3 refine w_s trivial ?_)
 refine w_1 (e1 H.length) trivial ?_
 refine w_r trivial ?_
 exact Qae rfl rfl ⟨rfl,rfl⟩
abbrev EX:Tx:= [34,92,47,98,102,110,114,116,117]
theorem idx_lt(l:Tx)(c:UInt8):decide (Lib.indexByte l c<0)= !l.contains c:=by
 rw[←QoB,Bool.eq_iff_iff];simp
theorem Qmc{s:Tx}{p:Nat}(h:s[p]? =none∨∃c,s[p]? =some c∧EX.contains c=false):Qec s p= .error (11,p):=by
 unfold Qec
 rcases h with h|⟨c,h,hc⟩
 ·rw[h]
 ·rw[h]
  simp only[List.contains_cons,List.contains_nil,Bool.or_false,Bool.or_eq_false_iff,beq_eq_false_iff_ne,ne_eq]at hc
  obtain⟨h1,h2,h3,h4,h5,h6,h7,h8,h9⟩:=hc
  simp only[h1,h2,h3,h4,h5,h6,h7,h8,h9,or_self,if_false]
theorem esc_u{s:Tx}{p:Nat}(h:s[p]? =some 117):Qec s p=match QbB s 4 0 (p+1)with
  |.error e=> .error e
  |.ok (n,p')=>if n<55296∨57343<n then .ok (n,p')
   else if 56320≤n∨¬(s[p']? =some 92∧s[p'+1]? =some 117)then .error (11,p-1)
   else match QbB s 4 0 (p'+2)with
    |.error e=> .error e
    |.ok (m,q)=>if m<56320∨57343<m then .error (11,p-1)else .ok (65536+(n-55296)*1024+(m-56320),q):=by
 conv=>lhs;unfold Qec
 rw[h];rfl
theorem pre_two(s:Tx)(q:Nat):([92,117]:Tx).isPrefixOf (s.drop q)=decide (s[q]? =some 92∧s[q+1]? =some 117):=by
 have e0:s[q]? =(s.drop q)[0]? :=by simp
 have e1:s[q+1]? =(s.drop q)[1]? :=by simp
 rw[e0,e1]
 rcases s.drop q with _|⟨a,_|⟨b,l⟩⟩
 ·rfl
 ·simp[List.isPrefixOf]
 ·simp only[List.isPrefixOf,Bool.and_true,List.getElem?_cons_zero,List.getElem?_cons_succ,Option.some.injEq]
  rw[Bool.eq_iff_iff];simp only[Bool.and_eq_true,beq_iff_eq,decide_eq_true_eq]
  exact⟨fun⟨h1,h2⟩=>⟨h1.symm,h2.symm⟩,fun⟨h1,h2⟩=>⟨h1.symm,h2.symm⟩⟩
theorem shl10(n:Nat)(h:n<65536):Qbz .shl .i32 (n:Int) 10=some (.int .i32 ((n*1024:Nat):Int)):=by
 have h1:Qbz .shl .i32 (n:Int) 10=some (.int .i32 (IntKind.i32.wrap ((n:Int)*2^10))):=rfl
 have:(n:Int)*2^10=((n*1024:Nat):Int):=by omega
 rw[h1,this,i32n _ (by omega)]
theorem esc_ev(lim:Nat)(H:Qaa)(r:Nat)(s:Tx)(p:Nat)(gr:H[r]? =some (rdO s p))(hl:lim≤r)(hs:s.length≤16384)(hp:p≤s.length)(h1:1≤p):
  Fv (QaF code pr) (Qcl code pf pr pP) 60 lim [.ptr r 0] H (fun v H'=>∃n q,Qec s p= .ok (n,q)∧v=i32D n∧H'=H.set r (rdO s q)) (fun z=>∃e,Qec s p= .error e∧z=QdB e.1 e.2):=by
 have wm:IntKind.i64.wrap ((p:Int)-1)=((p-1:Nat):Int):=by rw[w64 (by omega) (by omega)];omega
 have wp:IntKind.i64.wrap ((p:Int)+1)=((p+1:Nat):Int):=Qkl (by omega)
 have gp:=Qgu gr (p+1)
 have f2:=idx_lt EX (nx s p)
 refine Qnk (pn rfl) rfl (by first|exact rfl|exact pnP (pr:=pr) rfl) rfl (show code 60=some c60 from rfl) rfl ?_;simp only[List.length_cons,List.length_nil,List.cons_append,List.nil_append,simprocAttr]
 refine v_r (j_ gr wm) ?_
 (apply QaX;focus(refine Evl.call (X:=(QaF code pr)) (Qbo lim H r s p gr hp) (Evl.all fun k e1=> ?_);simp(maxSteps:=100000000) only[zz,zd,simprocAttr,e1];(first|done|with_reducible exact rfl)))<;>(try simp only[zp,simprocAttr])
 refine v_r trivial ?_
 (apply QaX;focus(refine Evl.call (X:=(QaF code pr)) (QgM lim H EX (nx s p)) (Evl.all fun k e1=> ?_);simp(maxSteps:=100000000) only[zz,zd,simprocAttr,e1];(first|done|with_reducible exact rfl)))<;>(try simp only[zp,simprocAttr])
 by_cases hq:p=s.length
 ·have f1:decide (p=s.length)=true:=by simp[hq]
  refine v_r (j_ gr (j_ @QiA f1)) ?_
  refine Qan ?_;apply Qbq 3;(focus(intro _;simp only[zz,simprocAttr,gr];(first|done|with_reducible exact rfl)));simp only[List.drop_succ_cons,List.drop_zero];refine QaD rfl ?_;simp only[zz,simprocAttr]
  exact EvP.fv (Qa9 _ _ r 11 p) ⟨_,Qmc (.inl (List.getElem?_eq_none (by omega))),rfl⟩
 have f1:decide (p=s.length)=false:=by simp[hq]
 have hat:=Qdd (s:=s) (p:=p) (by omega)
 cases hc:EX.contains (nx s p)with
 |false=>
  rw[hc]at f2
  refine v_r (j_ gr (j_ @QiA (j_ f1 f2))) ?_
  refine Qan ?_;apply Qbq 3;(focus(intro _;simp only[zz,simprocAttr,gr];(first|done|with_reducible exact rfl)));simp only[List.drop_succ_cons,List.drop_zero];refine QaD rfl ?_;simp only[zz,simprocAttr]
  exact EvP.fv (Qa9 _ _ r 11 p) ⟨_,Qmc (.inr ⟨_,hat,hc⟩),rfl⟩
 |true=>
  rw[hc]at f2
  have hin:nx s p=34∨nx s p=92∨nx s p=47∨nx s p=98∨nx s p=102∨nx s p=110∨nx s p=114∨nx s p=116∨nx s p=117:=by simpa using hc
  refine v_r (j_ gr (j_ @QiA (j_ f1 f2))) ?_
  rcases hin with e|e|e|e|e|e|e|e|e
  ·have ec:((nx s p).toNat:Int)=34:=by rw[e];rfl
   have wc:IntKind.i32.wrap 34=34:=by decide
   refine v_r (j_ gr (j_ wp (j_ hl (j_ ec wc)))) ?_
   exact Qa5 rfl ⟨34,p+1,by unfold Qec;rw[hat,e];rfl,rfl,rfl⟩
  ·have ec:((nx s p).toNat:Int)=92:=by rw[e];rfl
   have wc:IntKind.i32.wrap 92=92:=by decide
   refine v_r (j_ gr (j_ wp (j_ hl (j_ ec wc)))) ?_
   exact Qa5 rfl ⟨92,p+1,by unfold Qec;rw[hat,e];rfl,rfl,rfl⟩
  ·have ec:((nx s p).toNat:Int)=47:=by rw[e];rfl
   have wc:IntKind.i32.wrap 47=47:=by decide
   refine v_r (j_ gr (j_ wp (j_ hl (j_ ec wc)))) ?_
   exact Qa5 rfl ⟨47,p+1,by unfold Qec;rw[hat,e];rfl,rfl,rfl⟩
  ·have ec:((nx s p).toNat:Int)=98:=by rw[e];rfl
   have wc:IntKind.i32.wrap 98=98:=by decide
   refine v_r (j_ gr (j_ wp (j_ hl (j_ ec wc)))) ?_
   exact Qa5 rfl ⟨8,p+1,by unfold Qec;rw[hat,e];rfl,rfl,rfl⟩
  ·have ec:((nx s p).toNat:Int)=102:=by rw[e];rfl
   have wc:IntKind.i32.wrap 102=102:=by decide
   refine v_r (j_ gr (j_ wp (j_ hl (j_ ec wc)))) ?_
   exact Qa5 rfl ⟨12,p+1,by unfold Qec;rw[hat,e];rfl,rfl,rfl⟩
  ·have ec:((nx s p).toNat:Int)=110:=by rw[e];rfl
   have wc:IntKind.i32.wrap 110=110:=by decide
   refine v_r (j_ gr (j_ wp (j_ hl (j_ ec wc)))) ?_
   exact Qa5 rfl ⟨10,p+1,by unfold Qec;rw[hat,e];rfl,rfl,rfl⟩
  ·have ec:((nx s p).toNat:Int)=114:=by rw[e];rfl
   have wc:IntKind.i32.wrap 114=114:=by decide
   refine v_r (j_ gr (j_ wp (j_ hl (j_ ec wc)))) ?_
   exact Qa5 rfl ⟨13,p+1,by unfold Qec;rw[hat,e];rfl,rfl,rfl⟩
  ·have ec:((nx s p).toNat:Int)=116:=by rw[e];rfl
   have wc:IntKind.i32.wrap 116=116:=by decide
   refine v_r (j_ gr (j_ wp (j_ hl (j_ ec wc)))) ?_
   exact Qa5 rfl ⟨9,p+1,by unfold Qec;rw[hat,e];rfl,rfl,rfl⟩
  have ec:((nx s p).toNat:Int)=117:=by rw[e];rfl
  have hu:=esc_u (s:=s) (p:=p) (by rw[hat,e])
  refine v_r (j_ gr (j_ wp (j_ hl ec))) ?_
  refine Qan ?_;refine QaD rfl ?_;simp only[zz,simprocAttr]
  refine Fv.mono (QoY _ _ r s (p+1) gp hl hs (by omega)) ?_ ?_
  rotate_left
  ·rintro z ⟨e',he,rfl⟩
   exact⟨e',by rw[hu,he],rfl⟩
  rintro v H' ⟨n,q,hcode,rfl,rfl⟩
  rw[hcode]at hu
  simp only at hu
  obtain⟨hn,-,hq2⟩:=Qg5 hcode
  have hq2:=hq2 (by omega)
  rw[QdI]
  have gq:=Qgu gr q
  (apply Qpj;(focus(intro _;simp only[zz,simprocAttr];(first|done|with_reducible exact rfl))))<;>(try simp only[zp,simprocAttr])
  by_cases c1:n<55296
  ·have g1:decide ((n:Int)<55296)=true:=by simp;omega
   rw[if_pos (.inl c1)]at hu
   refine v_r g1 ?_
   exact Qa5 rfl ⟨n,q,hu,rfl,rfl⟩
  have g1:decide ((n:Int)<55296)=false:=by simp;omega
  by_cases c2:57343<n
  ·have g2:decide ((n:Int)>57343)=true:=by simp;omega
   rw[if_pos (.inr c2)]at hu
   refine v_r (j_ g1 g2) ?_
   exact Qa5 rfl ⟨n,q,hu,rfl,rfl⟩
  have g2:decide ((n:Int)>57343)=false:=by simp;omega
  rw[if_neg (by omega)]at hu
  by_cases c3:56320≤n
  ·have g3:decide ((n:Int)≥56320)=true:=by simp;omega
   rw[if_pos (.inl c3)]at hu
   refine v_r (j_ g1 (j_ g2 g3)) ?_
   refine Qan ?_;refine QaD rfl ?_;simp only[zz,simprocAttr]
   exact EvP.fv (Qa9 _ _ r 11 (p-1)) ⟨_,hu,rfl⟩
  have g3:decide ((n:Int)≥56320)=false:=by simp;omega
  have hpre:=QnZ (pr:=pr) lim (H.set r (rdO s q)) (s.drop q) [92,117] (by rw[List.length_drop];omega)
  rw[pre_two]at hpre
  have sl1:((q:Int)≤(s.length:Int))=True:=eq_true (by omega)
  have sl2:s.take s.length=s:=List.take_length
  by_cases c4:s[q]? =some 92∧s[q+1]? =some 117
  ·rw[decide_eq_true c4]at hpre
   rw[if_neg (by rintro(h|h);exact c3 h;exact h c4)]at hu
   have wq:IntKind.i64.wrap ((q:Int)+2)=((q+2:Nat):Int):=by rw[w64 (by omega) (by omega)];omega
   have hql:=(List.getElem?_eq_some_iff.1 c4.2).1
   refine v_r (j_ g1 g2) ?_
   (apply QaX;focus(refine Evl.call (X:=(QaF code pr)) (hpre) (Evl.all fun k e1=> ?_);simp(maxSteps:=100000000) only[zz,zd,simprocAttr,gq,g3,sl1,sl2,e1];(first|done|with_reducible exact rfl)))<;>(try simp only[zp,simprocAttr])
   (repeat((first|refine Qi0 ?_|refine Qlm ?_|refine Qer ?_|refine QcN ?_|refine QcM ?_|(apply Qih;focus(intro _;simp only[zz,simprocAttr,gq,wq,hl,QdI];(first|done|with_reducible exact rfl)))|(refine Qlk ?_ ?_;focus(simp only[zp,simprocAttr];done))|(refine Qll ?_ ?_;focus(simp only[zp,simprocAttr];done)))<;>(try simp only[zp,simprocAttr])))
   have gq2:=Qgu gr (q+2)
   refine Qan ?_;refine QaD rfl ?_;simp only[zz,simprocAttr]
   refine Fv.mono (QoY _ _ r s (q+2) gq2 hl hs (by omega)) ?_ ?_
   rotate_left
   ·rintro z ⟨e',he,rfl⟩
    rw[he]at hu
    exact⟨e',hu,rfl⟩
   rintro v H' ⟨m,q3,hcode2,rfl,rfl⟩
   rw[hcode2]at hu
   simp only at hu
   obtain⟨hm,-,-⟩:=Qg5 hcode2
   rw[QdI]
   (apply Qpj;(focus(intro _;simp only[zz,simprocAttr];(first|done|with_reducible exact rfl))))<;>(try simp only[zp,simprocAttr])
   by_cases d1:m<56320
   ·have g4:decide ((m:Int)<56320)=true:=by simp;omega
    rw[if_pos (.inl d1)]at hu
    refine v_r g4 ?_
    refine Qan ?_;refine QaD rfl ?_;simp only[zz,simprocAttr]
    exact EvP.fv (Qa9 _ _ r 11 (p-1)) ⟨_,hu,rfl⟩
   have g4:decide ((m:Int)<56320)=false:=by simp;omega
   by_cases d2:57343<m
   ·have g5:decide ((m:Int)>57343)=true:=by simp;omega
    rw[if_pos (.inr d2)]at hu
    refine v_r (j_ g4 g5) ?_
    refine Qan ?_;refine QaD rfl ?_;simp only[zz,simprocAttr]
    exact EvP.fv (Qa9 _ _ r 11 (p-1)) ⟨_,hu,rfl⟩
   have g5:decide ((m:Int)>57343)=false:=by simp;omega
   rw[if_neg (by omega)]at hu
   have a1:IntKind.i32.wrap ((n:Int)-55296)=((n-55296:Nat):Int):=by rw[w32 (by omega) (by omega)];omega
   have a2:=shl10 (n-55296) (by omega)
   have a3:IntKind.i32.wrap (65536+(((n-55296)*1024:Nat):Int))=((65536+(n-55296)*1024:Nat):Int):=by rw[w32 (by omega) (by omega)];omega
   have a4:IntKind.i32.wrap (((65536+(n-55296)*1024:Nat):Int)+(m:Int))=((65536+(n-55296)*1024+m:Nat):Int):=by rw[w32 (by omega) (by omega)];omega
   have a5:IntKind.i32.wrap (((65536+(n-55296)*1024+m:Nat):Int)-56320)=((65536+(n-55296)*1024+(m-56320):Nat):Int):=by rw[w32 (by omega) (by omega)];omega
   refine v_r (j_ g4 g5) ?_
   refine v_r (j_ a1 (j_ a2 (j_ a3 (j_ a4 a5)))) ?_
   exact Qa5 rfl ⟨_,q3,hu,rfl,rfl⟩
  ·rw[decide_eq_false c4]at hpre
   rw[if_pos (.inr c4)]at hu
   refine v_r (j_ g1 g2) ?_
   (apply QaX;focus(refine Evl.call (X:=(QaF code pr)) (hpre) (Evl.all fun k e1=> ?_);simp(maxSteps:=100000000) only[zz,zd,simprocAttr,gq,g3,sl1,sl2,e1];(first|done|with_reducible exact rfl)))<;>(try simp only[zp,simprocAttr])
   refine v_r trivial ?_
   refine Qan ?_;refine QaD rfl ?_;simp only[zz,simprocAttr]
   exact EvP.fv (Qa9 _ _ r 11 (p-1)) ⟨_,hu,rfl⟩
end Go.Proofs.YtmhmjlfajlpabaaDoor
namespace Go.Proofs.YtmhmjlfajlpabaaDoor
open Go Go.Abs Go.Lib
theorem dec_at(s:List UInt8)(i:Nat):dec s i=decodeN (s.length-i) (by' s i) (by' s (i+1)) (by' s (i+2)) (by' s (i+3)):=by
 have e:∀j,((⟨s.toArray⟩:ByteArray).get! j).toNat=by' s j:=fun j=>by
  unfold by'
  show(s.toArray[j]!).toNat=_
  rw[Array.getElem!_eq_getD]
  simp only[Array.getD_eq_getD_getElem?,List.getElem?_toArray]
  cases s[j]? <;>rfl
 unfold dec
 rw[decode_at]
 simp only[e]
 rfl
theorem Qia(s:List UInt8)(i:Nat):dec s i=dc (s.drop i):=by
 rw[dec_at];unfold dc;simp only[Qhe,List.length_drop,Nat.add_zero]
theorem Qkr:tab0=(List.range 256).map fun b=> .int .u8 (firstT b:Nat):=by kernel_rfl
theorem tab0_get{b:Nat}(h:b<256):(tab0.drop b)[0]? =some (.int .u8 (firstT b:Nat)):=by
 rw[Qkr,List.getElem?_drop,Nat.add_zero,List.getElem?_map,List.getElem?_range h];rfl
end Go.Proofs.YtmhmjlfajlpabaaDoor
namespace Go.Proofs.YtmhmjlfajlpabaaDoor
open Go Go.Abs
variable {pr:FuncId→Option QbC} {pP:FuncId→Option QeW} [POK pr] [PPOK pr pP]
theorem dg_drop{s:Tx}{p:Nat}(h:p<s.length):dg (s.drop p)=dec s p:=by
 unfold dg
 rw[if_neg (by rw[List.length_drop];omega),Qia,Qia,List.drop_zero]
theorem dec_ev(lim:Nat)(H:Qaa)(t:Tx):Ev (QaF code pr) 35 lim [.d (.str t)] H (.tuple [.d (.int .i32 ((dg t).1:Nat)),intD ((dg t).2:Nat)]) H:=QcO (F:=decF) POK.dec rfl
theorem Qo2(lim:Nat)(H:Qaa)(s:Tx)(hs:s.length≤1000000000):Ev (QaF code pr) 22 lim [.d (.str s)] H (intD (Qa1 s)) H:=by
 refine Fn.ev ?_
 refine Qbj (pn rfl) rfl (show code 22=some c22 from rfl) rfl ?_;simp only[List.length_cons,List.length_nil,List.cons_append,List.nil_append,simprocAttr]
 (iterate 6 refine w_s trivial ?_)
 refine Qki (fun m st=>∃p f,p≤s.length∧m=s.length-p∧s.length-p<f∧Qa1 s=Qce s f p∧∃x:Nat→AV,st=⟨[.d (.str s),x 1,x 2,x 3,x 4,.ptr H.length 0,x 6,x 7,x 8,x 9,x 10,x 11],H++ [.siter s p]⟩) ?_ _ _ ⟨0,s.length+1,Nat.zero_le _,rfl,by omega,rfl,Qam _ _ _ rfl⟩
 rintro m _ ⟨p,f,hp,rfl,hf,hb,x,rfl⟩
 obtain⟨f,rfl⟩:∃k,f=k+1:=⟨f-1,by omega⟩
 unfold Qce at hb
 by_cases h0:p<s.length
 ·rw[if_pos h0]at hb
  have hd:=dg_drop h0
  have hdc:=Qia s p
  have hpos:1≤(dec s p).2:=by rw[hdc];exact QeP _
  have hle:(dec s p).2≤s.length-p:=by
   rw[hdc]
   have:=dc_le (s:=s.drop p) (by intro e;have:=congrArg List.length e;rw[List.length_drop]at this;simp at this;omega)
   rwa [List.length_drop]at this
  have s1:((p:Int)≤(s.length:Int))=True:=eq_true (by omega)
  have s2:s.take s.length=s:=List.take_length
  have s3:((0:Int)≤(p:Int))=True:=eq_true (by omega)
  generalize hD:dec s p=D at*
  obtain⟨c,n⟩:=D
  have he:Ev (QaF code pr) 35 H.length [.d (.str (s.drop p))] (H++ [.siter s (p+n)]) (.tuple [.d (.int .i32 (c:Nat)),intD (n:Nat)]) (H++ [.siter s (p+n)]):=by
   have:=dec_ev (pr:=pr) H.length (H++ [.siter s (p+n)]) (s.drop p)
   rwa [hd]at this
  have next:∀ {st:St},Qa1 s=Qce s f (p+n)→(∃x:Nat→AV,st=⟨[.d (.str s),x 1,x 2,x 3,x 4,.ptr H.length 0,x 6,x 7,x 8,x 9,x 10,x 11],H++ [.siter s (p+n)]⟩)→
    ∃m,m<s.length-p∧∃p f,p≤s.length∧m=s.length-p∧s.length-p<f∧Qa1 s=Qce s f p∧∃x:Nat→AV,st=⟨[.d (.str s),x 1,x 2,x 3,x 4,.ptr H.length 0,x 6,x 7,x 8,x 9,x 10,x 11],H++ [.siter s p]⟩:=
   fun h1 h2=>⟨s.length-(p+n),by simp only at hpos hle;omega,p+n,f,by simp only at hpos hle;omega,rfl,by simp only at hpos hle;omega,h1,h2⟩
  simp only at hpos hle
  by_cases h1:c=65533
  ·subst h1
   have c1:(((65533:Nat):Int)==65533)=true:=rfl
   by_cases h2:n=1
   ·subst h2
    rw[if_pos rfl]at hb
    have c2:(((1:Nat):Int)==1)=true:=rfl
    refine w_r (j_ h0 (j_ hD c1)) ?_
    refine w_1 he (j_ s1 (j_ s2 s3)) ?_
    refine w_r c2 ?_
    exact Qae rfl rfl ⟨by rw[hb],rfl⟩
   ·rw[if_neg (by simpa using h2)]at hb
    have c2:((n:Int)==1)=false:=by simp;omega
    refine w_r (j_ h0 (j_ hD c1)) ?_
    refine w_1 he (j_ s1 (j_ s2 s3)) ?_
    refine w_r c2 ?_
    exact next hb (Qam _ _ _ rfl)
  ·rw[if_neg (by simp[h1])]at hb
   have c1:((c:Int)==65533)=false:=by simp;omega
   refine w_r (j_ h0 (j_ hD c1)) ?_
   exact next hb (Qam _ _ _ rfl)
 ·rw[if_neg h0]at hb
  refine w_r h0 ?_
  exact Qae rfl rfl ⟨by rw[hb],rfl⟩
end Go.Proofs.YtmhmjlfajlpabaaDoor
namespace Go.Proofs.YtmhmjlfajlpabaaDoor
open Go Go.Abs
theorem bless:∀(x y:List UInt8),Op.bytesLess x y=decide (x<y)
 | [],[]=>by simp[Op.bytesLess]
 |_::_,[]=>by simp[Op.bytesLess]
 | [],_::_=>by simp[Op.bytesLess]
 |a::x,b::y=>by
  rw[Op.bytesLess,bless x y]
  simp only[List.cons_lt_cons_iff]
  by_cases h1:a<b<;>by_cases h2:a=b<;>by_cases h3:x<y<;>simp[h1,h2,h3]
theorem Qgk(a b:Tx):tless a b=true↔a<b:=by rw[tless,bless];simp
abbrev Qdb(ks:List Tx)(i:Nat):Tx:=ks.getD i []
theorem QgL(ks:List Tx)(i:Nat):∀l:List Nat,(insK ks i l).Perm (i::l)
 | []=> .refl _
 |j::l=>by
  unfold insK
  split
  ·exact((QgL ks i l).cons j).trans (.swap i j l)
  ·exact .refl _
theorem QhC(ks:List Tx):∀l:List Nat,(Qmz ks l).Perm l
 | []=> .refl _
 |i::l=>(QgL ks i _).trans ((QhC ks l).cons i)
abbrev leK(ks:List Tx)(i j:Nat):Prop:=¬Qdb ks j<Qdb ks i
theorem QjI{ks:List Tx}{i j k:Nat}(h1:leK ks i j)(h2:leK ks j k):leK ks i k:=by
 unfold leK at*
 rw[List.not_lt]at*
 exact List.le_trans h1 h2
theorem QgK(ks:List Tx)(i:Nat):∀l:List Nat,l.Pairwise (leK ks)→(insK ks i l).Pairwise (leK ks)
 | [],_=>by simp[insK]
 |j::l,h=>by
  unfold insK
  obtain⟨h1,h2⟩:=List.pairwise_cons.1 h
  split
  ·rename_i hc
   rw[Qgk]at hc
   refine List.pairwise_cons.2 ⟨fun k hk=> ?_,QgK ks i l h2⟩
   rcases List.mem_cons.1 ((QgL ks i l).mem_iff.1 hk)with rfl|hk
   ·exact fun h=>List.lt_irrefl _ (List.lt_trans h hc)
   ·exact h1 k hk
  ·rename_i hc
   rw[Qgk]at hc
   refine List.pairwise_cons.2 ⟨fun k hk=> ?_,h⟩
   rcases List.mem_cons.1 hk with rfl|hk
   ·exact hc
   ·exact QjI hc (h1 k hk)
theorem QdC(ks:List Tx):∀l:List Nat,(Qmz ks l).Pairwise (leK ks)
 | []=>by simp[Qmz]
 |i::l=>QgK ks i _ (QdC ks l)
theorem Qa6(ks:List Tx):(Qay ks).Perm (List.range ks.length):=QhC ks _
theorem Qa4(ks:List Tx):(Qay ks).length=ks.length:=by rw[(Qa6 ks).length_eq,List.length_range]
theorem Qni{ks:List Tx}{i:Nat}:i∈Qay ks↔i<ks.length:=by rw[(Qa6 ks).mem_iff,List.mem_range]
theorem QbH{ks:List Tx}{i:Nat}(h:i∈Qay ks):i<ks.length:=Qni.1 h
theorem Qka(ks:List Tx):(Qay ks).Nodup:=(Qa6 ks).nodup_iff.2 List.nodup_range
theorem QjL{ks:List Tx}(hd:ks.Nodup){i j:Nat}(hi:i<ks.length)(hj:j<ks.length)(h:Qdb ks i=Qdb ks j):i=j:=by
 simp only[Qdb,List.getD,List.getElem?_eq_getElem hi,List.getElem?_eq_getElem hj,Option.getD_some]at h
 exact(List.getElem?_inj hi hd).1 (by rw[List.getElem?_eq_getElem hi,List.getElem?_eq_getElem hj,h])
theorem QlW{ks:List Tx}(hd:ks.Nodup){i j:Nat}(hi:i<ks.length)(hj:j<ks.length)(h1:leK ks i j)(h2:leK ks j i):i=j:=by
 refine QjL hd hi hj ?_
 unfold leK at h1 h2
 rw[List.not_lt]at h1 h2
 exact List.le_antisymm h1 h2
theorem QeS{ks:List Tx}(hd:ks.Nodup){l:List Nat}(hp:l.Perm (List.range ks.length))(hs:l.Pairwise (leK ks)):l=Qay ks:=by
 refine List.Perm.eq_of_pairwise (le:=leK ks) (fun a b ha hb h1 h2=> ?_) hs (QdC ks _) (hp.trans (Qa6 ks).symm)
 exact QlW hd (List.mem_range.1 (hp.mem_iff.1 ha)) (QbH hb) h1 h2
theorem Qda(a b:Tx):(!tless b a)=true↔¬b<a:=by rw[←Qgk];cases tless b a<;>simp
theorem Qkb{ks:List Tx}(hd:ks.Nodup):(List.range ks.length).mergeSort (fun i j=> !tless (Qdb ks j) (Qdb ks i))=Qay ks:=by
 refine QeS hd (List.mergeSort_perm _ _) ?_
 have:=List.pairwise_mergeSort (le:=fun i j=> !tless (Qdb ks j) (Qdb ks i)) (fun a b c h1 h2=> ?_) (fun a b=> ?_) (List.range ks.length)
 ·exact this.imp fun{a b} h=>(Qda _ _).1 h
 ·exact(Qda _ _).2 (QjI (ks:=ks) (i:=a) (j:=b) (k:=c) ((Qda _ _).1 h1) ((Qda _ _).1 h2))
 ·rw[Bool.or_eq_true,Qda,Qda]
  by_cases h:Qdb ks b<Qdb ks a
  ·exact .inr fun h2=>List.lt_irrefl _ (List.lt_trans h h2)
  ·exact .inl h
theorem Qlc{ks:List Tx}(hd:ks.Nodup):(Qay ks).Pairwise fun i j=>Qdb ks i<Qdb ks j:=by
 have h1:=QdC ks (List.range ks.length)
 have h2:=Qka ks
 have h3:(Qay ks).Pairwise fun i j=>leK ks i j∧i≠j∧i<ks.length∧j<ks.length:=by
  rw[List.pairwise_iff_getElem]at h1⊢
  intro i j hi hj hij
  refine⟨h1 i j hi hj hij,fun e=> ?_,QbH (List.getElem_mem _),QbH (List.getElem_mem _)⟩
  exact Nat.ne_of_lt hij ((List.getElem?_inj hi h2).1 (by rw[List.getElem?_eq_getElem hi,List.getElem?_eq_getElem hj,e]))
 refine h3.imp fun{i j} ⟨q1,q2,q3,q4⟩=> ?_
 by_cases h:Qdb ks i<Qdb ks j
 ·exact h
 ·exact absurd (QlW hd q3 q4 q1 h) q2
variable {pr:FuncId→Option QbC} {pP:FuncId→Option QeW} [POK pr] [PPOK pr pP]
theorem Qhz:∀ks:List Tx,QdA (ks.map D.str)=some ks
 | []=>rfl
 |k::ks=>by
  show(QdA (ks.map D.str)).map (fun r=>k::r)=_
  rw[Qhz ks];rfl
def Qiu(n i:Nat):List AV:=(List.range n).map fun j=>if j<i then intD (j:Nat)else intD 0
theorem QlE(n i:Nat):(Qiu n i).length=n:=by simp[Qiu]
theorem QnP(n:Nat):(List.replicate n [intD 0]).flatten=Qiu n 0:=by
 apply List.ext_getElem
 ·simp[Qiu,List.length_flatten]
 ·intro i h1 h2
  simp[Qiu]
theorem rowI_all(n:Nat):Qiu n n=(List.range n).map fun(j:Nat)=>intD (j:Int):=by
 unfold Qiu
 apply List.map_congr_left
 intro j hj
 rw[if_pos (List.mem_range.1 hj)]
theorem rowI_set{n i:Nat}(h:i<n):splice (Qiu n i) i [intD (i:Nat)]=Qiu n (i+1):=by
 unfold splice
 apply List.ext_getElem?
 intro j
 have hl:((Qiu n i).take i).length=i:=by simp[Qiu];omega
 by_cases h1:j<i
 ·rw[List.getElem?_append_left (by omega),List.getElem?_take,if_pos h1]
  simp only[Qiu,List.getElem?_map]
  rw[List.getElem?_range (by omega)]
  simp[h1,show j<i+1 by omega]
 ·rw[List.getElem?_append_right (by omega),hl]
  by_cases h2:j=i
  ·subst h2
   simp[Qiu,h]
  ·rw[List.getElem?_append_right (by simp;omega),List.getElem?_drop,show i+ [intD (i:Nat)].length+(j-i- [intD (i:Nat)].length)=j by simp;omega]
   simp only[Qiu,List.getElem?_map]
   by_cases h3:j<n
   ·rw[List.getElem?_range h3]
    simp[h1,show ¬j<i+1 by omega]
   ·rw[List.getElem?_eq_none (by simp;omega)];rfl
theorem Qg8:∀(l:List Nat) (R:List AV),chunks 1 false l.length (l.map (fun(i:Nat)=>intD (i:Int))++R)=some (l.map fun(i:Nat)=>D.int .i64 (i:Int))
 | [],_=>rfl
 |a::l,R=>by
  have:=Qg8 l R
  simp only[List.map_cons,List.cons_append,List.length_cons,chunks,List.take_succ_cons,List.take_zero,AV.toDs,AV.toD,List.drop_succ_cons,List.drop_zero,this]
  rfl
theorem Qjp(lim:Nat)(H:Qaa)(ks:List Tx)(hk:ks.length<1000000000000)(hd:ks.Nodup):Ev (QaF code pr) 44 lim [.d (sD ks)] H (.d (.slice ((Qay ks).map fun(i:Nat)=>D.int .i64 (i:Int)))) H:=by
 refine Fn.ev ?_
 refine Qbj (pn rfl) rfl (show code 44=some c44 from rfl) rfl ?_;simp only[List.length_cons,List.length_nil,List.cons_append,List.nil_append,simprocAttr]
 have e0:=QnP ks.length
 have c1:((ks.length:Int)*8≤281474976710656)=True:=eq_true (by omega)
 have c2:((ks.length:Int)≤281474976710656)=True:=eq_true (by omega)
 have a1:(H++ [AObj.cells [.d (sD ks)]]).length=H.length+1:=by simp
 have a2:∀o,H++ [AObj.cells [.d (sD ks)]]++ [o]=H++ [AObj.cells [.d (sD ks)],o]:=fun o=>by simp
 (iterate 4 refine w_s (j_ (@List.length_map.{0,0}) (j_ e0 (j_ c1 (j_ c2 (j_ a1 a2))))) ?_)
 have g1:∀o:AObj,(H++ [AObj.cells [.d (sD ks)],o])[H.length+1]? =some o:=fun o=>by rw[List.getElem?_append_right (by omega)];simp
 have g0:∀o:AObj,(H++ [AObj.cells [.d (sD ks)],o])[H.length]? =some (.cells [.d (sD ks)]):=fun o=>by rw[List.getElem?_append_right (by omega)];simp
 have s1:∀o o':AObj,(H++ [AObj.cells [.d (sD ks)],o]).set (H.length+1) o'=H++ [AObj.cells [.d (sD ks)],o']:=fun o o'=>by rw[List.set_append_right _ _ (by omega)];simp
 have hll:H.length≤H.length+1:=by omega
 (iterate 4 refine w_s trivial ?_)
 refine Qki (fun k st=>∃i:Nat,i≤ks.length∧k=ks.length-i∧∃x:Nat→AV,st=⟨[x 0,x 1,x 2,.ptr H.length 0,.oslice (H.length+1) 0 ks.length ks.length 1,intD ks.length,intD i,x 7,x 8,x 9],H++ [AObj.cells [.d (sD ks)],.cells (Qiu ks.length i)]⟩) ?_ _ _ ⟨0,Nat.zero_le _,rfl,Qam _ _ _ rfl⟩
 rintro k _ ⟨i,hi,rfl,x,rfl⟩
 by_cases t0:i<ks.length
 ·have f1:((i:Int)<(ks.length:Int))=True:=eq_true (by omega)
  have w1:IntKind.i64.wrap ((i:Int)+1)=((i+1:Nat):Int):=Qef (by omega)
  have hs:=rowI_set t0
  have hl:=QlE ks.length i
  have hl2:i+1≤ks.length:=t0
  simp only[splice,List.length_cons,List.length_nil,Nat.zero_add,List.cons_append,List.nil_append]at hs
  generalize Qiu ks.length i=R at*
  refine w_r (j_ f1 (j_ g1 (j_ s1 (j_ w1 (j_ hs (j_ hl (j_ hl2 (j_ hll @Nat.mul_one)))))))) ?_
  exact⟨ks.length-(i+1),by omega,i+1,t0,rfl,Qam _ _ _ rfl⟩
 ·obtain rfl:i=ks.length:=by omega
  have f1:((ks.length:Int)<(ks.length:Int))=False:=eq_false (by omega)
  have es:Ev (QaF code pr) 62 H.length [.oslice (H.length+1) 0 ks.length ks.length 1,.func (.func 63) [.ptr H.length 0]] (H++ [AObj.cells [.d (sD ks)],.cells (Qiu ks.length ks.length)]) (.tuple []) (H++ [AObj.cells [.d (sD ks)],.cells ((Qay ks).map fun(i:Nat)=>intD (i:Int))]):=by
   refine QcO (F:=Qkw) POK.sort ?_
   have hc:H.length≤H.length+1∧H.length+1≠H.length∧True∧ks.length<1000000000000∧ks.Nodup∧(Qiu ks.length ks.length).length=ks.length∧AObj.beq (.cells (Qiu ks.length ks.length)) (.cells ((List.range ks.length).map fun(i:Nat)=>intD (i:Int)))=true:=by
    refine⟨hll,by omega,trivial,hk,hd,QlE _ _, ?_⟩
    rw[rowI_all];exact AV.beqs_self _
   simp only[Qkw,g1,g0,Qhz,if_pos hc,s1]
  have ch:=Qg8 (Qay ks) []
  rw[List.append_nil,Qa4]at ch
  refine w_r f1 ?_
  refine w_1 es trivial ?_
  refine w_r trivial ?_
  refine Qae (vs:= [.oslice (H.length+1) 0 ks.length ks.length 1]) rfl ?_ ⟨rfl,rfl⟩
  have hc2:H.length≤H.length+1∧0<1:=⟨hll,by omega⟩
  simp only[QbX,Go.Abs.freeze,if_pos hc2,g1,List.drop_zero]
  rw[if_pos (by simp[Qa4]),show(1 !=1)=false from rfl,ch]
  rfl
end Go.Proofs.YtmhmjlfajlpabaaDoor
namespace Go.Proofs.YtmhmjlfajlpabaaDoor
open Go Go.Abs
theorem QiE{H:Qaa}{r:Nat}{o:AObj}(gr:H[r]? =some o)(B:AObj):∃KK:AObj→AObj→Qaa,(∀x y,KK x y=H.set r x++ [y])∧KK o B=H++ [B]∧(∀x y,(KK x y)[r]? =some x)∧(∀x y,(KK x y)[H.length]? =some y)∧
  (∀x x' y,(KK x y).set r x'=KK x' y)∧(∀x y y',(KK x y).set H.length y'=KK x y')∧r≤H.length:=by
 obtain⟨hr,e⟩:=List.getElem?_eq_some_iff.1 gr
 refine⟨fun x y=>H.set r x++ [y],fun _ _=>rfl, ?_,fun x y=> ?_,fun x y=> ?_,fun x x' y=> ?_,fun x y y'=> ?_, ?_⟩
 ·simp only;rw[←e,List.set_getElem_self hr]
 ·simp only;rw[List.getElem?_append_left (by simpa using hr)];simp[hr]
 ·simp only;rw[List.getElem?_append_right (by simp)];simp
 ·simp only;rw[List.set_append_left _ _ (by simpa using hr),List.set_set]
 ·simp only;rw[List.set_append_right _ _ (by simp)];simp
 ·exact Nat.le_of_lt hr
def Qdw(s:Tx)(p:Nat):Nat:=if nx s p=45 then p+1 else p
theorem nx_lt{s:Tx}{p:Nat}(h:nx s p≠0):p<s.length:=by
 rcases Nat.lt_or_ge p s.length with h1|h1
 ·exact h1
 ·exact absurd (nx_end h1) h
theorem Qok(s:Tx)(p:Nat):QcB s p=if QaS (nx s (Qdw s p))then match Qbp s (Qdw s p) (s.length+1) 0 (Qdw s p)with
  |.error e=> .error e
  |.ok (n,q)=>if 9007199254740991<n∨nx s q=46∨nx s q=101∨nx s q=69 then .error (15,p)
   else .ok (.mk 2 (if p<Qdw s p then-(n:Int)else n) [] [] [],q)
 else .error (11,Qdw s p):=rfl
abbrev zC:AObj:= .cells [intD 0,intD 0,.d (.str []),.fslice [],.fslice []]
theorem Qoj(lim:Nat)(H:Qaa)(r:Nat)(s:Tx)(p:Nat)(gr:H[r]? =some (rdO s p))(hl:lim≤r)(hs:s.length≤16384)(hp:p≤s.length):
  Fv X0 XP 43 lim [.ptr r 0] H (fun v H'=>∃j q,QcB s p= .ok (j,q)∧v= .d j.d∧H'=H.set r (rdO s q)) (fun z=>∃e,QcB s p= .error e∧z=QdB e.1 e.2):=by
 refine Qml (pn rfl) rfl (by first|exact rfl|exact pnP (pr:=Qbb) rfl) rfl (show code 43=some c43 from rfl) rfl ?_;simp only[List.length_cons,List.length_nil,List.cons_append,List.nil_append,simprocAttr]
 obtain⟨KK,kk0,kk1,kk2,kk3,kk4,kk5,hrl⟩:=QiE gr zC
 have hll:=Nat.le_trans hl hrl
 (iterate 2 refine v_s trivial ?_)
 rw[←kk1]
 (iterate 2 refine v_s kk2 ?_)
 refine V_mid (fun st=>∃x:Nat→AV,st=⟨[.ptr r 0,x 1,x 2,x 3,x 4,x 5,x 6,x 7,.ptr H.length 0,intD p,x 10,x 11,x 12,x 13,x 14,x 15],KK (rdO s (Qdw s p)) zC⟩) ?_ ?_
 ·have wp:IntKind.i64.wrap ((p:Int)+1)=((p+1:Nat):Int):=Qkl (by omega)
  by_cases h:nx s p=45
  ·have hf:Qdw s p=p+1:=if_pos h
   have c1:(((nx s p).toNat:Int)==45)=true:=Qhw h rfl
   rw[hf]
   refine v_r trivial ?_
   (apply QaX;focus(refine Evl.call (X:=X0) (Qbo lim (KK (rdO s p) zC) r s p (kk2 _ _) hp) (Evl.all fun k e1=> ?_);simp(maxSteps:=100000000) only[zz,zd,simprocAttr,c1,e1];(first|done|with_reducible exact rfl)))<;>(try simp only[zp,simprocAttr])
   refine v_r (j_ kk2 (j_ kk4 (j_ wp hl))) ?_
   exact Qam _ _ _ rfl
  ·have hf:Qdw s p=p:=if_neg h
   have c1:(((nx s p).toNat:Int)==45)=false:=Qhn h rfl
   rw[hf]
   refine v_r trivial ?_
   (apply QaX;focus(refine Evl.call (X:=X0) (Qbo lim (KK (rdO s p) zC) r s p (kk2 _ _) hp) (Evl.all fun k e1=> ?_);simp(maxSteps:=100000000) only[zz,zd,simprocAttr,c1,e1];(first|done|with_reducible exact rfl)))<;>(try simp only[zp,simprocAttr])
   refine v_r trivial ?_
   exact Qam _ _ _ rfl
 rintro _ ⟨x,rfl⟩
 have hfl:Qdw s p≤s.length∧p≤Qdw s p:=by
  unfold Qdw
  split
  ·rename_i h;have:=nx_lt (s:=s) (p:=p) (by rw[h];decide);omega
  ·omega
 rw[Qok]
 generalize hf:Qdw s p=f at hfl⊢
 cases hd:QaS (nx s f)with
 |false=>
  refine v_r kk2 ?_
  (apply QaX;focus(refine Evl.call (X:=X0) (Qbo lim (KK (rdO s f) zC) r s f (kk2 _ _) hfl.1) (Evl.call (X:=X0) (Qd9 lim (KK (rdO s f) zC) (nx s f)) (Evl.all fun k e2 e1=> ?_));simp(maxSteps:=100000000) only[zz,zd,simprocAttr,hd,e2,e1];(first|done|with_reducible exact rfl)))<;>(try simp only[zp,simprocAttr])
  refine v_r trivial ?_
  refine Qan ?_;apply Qbq 3;(focus(intro _;simp only[zz,simprocAttr,kk2];(first|done|with_reducible exact rfl)));simp only[List.drop_succ_cons,List.drop_zero];refine QaD rfl ?_;simp only[zz,simprocAttr]
  exact EvP.fv (Qa9 _ _ r 11 f) ⟨_,rfl,rfl⟩
 |true=>
  refine v_r kk2 ?_
  (apply QaX;focus(refine Evl.call (X:=X0) (Qbo lim (KK (rdO s f) zC) r s f (kk2 _ _) hfl.1) (Evl.call (X:=X0) (Qd9 lim (KK (rdO s f) zC) (nx s f)) (Evl.all fun k e2 e1=> ?_));simp(maxSteps:=100000000) only[zz,zd,simprocAttr,hd,e2,e1];(first|done|with_reducible exact rfl)))<;>(try simp only[zp,simprocAttr])
  refine v_r trivial ?_
  refine V_lp (fun m st=>∃n q,f≤q∧q≤s.length∧m=s.length-q∧n≤90071992547409919∧Qbp s f (s.length+1) 0 f=Qbp s f (s.length+1-(q-f)) n q∧∃x:Nat→AV,st=⟨[.ptr r 0,x 1,x 2,x 3,x 4,x 5,x 6,x 7,.ptr H.length 0,intD p,intD f,intD n,x 12,x 13,x 14,x 15],KK (rdO s q) zC⟩) ?_ _ _ ⟨0,f,Nat.le_refl _,hfl.1,rfl,by omega,by rw[Nat.sub_self];rfl,Qam _ _ _ rfl⟩
  rintro m _ ⟨n,q,hq1,hq2,rfl,hn,hdg,x,rfl⟩
  cases hd2:QaS (nx s q)with
  |true=>
   have hql:q<s.length:=nx_lt fun h=>by rw[h]at hd2;cases hd2
   have hstep:Qbp s f (s.length+1-(q-f)) n q=if q=f+1∧nx s f=48 then .error (11,q)else Qbp s f (s.length+1-(q+1-f)) (if n≤9007199254740991 then 10*n+((nx s q).toNat-48)else n) (q+1):=by
    rw[show s.length+1-(q-f)=(s.length+1-(q+1-f))+1 by omega]
    conv=>lhs;unfold Qbp
    rw[hd2,if_pos rfl]
   refine v_r trivial ?_
   (apply QaX;focus(refine Evl.call (X:=X0) (Qbo lim (KK (rdO s q) zC) r s q (kk2 _ _) hq2) (Evl.call (X:=X0) (Qd9 lim (KK (rdO s q) zC) (nx s q)) (Evl.all fun k e2 e1=> ?_));simp(maxSteps:=100000000) only[zz,zd,simprocAttr,hd2,e2,e1];(first|done|with_reducible exact rfl)))<;>(try simp only[zp,simprocAttr])
   have hdd:=hd2
   rw[dig_eq,Bool.and_eq_true,decide_eq_true_eq,decide_eq_true_eq]at hdd
   have wf:IntKind.i64.wrap ((f:Int)+1)=((f+1:Nat):Int):=Qkl (by omega)
   have wq:IntKind.i64.wrap ((q:Int)+1)=((q+1:Nat):Int):=Qkl (by omega)
   have hfa:=Qdd (s:=s) (p:=f) (by omega)
   have gq:=kk2 (rdO s q) zC
   by_cases z1:q=f+1∧nx s f=48
   ·have c1:decide (q=f+1)=true:=decide_eq_true z1.1
    have c2:(((nx s f).toNat:Int)==48)=true:=Qhw z1.2 rfl
    rw[if_pos z1]at hstep
    (repeat((first|refine Qi0 ?_|refine Qlm ?_|refine Qer ?_|refine QcN ?_|refine QcM ?_|(apply Qih;focus(intro _;simp only[zz,simprocAttr,gq,wf,QiA,c1,c2,hfa,QdW];(first|done|with_reducible exact rfl)))|(refine Qlk ?_ ?_;focus(simp only[zp,simprocAttr];done))|(refine Qll ?_ ?_;focus(simp only[zp,simprocAttr];done)))<;>(try simp only[zp,simprocAttr])))
    refine Qan ?_;apply Qbq 3;(focus(intro _;simp only[zz,simprocAttr,gq];(first|done|with_reducible exact rfl)));simp only[List.drop_succ_cons,List.drop_zero];refine QaD rfl ?_;simp only[zz,simprocAttr]
    exact EvP.fv (Qa9 _ _ r 11 q) ⟨_,by rw[hdg,hstep],rfl⟩
   rw[if_neg z1]at hstep
   have w1:IntKind.u8.wrap (((nx s q).toNat:Int)-48)=(((nx s q).toNat-48:Nat):Int):=by
    rw[←u8w ((nx s q).toNat-48) (by omega)];congr 1;omega
   have w2:IntKind.i64.wrap (((nx s q).toNat-48:Nat):Int)=(((nx s q).toNat-48:Nat):Int):=w64n _ (by omega)
   have next:∀ {st:St} {n':Nat},n'=(if n≤9007199254740991 then 10*n+((nx s q).toNat-48)else n)→(∃x:Nat→AV,st=⟨[.ptr r 0,x 1,x 2,x 3,x 4,x 5,x 6,x 7,.ptr H.length 0,intD p,intD f,intD n',x 12,x 13,x 14,x 15],KK (rdO s (q+1)) zC⟩)→
     ∃m,m<s.length-q∧∃n q,f≤q∧q≤s.length∧m=s.length-q∧n≤90071992547409919∧Qbp s f (s.length+1) 0 f=Qbp s f (s.length+1-(q-f)) n q∧∃x:Nat→AV,st=⟨[.ptr r 0,x 1,x 2,x 3,x 4,x 5,x 6,x 7,.ptr H.length 0,intD p,intD f,intD n,x 12,x 13,x 14,x 15],KK (rdO s q) zC⟩:=fun hn' hst=>
    ⟨s.length-(q+1),by omega,_,q+1,by omega,by omega,rfl,by rw[hn'];split<;>omega,by rw[hdg,hstep,hn'],hst⟩
   by_cases z2:q=f+1
   ·have z3:nx s f≠48:=fun h=>z1 ⟨z2,h⟩
    have c1:decide (q=f+1)=true:=decide_eq_true z2
    have c2:(((nx s f).toNat:Int)==48)=false:=Qhn z3 rfl
    by_cases z4:n≤9007199254740991
    ·have c3:decide ((n:Int)≤9007199254740991)=true:=by simp;omega
     have w3:IntKind.i64.wrap (10*(n:Int))=((10*n:Nat):Int):=by rw[w64 (by omega) (by omega)];omega
     have w4:IntKind.i64.wrap (((10*n:Nat):Int)+(((nx s q).toNat-48:Nat):Int))=((10*n+((nx s q).toNat-48):Nat):Int):=by rw[w64 (by omega) (by omega)];omega
     (repeat((first|refine Qi0 ?_|refine Qlm ?_|refine Qer ?_|refine QcN ?_|refine QcM ?_|(apply Qih;focus(intro _;simp only[zz,simprocAttr,gq,wf,QiA,c1,c2,c3,hfa,QdW];(first|done|with_reducible exact rfl)))|(refine Qlk ?_ ?_;focus(simp only[zp,simprocAttr];done))|(refine Qll ?_ ?_;focus(simp only[zp,simprocAttr];done)))<;>(try simp only[zp,simprocAttr])))
     (apply QaX;focus(refine Evl.call (X:=X0) (Qbo lim (KK (rdO s q) zC) r s q (kk2 _ _) hq2) (Evl.all fun k e1=> ?_);simp(maxSteps:=100000000) only[zz,zd,simprocAttr,w1,w2,w3,w4,e1];(first|done|with_reducible exact rfl)))<;>(try simp only[zp,simprocAttr])
     refine v_r (j_ gq (j_ wq (j_ kk4 hl))) ?_
     exact next (by rw[if_pos z4]) (Qam _ _ _ rfl)
    ·have c3:decide ((n:Int)≤9007199254740991)=false:=by simp;omega
     (repeat((first|refine Qi0 ?_|refine Qlm ?_|refine Qer ?_|refine QcN ?_|refine QcM ?_|(apply Qih;focus(intro _;simp only[zz,simprocAttr,gq,wf,QiA,c1,c2,c3,hfa,QdW,wq,kk4,hl];(first|done|with_reducible exact rfl)))|(refine Qlk ?_ ?_;focus(simp only[zp,simprocAttr];done))|(refine Qll ?_ ?_;focus(simp only[zp,simprocAttr];done)))<;>(try simp only[zp,simprocAttr])))
     exact next (by rw[if_neg z4]) (Qam _ _ _ rfl)
   ·have c1:decide (q=f+1)=false:=decide_eq_false z2
    by_cases z4:n≤9007199254740991
    ·have c3:decide ((n:Int)≤9007199254740991)=true:=by simp;omega
     have w3:IntKind.i64.wrap (10*(n:Int))=((10*n:Nat):Int):=by rw[w64 (by omega) (by omega)];omega
     have w4:IntKind.i64.wrap (((10*n:Nat):Int)+(((nx s q).toNat-48:Nat):Int))=((10*n+((nx s q).toNat-48):Nat):Int):=by rw[w64 (by omega) (by omega)];omega
     (repeat((first|refine Qi0 ?_|refine Qlm ?_|refine Qer ?_|refine QcN ?_|refine QcM ?_|(apply Qih;focus(intro _;simp only[zz,simprocAttr,gq,wf,QiA,c1,c3];(first|done|with_reducible exact rfl)))|(refine Qlk ?_ ?_;focus(simp only[zp,simprocAttr];done))|(refine Qll ?_ ?_;focus(simp only[zp,simprocAttr];done)))<;>(try simp only[zp,simprocAttr])))
     (apply QaX;focus(refine Evl.call (X:=X0) (Qbo lim (KK (rdO s q) zC) r s q (kk2 _ _) hq2) (Evl.all fun k e1=> ?_);simp(maxSteps:=100000000) only[zz,zd,simprocAttr,w1,w2,w3,w4,e1];(first|done|with_reducible exact rfl)))<;>(try simp only[zp,simprocAttr])
     refine v_r (j_ gq (j_ wq (j_ kk4 hl))) ?_
     exact next (by rw[if_pos z4]) (Qam _ _ _ rfl)
    ·have c3:decide ((n:Int)≤9007199254740991)=false:=by simp;omega
     (repeat((first|refine Qi0 ?_|refine Qlm ?_|refine Qer ?_|refine QcN ?_|refine QcM ?_|(apply Qih;focus(intro _;simp only[zz,simprocAttr,gq,wf,QiA,c1,c3,wq,kk4,hl];(first|done|with_reducible exact rfl)))|(refine Qlk ?_ ?_;focus(simp only[zp,simprocAttr];done))|(refine Qll ?_ ?_;focus(simp only[zp,simprocAttr];done)))<;>(try simp only[zp,simprocAttr])))
     exact next (by rw[if_neg z4]) (Qam _ _ _ rfl)
  |false=>
   have hend:Qbp s f (s.length+1-(q-f)) n q= .ok (n,q):=by
    rw[show s.length+1-(q-f)=(s.length-(q-f))+1 by omega]
    unfold Qbp
    rw[hd2];rfl
   rw[hdg,hend]
   simp only
   have gq:=kk2 (rdO s q) zC
   refine v_r trivial ?_
   (apply QaX;focus(refine Evl.call (X:=X0) (Qbo lim (KK (rdO s q) zC) r s q (kk2 _ _) hq2) (Evl.call (X:=X0) (Qd9 lim (KK (rdO s q) zC) (nx s q)) (Evl.all fun k e2 e1=> ?_));simp(maxSteps:=100000000) only[zz,zd,simprocAttr,hd2,e2,e1];(first|done|with_reducible exact rfl)))<;>(try simp only[zp,simprocAttr])
   refine v_r trivial ?_
   (apply QaX;focus(refine Evl.call (X:=X0) (Qbo lim (KK (rdO s q) zC) r s q (kk2 _ _) hq2) (Evl.all fun k e1=> ?_);simp(maxSteps:=100000000) only[zz,zd,simprocAttr,e1];(first|done|with_reducible exact rfl)))<;>(try simp only[zp,simprocAttr])
   by_cases b1:9007199254740991<n
   ·have c1:decide ((n:Int)>9007199254740991)=true:=by simp;omega
    refine v_r c1 ?_
    refine Qan ?_;refine QaD rfl ?_;simp only[zz,simprocAttr]
    exact EvP.fv (Qa9 _ _ r 15 p) ⟨_,by rw[if_pos (.inl b1)],rfl⟩
   have c1:decide ((n:Int)>9007199254740991)=false:=by simp;omega
   by_cases b2:nx s q=46
   ·have c2:(((nx s q).toNat:Int)==46)=true:=Qhw b2 rfl
    refine v_r (j_ c1 c2) ?_
    refine Qan ?_;refine QaD rfl ?_;simp only[zz,simprocAttr]
    exact EvP.fv (Qa9 _ _ r 15 p) ⟨_,by rw[if_pos (.inr (.inl b2))],rfl⟩
   have c2:(((nx s q).toNat:Int)==46)=false:=Qhn b2 rfl
   by_cases b3:nx s q=101
   ·have c3:(((nx s q).toNat:Int)==101)=true:=Qhw b3 rfl
    refine v_r (j_ c1 (j_ c2 c3)) ?_
    refine Qan ?_;refine QaD rfl ?_;simp only[zz,simprocAttr]
    exact EvP.fv (Qa9 _ _ r 15 p) ⟨_,by rw[if_pos (.inr (.inr (.inl b3)))],rfl⟩
   have c3:(((nx s q).toNat:Int)==101)=false:=Qhn b3 rfl
   by_cases b4:nx s q=69
   ·have c4:(((nx s q).toNat:Int)==69)=true:=Qhw b4 rfl
    refine v_r (j_ c1 (j_ c2 (j_ c3 c4))) ?_
    refine Qan ?_;refine QaD rfl ?_;simp only[zz,simprocAttr]
    exact EvP.fv (Qa9 _ _ r 15 p) ⟨_,by rw[if_pos (.inr (.inr (.inr b4)))],rfl⟩
   have c4:(((nx s q).toNat:Int)==69)=false:=Qhn b4 rfl
   rw[if_neg (by rintro(h|h|h|h);exact b1 h;exact b2 h;exact b3 h;exact b4 h)]
   by_cases b5:p<f
   ·have c5:decide ((f:Int)>(p:Int))=true:=by simp;omega
    have wn:IntKind.i64.wrap (0-(n:Int))= -(n:Int):=by rw[w64 (by omega) (by omega)];omega
    refine v_r (j_ c1 (j_ c2 (j_ c3 (j_ c4 (j_ c5 (j_ wn (j_ kk3 (j_ kk5 hll)))))))) ?_
    refine QbW (vs:= [.d (flatD 2 (-(n:Int)))]) ?_ (kk0 _ _) (List.getElem?_eq_some_iff.1 gr).1 rfl rfl ⟨_,q,rfl,by rw[if_pos b5,jd];rfl,rfl⟩
    simp only[Qcg,zz,simprocAttr,kk3]
   ·have c5:decide ((f:Int)>(p:Int))=false:=by simp;omega
    refine v_r (j_ c1 (j_ c2 (j_ c3 (j_ c4 (j_ c5 (j_ kk3 (j_ kk5 hll))))))) ?_
    refine QbW (vs:= [.d (flatD 2 (n:Int))]) ?_ (kk0 _ _) (List.getElem?_eq_some_iff.1 gr).1 rfl rfl ⟨_,q,rfl,by rw[if_neg b5,jd];rfl,rfl⟩
    simp only[Qcg,zz,simprocAttr,kk3]
theorem more_eq(s:Tx)(first:Bool)(e:UInt8)(p:Nat):Qcd s first e p=if s[Qaf s p]? =some e then .ok (false,Qaf s p+1)
 else if first then .ok (true,Qaf s p)
 else match Qcb s 44 (Qaf s p)with
  |.error e=> .error e
  |.ok q=> .ok (true,Qaf s q):=rfl
theorem Qom(lim:Nat)(H:Qaa)(r:Nat)(s:Tx)(p:Nat)(first:Bool)(e:UInt8)(he:e≠0)(gr:H[r]? =some (rdO s p))(hl:lim≤r)(hs:s.length≤16384)(hp:p≤s.length):
  Fv X0 XP 39 lim [.ptr r 0,boolD first,.d (.int .u8 e.toNat)] H (fun v H'=>∃b q,Qcd s first e p= .ok (b,q)∧v=boolD b∧H'=H.set r (rdO s q)) (fun z=>∃x,Qcd s first e p= .error x∧z=QdB x.1 x.2):=by
 rw[more_eq]
 have hb:=Qo3 s p hp
 have ev:=Qdi (pr:=Qbb) lim H r s p gr hl hp hs
 have gb:=Qgu gr (Qaf s p)
 generalize Qaf s p=q at hb ev gb⊢
 refine Qnk (pn rfl) rfl (by first|exact rfl|exact pnP (pr:=Qbb) rfl) rfl (show code 39=some c39 from rfl) rfl ?_;simp only[List.length_cons,List.length_nil,List.cons_append,List.nil_append,simprocAttr]
 refine v_r trivial ?_
 (apply QaX;focus(refine Evl.call (X:=X0) (ev) (Evl.all fun k e1=> ?_);simp(maxSteps:=100000000) only[zz,zd,simprocAttr,e1];(first|done|with_reducible exact rfl)))<;>(try simp only[zp,simprocAttr])
 by_cases h:s[q]? =some e
 ·have hq:=(List.getElem?_eq_some_iff.1 h).1
  have hn:nx s q=e:=by have:=Qdd hq;rw[h]at this;exact(Option.some.inj this).symm
  have c1:(((nx s q).toNat:Int)==(e.toNat:Int))=true:=by rw[hn];simp
  have c2:decide ((q:Int)<(s.length:Int))=true:=by simp;omega
  have wq:IntKind.i64.wrap ((q:Int)+1)=((q+1:Nat):Int):=Qkl (by omega)
  rw[if_pos h]
  refine v_r trivial ?_
  (apply QaX;focus(refine Evl.call (X:=X0) (Qbo lim (H.set r (rdO s q)) r s q gb hb.2) (Evl.all fun k e1=> ?_);simp(maxSteps:=100000000) only[zz,zd,simprocAttr,c1,c2,gb,e1];(first|done|with_reducible exact rfl)))<;>(try simp only[zp,simprocAttr])
  (repeat((first|refine Qi0 ?_|refine Qlm ?_|refine Qer ?_|refine QcN ?_|refine QcM ?_|(apply Qih;focus(intro _;simp only[zz,simprocAttr,gb,wq,hl,QdI];(first|done|with_reducible exact rfl)))|(refine Qlk ?_ ?_;focus(simp only[zp,simprocAttr];done))|(refine Qll ?_ ?_;focus(simp only[zp,simprocAttr];done)))<;>(try simp only[zp,simprocAttr])))
  exact Qa5 rfl ⟨false,q+1,rfl,rfl,rfl⟩
 ·have hn:nx s q≠e:=fun hn=>by
   have hq:=nx_lt (s:=s) (p:=q) (by rw[hn];exact he)
   exact h (by rw[Qdd hq,hn])
  have c1:(((nx s q).toNat:Int)==(e.toNat:Int))=false:=Qhn hn rfl
  rw[if_neg h]
  cases first with
  |true=>
   rw[if_pos rfl]
   refine v_r trivial ?_
   (apply QaX;focus(refine Evl.call (X:=X0) (Qbo lim (H.set r (rdO s q)) r s q gb hb.2) (Evl.all fun k e1=> ?_);simp(maxSteps:=100000000) only[zz,zd,simprocAttr,c1,e1];(first|done|with_reducible exact rfl)))<;>(try simp only[zp,simprocAttr])
   refine v_r trivial ?_
   exact Qa5 rfl ⟨true,q,rfl,rfl,rfl⟩
  |false=>
   rw[if_neg (by simp)]
   refine v_r trivial ?_
   (apply QaX;focus(refine Evl.call (X:=X0) (Qbo lim (H.set r (rdO s q)) r s q gb hb.2) (Evl.all fun k e1=> ?_);simp(maxSteps:=100000000) only[zz,zd,simprocAttr,c1,e1];(first|done|with_reducible exact rfl)))<;>(try simp only[zp,simprocAttr])
   refine v_r trivial ?_
   rcases Qcq s 44 q with⟨h1,h2⟩|⟨h1,h2⟩
   ·rw[h2]
    have hq1:=(List.getElem?_eq_some_iff.1 h1).1
    have ew:Ev X0 57 lim [.ptr r 0,.d (.int .u8 44)] (H.set r (rdO s q)) (.tuple []) _:=Qim lim (H.set r (rdO s q)) r s q 44 gb hl hs h1
    have eb:=Qdi (pr:=Qbb) lim (H.set r (rdO s (q+1))) r s (q+1) (Qgu gr _) hl (by omega) hs
    rw[QdI]at ew eb
    (apply QaX;focus(refine Evl.call (X:=X0) (ew) (Evl.all fun k e1=> ?_);simp(maxSteps:=100000000) only[zz,zd,simprocAttr,e1];(first|done|with_reducible exact rfl)))<;>(try simp only[zp,simprocAttr])
    refine v_r trivial ?_
    (apply QaX;focus(refine Evl.call (X:=X0) (eb) (Evl.all fun k e1=> ?_);simp(maxSteps:=100000000) only[zz,zd,simprocAttr,e1];(first|done|with_reducible exact rfl)))<;>(try simp only[zp,simprocAttr])
    refine v_r trivial ?_
    exact Qa5 rfl ⟨true,_,rfl,rfl,rfl⟩
   ·rw[h2]
    refine Qan ?_;refine QaD rfl ?_;simp only[zz,simprocAttr]
    exact EvP.fv (Qin lim _ r s q 44 gb hb.2 h1) ⟨_,rfl,rfl⟩
theorem Qny{lim:Nat}{H:Qaa}{r:Nat}{s:Tx}{p:Nat}(gr:H[r]? =some (rdO s p))(hl:lim≤r)(hs:s.length≤16384)(hp:p≤s.length){t:Tx}{q:Nat}(h:Qcc s p= .ok (t,q)):
  Ev X0 41 lim [.ptr r 0] H (.d (.str t)) (H.set r (rdO s q)):=by
 refine QcO (F:=Qi9) rfl ?_
 have h0:lim≤r∧(0:Int)≤(p:Int)∧(p:Int)≤(s.length:Int)∧s.length≤16384:=⟨hl,by omega,by omega,hs⟩
 simp only[Qi9,gr,if_pos h0,Int.toNat_natCast,h]
theorem Qnz{lim:Nat}{H:Qaa}{r:Nat}{s:Tx}{p:Nat}(gr:H[r]? =some (rdO s p))(hl:lim≤r)(hs:s.length≤16384)(hp:p≤s.length){e:Nat×Nat}(h:Qcc s p= .error e):
  EvP XP 41 lim [.ptr r 0] H (QdB e.1 e.2):=by
 refine EvP_prim (F:=Qgm) rfl rfl ?_
 have h0:lim≤r∧(0:Int)≤(p:Int)∧(p:Int)≤(s.length:Int)∧s.length≤16384:=⟨hl,by omega,by omega,hs⟩
 simp only[Qgm,gr,if_pos h0,Int.toNat_natCast,h]
def QiZ(f:Nat):Prop:=∀(lim:Nat) (H:Qaa) (r:Nat) (s:Tx) (p deep:Nat),H[r]? =some (rdO s p)→lim≤r→s.length≤16384→p≤s.length→deep≤13→2*(s.length-p)+1≤f→
 Fv X0 XP 25 lim [.ptr r 0,intD deep] H (fun v H'=>∃j q,Qa8 s f deep p= .ok (j,q)∧v= .d j.d∧H'=H.set r (rdO s q)) (fun z=>∃e,Qa8 s f deep p= .error e∧z=QdB e.1 e.2)
theorem Qo4(c:UInt8):Qhg c=((((c.toNat:Int) !=0))&&(QaS c||([91,123,34,110,116,102,45]:Tx).contains c)):=by
 unfold Qhg
 simp only[List.contains_cons,List.contains_nil,Bool.or_false,Bool.or_assoc]
 by_cases h:c=0
 ·subst h;rfl
 ·have:(((c.toNat:Int) !=0))=true:=by
   have:=Qhn (c:=c) (k:=0) (n:=0) h rfl
   simp[bne,this]
  rw[this,Bool.true_and]
theorem deep_eq(d:Nat):decide ((d:Int)>12)=decide (12<d):=by
 rw[Bool.eq_iff_iff];simp;omega
abbrev zJ:List AV:= [intD 0,intD 0,.d (.str []),.fslice [],.fslice []]
theorem duo{H:Qaa}{r:Nat}{o:AObj}(gr:H[r]? =some o):∃KK:AObj→AObj→AObj→Qaa,(∀x y z,KK x y z=H.set r x++ [y,z])∧(∀x y z,(KK x y z)[r]? =some x)∧(∀x y z,(KK x y z)[H.length]? =some y)∧(∀x y z,(KK x y z)[H.length+1]? =some z)∧
  (∀x y z x',(KK x y z).set r x'=KK x' y z)∧(∀x y z y',(KK x y z).set H.length y'=KK x y' z)∧(∀x y z z',(KK x y z).set (H.length+1) z'=KK x y z'):=by
 obtain⟨hr,e⟩:=List.getElem?_eq_some_iff.1 gr
 refine⟨fun x y z=>H.set r x++ [y,z],fun _ _ _=>rfl,fun x y z=> ?_,fun x y z=> ?_,fun x y z=> ?_,fun x y z x'=> ?_,fun x y z y'=> ?_,fun x y z z'=> ?_⟩
 ·simp only;rw[List.getElem?_append_left (by simpa using hr)];simp[hr]
 ·simp only;rw[List.getElem?_append_right (by simp)];simp
 ·simp only;rw[List.getElem?_append_right (by simp)];simp
 ·simp only;rw[List.set_append_left _ _ (by simpa using hr),List.set_set]
 ·simp only;rw[List.set_append_right _ _ (by simp)];simp
 ·simp only;rw[List.set_append_right _ _ (by simp)];simp
theorem trio{H:Qaa}{r:Nat}{o:AObj}(gr:H[r]? =some o):∃KK:AObj→AObj→AObj→AObj→Qaa,(∀x y z m,KK x y z m=H.set r x++ [y,z,m])∧(∀x y z m,(KK x y z m)[r]? =some x)∧(∀x y z m,(KK x y z m)[H.length]? =some y)∧(∀x y z m,(KK x y z m)[H.length+1]? =some z)∧(∀x y z m,(KK x y z m)[H.length+2]? =some m)∧
  (∀x y z m x',(KK x y z m).set r x'=KK x' y z m)∧(∀x y z m y',(KK x y z m).set H.length y'=KK x y' z m)∧(∀x y z m z',(KK x y z m).set (H.length+1) z'=KK x y z' m)∧(∀x y z m m',(KK x y z m).set (H.length+2) m'=KK x y z m'):=by
 obtain⟨hr,e⟩:=List.getElem?_eq_some_iff.1 gr
 refine⟨fun x y z m=>H.set r x++ [y,z,m],fun _ _ _ _=>rfl,fun x y z m=> ?_,fun x y z m=> ?_,fun x y z m=> ?_,fun x y z m=> ?_,fun x y z m x'=> ?_,fun x y z m y'=> ?_,fun x y z m z'=> ?_,fun x y z m z'=> ?_⟩
 ·simp only;rw[List.getElem?_append_left (by simpa using hr)];simp[hr]
 ·simp only;rw[List.getElem?_append_right (by simp)];simp
 ·simp only;rw[List.getElem?_append_right (by simp)];simp
 ·simp only;rw[List.getElem?_append_right (by simp)];simp
 ·simp only;rw[List.set_append_left _ _ (by simpa using hr),List.set_set]
 ·simp only;rw[List.set_append_right _ _ (by simp)];simp
 ·simp only;rw[List.set_append_right _ _ (by simp)];simp
 ·simp only;rw[List.set_append_right _ _ (by simp)];simp
theorem list_eq(s:Tx)(f deep:Nat)(first:Bool)(acc:List J)(p:Nat):Qdp s (f+1) deep first acc p=match Qcd s first 93 p with
  |.error e=> .error e
  |.ok (false,p)=> .ok (acc,p)
  |.ok (true,p)=>match Qa8 s f (deep+1) p with
   |.error e=> .error e
   |.ok (j,q)=>Qdp s f deep false (acc++ [j]) q:=by
 conv=>lhs;unfold Qdp
 rfl
theorem headJ(l:List J):Qbh 5 (l.map J.d)=true:=by
 cases l with
 |nil=>rfl
 |cons j l=>rw[List.map_cons,jd];rfl
theorem headS(l:List Tx):Qbh 1 (l.map D.str)=true:=by
 cases l with
 |nil=>rfl
 |cons j l=>rfl
theorem tk25:Tab.tak 25=false:=rfl
abbrev Qoq(acc:List J):AObj:= .cells [intD 4,intD 0,.d (.str []),.fslice [],.fslice (acc.map J.d)]
abbrev listT(acc:List J):AObj:= .cells [intD 4,intD 0,.d (.str []),.fslice [],.d (.slice (acc.map J.d))]
theorem QoL(s:Tx)(f deep:Nat)(first:Bool)(ks:List Tx)(l:List J)(p:Nat):Qa0 s (f+1) deep first ks l p=match Qcd s first 125 p with
  |.error e=> .error e
  |.ok (false,p)=> .ok (ks,l,p)
  |.ok (true,p)=>match Qcc s p with
   |.error e=> .error e
   |.ok (k,q)=>if ks.contains k then .error (14,p)else match Qcb s 58 (Qaf s q)with
    |.error e=> .error e
    |.ok r=>match Qa8 s f (deep+1) (Qaf s r)with
     |.error e=> .error e
     |.ok (j,z)=>Qa0 s f deep false (ks++ [k]) (l++ [j]) z:=by
 conv=>lhs;unfold Qa0
 rfl
abbrev QjK(ks:List Tx):List (D×AV):=ks.map fun k=>(D.str k,boolD true)
abbrev QoI(ks:List Tx)(acc:List J):AObj:= .cells [intD 5,intD 0,.d (.str []),.fslice (ks.map D.str),.fslice (acc.map J.d)]
abbrev fldT(ks:List Tx)(acc:List J):AObj:= .cells [intD 5,intD 0,.d (.str []),.fslice (ks.map D.str),.d (.slice (acc.map J.d))]
abbrev QgH(ks:List Tx):AObj:= .map .str (QjK ks)
theorem QjM(k:Tx):Qck .str (.str k)=true:=rfl
theorem QnG(a b:Tx):D.beq (.str a) (.str b)=(a==b):=rfl
theorem QjU(k:Tx):∀ks:List Tx,Qem (.str k) (QjK ks)=if ks.contains k then some (boolD true)else none
 | []=>rfl
 |a::ks=>by
  simp only[QjK,List.map_cons,Qem,QnG,List.contains_cons]
  by_cases h:(k==a)=true
  ·simp[h]
  ·have:=QjU k ks
   simp only[QjK]at this
   simp[h,this]
theorem QlA(k:Tx):∀ks:List Tx,ks.contains k=false→QlB (.str k) (boolD true) (QjK ks)=QjK (ks++ [k])
 | [],_=>rfl
 |a::ks,h=>by
  simp only[List.contains_cons,Bool.or_eq_false_iff]at h
  simp only[QjK,List.map_cons,QlB,QnG,List.cons_append,h.1]
  have:=QlA k ks h.2
  simp only[QjK]at this
  simp[this]
def FieldsOK(f:Nat):Prop:=∀(lim:Nat) (H:Qaa) (r:Nat) (s:Tx) (p deep:Nat),H[r]? =some (rdO s p)→lim≤r→s.length≤16384→p≤s.length→deep≤12→2*(s.length-p)+2≤f→
 Fv X0 XP 40 lim [.ptr r 0,intD deep] H (fun v H'=>∃y,Qa0 s f deep true [] [] p= .ok y∧v= .d (J.mk 5 0 [] y.1 y.2.1).d∧H'=H.set r (rdO s y.2.2)) (fun z=>∃e,Qa0 s f deep true [] [] p= .error e∧z=QdB e.1 e.2)
theorem Qm5(f:Nat)(ih:∀g,g<f→QiZ g):FieldsOK f:=by
 intro lim H r s p deep gr hl hs hp hd hf
 refine Qml (pn rfl) rfl (by first|exact rfl|exact pnP (pr:=Qbb) rfl) rfl (show code 40=some c40 from rfl) rfl ?_;simp only[List.length_cons,List.length_nil,List.cons_append,List.nil_append,simprocAttr]
 obtain⟨KK,kk0,kk1,kk2,kk3,kk4,kk5,hrl⟩:=QiE gr zC
 obtain⟨K3,d0,d1,d2,d3,d4,d5,d6,d7,d8⟩:=trio gr
 have hll:=Nat.le_trans hl hrl
 have hr:=(List.getElem?_eq_some_iff.1 gr).1
 have hll2:lim≤H.length+1:=by omega
 have hll3:lim≤H.length+2:=by omega
 have a1:(H++ [zC]).length=H.length+1:=by simp
 have a2:∀(B C:AObj),(H++ [zC]++ [B]).set (H.length+1) C=H++ [zC,C]:=fun B C=>by
  rw[List.append_assoc,List.set_append_right _ _ (by simp)];simp
 have a3:∀(B:AObj),(H++ [zC]++ [B])[H.length+1]? =some B:=fun B=>by
  rw[List.append_assoc,List.getElem?_append_right (by simp)];simp
 have a4:∀(B:AObj),(H++ [zC,B]).length=H.length+2:=fun B=>by simp
 have a5:∀(B C:AObj),H++ [zC,B]++ [C]=K3 (rdO s p) zC B C:=fun B C=>by
  rw[d0,QkE gr];simp
 (iterate 6 refine v_s (j_ a1 (j_ a2 (j_ a3 (j_ a4 (j_ a5 hll2))))) ?_)
 obtain⟨L,hL0⟩:∃L,L=Qa0 s f deep true [] [] p:=⟨_,rfl⟩
 rw[←hL0]
 (iterate 4 refine v_s trivial ?_)
 refine V_lp (fun m st=>∃first ks acc p' f',p'≤s.length∧ks.length≤p'∧acc.length≤p'∧m=s.length-p'∧f'≤f∧2*(s.length-p')+2≤f'∧L=Qa0 s f' deep first ks acc p'∧∃x:Nat→AV,st=⟨[.ptr r 0,intD deep,x 2,x 3,.ptr H.length 0,.ptr (H.length+1) 0,.mapr (H.length+2),boolD first,x 8,x 9,x 10,x 11,x 12],K3 (rdO s p') zC (QoI ks acc) (QgH ks)⟩) ?_ _ _ ⟨true,[],[],p,f,hp,Nat.zero_le _,Nat.zero_le _,rfl,Nat.le_refl _,hf,hL0,Qam _ _ _ rfl⟩
 rintro m _ ⟨first,ks,acc,p',f',hp',hks,hac,rfl,hf1,hf2,hls,x,rfl⟩
 obtain⟨g,rfl⟩:∃g,f'=g+1:=⟨f'-1,by omega⟩
 rw[QoL]at hls
 have hm:=Qom lim _ r s p' first 125 (by decide) (d1 (rdO s p') zC (QoI ks acc) (QgH ks)) hl hs hp'
 cases hmo:Qcd s first 125 p' with
 |error e=>
  rw[hmo]at hls
  refine v_r trivial ?_
  refine Qan ?_;refine QaD rfl ?_;simp only[zz,simprocAttr]
  exact EvP.fv (hm.noJ hmo) ⟨_,by rw[hls],rfl⟩
 |ok y=>
  obtain⟨b,q⟩:=y
  rw[hmo]at hls
  have hmb:=QcV hmo
  have hq:=hmb.2.1 hp'
  have em:Ev X0 39 lim [.ptr r 0,boolD first,.d (.int .u8 125)] (K3 (rdO s p') zC (QoI ks acc) (QgH ks)) (boolD b) _:=hm.okJ hmo
  rw[d5]at em
  cases b with
  |false=>
   refine v_r trivial ?_
   (apply QaX;focus(refine Evl.call (X:=X0) (em) (Evl.all fun k e1=> ?_);simp(maxSteps:=100000000) only[zz,zd,simprocAttr,e1];(first|done|with_reducible exact rfl)))<;>(try simp only[zp,simprocAttr])
   refine v_r (j_ d3 (j_ d2 (j_ d6 hll))) ?_
   refine QbW (vs:= [.d (J.mk 5 0 [] ks acc).d]) ?_ (d0 _ _ _ _) hr rfl rfl ⟨(ks,acc,q),by rw[hls],rfl,rfl⟩
   rw[jd]
   simp only[Qcg,zz,simprocAttr,d2];rfl
  |true=>
   simp only at hls
   have g1:=d1 (rdO s q) zC (QoI ks acc) (QgH ks)
   refine v_r trivial ?_
   (apply QaX;focus(refine Evl.call (X:=X0) (em) (Evl.all fun k e1=> ?_);simp(maxSteps:=100000000) only[zz,zd,simprocAttr,e1];(first|done|with_reducible exact rfl)))<;>(try simp only[zp,simprocAttr])
   refine v_r g1 ?_
   cases ht:Qcc s q with
   |error e=>
    rw[ht]at hls
    refine Qan ?_;refine QaD rfl ?_;simp only[zz,simprocAttr]
    exact EvP.fv (Qnz g1 hl hs hq ht) ⟨_,hls,rfl⟩
   |ok y=>
   obtain⟨k,q2⟩:=y
   rw[ht]at hls
   have htl:=Qkp ht
   have et:=Qny g1 hl hs hq ht
   rw[d5]at et
   simp only at hls
   have hfk:=QjU k ks
   have g2:=d4 (rdO s q2) zC (QoI ks acc) (QgH ks)
   (apply QaX;focus(refine Evl.call (X:=X0) (et) (Evl.all fun k e1=> ?_);simp(maxSteps:=100000000) only[zz,zd,simprocAttr,e1];(first|done|with_reducible exact rfl)))<;>(try simp only[zp,simprocAttr])
   cases hkc:ks.contains k with
   |true=>
    rw[hkc]at hfk hls
    simp only[if_true]at hfk hls
    refine v_r (j_ g2 (j_ hfk @QjM)) ?_
    refine Qan ?_;refine QaD rfl ?_;simp only[zz,simprocAttr]
    exact EvP.fv (Qa9 _ _ r 14 q) ⟨_,hls,rfl⟩
   |false=>
   rw[hkc]at hfk hls
   simp only[Bool.false_eq_true,if_false]at hfk hls
   have hsk:=QlA k ks hkc
   have g3:=d1 (rdO s q2) zC (QoI ks acc) (QgH (ks++ [k]))
   refine v_r (j_ g2 (j_ hfk (j_ @QjM (j_ hsk (j_ d8 hll3))))) ?_
   have hb1:=Qbn s q2
   have eb1:=Qdi (pr:=Qbb) lim _ r s q2 g3 hl htl.2 hs
   rw[d5]at eb1
   (apply QaX;focus(refine Evl.call (X:=X0) (eb1) (Evl.all fun k e1=> ?_);simp(maxSteps:=100000000) only[zz,zd,simprocAttr,e1];(first|done|with_reducible exact rfl)))<;>(try simp only[zp,simprocAttr])
   have g4:=d1 (rdO s (Qaf s q2)) zC (QoI ks acc) (QgH (ks++ [k]))
   rcases Qcq s 58 (Qaf s q2)with⟨h1,h2⟩|⟨h1,h2⟩
   rotate_left
   ·rw[h2]at hls
    refine v_r trivial ?_
    refine Qan ?_;refine QaD rfl ?_;simp only[zz,simprocAttr]
    exact EvP.fv (Qin lim _ r s _ 58 g4 (hb1.2 htl.2) h1) ⟨_,hls,rfl⟩
   rw[h2]at hls
   simp only at hls
   have h1l:=(List.getElem?_eq_some_iff.1 h1).1
   have hb2:=Qbn s (Qaf s q2+1)
   have ew:Ev X0 57 lim [.ptr r 0,.d (.int .u8 58)] (K3 (rdO s (Qaf s q2)) zC (QoI ks acc) (QgH (ks++ [k]))) (.tuple []) _:=Qim lim _ r s _ 58 g4 hl hs h1
   rw[d5]at ew
   have g5:=d1 (rdO s (Qaf s q2+1)) zC (QoI ks acc) (QgH (ks++ [k]))
   have eb2:=Qdi (pr:=Qbb) lim _ r s _ g5 hl (by omega) hs
   rw[d5]at eb2
   refine v_r trivial ?_
   (apply QaX;focus(refine Evl.call (X:=X0) (ew) (Evl.all fun k e1=> ?_);simp(maxSteps:=100000000) only[zz,zd,simprocAttr,e1];(first|done|with_reducible exact rfl)))<;>(try simp only[zp,simprocAttr])
   refine v_r trivial ?_
   (apply QaX;focus(refine Evl.call (X:=X0) (eb2) (Evl.all fun k e1=> ?_);simp(maxSteps:=100000000) only[zz,zd,simprocAttr,e1];(first|done|with_reducible exact rfl)))<;>(try simp only[zp,simprocAttr])
   generalize hz:Qaf s (Qaf s q2+1)=z at hls hb2 eb2⊢
   have hs1:=headS ks
   have hs2:((ks.map D.str).length+1)*17≤70368744177664:=by rw[List.length_map];omega
   refine v_r (j_ d3 (j_ d7 (j_ hll2 (j_ hs1 hs2)))) ?_
   have hkk:ks.map D.str++ [D.str k]=(ks++ [k]).map D.str:=by simp
   rw[hkk]
   have wd:IntKind.i64.wrap ((deep:Int)+1)=((deep+1:Nat):Int):=Qkl (by omega)
   have hv1:=ih g (by omega) lim _ r s z (deep+1) (d1 (rdO s z) zC (QoI (ks++ [k]) acc) (QgH (ks++ [k]))) hl hs (hb2.2 (by omega)) (by omega) (by omega)
   have hv2:=ih g (by omega) lim _ r s z (deep+1) (d1 (rdO s z) zC (fldT (ks++ [k]) acc) (QgH (ks++ [k]))) hl hs (hb2.2 (by omega)) (by omega) (by omega)
   cases hvo:Qa8 s g (deep+1) z with
   |error e=>
    rw[hvo]at hls
    (apply V_pan;focus(refine Evl.panN (X:=X0) (hv1.noJ hvo) (Evl.panN (X:=X0) (hv2.noJ hvo) (Evl.all fun k e2 e1=> ?_));simp(maxSteps:=100000000) only[zz,zd,simprocAttr,wd,d3,d7,hll2,tk25,e2,e1];(first|done|with_reducible exact rfl)))
    exact⟨e,hls,rfl⟩
   |ok y=>
    obtain⟨j,z2⟩:=y
    rw[hvo]at hls
    have hvl:=QfW hvo
    have ev1:=hv1.okJ hvo
    have ev2:=hv2.okJ hvo
    rw[d5]at ev1 ev2
    have hj:=jd j
    have hz1:=headJ acc
    have hz2:((acc.map J.d).length+1)*85≤70368744177664:=by rw[List.length_map];omega
    (apply QaX;focus(refine Evl.call (X:=X0) (ev1) (Evl.call (X:=X0) (ev2) (Evl.all fun k e2 e1=> ?_));simp(maxSteps:=100000000) only[zz,zd,simprocAttr,hj,hz1,hz2,wd,d3,d7,hll2,d5,e2,e1];(first|done|with_reducible exact rfl)))<;>(try simp only[zp,simprocAttr])
    refine v_r trivial ?_
    refine⟨s.length-z2,by omega,false,ks++ [k],acc++ [j],z2,g,hvl.2,by simp;omega,by simp;omega,rfl,by omega,by omega,hls,QdU ?_ rfl⟩
    rw[←hj];simp only[QoI,List.map_append,List.map_cons,List.map_nil]
theorem Qmp(f:Nat)(ih:∀g,g<f+1→QiZ g):QiZ (f+1):=by
 intro lim H r s p deep gr hl hs hp hd hf
 refine Qml (pn rfl) rfl (by first|exact rfl|exact pnP (pr:=Qbb) rfl) rfl (show code 25=some c25 from rfl) rfl ?_;simp only[List.length_cons,List.length_nil,List.cons_append,List.nil_append,simprocAttr]
 obtain⟨KK,kk0,kk1,kk2,kk3,kk4,kk5,hrl⟩:=QiE gr zC
 have hll:=Nat.le_trans hl hrl
 have hr:=(List.getElem?_eq_some_iff.1 gr).1
 (iterate 2 refine v_s trivial ?_)
 rw[←kk1]
 refine Qi0 ?_
 (apply QaX;focus(refine Evl.call (X:=X0) (Qbo lim (KK (rdO s p) zC) r s p (kk2 _ _) hp) (Evl.all fun k e1=> ?_);simp(maxSteps:=100000000) only[zz,zd,simprocAttr,e1];(first|done|with_reducible exact rfl)))<;>(try simp only[zp,simprocAttr])
 generalize hc:nx s p=c
 refine Qi0 ?_
 refine V_mid (fun st=>∃x:Nat→AV,st=⟨[.ptr r 0,intD deep,boolD (decide (12<deep)&&Qhg c),x 3,x 4,x 5,x 6,x 7,x 8,x 9,.ptr H.length 0,.d (.int .u8 c.toNat),x 12,x 13,x 14,x 15,x 16,x 17],KK (rdO s p) zC⟩) ?_ ?_
 ·rw[Qo4,←QoB,←deep_eq]
  cases hz:decide ((deep:Int)>12)with
  |false=>
   refine v_r (j_ hz @Bool.false_and) ?_
   exact Qam _ _ _ rfl
  |true=>
   cases h0:((c.toNat:Int) !=0)with
   |false=>
    refine v_r (j_ hz (j_ h0 @Bool.false_and)) ?_
    exact Qam _ _ _ rfl
   |true=>
    cases h1:QaS c with
    |true=>
     (apply QaX;focus(refine Evl.call (X:=X0) (Qd9 lim (KK (rdO s p) zC) c) (Evl.all fun k e1=> ?_);simp(maxSteps:=100000000) only[zz,zd,simprocAttr,hz,h0,h1,Bool.true_and,Bool.true_or,e1];(first|done|with_reducible exact rfl)))<;>(try simp only[zp,simprocAttr])
     exact Qam _ _ _ rfl
    |false=>
     (apply QaX;focus(refine Evl.call (X:=X0) (Qd9 lim (KK (rdO s p) zC) c) (Evl.call (X:=X0) (QgM lim (KK (rdO s p) zC) [91,123,34,110,116,102,45] c) (Evl.all fun k e2 e1=> ?_));simp(maxSteps:=100000000) only[zz,zd,simprocAttr,hz,h0,h1,Bool.true_and,Bool.false_or,e2,e1];(first|done|with_reducible exact rfl)))<;>(try simp only[zp,simprocAttr])
     exact Qam _ _ _ rfl
 rintro _ ⟨x,rfl⟩
 have k2:=kk2 (rdO s p) zC
 unfold Qa8
 rw[hc]
 cases hb:(decide (12<deep)&&Qhg c)with
 |true=>
  rw[if_pos (by simpa using hb)]
  refine v_r trivial ?_
  refine Qan ?_;apply Qbq 3;(focus(intro _;simp only[zz,simprocAttr,k2];(first|done|with_reducible exact rfl)));simp only[List.drop_succ_cons,List.drop_zero];refine QaD rfl ?_;simp only[zz,simprocAttr]
  exact EvP.fv (Qa9 _ _ r 12 p) ⟨_,rfl,rfl⟩
 |false=>
 rw[if_neg (by simpa using hb)]
 have k3:=kk3 (rdO s p) zC
 have wp:IntKind.i64.wrap ((p:Int)+1)=((p+1:Nat):Int):=Qkl (by omega)
 by_cases h91:c=91
 ·have hpl:p<s.length:=QeE (by rw[hc,h91];decide)
  have c1:((c.toNat:Int)==91)=true:=Qhw h91 rfl
  have hd2:deep≤12:=by
   rw[h91]at hb
   simp only[show Qhg 91=true from rfl,Bool.and_true,decide_eq_false_iff_not]at hb
   omega
  rw[if_pos h91]
  refine v_r (j_ c1 (j_ k2 (j_ wp (j_ hl (j_ kk5 (j_ kk3 kk4)))))) ?_
  obtain⟨K2,d0,d1,d2,d3,d4,d5,d6⟩:=duo gr
  have hl2:(H.set r (.cells [.d (.str s),intD ((p+1:Nat):Int)])++ [zC]).length=H.length+1:=by simp
  have hs2:∀(A B C:AObj),(H.set r A++ [zC]++ [B]).set (H.length+1) C=K2 A zC C:=fun A B C=>by
   rw[d0,List.append_assoc,List.set_append_right _ _ (by simp)];simp
  have hg2:∀(A B:AObj),(H.set r A++ [zC]++ [B])[H.length+1]? =some B:=fun A B=>by
   rw[List.append_assoc,List.getElem?_append_right (by simp)];simp
  have hll2:lim≤H.length+1:=by omega
  rw[kk0]
  (iterate 2 refine v_s (j_ hl2 (j_ hs2 (j_ hg2 hll2))) ?_)
  (iterate 3 refine v_s trivial ?_)
  obtain⟨L,hL0⟩:∃L,L=Qdp s f deep true [] (p+1):=⟨_,rfl⟩
  rw[←hL0]
  refine V_lp (fun m st=>∃first acc p' f',p'≤s.length∧acc.length≤p'∧m=s.length-p'∧f'≤f∧2*(s.length-p')+2≤f'∧L=Qdp s f' deep first acc p'∧∃x:Nat→AV,st=⟨[.ptr r 0,intD deep,x 2,x 3,x 4,x 5,x 6,x 7,x 8,x 9,.ptr H.length 0,x 11,x 12,.ptr (H.length+1) 0,boolD first,x 15,x 16,x 17],K2 (rdO s p') zC (Qoq acc)⟩) ?_ _ _ ⟨true,[],p+1,f,by omega,Nat.zero_le _,rfl,Nat.le_refl _,by omega,hL0,Qam _ _ _ rfl⟩
  rintro m _ ⟨first,acc,p',f',hp',hac,rfl,hf1,hf2,hls,x,rfl⟩
  obtain⟨g,rfl⟩:∃g,f'=g+1:=⟨f'-1,by omega⟩
  rw[list_eq]at hls
  have hm:=Qom lim _ r s p' first 93 (by decide) (d1 (rdO s p') zC (Qoq acc)) hl hs hp'
  cases hmo:Qcd s first 93 p' with
  |error e=>
   rw[hmo]at hls
   refine v_r trivial ?_
   refine Qan ?_;refine QaD rfl ?_;simp only[zz,simprocAttr]
   exact EvP.fv (hm.noJ hmo) ⟨_,by rw[hls],rfl⟩
  |ok y=>
   obtain⟨b,q⟩:=y
   rw[hmo]at hls
   have hmb:=QcV hmo
   have hq:=hmb.2.1 hp'
   have em:Ev X0 39 lim [.ptr r 0,boolD first,.d (.int .u8 93)] (K2 (rdO s p') zC (Qoq acc)) (boolD b) _:=hm.okJ hmo
   rw[d4]at em
   cases b with
   |false=>
    refine v_r trivial ?_
    (apply QaX;focus(refine Evl.call (X:=X0) (em) (Evl.all fun k e1=> ?_);simp(maxSteps:=100000000) only[zz,zd,simprocAttr,e1];(first|done|with_reducible exact rfl)))<;>(try simp only[zp,simprocAttr])
    refine v_r (j_ d3 (j_ d2 (j_ d5 hll))) ?_
    refine QbW (vs:= [.d (J.mk 4 0 [] [] acc).d]) ?_ (d0 _ _ _) hr rfl rfl ⟨_,q,by rw[hls],rfl,rfl⟩
    rw[jd]
    simp only[Qcg,zz,simprocAttr,d2];rfl
   |true=>
    have wd:IntKind.i64.wrap ((deep:Int)+1)=((deep+1:Nat):Int):=Qkl (by omega)
    have hv1:=ih g (by omega) lim _ r s q (deep+1) (d1 (rdO s q) zC (Qoq acc)) hl hs hq (by omega) (by omega)
    have hv2:=ih g (by omega) lim _ r s q (deep+1) (d1 (rdO s q) zC (listT acc)) hl hs hq (by omega) (by omega)
    simp only at hls
    refine v_r trivial ?_
    (apply QaX;focus(refine Evl.call (X:=X0) (em) (Evl.all fun k e1=> ?_);simp(maxSteps:=100000000) only[zz,zd,simprocAttr,e1];(first|done|with_reducible exact rfl)))<;>(try simp only[zp,simprocAttr])
    refine v_r trivial ?_
    cases hvo:Qa8 s g (deep+1) q with
    |error e=>
     (apply V_pan;focus(refine Evl.panN (X:=X0) (hv1.noJ hvo) (Evl.panN (X:=X0) (hv2.noJ hvo) (Evl.all fun k e2 e1=> ?_));simp(maxSteps:=100000000) only[zz,zd,simprocAttr,wd,d3,d6,hll2,tk25,e2,e1];(first|done|with_reducible exact rfl)))
     exact⟨e,by rw[hls,hvo],rfl⟩
    |ok y=>
     obtain⟨j,z⟩:=y
     have hvl:=QfW hvo
     have ev1:=hv1.okJ hvo
     have ev2:=hv2.okJ hvo
     rw[d4]at ev1 ev2
     have hj:=jd j
     have hz1:=headJ acc
     have hz2:((acc.map J.d).length+1)*85≤70368744177664:=by rw[List.length_map];omega
     (apply QaX;focus(refine Evl.call (X:=X0) (ev1) (Evl.call (X:=X0) (ev2) (Evl.all fun k e2 e1=> ?_));simp(maxSteps:=100000000) only[zz,zd,simprocAttr,hj,hz1,hz2,wd,d3,d6,hll2,d4,e2,e1];(first|done|with_reducible exact rfl)))<;>(try simp only[zp,simprocAttr])
     refine v_r trivial ?_
     refine⟨s.length-z,by omega,false,acc++ [j],z,g,hvl.2,by simp;omega,rfl,by omega,by omega,by rw[hls,hvo],QdU ?_ rfl⟩
     rw[←hj];simp only[Qoq,List.map_append,List.map_cons,List.map_nil]
 have c1:((c.toNat:Int)==91)=false:=Qhn h91 rfl
 rw[if_neg h91]
 by_cases h123:c=123
 ·have hpl:p<s.length:=QeE (by rw[hc,h123];decide)
  have c2:((c.toNat:Int)==123)=true:=Qhw h123 rfl
  have hd2:deep≤12:=by
   rw[h123]at hb
   simp only[show Qhg 123=true from rfl,Bool.and_true,decide_eq_false_iff_not]at hb
   omega
  rw[if_pos h123]
  refine v_r (j_ c1 (j_ c2 (j_ k2 (j_ wp (j_ hl (j_ kk5 (j_ kk3 kk4))))))) ?_
  have hf0:=Qm5 f (fun g hg=>ih g (by omega)) lim _ r s (p+1) deep (kk2 (rdO s (p+1)) zC) hl hs (by omega) hd2 (by omega)
  cases ht:Qa0 s f deep true [] [] (p+1)with
  |error e=>
   refine Qan ?_;refine QaD rfl ?_;simp only[zz,simprocAttr]
   exact EvP.fv (hf0.noP ht) ⟨_,rfl,rfl⟩
  |ok y=>
   have ef:=hf0.okP ht
   rw[kk4]at ef
   obtain⟨ks,l,q⟩:=y
   have hj:=jd (J.mk 5 0 [] ks l)
   (apply QaX;focus(refine Evl.call (X:=X0) (ef) (Evl.all fun k e1=> ?_);simp(maxSteps:=100000000) only[zz,zd,simprocAttr,hj,kk5,kk3,kk4,hll,e1];(first|done|with_reducible exact rfl)))<;>(try simp only[zp,simprocAttr])
   refine v_r trivial ?_
   refine QbW (vs:= [.d (J.mk 5 0 [] ks l).d]) ?_ (kk0 _ _) hr rfl rfl ⟨_,q,rfl,rfl,rfl⟩
   rw[jd]
   simp only[Qcg,zz,simprocAttr,kk3]
 have c2:((c.toNat:Int)==123)=false:=Qhn h123 rfl
 rw[if_neg h123]
 by_cases h34:c=34
 ·have c3:((c.toNat:Int)==34)=true:=Qhw h34 rfl
  rw[if_pos h34]
  refine v_r (j_ c1 (j_ c2 c3)) ?_
  cases ht:Qcc s p with
  |error e=>
   refine Qan ?_;refine QaD rfl ?_;simp only[zz,simprocAttr]
   exact EvP.fv (Qnz k2 hl hs hp ht) ⟨_,rfl,rfl⟩
  |ok y=>
   obtain⟨t,q⟩:=y
   (apply QaX;focus(refine Evl.call (X:=X0) (Qny k2 hl hs hp ht) (Evl.all fun k e1=> ?_);simp(maxSteps:=100000000) only[zz,zd,simprocAttr,kk5,kk3,kk4,hll,e1];(first|done|with_reducible exact rfl)))<;>(try simp only[zp,simprocAttr])
   refine v_r trivial ?_
   refine QbW (vs:= [.d (J.mk 3 0 t [] []).d]) ?_ (kk0 _ _) hr rfl rfl ⟨_,q,rfl,rfl,rfl⟩
   rw[jd]
   simp only[Qcg,zz,simprocAttr,kk3];rfl
 have c3:((c.toNat:Int)==34)=false:=Qhn h34 rfl
 rw[if_neg h34]
 by_cases h110:c=110
 ·have c4:((c.toNat:Int)==110)=true:=Qhw h110 rfl
  rw[if_pos h110]
  refine v_r (j_ c1 (j_ c2 (j_ c3 c4))) ?_
  have hw:=Qkm (pr:=Qbb) (pP:=QdK) lim _ r s p [110,117,108,108] 0 0 k2 hl hs (by decide) hp
  cases ht:Qdk s [110,117,108,108] p with
  |error e=>
   refine Qan ?_;apply Qbq 1;(focus(intro _;simp only[zz,simprocAttr];(first|done|with_reducible exact rfl)));simp only[List.drop_succ_cons,List.drop_zero];refine QaD rfl ?_;simp only[zz,simprocAttr]
   exact EvP.fv (hw.noP ht) ⟨_,rfl,rfl⟩
  |ok q=>
   (apply QaX;focus(refine Evl.call (X:=X0) (hw.okP ht) (Evl.all fun k e1=> ?_);simp(maxSteps:=100000000) only[zz,zd,simprocAttr,kk5,kk3,kk4,hll,e1];(first|done|with_reducible exact rfl)))<;>(try simp only[zp,simprocAttr])
   refine v_r trivial ?_
   refine QbW (vs:= [.d (J.mk 0 0 [] [] []).d]) ?_ (kk0 _ _) hr rfl rfl ⟨_,q,rfl,rfl,rfl⟩
   rw[jd]
   simp only[Qcg,zz,simprocAttr,kk3];rfl
 have c4:((c.toNat:Int)==110)=false:=Qhn h110 rfl
 rw[if_neg h110]
 by_cases h116:c=116
 ·have c5:((c.toNat:Int)==116)=true:=Qhw h116 rfl
  rw[if_pos h116]
  refine v_r (j_ c1 (j_ c2 (j_ c3 (j_ c4 c5)))) ?_
  have hw:=Qkm (pr:=Qbb) (pP:=QdK) lim _ r s p [116,114,117,101] 1 1 k2 hl hs (by decide) hp
  cases ht:Qdk s [116,114,117,101] p with
  |error e=>
   refine Qan ?_;apply Qbq 1;(focus(intro _;simp only[zz,simprocAttr];(first|done|with_reducible exact rfl)));simp only[List.drop_succ_cons,List.drop_zero];refine QaD rfl ?_;simp only[zz,simprocAttr]
   exact EvP.fv (hw.noP ht) ⟨_,rfl,rfl⟩
  |ok q=>
   (apply QaX;focus(refine Evl.call (X:=X0) (hw.okP ht) (Evl.all fun k e1=> ?_);simp(maxSteps:=100000000) only[zz,zd,simprocAttr,kk5,kk3,kk4,hll,e1];(first|done|with_reducible exact rfl)))<;>(try simp only[zp,simprocAttr])
   refine v_r trivial ?_
   refine QbW (vs:= [.d (J.mk 1 1 [] [] []).d]) ?_ (kk0 _ _) hr rfl rfl ⟨_,q,rfl,rfl,rfl⟩
   rw[jd]
   simp only[Qcg,zz,simprocAttr,kk3];rfl
 have c5:((c.toNat:Int)==116)=false:=Qhn h116 rfl
 rw[if_neg h116]
 by_cases h102:c=102
 ·have c6:((c.toNat:Int)==102)=true:=Qhw h102 rfl
  rw[if_pos h102]
  refine v_r (j_ c1 (j_ c2 (j_ c3 (j_ c4 (j_ c5 c6))))) ?_
  have hw:=Qkm (pr:=Qbb) (pP:=QdK) lim _ r s p [102,97,108,115,101] 1 0 k2 hl hs (by decide) hp
  cases ht:Qdk s [102,97,108,115,101] p with
  |error e=>
   refine Qan ?_;apply Qbq 1;(focus(intro _;simp only[zz,simprocAttr];(first|done|with_reducible exact rfl)));simp only[List.drop_succ_cons,List.drop_zero];refine QaD rfl ?_;simp only[zz,simprocAttr]
   exact EvP.fv (hw.noP ht) ⟨_,rfl,rfl⟩
  |ok q=>
   (apply QaX;focus(refine Evl.call (X:=X0) (hw.okP ht) (Evl.all fun k e1=> ?_);simp(maxSteps:=100000000) only[zz,zd,simprocAttr,kk5,kk3,kk4,hll,e1];(first|done|with_reducible exact rfl)))<;>(try simp only[zp,simprocAttr])
   refine v_r trivial ?_
   refine QbW (vs:= [.d (J.mk 1 0 [] [] []).d]) ?_ (kk0 _ _) hr rfl rfl ⟨_,q,rfl,rfl,rfl⟩
   rw[jd]
   simp only[Qcg,zz,simprocAttr,kk3];rfl
 have c6:((c.toNat:Int)==102)=false:=Qhn h102 rfl
 rw[if_neg h102]
 refine v_r (j_ c1 (j_ c2 (j_ c3 (j_ c4 (j_ c5 c6))))) ?_
 have hw:=Qoj lim _ r s p k2 hl hs hp
 cases ht:QcB s p with
 |error e=>
  refine Qan ?_;refine QaD rfl ?_;simp only[zz,simprocAttr]
  exact EvP.fv (hw.noJ ht) ⟨_,rfl,rfl⟩
 |ok y=>
  obtain⟨j,q⟩:=y
  have hj:=jd j
  (apply QaX;focus(refine Evl.call (X:=X0) (hw.okJ ht) (Evl.all fun k e1=> ?_);simp(maxSteps:=100000000) only[zz,zd,simprocAttr,hj,kk5,kk3,kk4,hll,e1];(first|done|with_reducible exact rfl)))<;>(try simp only[zp,simprocAttr])
  refine v_r trivial ?_
  refine QbW (vs:= [.d j.d]) ?_ (kk0 _ _) hr rfl rfl ⟨_,q,rfl,rfl,rfl⟩
  rw[jd]
  simp only[Qcg,zz,simprocAttr,kk3]
theorem Qi5(f:Nat):QiZ f:=by
 induction f using Nat.strongRecOn with
 |_ f ih=>
  cases f with
  |zero=>intro _ _ _ _ _ _ _ _ _ _ _ h;omega
  |succ f=>exact Qmp f ih
mutual
def wt:J→Nat
 |.mk _ _ t ks l=>1+t.length+(ks.map fun k=>k.length+1).sum+wts l
def wts:List J→Nat
 | []=>0
 |a::l=>wt a+wts l
end
theorem Qe1(j:J):wt j=1+j.t.length+(j.ks.map fun k=>k.length+1).sum+wts j.l:=by
 obtain⟨k,n,t,ks,l⟩:=j
 conv=>lhs;unfold wt
 rfl
theorem QdY(a:J)(l:List J):wts (a::l)=wt a+wts l:=by
 conv=>lhs;unfold wts
theorem QeZ:∀l m:List J,wts (l++m)=wts l+wts m
 | [],m=>by simp[wts]
 |a::l,m=>by rw[List.cons_append,QdY,QdY,QeZ l m];omega
theorem wt_pos(j:J):1≤wt j:=by rw[Qe1];omega
theorem Qno:∀l:List J,l.length≤wts l
 | []=>Nat.zero_le _
 |a::l=>by have:=Qno l;have:=wt_pos a;rw[QdY,List.length_cons];omega
theorem Qnn:∀ {l:List J} {y:J},y∈l→wt y≤wts l
 |a::l,y,h=>by
  rw[QdY]
  rcases List.mem_cons.1 h with rfl|h
  ·omega
  ·have:=Qnn h;omega
theorem QnF:∀ks:List Tx,ks.length≤(ks.map fun k=>k.length+1).sum
 | []=>Nat.zero_le _
 |a::l=>by have:=QnF l;simp only[List.length_cons,List.map_cons,List.sum_cons];omega
theorem QnE:∀ {ks:List Tx} {k:Tx},k∈ks→k.length<(ks.map fun k=>k.length+1).sum
 |a::l,k,h=>by
  simp only[List.map_cons,List.sum_cons]
  rcases List.mem_cons.1 h with rfl|h
  ·omega
  ·have:=QnE h;omega
theorem wt_t(j:J):j.t.length<wt j:=by rw[Qe1];omega
theorem wt_ks(j:J):j.ks.length≤wt j:=by have:=QnF j.ks;rw[Qe1];omega
theorem wt_l(j:J):j.l.length≤wt j:=by have:=Qno j.l;rw[Qe1];omega
theorem wt_key{j:J}{k:Tx}(h:k∈j.ks):k.length≤wt j:=by have:=QnE h;rw[Qe1];omega
theorem Qlo{j y:J}(h:y∈j.l):wt y<wt j:=by have:=Qnn h;rw[Qe1 j];omega
def OrdOK:Nat→J→Prop
 |0,_=>False
 |n+1,j=>(j.k=5→j.ks.length=j.l.length∧j.ks.Nodup)∧(j.k≠5→j.ks= [])∧(j.k≠4→j.k≠5→j.l= [])∧∀y∈j.l,OrdOK n y
theorem OrdOK.succ:∀ {n:Nat} {j:J},OrdOK n j→OrdOK (n+1) j
 |0,_,h=>h.elim
 |n+1,j,⟨h1,h2,h3,h4⟩=>⟨h1,h2,h3,fun y hy=>(h4 y hy).succ⟩
theorem OrdOK.mono{n m:Nat}{j:J}(h:OrdOK n j)(hm:n≤m):OrdOK m j:=by
 induction hm with
 |refl=>exact h
 |step _ ih=>exact ih.succ
abbrev OrdE(j:J):Prop:=∃n,OrdOK n j
theorem QkI:∀ {l:List J},(∀y∈l,OrdE y)→∃n,∀y∈l,OrdOK n y
 | [],_=>⟨0,by simp⟩
 |a::l,h=>by
  obtain⟨n,hn⟩:=h a (by simp)
  obtain⟨m,hm⟩:=QkI (l:=l) fun y hy=>h y (List.mem_cons_of_mem _ hy)
  refine⟨max n m,fun y hy=> ?_⟩
  rcases List.mem_cons.1 hy with rfl|hy
  ·exact hn.mono (Nat.le_max_left _ _)
  ·exact(hm y hy).mono (Nat.le_max_right _ _)
theorem QeC{k n:Int}{t:Tx}(h:k≠5):OrdE (.mk k n t [] []):=
 ⟨1,fun e=>absurd e h,fun _=>rfl,fun _ _=>rfl,fun y hy=>by cases hy⟩
theorem Qe0(k n:Int)(t:Tx):wt (.mk k n t [] [])=1+t.length:=by rw[Qe1];simp[J.t,J.ks,J.l,wts]
theorem Qg9{s:Tx}:∀ {f:Nat} {acc:Tx} {p q:Nat} {t:Tx},QbG s f acc p= .ok (t,q)→t.length+4*p≤acc.length+4*q
 |0,_,_,_,_,h=>by cases h
 |f+1,acc,p,q,t,h=>by
  unfold QbG at h
  split at h
  ·cases h
  ·split at h
   ·cases h
   ·split at h
    ·cases h;omega
    ·split at h
     ·split at h
      ·cases h
      ·rename_i n r he
       have:=Qg9 h
       have:=(QoP he).1
       have:(QcU n).length≤4:=by unfold QcU;(repeat' split)<;>simp
       rw[List.length_append]at*
       omega
     ·have:=Qg9 h
      rw[List.length_append,List.length_singleton]at this
      omega
theorem Qlv{s:Tx}{p q:Nat}{t:Tx}(h:Qcc s p= .ok (t,q)):t.length+4*p+4≤4*q:=by
 unfold Qcc at h
 split at h
 ·cases h
 ·rename_i r hw
  have:=(Qeg hw).1
  have:=Qg9 h
  simp only[List.length_nil]at this
  omega
theorem QmO{s:Tx}{p q:Nat}{j:J}(h:QcB s p= .ok (j,q)):OrdE j∧wt j=1:=by
 unfold QcB at h
 simp only at h
 generalize(if nx s p=45 then p+1 else p)=f at h
 split at h
 ·split at h
  ·cases h
  ·split at h
   ·cases h
   ·cases h;exact⟨QeC (by decide),Qe0 _ _ _⟩
 ·cases h
theorem all_ord(s:Tx):∀f:Nat,(∀deep p j q,Qa8 s f deep p= .ok (j,q)→OrdE j∧wt j+8*p≤8*q)∧
  (∀deep first acc p l q,Qdp s f deep first acc p= .ok (l,q)→(∀y∈acc,OrdE y)→(∀y∈l,OrdE y)∧wts l+8*p+8≤wts acc+8*q)∧
  (∀deep first ks acc p k l q,Qa0 s f deep first ks acc p= .ok (k,l,q)→ks.length=acc.length→ks.Nodup→(∀y∈acc,OrdE y)→k.length=l.length∧k.Nodup∧(∀y∈l,OrdE y)∧wts l+(k.map fun k=>k.length+1).sum+8*p+8≤wts acc+(ks.map fun k=>k.length+1).sum+8*q):=by
 intro f
 induction f with
 |zero=>
  refine⟨fun _ _ _ _ h=> ?_,fun _ _ _ _ _ _ h=> ?_,fun _ _ _ _ _ _ _ _ h=> ?_⟩
  ·unfold Qa8 at h;cases h
  ·unfold Qdp at h;cases h
  ·unfold Qa0 at h;cases h
 |succ f ih=>
  refine⟨fun deep p j q h=> ?_,fun deep first acc p l q h hy=> ?_,fun deep first ks acc p k l q h hk hd hy=> ?_⟩
  ·have hpq:=QfW h
   unfold Qa8 at h
   split at h
   ·cases h
   split at h
   ·split at h
    ·cases h
    ·rename_i l q' h1
     obtain⟨r2,r3⟩:=ih.2.1 _ _ _ _ _ _ h1 (by simp)
     cases h
     obtain⟨n,hn⟩:=QkI r2
     refine⟨⟨n+1,(fun e=>absurd (show(4:Int)=5 from e) (by decide)),fun _=>rfl,fun e=>absurd rfl e,hn⟩, ?_⟩
     rw[Qe1]
     simp only[J.t,J.ks,J.l,List.length_nil,List.map_nil,List.sum_nil,wts]at r3⊢
     omega
   split at h
   ·split at h
    ·cases h
    ·rename_i k l q' h1
     obtain⟨r2,r3,r4,r5⟩:=ih.2.2 _ _ _ _ _ _ _ _ h1 rfl List.nodup_nil (by simp)
     cases h
     obtain⟨n,hn⟩:=QkI r4
     refine⟨⟨n+1,(fun _=>⟨r2,r3⟩),fun e=>absurd rfl e,fun _ e=>absurd rfl e,hn⟩, ?_⟩
     rw[Qe1]
     simp only[J.t,J.ks,J.l,List.length_nil,List.map_nil,List.sum_nil,wts]at r5⊢
     omega
   split at h
   ·split at h
    ·cases h
    ·rename_i t q' h1
     have:=Qlv h1
     cases h
     exact⟨QeC (by decide),by rw[Qe0];omega⟩
   split at h
   ·split at h
    ·cases h
    ·cases h;exact⟨QeC (by decide),by rw[Qe0];simp only[List.length_nil];omega⟩
   split at h
   ·split at h
    ·cases h
    ·cases h;exact⟨QeC (by decide),by rw[Qe0];simp only[List.length_nil];omega⟩
   split at h
   ·split at h
    ·cases h
    ·cases h;exact⟨QeC (by decide),by rw[Qe0];simp only[List.length_nil];omega⟩
   obtain⟨r1,r2⟩:=QmO h
   exact⟨r1,by rw[r2];omega⟩
  ·unfold Qdp at h
   split at h
   ·cases h
   ·rename_i q' h1
    have:=(QcV h1).2.2 rfl
    cases h
    exact⟨hy,by omega⟩
   ·rename_i p' h1
    have:=QcV h1
    split at h
    ·cases h
    ·rename_i j q' h2
     obtain⟨hj,hw⟩:=ih.1 _ _ _ _ h2
     obtain⟨r1,r2⟩:=ih.2.1 _ _ _ _ _ _ h fun y hy'=>by
      rcases List.mem_append.1 hy' with h'|h'
      ·exact hy y h'
      ·rw[List.mem_singleton.1 h'];exact hj
     refine⟨r1, ?_⟩
     rw[QeZ]at r2
     simp only[wts]at r2
     omega
  ·unfold Qa0 at h
   split at h
   ·cases h
   ·rename_i q' h1
    have:=(QcV h1).2.2 rfl
    cases h
    exact⟨hk,hd,hy,by omega⟩
   ·rename_i p' h1
    have hm:=QcV h1
    split at h
    ·cases h
    ·rename_i k' q' h2
     have ht:=Qlv h2
     split at h
     ·cases h
     ·rename_i hkc
      split at h
      ·cases h
      ·rename_i r h3
       have hw:=Qeg h3
       split at h
       ·cases h
       ·rename_i j z h4
        have b1:=Qbn s q'
        have b2:=Qbn s r
        obtain⟨hj,hjw⟩:=ih.1 _ _ _ _ h4
        obtain⟨r1,r2,r3,r4⟩:=ih.2.2 _ _ _ _ _ _ _ _ h (by simp[hk]) (by
         refine List.nodup_append.2 ⟨hd,by simp,fun a ha b hb e=> ?_⟩
         have:b=k':=by simpa using hb
         subst this;subst e
         exact hkc (by simpa using ha)) fun y hy'=>by
          rcases List.mem_append.1 hy' with h'|h'
          ·exact hy y h'
          ·rw[List.mem_singleton.1 h'];exact hj
        refine⟨r1,r2,r3, ?_⟩
        rw[QeZ]at r4
        simp only[wts,List.map_append,List.map_cons,List.map_nil,List.sum_append,List.sum_cons,List.sum_nil]at r4
        omega
theorem Qns{s:Tx}{f deep p q:Nat}{j:J}(h:Qa8 s f deep p= .ok (j,q)):OrdE j∧wt j+8*p≤8*q:=(all_ord s f).1 _ _ _ _ h
variable {pr:FuncId→Option QbC} {pP:FuncId→Option QeW} [POK pr] [PPOK pr pP]
theorem trey(H:Qaa)(o:AObj):∃K:AObj→AObj→Qaa,(∀a b,K a b=H++ [o,a,b])∧(∀a b,(K a b)[H.length]? =some o)∧(∀a b,(K a b)[H.length+1]? =some a)∧(∀a b,(K a b)[H.length+2]? =some b)∧
  (∀a b a',(K a b).set (H.length+1) a'=K a' b)∧(∀a b b',(K a b).set (H.length+2) b'=K a b'):=by
 refine⟨fun a b=>H++ [o,a,b],fun _ _=>rfl,fun a b=> ?_,fun a b=> ?_,fun a b=> ?_,fun a b a'=> ?_,fun a b b'=> ?_⟩
 ·simp only;rw[List.getElem?_append_right (by simp)];simp
 ·simp only;rw[List.getElem?_append_right (by simp)];simp
 ·simp only;rw[List.getElem?_append_right (by simp)];simp
 ·simp only;rw[List.set_append_right _ _ (by simp)];simp
 ·simp only;rw[List.set_append_right _ _ (by simp)];simp
abbrev zO:AObj:= .cells [intD 0,intD 0,.d (.str []),.fslice [],.fslice []]
abbrev nO(n:Int):AObj:= .cells [intD n]
abbrev jO(j:J):AObj:= .cells (jC j)
theorem four(H:Qaa):∃K:AObj→AObj→AObj→AObj→Qaa,(∀a b c o,K a b c o=H++ [a,b,c,o])∧(∀a b c o,(K a b c o)[H.length]? =some a)∧(∀a b c o,(K a b c o)[H.length+1]? =some b)∧(∀a b c o,(K a b c o)[H.length+2]? =some c)∧(∀a b c o,(K a b c o)[H.length+3]? =some o)∧
  (∀a b c o a',(K a b c o).set H.length a'=K a' b c o)∧(∀a b c o a',(K a b c o).set (H.length+1) a'=K a a' c o)∧(∀a b c o a',(K a b c o).set (H.length+2) a'=K a b a' o)∧(∀a b c o a',(K a b c o).set (H.length+3) a'=K a b c a'):=by
 refine⟨fun a b c o=>H++ [a,b,c,o],fun _ _ _ _=>rfl, ?_, ?_, ?_, ?_, ?_, ?_, ?_, ?_⟩<;>intros<;>simp only
 ·rw[List.getElem?_append_right (by omega)];simp
 ·rw[List.getElem?_append_right (by omega)];simp
 ·rw[List.getElem?_append_right (by omega)];simp
 ·rw[List.getElem?_append_right (by omega)];simp
 ·rw[List.set_append_right _ _ (by omega)];simp
 ·rw[List.set_append_right _ _ (by omega)];simp
 ·rw[List.set_append_right _ _ (by omega)];simp
 ·rw[List.set_append_right _ _ (by omega)];simp
theorem three(H:Qaa):∃K:AObj→AObj→AObj→Qaa,(∀a b c,K a b c=H++ [a,b,c])∧(∀a b c,(K a b c)[H.length]? =some a)∧(∀a b c,(K a b c)[H.length+1]? =some b)∧(∀a b c,(K a b c)[H.length+2]? =some c)∧
  (∀a b c a',(K a b c).set H.length a'=K a' b c)∧(∀a b c a',(K a b c).set (H.length+1) a'=K a a' c)∧(∀a b c a',(K a b c).set (H.length+2) a'=K a b a'):=by
 refine⟨fun a b c=>H++ [a,b,c],fun _ _ _=>rfl, ?_, ?_, ?_, ?_, ?_, ?_⟩<;>intros<;>simp only
 ·rw[List.getElem?_append_right (by omega)];simp
 ·rw[List.getElem?_append_right (by omega)];simp
 ·rw[List.getElem?_append_right (by omega)];simp
 ·rw[List.set_append_right _ _ (by omega)];simp
 ·rw[List.set_append_right _ _ (by omega)];simp
 ·rw[List.set_append_right _ _ (by omega)];simp
theorem Qnw{H:Qaa}{o:AObj}{K:AObj→AObj→Qaa}(kk:∀a b,K a b=H++ [o,a,b])(a:AObj)(M:List AObj):∃G:AObj→AObj→Qaa,(∀b q,K a b++M++ [q]=G b q)∧(∀b,(K a b++M).length=H.length+3+M.length)∧(∀b q,(G b q)[H.length+3+M.length]? =some q)∧(∀b q,(G b q)[H.length+2]? =some b)∧(∀b q b',(G b q).set (H.length+2) b'=G b' q)∧(∀b q q',(G b q).set (H.length+3+M.length) q'=G b q'):=by
 have hl:∀b,(K a b++M).length=H.length+3+M.length:=fun b=>by rw[kk];simp;omega
 refine⟨fun b q=>K a b++M++ [q],fun _ _=>rfl,hl,fun b q=> ?_,fun b q=> ?_,fun b q b'=> ?_,fun b q q'=> ?_⟩
 ·simp only;rw[←hl b];simp
 ·simp only[kk,List.append_assoc];rw[List.getElem?_append_right (by omega)];simp
 ·simp only[kk,List.append_assoc];rw[List.set_append_right _ _ (by omega)];simp
 ·simp only;rw[←hl b,List.set_append_right _ _ (by omega)];simp
abbrev outO(k n:Int)(t:Tx)(ks:List Tx)(l:List J):AObj:= .cells [.d (.int .i64 k),.d (.int .i64 n),.d (.str t),.fslice (ks.map D.str),.fslice (l.map J.d)]
abbrev outT(k n:Int)(t:Tx)(ks:List Tx)(l:List J):AObj:= .cells [.d (.int .i64 k),.d (.int .i64 n),.d (.str t),.fslice (ks.map D.str),.d (.slice (l.map J.d))]
abbrev outL(k n:Int)(t:Tx)(l:List J):AObj:= .cells [.d (.int .i64 k),.d (.int .i64 n),.d (.str t),.fslice [],.fslice (l.map J.d)]
abbrev outLT(k n:Int)(t:Tx)(l:List J):AObj:= .cells [.d (.int .i64 k),.d (.int .i64 n),.d (.str t),.fslice [],.d (.slice (l.map J.d))]
theorem QiI{α β:Type}(f:α→β){l:List α}{i:Nat}{a:α}(h:l[i]? =some a):(l.take i).map f++ [f a]=(l.take (i+1)).map f:=by
 rw[List.take_add_one,h];simp
theorem Qfc:∀(n:Nat) (lim:Nat) (H:Qaa) (j:J),OrdOK n j→wt j≤100000000000→Ev (QaF code pr) 27 lim [.d j.d] H (.d (Qah j).d) H
 |0,_,_,_,h,_=>h.elim
 |n+1,lim,H,j,⟨hm,_,_,hy⟩,hwt=>by
  have hk:=wt_ks j
  have hl:=wt_l j
  have hyw:∀y∈j.l,wt y≤100000000000:=fun y hy=>by have:=Qlo hy;omega
  refine Fn.ev ?_
  refine Qbj (pn rfl) rfl (show code 27=some c27 from rfl) rfl ?_;simp only[List.length_cons,List.length_nil,List.cons_append,List.nil_append,simprocAttr]
  obtain⟨K,kk,k0,k1,k2,k3,k4⟩:=trey H (.cells (jC j))
  have hjd:=jd j
  have a1:(H++ [AObj.cells (jC j)]).length=H.length+1:=by simp
  have a2:∀o,(H++ [AObj.cells (jC j)]++ [o]).length=H.length+2:=fun o=>by simp
  have a3:∀o o',(H++ [AObj.cells (jC j)]++ [o]++ [o'])=K o o':=fun o o'=>by rw[kk];simp
  have a4:∀o,(H++ [AObj.cells (jC j)]++ [o])[H.length]? =some (.cells (jC j)):=fun o=>by simp
  have hll1:H.length≤H.length+1:=by omega
  have hll2:H.length≤H.length+2:=by omega
  rw[QcA]
  (iterate 4 refine w_s (j_ hjd (j_ a1 (j_ a2 (j_ a3 (j_ a4 (j_ k0 (j_ k1 (j_ k2 (j_ k3 (j_ k4 hll2)))))))))) ?_)
  by_cases h5:j.k=5
  ·rw[if_pos h5]
   have c5:(j.k==5)=true:=by simpa using h5
   obtain⟨hkl,hnd⟩:=hm h5
   refine w_r (j_ k0 c5) ?_
   have hpl:=Qjp (pr:=pr) H.length (K (outO 0 0 [] [] []) (outO j.k j.n j.t [] [])) j.ks (by omega) hnd
   obtain⟨P,hP⟩:∃P,Qay j.ks=P:=⟨_,rfl⟩
   have hPl:=Qa4 j.ks
   have hPm:∀i∈P,i<j.ks.length:=fun i hi=>QbH (hP▸hi)
   rw[hP]at hpl hPl
   simp only[outO,List.map_nil]at hpl
   rw[hP]
   refine w_1 hpl (j_ k0 (@List.length_map.{0,0})) ?_
   refine w_r trivial ?_
   refine Qki (fun k st=>∃i:Nat,i≤P.length∧k=P.length-i∧∃x:Nat→AV,st=⟨[x 0,x 1,x 2,x 3,.ptr (H.length+1) 0,.ptr H.length 0,.ptr (H.length+2) 0,.d (.slice (P.map fun(i:Nat)=>D.int .i64 (i:Int))),intD P.length,intD i,x 10,x 11,x 12,x 13,x 14,x 15,x 16,x 17],K (outO 0 0 [] [] []) (outO j.k j.n j.t ((P.take i).map fun i=>j.ks.getD i []) ((P.take i).map fun i=>(j.l.map Qah).getD i J.zero))⟩) ?_ _ _ ⟨0,Nat.zero_le _,rfl,Qam _ _ _ rfl⟩
   rintro k _ ⟨i,hi,rfl,x,rfl⟩
   by_cases t0:i<P.length
   ·have f1:((i:Int)<(P.length:Int))=True:=eq_true (by omega)
    have w1:IntKind.i64.wrap ((i:Int)+1)=((i+1:Nat):Int):=Qef (by omega)
    obtain⟨p,hp⟩:∃p,P[i]? =some p:=⟨_,List.getElem?_eq_getElem t0⟩
    have hpk:=hPm p (List.mem_of_getElem? hp)
    obtain⟨s,hs⟩:∃s,j.ks[p]? =some s:=⟨_,List.getElem?_eq_getElem hpk⟩
    obtain⟨y,hy'⟩:∃y,j.l[p]? =some y:=⟨_,List.getElem?_eq_getElem (by omega)⟩
    have hyd:=jd y
    have hod:=jd (Qah y)
    have e1:=QiI (fun i=>j.ks.getD i []) hp
    have e2:=QiI (fun i=>(j.l.map Qah).getD i J.zero) hp
    have g1:j.ks.getD p []=s:=by simp[List.getD,hs]
    have g2:(j.l.map Qah).getD p J.zero=Qah y:=by simp[List.getD,hy']
    rw[g1]at e1
    rw[g2]at e2
    have ho:=fun M=>Qfc n H.length M y (hy y (List.mem_of_getElem? hy')) (hyw y (List.mem_of_getElem? hy'))
    simp only[hyd,hod]at ho
    have n1:((P.take i).map fun i=>j.ks.getD i []).length=i:=by simp;omega
    have n2:((P.take i).map fun i=>(j.l.map Qah).getD i J.zero).length=i:=by simp;omega
    generalize((P.take i).map fun i=>j.ks.getD i [])=A at*
    generalize((P.take i).map fun i=>(j.l.map Qah).getD i J.zero)=B at*
    have m1:A.map D.str++ [D.str s]=(A++ [s]).map D.str:=by simp
    have m2:B.map J.d++ [D.agg [.int .i64 (Qah y).k,.int .i64 (Qah y).n,.str (Qah y).t,sD (Qah y).ks,jsD (Qah y).l]]=(B++ [Qah y]).map J.d:=by simp[hod]
    have z1:=headS A
    have z2:=headJ B
    have b1:(i+1)*17≤70368744177664:=by omega
    have b2:(i+1)*85≤70368744177664:=by omega
    have hc:∀s:Tx,(D.str s).cells= [D.str s]:=fun _=>rfl
    (iterate 10 refine w_s (j_ f1 hp) ?_)
    (apply W_rg;focus(intro k;simp(maxSteps:=100000000) only[zz,zd,simprocAttr,k0,k2,k4,hs,hc,z1,n1,b1,m1,e1,List.length_map,hll2];(first|done|with_reducible exact rfl)))<;>(try simp only[zp,simprocAttr])
    obtain⟨A',hA⟩:∃A',((P.take (i+1)).map fun i=>j.ks.getD i [])=A':=⟨_,rfl⟩
    rw[hA]
    refine w_2 ((ho (K (outO 0 0 [] [] []) (outO j.k j.n j.t A' B)))) ((ho (K (outO 0 0 [] [] []) (outT j.k j.n j.t A' B)))) (j_ k0 (j_ k2 (j_ k4 (j_ hy' (j_ hyd (j_ z2 (j_ n2 (j_ b2 (j_ m2 (j_ e2 (j_ (@List.length_map.{0,0}) hll2))))))))))) ?_
    refine w_r w1 ?_
    exact⟨P.length-(i+1),by omega,i+1,t0,rfl,QdU (by first|rw[hA,e2]|rw[hA]) rfl⟩
   ·obtain rfl:i=P.length:=by omega
    have f1:((P.length:Int)<(P.length:Int))=False:=eq_false (by omega)
    rw[List.take_length]
    refine w_r (j_ f1 (j_ k1 (j_ k2 (j_ k3 hll1)))) ?_
    refine Qae (vs:= [.d (.agg [.int .i64 j.k,.int .i64 j.n,.str j.t,sD (P.map fun i=>j.ks.getD i []),jsD (P.map fun i=>(j.l.map Qah).getD i J.zero)])]) ?_ rfl ⟨by rw[jd];rfl,rfl⟩
    simp only[Qcg,zz,simprocAttr,k1]
  ·rw[if_neg h5]
   have c5:(j.k==5)=false:=by simpa using h5
   refine w_r (j_ k0 (j_ c5 (@List.length_map.{0,0}))) ?_
   refine Qki (fun k st=>∃(i:Nat) (M:List AObj),i≤j.l.length∧k=j.l.length-i∧∃x:Nat→AV,st=⟨[x 0,x 1,x 2,x 3,.ptr (H.length+1) 0,.ptr H.length 0,.ptr (H.length+2) 0,x 7,x 8,x 9,x 10,.d (jsD j.l),intD j.l.length,intD i,x 14,x 15,x 16,x 17],K (outO 0 0 [] [] []) (outL j.k j.n j.t ((j.l.take i).map Qah))++M⟩) ?_ _ _ ⟨0,[],Nat.zero_le _,rfl,QdU (by rw[List.append_nil];rfl) rfl⟩
   rintro k _ ⟨i,M,hi,rfl,x,rfl⟩
   by_cases t0:i<j.l.length
   ·have f1:((i:Int)<(j.l.length:Int))=True:=eq_true (by omega)
    have w1:IntKind.i64.wrap ((i:Int)+1)=((i+1:Nat):Int):=Qef (by omega)
    obtain⟨y,hy'⟩:∃y,j.l[i]? =some y:=⟨_,List.getElem?_eq_getElem t0⟩
    have hyd:=jd y
    have hod:=jd (Qah y)
    have e2:=QiI Qah hy'
    have ho:=fun M=>Qfc n H.length M y (hy y (List.mem_of_getElem? hy')) (hyw y (List.mem_of_getElem? hy'))
    simp only[hyd,hod]at ho
    have n2:((j.l.take i).map Qah).length=i:=by simp;omega
    generalize(j.l.take i).map Qah=B at*
    obtain⟨G,gg,gl,g0,g2,g3,g4⟩:=Qnw kk (outO 0 0 [] [] []) M
    have hll3:H.length≤H.length+3+M.length:=by omega
    have z2:=headJ B
    have b2:(i+1)*85≤70368744177664:=by omega
    have m2:B.map J.d++ [D.agg [.int .i64 (Qah y).k,.int .i64 (Qah y).n,.str (Qah y).t,sD (Qah y).ks,jsD (Qah y).l]]=(B++ [Qah y]).map J.d:=by simp[hod]
    (iterate 9 refine w_s (j_ f1 (j_ hy' (j_ hyd (j_ gg (j_ gl (j_ g0 (j_ g4 hll3))))))) ?_)
    refine w_2 ((ho (G (outL j.k j.n j.t B) (.cells (jC y))))) ((ho (G (outLT j.k j.n j.t B) (.cells (jC y))))) (j_ g0 (j_ g2 (j_ g3 (j_ z2 (j_ n2 (j_ b2 (j_ m2 (j_ (@List.length_map.{0,0}) hll2)))))))) ?_
    refine w_r w1 ?_
    exact⟨j.l.length-(i+1),by omega,i+1,M++ [.cells (jC y)],t0,rfl,QdU (by rw[←List.append_assoc,gg,←e2]) rfl⟩
   ·obtain rfl:i=j.l.length:=by omega
    have f1:((j.l.length:Int)<(j.l.length:Int))=False:=eq_false (by omega)
    rw[List.take_length]
    obtain⟨G,h1,h2,h3⟩:∃G:AObj→Qaa,(∀a,K a (outL j.k j.n j.t (j.l.map Qah))++M=G a)∧(∀a,(G a)[H.length+2]? =some (outL j.k j.n j.t (j.l.map Qah)))∧(∀a a',(G a).set (H.length+1) a'=G a')∧(∀a,(G a)[H.length+1]? =some a):=by
     refine⟨fun a=>K a (outL j.k j.n j.t (j.l.map Qah))++M,fun _=>rfl,fun a=> ?_,fun a a'=> ?_,fun a=> ?_⟩
     ·simp only[kk,List.append_assoc];rw[List.getElem?_append_right (by omega)];simp
     ·simp only[kk,List.append_assoc];rw[List.set_append_right _ _ (by omega)];simp
     ·simp only[kk,List.append_assoc];rw[List.getElem?_append_right (by omega)];simp
    rw[h1]
    obtain⟨h3,h4⟩:=h3
    refine w_r (j_ f1 (j_ h2 (j_ h3 (j_ h4 hll1)))) ?_
    refine Qae (vs:= [.d (.agg [.int .i64 j.k,.int .i64 j.n,.str j.t,sD [],jsD (j.l.map Qah)])]) ?_ rfl ⟨by rw[jd];rfl,rfl⟩
    simp only[Qcg,zz,simprocAttr,h4];rfl
end Go.Proofs.YtmhmjlfajlpabaaDoor
namespace Go.Proofs.YtmhmjlfajlpabaaDoor
open Go Go.Abs Go.Lib
theorem Qnj(k:IntKind)(a b:Nat):Qa7 .and k (a:Int) (b:Int)=some (.int k (k.wrap (((a % 2^k.bits)&&&(b % 2^k.bits):Nat):Int))):=by
 have:Qa7 .and k (a:Int) (b:Int)=some (.int k (k.wrap ((BitVec.ofInt k.bits (a:Int)&&&BitVec.ofInt k.bits (b:Int)).toNat:Nat))):=rfl
 rw[this,Qc9,Qc9,BitVec.toNat_and,BitVec.toNat_ofNat,BitVec.toNat_ofNat]
theorem b_or(k:IntKind)(a b:Nat):Qa7 .or k (a:Int) (b:Int)=some (.int k (k.wrap (((a % 2^k.bits)|||(b % 2^k.bits):Nat):Int))):=by
 have:Qa7 .or k (a:Int) (b:Int)=some (.int k (k.wrap ((BitVec.ofInt k.bits (a:Int)|||BitVec.ofInt k.bits (b:Int)).toNat:Nat))):=rfl
 rw[this,Qc9,Qc9,BitVec.toNat_or,BitVec.toNat_ofNat,BitVec.toNat_ofNat]
theorem and31(b:Nat)(hb:b<256):Qa7 .and .i64 (b:Int) 31=some (.int .i64 ((b % 32:Nat):Int)):=by
 have:=Qnj .i64 b 31
 rw[show IntKind.i64.bits=64 from rfl,Nat.mod_eq_of_lt (a:=b) (show b<2^64 by omega),Nat.mod_eq_of_lt (a:=31) (show 31<2^64 by omega),Nat.and_two_pow_sub_one_eq_mod b 5,w64n _ (by omega)]at this
 exact this
theorem and15(b:Nat)(hb:b<256):Qa7 .and .i64 (b:Int) 15=some (.int .i64 ((b % 16:Nat):Int)):=by
 have:=Qnj .i64 b 15
 rw[show IntKind.i64.bits=64 from rfl,Nat.mod_eq_of_lt (a:=b) (show b<2^64 by omega),Nat.mod_eq_of_lt (a:=15) (show 15<2^64 by omega),Nat.and_two_pow_sub_one_eq_mod b 4,w64n _ (by omega)]at this
 exact this
theorem and7(b:Nat)(hb:b<256):Qa7 .and .i64 (b:Int) 7=some (.int .i64 ((b % 8:Nat):Int)):=by
 have:=Qnj .i64 b 7
 rw[show IntKind.i64.bits=64 from rfl,Nat.mod_eq_of_lt (a:=b) (show b<2^64 by omega),Nat.mod_eq_of_lt (a:=7) (show 7<2^64 by omega),Nat.and_two_pow_sub_one_eq_mod b 3,w64n _ (by omega)]at this
 exact this
theorem and63u(b:Nat)(hb:b<256):Qa7 .and .u8 (b:Int) 63=some (.int .u8 ((b % 64:Nat):Int)):=by
 have:=Qnj .u8 b 63
 rw[show IntKind.u8.bits=8 from rfl,Nat.mod_eq_of_lt (a:=b) (show b<2^8 by omega),Nat.mod_eq_of_lt (a:=63) (show 63<2^8 by omega),Nat.and_two_pow_sub_one_eq_mod b 6,u8w _ (by omega)]at this
 exact this
set_option maxRecDepth 100000 in
theorem land192:∀b:Fin 256,b.val&&&192=b.val/64*64:=by decide
theorem and192u(b:Nat)(hb:b<256):Qa7 .and .u8 (b:Int) 192=some (.int .u8 ((b/64*64:Nat):Int)):=by
 have:=Qnj .u8 b 192
 rw[show IntKind.u8.bits=8 from rfl,Nat.mod_eq_of_lt (a:=b) (show b<2^8 by omega),Nat.mod_eq_of_lt (a:=192) (show 192<2^8 by omega),land192 ⟨b,hb⟩,u8w _ (by dsimp only;omega)]at this
 exact this
theorem shl6(c:Nat)(hc:c<1099511627776):Qbz .shl .i64 (c:Int) 6=some (.int .i64 ((c*64:Nat):Int)):=by
 have h:Qbz .shl .i64 (c:Int) 6=some (.int .i64 (IntKind.i64.wrap ((c:Int)*2^6))):=rfl
 have:(c:Int)*2^6=((c*64:Nat):Int):=by omega
 rw[h,this,w64n _ (by omega)]
theorem or6(c x:Nat)(hc:c<1099511627776)(hx:x<64):Qa7 .or .i64 ((c*64:Nat):Int) (x:Int)=some (.int .i64 ((c*64+x:Nat):Int)):=by
 have:=b_or .i64 (c*64) x
 have e:=Nat.shiftLeft_add_eq_or_of_lt (i:=6) (b:=x) (by omega) c
 rw[Nat.shiftLeft_eq]at e
 rw[show IntKind.i64.bits=64 from rfl,Nat.mod_eq_of_lt (a:=c*64) (show c*64<2^64 by omega),Nat.mod_eq_of_lt (a:=x) (show x<2^64 by omega),←e,w64n _ (by omega)]at this
 exact this
theorem Ql9{f:FuncId}{lim:Nat}{a:List AV}{H:Qaa}{Q:AV→Qaa→Prop}(h:Go.Abs.Fn (QaF code Qap) f lim a H Q):∃v H',Ev (QaF code Qap) f lim a H v H'∧Q v H':=by
 unfold Go.Abs.Fn at h;exact h
theorem Qlj{α:Type}{l:List α}{i:Nat}{x:α}(h:l[i]? =some x)(f:α→Bool):(l.take (i+1)).all f=((l.take i).all f&&f x):=by
 rw[List.take_add_one,h,List.all_append];simp
theorem any_cut{α:Type}{l:List α}{i:Nat}{x:α}(h:l[i]? =some x)(f:α→Bool):(l.take (i+1)).any f=((l.take i).any f||f x):=by
 rw[List.take_add_one,h,List.any_append];simp
theorem Qpc{α:Type}{l:List α}{i:Nat}{x:α}(h:l[i]? =some x){f:α→Bool}(hf:f x=false):l.all f=false:=by
 rw[List.all_eq_false];exact⟨x,List.mem_of_getElem? h,by simp[hf]⟩
theorem any_yes{α:Type}{l:List α}{i:Nat}{x:α}(h:l[i]? =some x){f:α→Bool}(hf:f x=true):l.any f=true:=by
 rw[List.any_eq_true];exact⟨x,List.mem_of_getElem? h,hf⟩
def midK(P:St→Prop)(Q:AExit→St→Prop):AExit→St→Prop
 |.normal,s=>P s
 |.exit i,s=>Q (.exit i) s
 |.ret,s=>Q .ret s
theorem W_midR{a b:CCode}{st:St}{Q:AExit→St→Prop}{lim:Nat}(P:St→Prop)(h1:W (QaF code Qap) lim a st (midK P Q))(h2:∀s,P s→W (QaF code Qap) lim b s Q):W (QaF code Qap) lim (.seq a b) st Q:=
 W_sq (h1.mono fun e s h=>by
  cases e with
  |normal=>simp only[seqK];exact h2 s h
  |exit i=>simp only[seqK];exact h
  |ret=>simp only[seqK];exact h)
def Qoy(c:Nat):Bool:=decide (c≤1114111)&&(decide (c<55296)||decide (57343<c))
theorem QgJ(c:Nat):Qoy c=true↔c≤1114111∧(c<55296∨57343<c):=by simp[Qoy]
set_option maxRecDepth 100000 in
theorem Qor(lim:Nat)(H:Qaa)(c:Nat):Ev (QaF code Qap) 49 lim [intD c] H (boolD (Qoy c)) H:=by
 refine Fn.ev ?_
 refine Qbj (pn rfl) rfl (show code 49=some c49 from rfl) rfl ?_;simp only[List.length_cons,List.length_nil,List.cons_append,List.nil_append,simprocAttr]
 have f0:((c:Int)≥0)=True:=eq_true (by omega)
 obtain⟨r,hr⟩:∃r,Qoy c=r:=⟨_,rfl⟩
 rw[hr]
 have yes:c≤1114111→(c<55296∨57343<c)→r=true:=fun a b=>hr▸(QgJ c).2 ⟨a,b⟩
 have no:¬(c≤1114111∧(c<55296∨57343<c))→r=false:=fun a=>hr▸(Bool.not_eq_true _▸mt (QgJ c).1 a)
 generalize e1:(1114111:Int)=u1
 generalize e2:(55296:Int)=u2
 generalize e3:(57343:Int)=u3
 by_cases h1:c≤1114111
 ·have f1:((c:Int)≤u1)=True:=eq_true (by omega)
  by_cases h2:c<55296
  ·have f2:((c:Int)<u2)=True:=eq_true (by omega)
   rw[yes h1 (.inl h2)]
   clear yes no
   refine w_r (j_ f0 (j_ f1 f2)) ?_
   exact Qae rfl rfl ⟨rfl,rfl⟩
  ·have f2:((c:Int)<u2)=False:=eq_false (by omega)
   by_cases h3:57343<c
   ·have f3:((c:Int)>u3)=True:=eq_true (by omega)
    rw[yes h1 (.inr h3)]
    refine w_r (j_ f0 (j_ f1 (j_ f2 f3))) ?_
    exact Qae rfl rfl ⟨rfl,rfl⟩
   ·have f3:((c:Int)>u3)=False:=eq_false (by omega)
    rw[no (by omega)]
    refine w_r (j_ f0 (j_ f1 (j_ f2 f3))) ?_
    exact Qae rfl rfl ⟨rfl,rfl⟩
 ·have f1:((c:Int)≤u1)=False:=eq_false (by omega)
  rw[no (by omega)]
  refine w_r (j_ f0 f1) ?_
  exact Qae rfl rfl ⟨rfl,rfl⟩
def acc(s:List UInt8)(a c0:Nat):Nat→Nat
 |0=>c0
 |j+1=>acc s a c0 j*64+by' s (a+(j+1))% 64
theorem acc_lt(s:List UInt8)(a c0:Nat)(h:c0<64):∀j,acc s a c0 j<64^(j+1)
 |0=>by simpa[acc]using h
 |j+1=>by
  have:=acc_lt s a c0 h j
  have e:64^(j+1+1)=64^(j+1)*64:=Nat.pow_succ ..
  unfold acc;omega
def Cls(b m least c0:Nat):Prop:=(m=1∧least=128∧b/32=6∧c0=b % 32)∨(m=2∧least=2048∧b/16=14∧c0=b % 16)∨(m=3∧least=65536∧b/8=30∧c0=b % 8)
theorem Cls.yes{s:List UInt8}{a m least c0:Nat}(h:Cls (by' s a) m least c0)(ha:a<s.length)(hc:∀j,1≤j→j≤m→a+j<s.length∧by' s (a+j)/64=2)
  (h1:¬acc s a c0 m<least)(h2:acc s a c0 m≤1114111∧(acc s a c0 m<55296∨57343<acc s a c0 m)):(dc (s.drop a)).2=m+1:=by
 have hd:dc (s.drop a)=decodeN (s.length-a) (by' s a) (by' s (a+1)) (by' s (a+2)) (by' s (a+3)):=by unfold dc;simp only[Qhe,List.length_drop,Nat.add_zero]
 rw[hd]
 rcases h with⟨rfl,rfl,h3,rfl⟩|⟨rfl,rfl,h3,rfl⟩|⟨rfl,rfl,h3,rfl⟩
 ·have c1:=hc 1 (by omega) (by omega)
  simp only[acc]at h1 h2
  unfold decodeN
  rw[if_neg (by omega),if_pos ⟨h3,by omega,c1.2⟩,if_pos (by simpa using h1)]
 ·have c1:=hc 1 (by omega) (by omega)
  have c2:=hc 2 (by omega) (by omega)
  simp only[acc,Nat.reduceAdd]at h1 h2
  unfold decodeN
  rw[if_neg (by omega),if_neg (by omega),if_pos ⟨h3,⟨by omega,c1.2⟩,⟨by omega,c2.2⟩⟩,if_pos (by omega)]
 ·have c1:=hc 1 (by omega) (by omega)
  have c2:=hc 2 (by omega) (by omega)
  have c3:=hc 3 (by omega) (by omega)
  simp only[acc,Nat.reduceAdd]at h1 h2
  unfold decodeN
  rw[if_neg (by omega),if_neg (by omega),if_neg (by omega),if_pos ⟨h3,⟨by omega,c1.2⟩,⟨by omega,c2.2⟩,⟨by omega,c3.2⟩⟩,if_pos (by omega)]
theorem Cls.no{s:List UInt8}{a m least c0:Nat}(h:Cls (by' s a) m least c0)
  (hn:(∃j,1≤j∧j≤m∧(¬a+j<s.length∨by' s (a+j)/64≠2))∨acc s a c0 m<least∨¬(acc s a c0 m≤1114111∧(acc s a c0 m<55296∨57343<acc s a c0 m))):dc (s.drop a)=(65533,1):=by
 have hd:dc (s.drop a)=decodeN (s.length-a) (by' s a) (by' s (a+1)) (by' s (a+2)) (by' s (a+3)):=by unfold dc;simp only[Qhe,List.length_drop,Nat.add_zero]
 rw[hd]
 have bad:∀j,(¬a+j<s.length∨by' s (a+j)/64≠2)→¬(j<s.length-a∧by' s (a+j)/64=2):=fun j h k=>by omega
 rcases h with⟨rfl,rfl,h3,rfl⟩|⟨rfl,rfl,h3,rfl⟩|⟨rfl,rfl,h3,rfl⟩
 ·unfold decodeN
  rw[if_neg (by omega)]
  by_cases k:1<s.length-a∧by' s (a+1)/64=2
  ·rw[if_pos ⟨h3,k⟩]
   rcases hn with⟨j,h4,h5,h6⟩|hn
   ·obtain rfl:j=1:=by omega
    exact absurd k (bad _ h6)
   ·simp only[acc]at hn
    split
    ·exfalso;omega
    ·rfl
  ·rw[if_neg (fun h=>k h.2),if_neg (by omega),if_neg (by omega)]
 ·unfold decodeN
  rw[if_neg (by omega),if_neg (by omega)]
  by_cases k:(1<s.length-a∧by' s (a+1)/64=2)∧(2<s.length-a∧by' s (a+2)/64=2)
  ·rw[if_pos ⟨h3,k⟩]
   rcases hn with⟨j,h4,h5,h6⟩|hn
   ·obtain rfl|rfl:j=1∨j=2:=by omega
    ·exact absurd k.1 (bad _ h6)
    ·exact absurd k.2 (bad _ h6)
   ·simp only[acc,Nat.reduceAdd]at hn
    split
    ·exfalso;omega
    ·rfl
  ·rw[if_neg (fun h=>k h.2),if_neg (by omega)]
 ·unfold decodeN
  rw[if_neg (by omega),if_neg (by omega),if_neg (by omega)]
  by_cases k:(1<s.length-a∧by' s (a+1)/64=2)∧(2<s.length-a∧by' s (a+2)/64=2)∧(3<s.length-a∧by' s (a+3)/64=2)
  ·rw[if_pos ⟨h3,k⟩]
   rcases hn with⟨j,h4,h5,h6⟩|hn
   ·obtain rfl|rfl|rfl:j=1∨j=2∨j=3:=by omega
    ·exact absurd k.1 (bad _ h6)
    ·exact absurd k.2.1 (bad _ h6)
    ·exact absurd k.2.2 (bad _ h6)
   ·simp only[acc,Nat.reduceAdd]at hn
    split
    ·exfalso;omega
    ·rfl
  ·rw[if_neg (fun h=>k h.2)]
theorem Cls.ascii{s:List UInt8}{a:Nat}(h:by' s a<128):dc (s.drop a)=(by' s a,1):=by
 have hd:dc (s.drop a)=decodeN (s.length-a) (by' s a) (by' s (a+1)) (by' s (a+2)) (by' s (a+3)):=by unfold dc;simp only[Qhe,List.length_drop,Nat.add_zero]
 rw[hd];unfold decodeN;rw[if_pos h]
theorem Cls.none{s:List UInt8}{a:Nat}(h:(128≤by' s a∧by' s a<192)∨248≤by' s a):dc (s.drop a)=(65533,1):=by
 have hd:dc (s.drop a)=decodeN (s.length-a) (by' s a) (by' s (a+1)) (by' s (a+2)) (by' s (a+3)):=by unfold dc;simp only[Qhe,List.length_drop,Nat.add_zero]
 rw[hd];unfold decodeN;rw[if_neg (by omega),if_neg (by omega),if_neg (by omega),if_neg (by omega)]
theorem Cls.two{s:List UInt8}{a m least c0 b:Nat}(h:Cls b m least c0)(hy:(dc (s.drop a)).2=m+1)(e:dc (s.drop a)=(65533,1)):False:=by
 rw[e]at hy
 have h1:1≤m:=by rcases h with h|h|h<;>omega
 have h2:1=m+1:=hy
 omega
def RuneQ(s:List UInt8)(a:Nat)(H:Qaa)(v:AV)(H':Qaa):Prop:=(∃(r:Int) (n:Nat),v= .tuple [.d (.int .i64 r),intD n]∧max 1 n=(dc (s.drop a)).2∧n≤4∧decide (n=0)=decide (dc (s.drop a)=(65533,1)))∧H'=H
theorem Qe4{s:List UInt8}{a:Nat}(h:dc (s.drop a)=(65533,1)):max 1 0=(dc (s.drop a)).2∧(0:Nat)≤4∧decide ((0:Nat)=0)=decide (dc (s.drop a)=(65533,1)):=by
 rw[h];exact⟨rfl,by omega,by simp⟩
theorem QlC{s:List UInt8}{a n:Nat}(h1:1≤n)(h4:n≤4)(h:(dc (s.drop a)).2=n)(hn:dc (s.drop a)≠(65533,1)):max 1 n=(dc (s.drop a)).2∧n≤4∧decide (n=0)=decide (dc (s.drop a)=(65533,1)):=
 ⟨by omega,h4,by rw[decide_eq_false hn,decide_eq_false (by omega)]⟩
theorem toInt64(b:Nat)(h:b<256):IntKind.i64.wrap (b:Int)=b:=w64n _ (by omega)
set_option maxHeartbeats 4000000 in
theorem rune_ev(lim:Nat)(H:Qaa)(s:List UInt8)(a:Nat)(ha:a<s.length)(hs:s.length≤100000000000):Go.Abs.Fn (QaF code Qap) 32 lim [.d (.str s),intD a] H (RuneQ s a H):=by
 refine Qbj (pn rfl) rfl (show code 32=some c32 from rfl) rfl ?_;simp only[List.length_cons,List.length_nil,List.cons_append,List.nil_append,simprocAttr]
 obtain⟨b,hb⟩:∃b,s[a]? =some b:=⟨_,List.getElem?_eq_getElem ha⟩
 have hby:=Qo1 hb
 have hlt:=by_lt s a
 rw[hby]at hlt
 have hal:(a:Int)<s.length:=by omega
 have g1:=toInt64 b.toNat hlt
 by_cases k0:b.toNat<128
 ·have f0:((b.toNat:Int)<128)=True:=eq_true (by omega)
  refine w_r (j_ hb (j_ @byteD.eq_1 (j_ g1 f0))) ?_
  exact Qae rfl rfl ⟨⟨_,1,rfl,QlC (by omega) (by omega) (by rw[Cls.ascii (by omega)]) (by rw[Cls.ascii (by omega)];intro e;have:=congrArg Prod.fst e;simp only at this;omega)⟩,rfl⟩
 have f0:((b.toNat:Int)<128)=False:=eq_false (by omega)
 (iterate 11 refine w_s (j_ hb (j_ @byteD.eq_1 (j_ g1 f0))) ?_)
 refine W_midR (fun st=>∃m least c0:Nat,Cls (by' s a) m least c0∧∃x:Nat→AV,st=⟨[.d (.str s),intD a,x 2,x 3,x 4,x 5,x 6,x 7,x 8,intD 0,intD 0,intD c0,intD m,intD least,x 14,x 15,x 16,x 17,x 18],H⟩) ?_ ?_
 ·have n1:=and31 _ hlt
  have n2:=and15 _ hlt
  have n3:=and7 _ hlt
  by_cases k1:192≤b.toNat
  ·have f1:((b.toNat:Int)≥192)=True:=eq_true (by omega)
   by_cases k2:b.toNat<224
   ·have f2:((b.toNat:Int)<224)=True:=eq_true (by omega)
    refine w_r (j_ f1 (j_ f2 n1)) ?_
    exact⟨1,128,b.toNat % 32,.inl ⟨rfl,rfl,by omega,by rw[hby]⟩,Qam _ _ _ rfl⟩
   have f2:((b.toNat:Int)<224)=False:=eq_false (by omega)
   have f3:((b.toNat:Int)≥224)=True:=eq_true (by omega)
   by_cases k3:b.toNat<240
   ·have f4:((b.toNat:Int)<240)=True:=eq_true (by omega)
    refine w_r (j_ f1 (j_ f2 (j_ f3 (j_ f4 n2)))) ?_
    exact⟨2,2048,b.toNat % 16,.inr (.inl ⟨rfl,rfl,by omega,by rw[hby]⟩),Qam _ _ _ rfl⟩
   have f4:((b.toNat:Int)<240)=False:=eq_false (by omega)
   have f5:((b.toNat:Int)≥240)=True:=eq_true (by omega)
   by_cases k4:b.toNat<248
   ·have f6:((b.toNat:Int)<248)=True:=eq_true (by omega)
    refine w_r (j_ f1 (j_ f2 (j_ f3 (j_ f4 (j_ f5 (j_ f6 n3)))))) ?_
    exact⟨3,65536,b.toNat % 8,.inr (.inr ⟨rfl,rfl,by omega,by rw[hby]⟩),Qam _ _ _ rfl⟩
   ·have f6:((b.toNat:Int)<248)=False:=eq_false (by omega)
    refine w_r (j_ f1 (j_ f2 (j_ f3 (j_ f4 (j_ f5 (j_ f6 n3)))))) ?_
    exact Qae rfl rfl ⟨⟨_,0,rfl,Qe4 (Cls.none (by omega))⟩,rfl⟩
  ·have f1:((b.toNat:Int)≥192)=False:=eq_false (by omega)
   have f3:((b.toNat:Int)≥224)=False:=eq_false (by omega)
   have f5:((b.toNat:Int)≥240)=False:=eq_false (by omega)
   refine w_r (j_ f1 (j_ f3 f5)) ?_
   exact Qae rfl rfl ⟨⟨_,0,rfl,Qe4 (Cls.none (by omega))⟩,rfl⟩
 ·rintro _ ⟨m,least,c0,hcls,x,rfl⟩
  have hm:m≤3:=by rcases hcls with h|h|h<;>omega
  have hc0:c0<64:=by rcases hcls with h|h|h<;>omega
  have hacc:∀j,j≤3→acc s a c0 j<16777216:=fun j hj=>by
   have h1:=acc_lt s a c0 hc0 j
   have h2:64^(j+1)≤64^4:=Nat.pow_le_pow_right (by decide) (by omega)
   omega
  refine w_r trivial ?_
  refine Qki (fun k st=>∃i:Nat,i≤m∧k=m-i∧(∀j,1≤j→j≤i→a+j<s.length∧by' s (a+j)/64=2)∧∃x:Nat→AV,st=⟨[.d (.str s),intD a,x 2,x 3,x 4,x 5,x 6,x 7,x 8,intD 0,intD 0,intD (acc s a c0 i),intD m,intD least,intD (i+1:Nat),x 15,x 16,x 17,x 18],H⟩) ?_ _ _ ⟨0,Nat.zero_le _,rfl,fun j h1 h2=>by omega,Qam _ _ _ rfl⟩
  rintro k _ ⟨i,hi,rfl,hall,x,rfl⟩
  by_cases q0:i+1≤m
  ·have f0:(((i+1:Nat):Int)≤(m:Int))=True:=eq_true (by omega)
   have w1:IntKind.i64.wrap ((a:Int)+((i+1:Nat):Int))=((a+(i+1):Nat):Int):=by rw[w64 (by omega) (by omega)];omega
   by_cases q1:a+(i+1)<s.length
   ·have f1:(((a+(i+1):Nat):Int)≥(s.length:Int))=False:=eq_false (by omega)
    obtain⟨d,hd⟩:∃d,s[a+(i+1)]? =some d:=⟨_,List.getElem?_eq_getElem q1⟩
    have hdl:=d.toNat_lt
    have hdb:=Qo1 hd
    have n4:=and192u d.toNat hdl
    have n5:=and63u d.toNat hdl
    by_cases q2:d.toNat/64=2
    ·have f2:(((d.toNat/64*64:Nat):Int) !=128)=false:=by rw[q2];rfl
     have n6:=shl6 (acc s a c0 i) (by have:=hacc i (by omega);omega)
     have n7:IntKind.i64.wrap ((d.toNat % 64:Nat):Int)=((d.toNat % 64:Nat):Int):=w64n _ (by omega)
     have n8:=or6 (acc s a c0 i) (d.toNat % 64) (by have:=hacc i (by omega);omega) (by omega)
     have w2:IntKind.i64.wrap (((i+1:Nat):Int)+1)=((i+1+1:Nat):Int):=by rw[w64 (by omega) (by omega)];omega
     refine w_r (j_ f0 (j_ f1 (j_ f2 (j_ w1 (j_ w2 (j_ hd (j_ @byteD.eq_1 (j_ n4 (j_ n5 (j_ n6 (j_ n7 n8))))))))))) ?_
     refine⟨m-(i+1),by omega,i+1,q0,rfl, ?_, ?_⟩
     ·intro j h1 h2
      by_cases h3:j≤i
      ·exact hall j h1 h3
      ·obtain rfl:j=i+1:=by omega
       exact⟨q1,by rw[hdb];exact q2⟩
     ·have e:acc s a c0 (i+1)=acc s a c0 i*64+d.toNat % 64:=by rw[←hdb];rfl
      rw[e]
      exact Qam _ _ _ rfl
    ·have f2:(((d.toNat/64*64:Nat):Int) !=128)=true:=by
      have:((d.toNat/64*64:Nat):Int)≠128:=by omega
      simpa using this
     refine w_r (j_ f0 (j_ f1 (j_ f2 (j_ w1 (j_ hd (j_ @byteD.eq_1 n4)))))) ?_
     exact Qae rfl rfl ⟨⟨_,0,rfl,Qe4 (Cls.no hcls (.inl ⟨i+1,by omega,q0,.inr (by rw[hdb];exact q2)⟩))⟩,rfl⟩
   ·have f1:(((a+(i+1):Nat):Int)≥(s.length:Int))=True:=eq_true (by omega)
    refine w_r (j_ f0 (j_ f1 w1)) ?_
    exact Qae rfl rfl ⟨⟨_,0,rfl,Qe4 (Cls.no hcls (.inl ⟨i+1,by omega,q0,.inl q1⟩))⟩,rfl⟩
  ·obtain rfl:i=m:=by omega
   have f0:(((i+1:Nat):Int)≤(i:Int))=False:=eq_false (by omega)
   by_cases q1:acc s a c0 i<least
   ·have f1:((acc s a c0 i:Int)<(least:Int))=True:=eq_true (by omega)
    refine w_r (j_ f0 f1) ?_
    exact Qae rfl rfl ⟨⟨_,0,rfl,Qe4 (Cls.no hcls (.inr (.inl q1)))⟩,rfl⟩
   ·have f1:((acc s a c0 i:Int)<(least:Int))=False:=eq_false (by omega)
    have w1:IntKind.i64.wrap ((i:Int)+1)=((i+1:Nat):Int):=Qef (by omega)
    have hl:=QgJ (acc s a c0 i)
    have he:=Qor H.length H (acc s a c0 i)
    generalize Qoy (acc s a c0 i)=r at hl he
    (iterate 6 refine w_s f0 ?_)
    cases r with
    |true=>
     refine w_1 he f1 ?_
     refine w_r w1 ?_
     exact Qae rfl rfl ⟨⟨_,i+1,rfl,have hy:=Cls.yes hcls ha (fun j h1 h2=>hall j h1 h2) q1 (hl.1 rfl);QlC (by omega) (by omega) hy (fun e=>Cls.two hcls hy e)⟩,rfl⟩
    |false=>
     refine w_1 he f1 ?_
     refine w_r trivial ?_
     exact Qae rfl rfl ⟨⟨_,0,rfl,Qe4 (Cls.no hcls (.inr (.inr fun h=>by cases hl.2 h)))⟩,rfl⟩
theorem Qh9(l:List UInt8):decodeL l=dc l:=by
 have:=Qia l 0
 rw[List.drop_zero]at this
 exact this
theorem Qhv:∀(n m:Nat) (s:List UInt8),s.length≤n→s.length≤m→validGoD n s=validGoD m s
 |0,0,_,_,_=>rfl
 |0,m+1,s,h,_=>by
  have:s= []:=List.length_eq_zero_iff.1 (by omega)
  subst this;simp[validGoD]
 |n+1,0,s,_,h=>by
  have:s= []:=List.length_eq_zero_iff.1 (by omega)
  subst this;simp[validGoD]
 |n+1,m+1,s,h1,h2=>by
  unfold validGoD
  have:=QeP s
  rw[Qh9,Qhv n m (s.drop (dc s).2) (by simp;omega) (by simp;omega)]
theorem Qmq{s:List UInt8}(h:s≠ []):vB s=if dc s=(65533,1)then false else vB (s.drop (dc s).2):=by
 show validGoD s.length s=if dc s=(65533,1)then false else validGoD (s.drop (dc s).2).length (s.drop (dc s).2)
 have h1:=List.length_pos_iff.2 h
 have h2:=QeP s
 obtain⟨n,hn⟩:∃n,s.length=n+1:=⟨s.length-1,by omega⟩
 rw[hn]
 show(if s= []then true else if(decodeL s).1=65533∧(decodeL s).2=1 then false else validGoD n (s.drop (decodeL s).2))=_
 rw[if_neg h,Qh9]
 by_cases hd:dc s=(65533,1)
 ·rw[if_pos hd,if_pos (by rw[hd];exact⟨rfl,rfl⟩)]
 ·rw[if_neg hd,if_neg (fun k=>hd (Prod.ext k.1 k.2))]
  exact Qhv _ _ _ (by simp;omega) (Nat.le_refl _)
def BadQ(s:List UInt8)(H:Qaa)(v:AV)(H':Qaa):Prop:=(∃r:Int,v=intD r∧decide (r<0)=vB s)∧H'=H
theorem bad_ev(lim:Nat)(H:Qaa)(s:List UInt8)(hs:s.length≤100000000000):Go.Abs.Fn (QaF code Qap) 18 lim [.d (.str s)] H (BadQ s H):=by
 refine Qbj (pn rfl) rfl (show code 18=some c18 from rfl) rfl ?_;simp only[List.length_cons,List.length_nil,List.cons_append,List.nil_append,simprocAttr]
 refine w_r trivial ?_
 refine Qki (fun k st=>∃a:Nat,a≤s.length∧k=s.length-a∧vB s=vB (s.drop a)∧∃x:Nat→AV,st=⟨[.d (.str s),x 1,x 2,intD 0,intD a,x 5,x 6,x 7],H⟩) ?_ _ _ ⟨0,Nat.zero_le _,rfl,rfl,Qam _ _ _ rfl⟩
 rintro k _ ⟨a,ha,rfl,hv,x,rfl⟩
 by_cases q0:a<s.length
 ·have f0:((a:Int)<(s.length:Int))=True:=eq_true (by omega)
  obtain⟨_,_,he,⟨r,n,rfl,hn,hn4,hn0⟩,rfl⟩:=Ql9 (rune_ev H.length H s a q0 hs)
  have hne:s.drop a≠ []:=fun e=>by have:=congrArg List.length e;simp at this;omega
  have hle:=dc_le hne
  have hpos:=QeP (s.drop a)
  rw[Qmq hne]at hv
  rw[List.length_drop]at hle
  by_cases h0:n=0
  ·subst h0
   have hd:dc (s.drop a)=(65533,1):=by simpa using hn0.symm
   rw[if_pos hd]at hv
   have f1:(((0:Nat):Int)==0)=true:=rfl
   refine w_r f0 ?_
   refine QcT ?_;refine Qeq ?_;simp only[zz,simprocAttr];refine Ev.fn he ?_
   (apply QfO;(focus(intro _;simp only[zz,simprocAttr];(first|done|with_reducible exact rfl))))<;>(try simp only[zp,simprocAttr])
   refine w_r f1 ?_
   exact Qae rfl rfl ⟨⟨_,rfl,by rw[hv];exact decide_eq_false (by omega)⟩,rfl⟩
  ·have hd:dc (s.drop a)≠(65533,1):=by
    rw[decide_eq_false h0]at hn0
    exact of_decide_eq_false hn0.symm
   rw[if_neg hd,List.drop_drop]at hv
   have hm:(dc (s.drop a)).2=n:=by omega
   rw[hm]at hv hle
   have f1:((n:Int)==0)=false:=by simp;omega
   have w1:IntKind.i64.wrap ((a:Int)+(n:Int))=((a+n:Nat):Int):=by rw[w64 (by omega) (by omega)];omega
   refine w_r f0 ?_
   refine QcT ?_;refine Qeq ?_;simp only[zz,simprocAttr];refine Ev.fn he ?_
   (apply QfO;(focus(intro _;simp only[zz,simprocAttr];(first|done|with_reducible exact rfl))))<;>(try simp only[zp,simprocAttr])
   refine w_r (j_ f1 w1) ?_
   exact⟨s.length-(a+n),by omega,a+n,by omega,rfl,hv,Qam _ _ _ rfl⟩
 ·obtain rfl:a=s.length:=by omega
  have f0:((s.length:Int)<(s.length:Int))=False:=eq_false (by omega)
  rw[List.drop_length]at hv
  refine w_r f0 ?_
  exact Qae rfl rfl ⟨⟨_,rfl,by rw[hv];rfl⟩,rfl⟩
theorem QhS{ks:List Tx}{i:Nat}{s:Tx}(h:ks[i]? =some s)(hn:(ks.take i).Nodup)(hs:s∉ks.take i):(ks.take (i+1)).Nodup:=by
 rw[List.take_add_one,h]
 refine List.nodup_append.2 ⟨hn,by simp,fun a ha b hb e=> ?_⟩
 have:b=s:=by simpa using hb
 subst this
 subst e
 exact hs ha
theorem QlT{ks:List Tx}{i j:Nat}{s:Tx}(h:ks[i]? =some s)(h2:ks[j]? =some s)(hj:j<i):QbE ks=false:=by
 unfold QbE
 have:¬ks.Nodup:=fun hn=>by
  have h3:ks[j]? =ks[i]? :=by rw[h,h2]
  obtain⟨hi,hi2⟩:=List.getElem?_eq_some_iff.1 h
  have:=(List.getElem?_inj (by omega) hn).1 h3
  omega
 rw[decide_eq_false this,Bool.and_false]
theorem QkO{ks:List Tx}{i:Nat}{s:Tx}(h:∀j,j<i→ks[j]? ≠some s):s∉ks.take i:=fun hm=>by
 obtain⟨j,hj,he⟩:=List.getElem_of_mem hm
 have hj':j<i:=by simp at hj;omega
 refine h j hj' ?_
 rw[List.getElem_take]at he
 rw[←he]
 exact List.getElem?_eq_getElem _
theorem keysR_ev(lim:Nat)(H:Qaa)(ks:List Tx)(hk:ks.length≤100000000000)(hs:∀s∈ks,s.length≤100000000000):Ev (QaF code Qap) 66 lim [.d (sD ks)] H (boolD (QbE ks)) H:=by
 refine Fn.ev ?_
 refine Qbj (pn rfl) rfl (show code 66=some c66 from rfl) rfl ?_;simp only[List.length_cons,List.length_nil,List.cons_append,List.nil_append,simprocAttr]
 refine w_r trivial ?_
 refine Qki (fun k st=>∃i:Nat,i≤ks.length∧k=ks.length-i∧(ks.take i).all vB=true∧(ks.take i).Nodup∧∃x:Nat→AV,st=⟨[.d (sD ks),x 1,x 2,x 3,x 4,boolD false,intD i,x 7,x 8,x 9],H⟩) ?_ _ _ ⟨0,Nat.zero_le _,rfl,rfl,List.nodup_nil,Qam _ _ _ rfl⟩
 rintro k _ ⟨i,hi,rfl,ha,hnd,x,rfl⟩
 by_cases t0:i<ks.length
 ·have f1:((i:Int)<(ks.length:Int))=True:=eq_true (by omega)
  have w1:IntKind.i64.wrap ((i:Int)+1)=((i+1:Nat):Int):=Qef (by omega)
  obtain⟨s,hsx⟩:∃s,ks[i]? =some s:=⟨_,List.getElem?_eq_getElem t0⟩
  have hc:∀s:Tx,(D.str s).cells= [D.str s]:=fun _=>rfl
  have hst:=Qlj hsx vB
  rw[ha,Bool.true_and]at hst
  obtain⟨_,H',he,⟨r,rfl,hr⟩,e'⟩:=Ql9 (bad_ev H.length H s (hs s (List.mem_of_getElem? hsx)))
  rw[e']at he
  by_cases h0:r<0
  ·have f2:(r≥0)=False:=eq_false (by omega)
   rw[decide_eq_true h0]at hr
   rw[←hr]at hst
   refine w_r (j_ f1 (@List.length_map.{0,0})) ?_
   refine QcT ?_;apply Qfv 2;(focus(intro _;simp only[zz,simprocAttr,hsx,hc];(first|done|with_reducible exact rfl)));simp only[List.drop_succ_cons,List.drop_zero];refine Qeq ?_;simp only[zz,simprocAttr];refine Ev.fn he ?_
   (apply QfO;(focus(intro _;simp only[zz,simprocAttr,b_geq,f2];(first|done|with_reducible exact rfl))))<;>(try simp only[zp,simprocAttr])
   refine w_r trivial ?_
   refine Qki (fun k st=>∃j:Nat,j≤i∧k=i-j∧(∀q,q<j→ks[q]? ≠some s)∧∃x:Nat→AV,st=⟨[.d (sD ks),x 1,x 2,x 3,x 4,boolD false,intD i,intD j,x 8,x 9],H⟩) ?_ _ _ ⟨0,Nat.zero_le _,rfl,fun q hq=>by omega,Qam _ _ _ rfl⟩
   rintro k _ ⟨j,hj,rfl,hno,x,rfl⟩
   by_cases t1:j<i
   ·have f3:((j:Int)<(i:Int))=True:=eq_true (by omega)
    have w2:IntKind.i64.wrap ((j:Int)+1)=((j+1:Nat):Int):=Qef (by omega)
    obtain⟨t,htx⟩:∃t,ks[j]? =some t:=⟨_,List.getElem?_eq_getElem (by omega)⟩
    by_cases h1:s=t
    ·subst h1
     rw[QlT hsx htx t1]
     have f4:(s==s)=true:=by simp
     refine w_r (j_ f3 (j_ hsx (j_ htx (j_ hc (j_ f4 (@List.length_map.{0,0})))))) ?_
     exact Qae rfl rfl ⟨rfl,rfl⟩
    ·have f4:(s==t)=false:=by simpa using h1
     refine w_r (j_ f3 (j_ hsx (j_ htx (j_ hc (j_ f4 (j_ w2 (@List.length_map.{0,0}))))))) ?_
     refine⟨i-(j+1),by omega,j+1,t1,rfl,fun q hq=> ?_,Qam _ _ _ rfl⟩
     by_cases hqj:q<j
     ·exact hno q hqj
     ·obtain rfl:q=j:=by omega
      rw[htx];exact fun e=>h1 (Option.some.inj e).symm
   ·obtain rfl:j=i:=by omega
    have f3:((j:Int)<(j:Int))=False:=eq_false (by omega)
    refine w_r (j_ f3 w1) ?_
    exact⟨ks.length-(j+1),by omega,j+1,t0,rfl,hst,QhS hsx hnd (QkO hno),Qam _ _ _ rfl⟩
  ·have f2:(r≥0)=True:=eq_true (by omega)
   rw[decide_eq_false h0]at hr
   have:QbE ks=false:=by unfold QbE;rw[Qpc hsx hr.symm];rfl
   rw[this]
   refine w_r (j_ f1 (@List.length_map.{0,0})) ?_
   refine QcT ?_;apply Qfv 2;(focus(intro _;simp only[zz,simprocAttr,hsx,hc];(first|done|with_reducible exact rfl)));simp only[List.drop_succ_cons,List.drop_zero];refine Qeq ?_;simp only[zz,simprocAttr];refine Ev.fn he ?_
   (apply QfO;(focus(intro _;simp only[zz,simprocAttr,b_geq,f2];(first|done|with_reducible exact rfl))))<;>(try simp only[zp,simprocAttr])
   refine w_r trivial ?_
   exact Qae rfl rfl ⟨rfl,rfl⟩
 ·obtain rfl:i=ks.length:=by omega
  have f1:((ks.length:Int)<(ks.length:Int))=False:=eq_false (by omega)
  rw[List.take_length]at ha hnd
  have:QbE ks=true:=by unfold QbE;rw[ha,decide_eq_true hnd];rfl
  rw[this]
  refine w_r (j_ f1 (@List.length_map.{0,0})) ?_
  exact Qae rfl rfl ⟨rfl,rfl⟩
def Sh(j:J):Prop:=j.t.length≤100000000000∧j.ks.length≤100000000000∧j.l.length≤100000000000∧∀s∈j.ks,s.length≤100000000000
theorem eq0(n m:Int):(n==m)=decide (n=m):=rfl
theorem eqT(s t:Tx):(s==t)=decide (s=t):=by
 rw[Bool.eq_iff_iff];simp
theorem sh_of{j:J}(h:wt j≤100000000000):Sh j:=⟨by have:=wt_t j;omega,by have:=wt_ks j;omega,by have:=wt_l j;omega,fun s hs=>by have:=wt_key hs;omega⟩
set_option maxHeartbeats 1000000 in
theorem QnM(lim:Nat)(H:Qaa)(j:J)(hj:Sh j):Ev (QaF code Qap) 48 lim [.d j.d] H (boolD (Qas j)) H:=by
 refine Fn.ev ?_
 refine Qbj (pn rfl) rfl (show code 48=some c48 from rfl) rfl ?_;simp only[List.length_cons,List.length_nil,List.cons_append,List.nil_append,simprocAttr]
 obtain⟨s1,s2,s3,s4⟩:=hj
 obtain⟨K,hK⟩:∃K,H++ [AObj.cells (jC j)]=K:=⟨_,rfl⟩
 have gK:K[H.length]? =some (.cells (jC j)):=by rw[←hK];exact Qbr _ _
 have hjd:=jd j
 have w0:IntKind.i64.wrap ((j.ks.length:Int)+(j.l.length:Int))=((j.ks.length+j.l.length:Nat):Int):=by rw[w64 (by omega) (by omega)];omega
 have eE:(((j.ks.length+j.l.length:Nat):Int)==0)=Qbd j:=by rw[eq0];exact decide_eq_decide.2 (by omega)
 have eN:=eq0 j.n 0
 have eN1:=eq0 j.n 1
 have eT:=eqT j.t []
 have hr:Qas j=if j.k=0 then Qbd j&&decide (j.n=0)&&decide (j.t= [])
  else if j.k=1 then Qbd j&&decide (j.t= [])&&(decide (j.n=0)||decide (j.n=1))
  else if j.k=2 then Qbd j&&decide (j.t= [])&&decide (-9007199254740991≤j.n)&&decide (j.n≤9007199254740991)
  else if j.k=3 then Qbd j&&decide (j.n=0)&&vB j.t
  else if j.k=4 then decide (j.ks.length=0)&&decide (j.n=0)&&decide (j.t= [])
  else if j.k=5 then decide (j.ks.length=j.l.length)&&decide (j.n=0)&&decide (j.t= [])&&QbE j.ks
  else false:=rfl
 rw[hr]
 (iterate 2 refine w_s (j_ hjd hK) ?_)
 (iterate 4 refine w_s (j_ gK (j_ w0 (j_ eE (@List.length_map.{0,0})))) ?_)
 have k0e:=eq0 j.k 0
 have k1e:=eq0 j.k 1
 have k2e:=eq0 j.k 2
 have k3e:=eq0 j.k 3
 have k4e:=eq0 j.k 4
 have k5e:=eq0 j.k 5
 by_cases k0:j.k=0
 ·rw[if_pos k0]
  rw[decide_eq_true k0]at k0e
  generalize Qbd j=b1 at*
  generalize decide (j.n=0)=b2 at*
  generalize decide (j.t= [])=b3 at*
  cases b1<;>cases b2<;>cases b3<;>(refine w_r (j_ gK (j_ k0e (j_ eN eT))) ?_;exact Qae rfl rfl ⟨rfl,rfl⟩)
 rw[if_neg k0]
 rw[decide_eq_false k0]at k0e
 by_cases k1:j.k=1
 ·rw[if_pos k1]
  rw[decide_eq_true k1]at k1e
  generalize Qbd j=b1 at*
  generalize decide (j.n=0)=b2 at*
  generalize decide (j.n=1)=b4 at*
  generalize decide (j.t= [])=b3 at*
  cases b1<;>cases b2<;>cases b3<;>cases b4<;>(refine w_r (j_ gK (j_ k0e (j_ k1e (j_ eN (j_ eN1 eT))))) ?_;exact Qae rfl rfl ⟨rfl,rfl⟩)
 rw[if_neg k1]
 rw[decide_eq_false k1]at k1e
 by_cases k2:j.k=2
 ·rw[if_pos k2]
  rw[decide_eq_true k2]at k2e
  generalize Qbd j=b1 at*
  generalize decide (j.t= [])=b3 at*
  by_cases h2: -9007199254740991≤j.n
  ·have f2:(j.n≥-9007199254740991)=True:=eq_true h2
   rw[decide_eq_true h2]
   by_cases h4:j.n≤9007199254740991
   ·have f4:(j.n≤9007199254740991)=True:=eq_true h4
    rw[decide_eq_true h4]
    cases b1<;>cases b3<;>(refine w_r (j_ gK (j_ k0e (j_ k1e (j_ k2e (j_ f2 (j_ f4 eT)))))) ?_;exact Qae rfl rfl ⟨rfl,rfl⟩)
   ·have f4:(j.n≤9007199254740991)=False:=eq_false h4
    rw[decide_eq_false h4]
    cases b1<;>cases b3<;>(refine w_r (j_ gK (j_ k0e (j_ k1e (j_ k2e (j_ f2 (j_ f4 eT)))))) ?_;exact Qae rfl rfl ⟨rfl,rfl⟩)
  ·have f2:(j.n≥-9007199254740991)=False:=eq_false h2
   rw[decide_eq_false h2]
   generalize decide (j.n≤9007199254740991)=b4
   cases b1<;>cases b3<;>cases b4<;>(refine w_r (j_ gK (j_ k0e (j_ k1e (j_ k2e (j_ f2 eT))))) ?_;exact Qae rfl rfl ⟨rfl,rfl⟩)
 rw[if_neg k2]
 rw[decide_eq_false k2]at k2e
 by_cases k3:j.k=3
 ·rw[if_pos k3]
  rw[decide_eq_true k3]at k3e
  obtain⟨_,K',he,⟨r,rfl,hrv⟩,e'⟩:=Ql9 (bad_ev H.length K j.t s1)
  rw[e']at he
  generalize Qbd j=b1 at*
  generalize decide (j.n=0)=b2 at*
  generalize vB j.t=b3 at*
  (iterate 15 refine w_s (j_ gK (j_ k0e (j_ k1e (j_ k2e k3e)))) ?_)
  cases b1<;>cases b2<;>cases b3<;>(refine w_1 he (j_ gK (j_ eN hrv)) ?_;refine w_r trivial ?_;exact Qae rfl rfl ⟨rfl,rfl⟩)
 rw[if_neg k3]
 rw[decide_eq_false k3]at k3e
 by_cases k4:j.k=4
 ·rw[if_pos k4]
  rw[decide_eq_true k4]at k4e
  have eE4:((j.ks.length:Int)==0)=decide (j.ks.length=0):=by rw[eq0];exact decide_eq_decide.2 (by omega)
  generalize decide (j.ks.length=0)=b1 at*
  generalize decide (j.n=0)=b2 at*
  generalize decide (j.t= [])=b3 at*
  cases b1<;>cases b2<;>cases b3<;>(refine w_r (j_ gK (j_ k0e (j_ k1e (j_ k2e (j_ k3e (j_ k4e (j_ eN (j_ eT (j_ eE4 (@List.length_map.{0,0})))))))))) ?_;exact Qae rfl rfl ⟨rfl,rfl⟩)
 rw[if_neg k4]
 rw[decide_eq_false k4]at k4e
 by_cases k5:j.k=5
 ·rw[if_pos k5]
  rw[decide_eq_true k5]at k5e
  have he:=keysR_ev H.length K j.ks s2 s4
  have eE5:((j.ks.length:Int)==(j.l.length:Int))=decide (j.ks.length=j.l.length):=by rw[eq0];exact decide_eq_decide.2 (by omega)
  generalize decide (j.ks.length=j.l.length)=b1 at*
  generalize decide (j.n=0)=b2 at*
  generalize decide (j.t= [])=b3 at*
  generalize QbE j.ks=b4 at*
  (iterate 21 refine w_s (j_ gK (j_ k0e (j_ k1e (j_ k2e (j_ k3e (j_ k4e k5e)))))) ?_)
  cases b1<;>cases b2<;>cases b3<;>cases b4<;>(refine w_1 he (j_ gK (j_ eN (j_ eT (j_ eE5 (@List.length_map.{0,0}))))) ?_;refine w_r trivial ?_;exact Qae rfl rfl ⟨rfl,rfl⟩)
 rw[if_neg k5]
 rw[decide_eq_false k5]at k5e
 refine w_r (j_ gK (j_ k0e (j_ k1e (j_ k2e (j_ k3e (j_ k4e k5e)))))) ?_
 exact Qae rfl rfl ⟨rfl,rfl⟩
theorem Ql3:∀(n:Nat) (lim:Nat) (H:Qaa) (j:J),n≤1000→wt j≤100000000000→Ev (QaF code Qap) 29 lim [.d j.d,intD n] H (boolD (goodB n j)) H
 |0,lim,H,j,_,_=>by
  refine Fn.ev ?_
  refine Qbj (pn rfl) rfl (show code 29=some c29 from rfl) rfl ?_;simp only[List.length_cons,List.length_nil,List.cons_append,List.nil_append,simprocAttr]
  have hjd:=jd j
  have f0:(((0:Nat):Int)<1)=True:=eq_true (by omega)
  refine w_r (j_ hjd f0) ?_
  exact Qae rfl rfl ⟨rfl,rfl⟩
 |n+1,lim,H,j,hn,hj=>by
  refine Fn.ev ?_
  refine Qbj (pn rfl) rfl (show code 29=some c29 from rfl) rfl ?_;simp only[List.length_cons,List.length_nil,List.cons_append,List.nil_append,simprocAttr]
  have hjd:=jd j
  obtain⟨K,hK⟩:∃K,H++ [AObj.cells (jC j)]=K:=⟨_,rfl⟩
  have gK:K[H.length]? =some (.cells (jC j)):=by rw[←hK];exact Qbr _ _
  have f0:(((n+1:Nat):Int)<1)=False:=eq_false (by omega)
  have he:=QnM H.length K j (sh_of hj)
  simp only[hjd]at he
  have hr:goodB (n+1) j=(Qas j&&j.l.all (goodB n)):=rfl
  have hl3:=(sh_of hj).2.2.1
  (iterate 2 refine w_s (j_ hjd hK) ?_)
  cases hs:Qas j with
  |false=>
   rw[hs]at he hr
   rw[hr,Bool.false_and]
   (iterate 1 refine w_s trivial ?_)
   refine w_1 he (j_ gK f0) ?_
   refine w_r trivial ?_
   exact Qae rfl rfl ⟨rfl,rfl⟩
  |true=>
   rw[hs]at he hr
   rw[hr,Bool.true_and]
   (iterate 1 refine w_s trivial ?_)
   refine w_1 he (j_ gK f0) ?_
   refine w_r trivial ?_
   refine Qki (fun k st=>∃i:Nat,i≤j.l.length∧k=j.l.length-i∧(j.l.take i).all (goodB n)=true∧∃x:Nat→AV,st=⟨[x 0,intD (n+1:Nat),x 2,x 3,x 4,boolD false,.ptr H.length 0,intD i,x 8,x 9],K⟩) ?_ _ _ ⟨0,Nat.zero_le _,rfl,rfl,Qam _ _ _ rfl⟩
   rintro k _ ⟨i,hi,rfl,ha,x,rfl⟩
   by_cases t0:i<j.l.length
   ·have f1:((i:Int)<(j.l.length:Int))=True:=eq_true (by omega)
    have w1:IntKind.i64.wrap ((i:Int)+1)=((i+1:Nat):Int):=Qef (by omega)
    have w2:IntKind.i64.wrap (((n+1:Nat):Int)-1)=(n:Int):=by rw[w64 (by omega) (by omega)];omega
    obtain⟨y,hy⟩:∃y,j.l[i]? =some y:=⟨_,List.getElem?_eq_getElem t0⟩
    have hyd:=jd y
    have hst:=Qlj hy (goodB n)
    rw[ha,Bool.true_and]at hst
    have hd':wt y≤100000000000:=by have:=Qlo (List.mem_of_getElem? hy);omega
    have hg:=Ql3 n H.length K y (by omega) hd'
    simp only[hyd]at hg
    cases hv:goodB n y with
    |true=>
     rw[hv]at hg hst
     refine w_r (j_ gK (j_ f1 (@List.length_map.{0,0}))) ?_
     refine QcT ?_;apply Qfv 5;(focus(intro _;simp only[zz,simprocAttr,gK,hy,hyd,b_sub,w2];(first|done|with_reducible exact rfl)));simp only[List.drop_succ_cons,List.drop_zero];refine Qeq ?_;simp only[zz,simprocAttr];refine Ev.fn hg ?_
     (apply QfO;(focus(intro _;simp only[zz,simprocAttr];(first|done|with_reducible exact rfl))))<;>(try simp only[zp,simprocAttr])
     refine w_r w1 ?_
     exact⟨j.l.length-(i+1),by omega,i+1,t0,rfl,hst,Qam _ _ _ rfl⟩
    |false=>
     rw[hv]at hg
     rw[Qpc hy hv]
     refine w_r (j_ gK (j_ f1 (@List.length_map.{0,0}))) ?_
     refine QcT ?_;apply Qfv 5;(focus(intro _;simp only[zz,simprocAttr,gK,hy,hyd,b_sub,w2];(first|done|with_reducible exact rfl)));simp only[List.drop_succ_cons,List.drop_zero];refine Qeq ?_;simp only[zz,simprocAttr];refine Ev.fn hg ?_
     (apply QfO;(focus(intro _;simp only[zz,simprocAttr];(first|done|with_reducible exact rfl))))<;>(try simp only[zp,simprocAttr])
     refine w_r trivial ?_
     exact Qae rfl rfl ⟨rfl,rfl⟩
   ·obtain rfl:i=j.l.length:=by omega
    have f1:((j.l.length:Int)<(j.l.length:Int))=False:=eq_false (by omega)
    rw[List.take_length]at ha
    rw[ha]
    refine w_r (j_ gK (j_ f1 (@List.length_map.{0,0}))) ?_
    exact Qae rfl rfl ⟨rfl,rfl⟩
theorem GoodR_ev(lim:Nat)(H:Qaa)(j:J)(hj:wt j≤100000000000):Ev (QaF code Qap) 13 lim [.d j.d] H (boolD (goodB 12 j)) H:=by
 refine Fn.ev ?_
 refine Qbj (pn rfl) rfl (show code 13=some c13 from rfl) rfl ?_;simp only[List.length_cons,List.length_nil,List.cons_append,List.nil_append,simprocAttr]
 have hjd:=jd j
 obtain⟨K,hK⟩:∃K,H++ [AObj.cells (jC j)]=K:=⟨_,rfl⟩
 have gK:K[H.length]? =some (.cells (jC j)):=by rw[←hK];exact Qbr _ _
 have he:Ev (QaF code Qap) 29 H.length [.d j.d,intD 12] K (boolD (goodB 12 j)) K:=Ql3 12 H.length K j (by omega) hj
 simp only[hjd]at he
 (iterate 2 refine w_s (j_ hjd hK) ?_)
 (iterate 1 refine w_s trivial ?_)
 refine w_1 he gK ?_
 refine w_r trivial ?_
 exact Qae rfl rfl ⟨rfl,rfl⟩
end Go.Proofs.YtmhmjlfajlpabaaDoor
namespace Go.Proofs.YtmhmjlfajlpabaaDoor
open Go Go.Abs
def bigB(j:J)(n:Int):Bool:=decide (n<1)||decide (2000<j.t.length)||decide (200<j.ks.length)||decide (2000<j.l.length)
def leftI:Nat→J→Int→Int
 |0,_,_=> -1
 |d+1,j,n=>if bigB j n=true then-1 else if(j.ks.all fun s=>decide (s.length≤2000))=false then-1 else j.l.foldl (fun n k=>if n<0 then n else leftI d k n) (n-1)
end Go.Proofs.YtmhmjlfajlpabaaDoor
namespace Go.Proofs.YtmhmjlfajlpabaaDoor
open Go Go.Abs Go.Lib
end Go.Proofs.YtmhmjlfajlpabaaDoor
namespace Go.Proofs.YtmhmjlfajlpabaaDoor
open Go Go.Abs
def Qf6(n:Nat):UInt8:=([48,49,50,51,52,53,54,55,56,57,97,98,99,100,101,102]:Tx).getD n 0
def QbP(c:UInt8):Tx:=
 if c=34∨c=92 then [92,c]
 else if c=8 then [92,98]
 else if c=9 then [92,116]
 else if c=10 then [92,110]
 else if c=12 then [92,102]
 else if c=13 then [92,114]
 else if c.toNat<32 then [92,117,48,48,Qf6 (c.toNat/16),Qf6 (c.toNat % 16)]
 else [c]
def QaG(s:Tx):Tx:=34::(s.flatMap QbP++ [34])
def commas:List Tx→Tx
 | []=> []
 | [a]=>a
 |a::b::l=>a++44::commas (b::l)
def QbS(k e:Tx):Tx:=QaG k++58::e
mutual
def QaT:J→Tx
 |.mk k n t ks l=>
  if k=1 then(if n=1 then [116,114,117,101]else [102,97,108,115,101])
  else if k=2 then Lib.itoa n
  else if k=3 then QaG t
  else if k=4 then 91::(commas (Qnb l)++ [93])
  else if k=5 then 123::(commas (List.zipWith QbS ks (Qnb l))++ [125])
  else [110,117,108,108]
def Qnb:List J→List Tx
 | []=> []
 |a::l=>QaT a::Qnb l
end
theorem Qj0:∀l:List J,Qnb l=l.map QaT
 | []=>by unfold Qnb;rfl
 |a::l=>by unfold Qnb;rw[Qj0 l];rfl
theorem QcH(j:J):QaT j=if j.k=1 then(if j.n=1 then [116,114,117,101]else [102,97,108,115,101])
  else if j.k=2 then Lib.itoa j.n
  else if j.k=3 then QaG j.t
  else if j.k=4 then 91::(commas (j.l.map QaT)++ [93])
  else if j.k=5 then 123::(commas (List.zipWith QbS j.ks (j.l.map QaT))++ [125])
  else [110,117,108,108]:=by
 obtain⟨k,n,t,ks,l⟩:=j
 conv=>lhs;unfold QaT
 rw[Qj0];rfl
def QcQ(w:Tx→J→Tx):Bool→Tx→List J→Tx
 |_,b,[]=>b
 |first,b,j::l=>QcQ w false (w (if first then b else b++ [44]) j) l
def Qgf(w:Tx→J→Tx)(ks:List Tx)(l:List J):Bool→Tx→List Nat→Tx
 |_,b,[]=>b
 |first,b,i::P=>Qgf w ks l false (w ((if first then b else b++ [44])++QaG (ks.getD i [])++ [58]) (l.getD i J.zero)) P
def QaM:Nat→Tx→J→Tx
 |0,b,_=>b
 |f+1,b,j=>
  if 16384<b.length then b
  else if j.k=1 then b++(if j.n=1 then [116,114,117,101]else [102,97,108,115,101])
  else if j.k=2 then b++Lib.itoa j.n
  else if j.k=3 then b++QaG j.t
  else if j.k=4 then QcQ (QaM f) true (b++ [91]) j.l++ [93]
  else if j.k=5 then Qgf (QaM f) j.ks j.l true (b++ [123]) (Qay j.ks)++ [125]
  else b++ [110,117,108,108]
theorem Qht(w:Tx→J→Tx):∀(l:List J) (first:Bool) (b:Tx) (j:J),QcQ w first b (l++ [j])=w (if first&&l.isEmpty then QcQ w first b l else QcQ w first b l++ [44]) j
 | [],first,b,j=>by cases first<;>rfl
 |a::l,first,b,j=>by
  rw[List.cons_append]
  show QcQ w false (w (if first=true then b else b++ [44]) a) (l++ [j])=_
  rw[Qht w l]
  simp only[Bool.false_and,List.isEmpty_cons,Bool.and_false]
  rfl
theorem Qi3(w:Tx→J→Tx)(ks:List Tx)(l:List J):∀(P:List Nat) (first:Bool) (b:Tx) (i:Nat),Qgf w ks l first b (P++ [i])=w ((if first&&P.isEmpty then Qgf w ks l first b P else Qgf w ks l first b P++ [44])++QaG (ks.getD i [])++ [58]) (l.getD i J.zero)
 | [],first,b,j=>by cases first<;>rfl
 |a::P,first,b,j=>by
  rw[List.cons_append]
  show Qgf w ks l false _ (P++ [j])=_
  rw[Qi3 w ks l P]
  simp only[Bool.false_and,List.isEmpty_cons,Bool.and_false]
  rfl
theorem escB_len(c:UInt8):(QbP c).length≤6:=by
 unfold QbP;(repeat' split)<;>simp
theorem QiP:∀s:Tx,(s.flatMap QbP).length≤6*s.length
 | []=>by simp
 |c::s=>by
  have:=QiP s
  have:=escB_len c
  rw[List.flatMap_cons,List.length_append,List.length_cons];omega
theorem Qe8(s:Tx):(QaG s).length≤2+6*s.length:=by
 have:=QiP s
 unfold QaG
 simp only[List.length_cons,List.length_append,List.length_nil]
 omega
theorem Qd2:∀(k u:Nat),u<10^(k+1)→Lib.nDigits u≤k+1
 |0,u,h=>by rw[Lib.nDigits_small (by simpa using h)];exact Nat.le_refl _
 |k+1,u,h=>by
  by_cases h1:u<10
  ·rw[Lib.nDigits_small h1];omega
  ·rw[Lib.nDigits_big h1]
   have:=Qd2 k (u/10) (by rw[Nat.pow_succ]at h;omega)
   omega
theorem itoa_len{n:Int}(h1: -9007199254740991≤n)(h2:n≤9007199254740991):(Lib.itoa n).length≤20:=by
 unfold Lib.itoa
 split
 ·rw[List.length_cons,Lib.decDigits_length]
  have:=Qd2 17 n.natAbs (by omega)
  omega
 ·rw[Lib.decDigits_length]
  have:=Qd2 17 n.toNat (by omega)
  omega
theorem QfV{w:Tx→J→Tx}(hw:∀b j,b.length≤(w b j).length):∀(l:List J) (first:Bool) (b:Tx),b.length≤(QcQ w first b l).length
 | [],_,_=>Nat.le_refl _
 |j::l,first,b=>by
  unfold QcQ
  refine Nat.le_trans ?_ (QfV hw l _ _)
  refine Nat.le_trans ?_ (hw _ _)
  split<;>simp
theorem Qip{w:Tx→J→Tx}(hw:∀b j,b.length≤(w b j).length){ks:List Tx}{l:List J}:∀(P:List Nat) (first:Bool) (b:Tx),b.length≤(Qgf w ks l first b P).length
 | [],_,_=>Nat.le_refl _
 |j::P,first,b=>by
  unfold Qgf
  refine Nat.le_trans ?_ (Qip hw P _ _)
  refine Nat.le_trans ?_ (hw _ _)
  split<;>simp<;>omega
theorem Qc1:∀(f:Nat) (b:Tx) (j:J),b.length≤(QaM f b j).length
 |0,_,_=>Nat.le_refl _
 |f+1,b,j=>by
  unfold QaM
  (repeat' split)<;>try(simp;done)
  ·have:=QfV (Qc1 f) j.l true (b++ [91])
   simp only[List.length_append,List.length_singleton]at this⊢;omega
  ·have:=Qip (Qc1 f) (ks:=j.ks) (l:=j.l) (Qay j.ks) true (b++ [123])
   simp only[List.length_append,List.length_singleton]at this⊢;omega
def sameB:Nat→J→J→Bool
 |0,_,_=>false
 |f+1,a,b=>decide (a.k=b.k)&&decide (a.n=b.n)&&decide (a.t=b.t)&&decide (a.ks=b.ks)&&decide (a.l.length=b.l.length)&&(List.zipWith (sameB f) a.l b.l).all id
theorem Qf1{l m:List Nat}(h:l.Perm m):l.sum=m.sum:=by
 induction h with
 |nil=>rfl
 |cons x _ ih=>simp only[List.sum_cons,ih]
 |swap x y l=>simp only[List.sum_cons];omega
 |trans _ _ h1 h2=>exact h1.trans h2
theorem QbO{α:Type}(l:List α)(d:α):(List.range l.length).map (fun i=>l.getD i d)=l:=by
 apply List.ext_getElem
 ·simp
 ·intro i h1 h2
  simp[List.getD,h2]
theorem getD_map{α β:Type}(f:α→β)(l:List α){i:Nat}(h:i<l.length)(d:α)(e:β):(l.map f).getD i e=f (l.getD i d):=by
 simp[List.getD,h]
theorem QfU{w:Tx→J→Tx}:∀(l:List J) (first:Bool) (b:Tx),(∀y∈l,∀b,(w b y).length+1≤b.length+32*wt y)→(QcQ w first b l).length≤b.length+32*wts l
 | [],_,b,_=>by simp[QcQ]
 |j::l,first,b,h=>by
  unfold QcQ
  have h1:=QfU l false (w (if first=true then b else b++ [44]) j) fun y hy=>h y (List.mem_cons_of_mem _ hy)
  have h2:=h j (by simp) (if first=true then b else b++ [44])
  have h3:(if first=true then b else b++ [44]).length≤b.length+1:=by split<;>simp
  rw[QdY];omega
theorem Qio{w:Tx→J→Tx}{ks:List Tx}{l:List J}:∀(P:List Nat) (first:Bool) (b:Tx),(∀i∈P,∀b,(w b (l.getD i J.zero)).length+1≤b.length+32*wt (l.getD i J.zero))→
  (Qgf w ks l first b P).length≤b.length+(P.map fun i=>32*wt (l.getD i J.zero)+6*(ks.getD i []).length+4).sum
 | [],_,b,_=>by simp[Qgf]
 |j::P,first,b,h=>by
  unfold Qgf
  have h1:=Qio (ks:=ks) P false (w ((if first=true then b else b++ [44])++QaG (ks.getD j [])++ [58]) (l.getD j J.zero)) fun y hy=>h y (List.mem_cons_of_mem _ hy)
  have h2:=h j (by simp) ((if first=true then b else b++ [44])++QaG (ks.getD j [])++ [58])
  have h3:(if first=true then b else b++ [44]).length≤b.length+1:=by split<;>simp
  have h4:=Qe8 (ks.getD j [])
  simp only[List.length_append,List.length_singleton]at h2
  rw[List.map_cons,List.sum_cons];omega
theorem Qkt:∀(f:J→Nat) (g:Tx→Nat) (ks:List Tx) (l:List J) (P:List Nat),(P.map fun i=>32*f (l.getD i J.zero)+6*g (ks.getD i [])+4).sum=32*(P.map fun i=>f (l.getD i J.zero)).sum+6*(P.map fun i=>g (ks.getD i [])).sum+4*P.length
 |f,g,ks,l,[]=>rfl
 |f,g,ks,l,i::P=>by
  have:=Qkt f g ks l P
  simp only[List.map_cons,List.sum_cons,List.length_cons,this];omega
theorem Qgc:∀l:List J,(l.map wt).sum=wts l
 | []=>rfl
 |a::l=>by rw[List.map_cons,List.sum_cons,Qgc l,QdY]
theorem QkQ:∀ks:List Tx,(ks.map List.length).sum+ks.length=(ks.map fun k=>k.length+1).sum
 | []=>rfl
 |a::l=>by have:=QkQ l;simp only[List.map_cons,List.sum_cons,List.length_cons]at*;omega
theorem Qe2{j:J}(h:Qas j=true)(h2:j.k=2): -9007199254740991≤j.n∧j.n≤9007199254740991:=by
 unfold Qas at h
 rw[if_neg (by omega),if_neg (by omega),if_pos h2]at h
 simp only[Bool.and_eq_true,decide_eq_true_eq]at h
 exact⟨h.1.2,h.2⟩
theorem QbZ{j:J}(h:Qas j=true)(h5:j.k=5):j.ks.length=j.l.length∧j.ks.Nodup:=by
 unfold Qas at h
 rw[if_neg (by omega),if_neg (by omega),if_neg (by omega),if_neg (by omega),if_neg (by omega),if_pos h5]at h
 simp only[Bool.and_eq_true,decide_eq_true_eq,QbE]at h
 exact⟨h.1.1.1,h.2.2⟩
theorem Qc0:∀(f:Nat) (b:Tx) (j:J),goodB f j=true→(QaM f b j).length+1≤b.length+32*wt j
 |0,_,_,h=>by cases h
 |f+1,b,j,h=>by
  obtain⟨hs,ha⟩:=Bool.and_eq_true_iff.1 (show(Qas j&&j.l.all (goodB f))=true from h)
  have hall:∀y∈j.l,goodB f y=true:=fun y hy=>List.all_eq_true.1 ha y hy
  have hw:=Qe1 j
  unfold QaM
  split
  ·omega
  split
  ·rw[List.length_append];split<;>simp<;>omega
  split
  ·rename_i h2
   obtain⟨r1,r2⟩:=Qe2 hs h2
   have:=itoa_len r1 r2
   rw[List.length_append];omega
  split
  ·have:=Qe8 j.t
   rw[List.length_append];omega
  split
  ·have:=QfU (w:=QaM f) j.l true (b++ [91]) fun y hy b=>Qc0 f b y (hall y hy)
   simp only[List.length_append,List.length_singleton]at this⊢;omega
  split
  ·rename_i h5
   obtain⟨hl,hd⟩:=QbZ hs h5
   have h1:=Qio (w:=QaM f) (ks:=j.ks) (l:=j.l) (Qay j.ks) true (b++ [123]) fun i hi b=>Qc0 f b _ (hall _ (by
    have:=QbH hi
    simp only[List.getD,List.getElem?_eq_getElem (show i<j.l.length by omega),Option.getD_some]
    exact List.getElem_mem _))
   rw[Qkt wt List.length,Qf1 ((Qa6 j.ks).map fun i=>wt (j.l.getD i J.zero)),Qf1 ((Qa6 j.ks).map fun i=>(j.ks.getD i []).length),Qa4]at h1
   have e1:(List.range j.ks.length).map (fun i=>wt (j.l.getD i J.zero))=j.l.map wt:=by
    rw[hl,show(fun i=>wt (j.l.getD i J.zero))=wt∘(fun i=>j.l.getD i J.zero)from rfl,←List.map_map,QbO]
   have e2:(List.range j.ks.length).map (fun i=>(j.ks.getD i []).length)=j.ks.map List.length:=by
    rw[show(fun i=>(j.ks.getD i []).length)=List.length∘(fun i=>j.ks.getD i [])from rfl,←List.map_map,QbO]
   rw[e1,e2,Qgc]at h1
   have h3:=QkQ j.ks
   simp only[List.length_append,List.length_singleton]at h1⊢
   omega
  ·simp only[List.length_append,List.length_cons,List.length_nil];omega
def Rel(r e:Tx):Prop:=r=e∨(16384<r.length∧16384<e.length)
theorem Rel.app{r e:Tx}(h:Rel r e)(x:Tx):Rel (r++x) (e++x):=by
 rcases h with rfl|⟨h1,h2⟩
 ·exact .inl rfl
 ·exact .inr ⟨by rw[List.length_append];omega,by rw[List.length_append];omega⟩
def QaY(E:List Tx):Tx:=E.flatMap fun e=>44::e
theorem QcJ:∀(a:Tx) (E:List Tx),commas (a::E)=a++QaY E
 |a,[]=>by simp[commas,QaY]
 |a,b::E=>by
  show a++44::commas (b::E)=a++QaY (b::E)
  rw[QcJ b E];simp[QaY]
theorem Qi4{w:Tx→J→Tx}{enc:J→Tx}(hg:∀b j,b.length≤(w b j).length):∀(l:List J) (b:Tx),(∀y∈l,∀b,Rel (w b y) (b++enc y))→Rel (QcQ w false b l) (b++QaY (l.map enc))
 | [],b,_=> .inl (by simp[QcQ,QaY])
 |j::l,b,h=>by
  unfold QcQ
  rw[if_neg (by simp)]
  have h1:=h j (by simp) (b++ [44])
  have e:b++QaY ((j::l).map enc)=(b++ [44]++enc j)++QaY (l.map enc):=by simp[QaY]
  rw[e]
  rcases h1 with h1|⟨h1,h2⟩
  ·rw[h1]
   exact Qi4 hg l _ fun y hy=>h y (List.mem_cons_of_mem _ hy)
  ·have h3:=QfV hg l false (w (b++ [44]) j)
   exact .inr ⟨by omega,by rw[List.length_append];omega⟩
theorem Qlr{w:Tx→J→Tx}{enc:J→Tx}(hg:∀b j,b.length≤(w b j).length){ks:List Tx}{l:List J}:∀(P:List Nat) (b:Tx),(∀i∈P,∀b,Rel (w b (l.getD i J.zero)) (b++enc (l.getD i J.zero)))→
  Rel (Qgf w ks l false b P) (b++QaY (P.map fun i=>QbS (ks.getD i []) (enc (l.getD i J.zero))))
 | [],b,_=> .inl (by simp[Qgf,QaY])
 |j::P,b,h=>by
  unfold Qgf
  rw[if_neg (by simp)]
  have h1:=h j (by simp) (b++ [44]++QaG (ks.getD j [])++ [58])
  have e:b++QaY ((j::P).map fun i=>QbS (ks.getD i []) (enc (l.getD i J.zero)))=(b++ [44]++QaG (ks.getD j [])++ [58]++enc (l.getD j J.zero))++QaY (P.map fun i=>QbS (ks.getD i []) (enc (l.getD i J.zero))):=by simp[QaY,QbS]
  rw[e]
  rcases h1 with h1|⟨h1,h2⟩
  ·rw[h1]
   exact Qlr hg P _ fun y hy=>h y (List.mem_cons_of_mem _ hy)
  ·have h3:=Qip hg (ks:=ks) (l:=l) P false (w (b++ [44]++QaG (ks.getD j [])++ [58]) (l.getD j J.zero))
   exact .inr ⟨by omega,by rw[List.length_append];omega⟩
theorem Qnm{α β γ δ:Type}(f:β→γ→δ)(g:α→β)(h:α→γ):∀P:List α,List.zipWith f (P.map g) (P.map h)=P.map fun i=>f (g i) (h i)
 | []=>rfl
 |a::P=>by simp[Qnm f g h P]
theorem Qdy:∀(f:Nat) (b:Tx) (j:J),goodB f j=true→Rel (QaM f b j) (b++QaT (Qah j))
 |0,_,_,h=>by cases h
 |f+1,b,j,h=>by
  obtain⟨hs,ha⟩:=Bool.and_eq_true_iff.1 (show(Qas j&&j.l.all (goodB f))=true from h)
  have hall:∀y∈j.l,goodB f y=true:=fun y hy=>List.all_eq_true.1 ha y hy
  have hk:(Qah j).k=j.k∧(Qah j).n=j.n∧(Qah j).t=j.t:=by
   rw[QcA];split<;>exact⟨rfl,rfl,rfl⟩
  rw[QcH,hk.1,hk.2.1,hk.2.2]
  unfold QaM
  by_cases hb:16384<b.length
  ·rw[if_pos hb]
   exact .inr ⟨hb,by rw[List.length_append];omega⟩
  rw[if_neg hb]
  split
  ·exact .inl rfl
  split
  ·exact .inl rfl
  split
  ·exact .inl rfl
  split
  ·rename_i h4
   have e:(Qah j).l=j.l.map Qah:=by rw[QcA,if_neg (by omega)];rfl
   rw[e,List.map_map]
   cases hl:j.l with
   |nil=>exact .inl (by simp[QcQ,commas])
   |cons y l=>
    have hy:∀z∈y::l,goodB f z=true:=by rw[←hl];exact hall
    rw[List.map_cons,QcJ]
    have h1:=Qdy f (b++ [91]) y (hy y (by simp))
    have e:b++91::(((QaT∘Qah) y++QaY (l.map (QaT∘Qah)))++ [93])=((b++ [91]++QaT (Qah y))++QaY (l.map (QaT∘Qah)))++ [93]:=by simp
    rw[e]
    refine Rel.app ?_ _
    unfold QcQ
    rw[if_pos rfl]
    rcases h1 with h1|⟨h1,h2⟩
    ·rw[h1]
     exact Qi4 (Qc1 f) l _ fun z hz b=>Qdy f b z (hy z (List.mem_cons_of_mem _ hz))
    ·have h3:=QfV (Qc1 f) l false (QaM f (b++ [91]) y)
     exact .inr ⟨by omega,by rw[List.length_append];omega⟩
  split
  ·rename_i h5
   obtain⟨hlen,hd⟩:=QbZ hs h5
   have e1:(Qah j).ks=(Qay j.ks).map fun i=>j.ks.getD i []:=by rw[QcA,if_pos h5];rfl
   have e2:(Qah j).l=(Qay j.ks).map fun i=>(j.l.map Qah).getD i J.zero:=by rw[QcA,if_pos h5];rfl
   have e3:(Qah j).l.map QaT=(Qay j.ks).map fun i=>QaT (Qah (j.l.getD i J.zero)):=by
    rw[e2,List.map_map]
    apply List.map_congr_left
    intro i hi
    have:=QbH hi
    show QaT ((j.l.map Qah).getD i J.zero)=_
    rw[getD_map Qah j.l (by omega) J.zero]
   rw[e1,e3,Qnm]
   have hm:∀i∈Qay j.ks,goodB f (j.l.getD i J.zero)=true:=fun i hi=>hall _ (by
    have:=QbH hi
    simp only[List.getD,List.getElem?_eq_getElem (show i<j.l.length by omega),Option.getD_some]
    exact List.getElem_mem _)
   generalize Qay j.ks=P at hm⊢
   cases P with
   |nil=>exact .inl (by simp[Qgf,commas])
   |cons y P=>
    rw[List.map_cons,QcJ]
    have h1:=Qdy f (b++ [123]++QaG (j.ks.getD y [])++ [58]) (j.l.getD y J.zero) (hm y (by simp))
    have e:b++123::((QbS (j.ks.getD y []) (QaT (Qah (j.l.getD y J.zero)))++QaY (P.map fun i=>QbS (j.ks.getD i []) (QaT (Qah (j.l.getD i J.zero)))))++ [125])=
     ((b++ [123]++QaG (j.ks.getD y [])++ [58]++QaT (Qah (j.l.getD y J.zero)))++QaY (P.map fun i=>QbS (j.ks.getD i []) (QaT (Qah (j.l.getD i J.zero)))))++ [125]:=by simp[QbS]
    rw[e]
    refine Rel.app ?_ _
    unfold Qgf
    rw[if_pos rfl]
    rcases h1 with h1|⟨h1,h2⟩
    ·rw[h1]
     exact Qlr (enc:=fun j=>QaT (Qah j)) (Qc1 f) P _ fun z hz b=>Qdy f b _ (hm z (List.mem_cons_of_mem _ hz))
    ·have h3:=Qip (Qc1 f) (ks:=j.ks) (l:=j.l) P false (QaM f (b++ [123]++QaG (j.ks.getD y [])++ [58]) (j.l.getD y J.zero))
     exact .inr ⟨by omega,by rw[List.length_append];omega⟩
  ·exact .inl rfl
def QcY(j:J):Except Nat Tx:=if goodB 12 j then(if 16384<(QaT (Qah j)).length then .error 13 else .ok (QaT (Qah j)))else .error 1
theorem QjZ{j:J}(h:goodB 12 j=true):QcY j=if 16384<(QaM 12 [] j).length then .error 13 else .ok (QaM 12 [] j):=by
 unfold QcY
 rw[if_pos h]
 have:=Qdy 12 [] j h
 rw[List.nil_append]at this
 rcases this with h1|⟨h1,h2⟩
 ·rw[h1]
 ·rw[if_pos h1,if_pos h2]
theorem J.ext{a b:J}(h1:a.k=b.k)(h2:a.n=b.n)(h3:a.t=b.t)(h4:a.ks=b.ks)(h5:a.l=b.l):a=b:=by
 obtain⟨k,n,t,ks,l⟩:=a
 obtain⟨k',n',t',ks',l'⟩:=b
 simp only[J.k,J.n,J.t,J.ks,J.l]at h1 h2 h3 h4 h5
 subst h1 h2 h3 h4 h5;rfl
def sJ(a b:J):Bool:=D.beq a.d b.d
def digF:Nat→Nat→Tx→Tx
 |0,_,s=>s
 |f+1,n,s=>if s= []∨0<n then digF f (n/10) (UInt8.ofNat (48+n % 10)::s)else s
end Go.Proofs.YtmhmjlfajlpabaaDoor
namespace Go.Proofs.YtmhmjlfajlpabaaDoor
open Go Go.Abs Go.Lib
abbrev hexs:Tx:= [48,49,50,51,52,53,54,55,56,57,97,98,99,100,101,102]
theorem hex_at:∀n:Fin 16,hexs[n.val]? =some (Qf6 n.val):=by decide
theorem QoJ{s:Tx}{i:Nat}{c:UInt8}(h:s[i]? =some c):(s.take i).flatMap QbP++QbP c=(s.take (i+1)).flatMap QbP:=by
 rw[List.take_add_one,h];simp
end Go.Proofs.YtmhmjlfajlpabaaDoor
namespace Go.Proofs.YtmhmjlfajlpabaaDoor
open Go Go.Abs
def TxtOK:Nat→J→Prop
 |0,_=>False
 |n+1,j=>(j.k=2→-9007199254740991≤j.n∧j.n≤9007199254740991)∧(j.k=5→j.ks.length=j.l.length)∧∀y∈j.l,TxtOK n y
end Go.Proofs.YtmhmjlfajlpabaaDoor
namespace Go.Proofs.YtmhmjlfajlpabaaDoor
open Go Go.Abs Go.Lib
def doneR(n:Nat)(Q:List Nat):List AV:=(List.range n).map fun p=>boolD (Q.contains p)
def Least(ks:List Tx)(Q:List Nat)(q:Nat)(m:Int):Prop:=
 (m= -1∧∀p,p<q→p∈Q)∨∃p0:Nat,m=p0∧p0<q∧p0∉Q∧∀p,p<q→p∉Q→¬Qdb ks p<Qdb ks p0
end Go.Proofs.YtmhmjlfajlpabaaDoor
