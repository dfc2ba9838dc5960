/- Part 7. -/
import Derived.Test.YtmhmjlfajlpabaaDoorPartF
import Derived.Test.YtmhmjlfajlpabaaDoorRows
import Derived.Lib.LaidU8T
import Derived.Lib.LaidTab
import Derived.Lib.ItoaNum
import Derived.KernelRfl
import Derived.Test.YtmhmjlfajlpabaaDoorChecked
import Derived.Shelf.SlSortCmp.NoneTotal
import Derived.WalkKit
import Derived.Deep.QuietTactic
import Derived.BigQuiet
import Derived.Lib.Walk
import Derived.Lib.Strings
import Derived.Lib.Slices
import Derived.Lib.SortBridge
import Derived.Shelf.Strconv.Itoa1
import Derived.Shelf.Strconv.Itoa2
import Derived.Shelf.Small.Bits
import Derived.Lib.ItoaMem
import Derived.Shelf.Unicode.ValidAny
import Derived.Shelf.Unicode.DecodeAny
import Derived.Recover
import Derived.Test.YtmhmjlfajlpabaaDoorProg
set_option linter.all false
set_option maxRecDepth 100000
namespace Go.Proofs.YtmhmjlfajlpabaaDoor
open Go Go.Abs
section
variable {lim:Nat} {H:Qaa} {r n:Nat} {s:Tx} {p:Nat} (x:Nat→AV)
theorem v41_0:V (QaF code QaH) (Qcl code pf QaH (fun _=>none)) lim q41_0 ⟨[.ptr r 0,x 1,x 2,x 3,x 4,x 5,x 6,x 7,x 8,x 9,x 10,x 11,x 12,x 13,x 14,x 15,x 16,x 17,x 18,x 19,x 20,x 21,x 22,x 23,x 24,x 25,x 26,x 27,x 28,x 29,x 30,x 31,x 32,x 33,x 34,x 35,x 36,x 37,x 38,x 39,x 40,x 41,x 42,x 43,x 44,x 45,x 46,x 47,x 48,x 49,x 50,x 51,x 52,x 53,x 54,x 55,x 56,x 57,x 58,x 59,x 60,x 61,x 62],H⟩ (fun e st=>e= .normal∧∃x:Nat→AV,st=⟨[.ptr r 0,x 1,x 2,x 3,x 4,x 5,x 6,x 7,x 8,x 9,x 10,x 11,x 12,x 13,x 14,x 15,x 16,x 17,x 18,x 19,x 20,x 21,x 22,x 23,x 24,x 25,x 26,x 27,x 28,x 29,x 30,x 31,x 32,x 33,x 34,x 35,x 36,x 37,x 38,x 39,x 40,x 41,x 42,x 43,x 44,x 45,x 46,x 47,x 48,x 49,x 50,x 51,x 52,x 53,x 54,x 55,x 56,x 57,x 58,x 59,x 60,x 61,x 62],H⟩) (fun _=>False):=by
 unfold q41_0
 refine v_r trivial ?_
 exact⟨by first|exact trivial|exact rfl,Qam _ _ _ rfl⟩
theorem v41_1(gr:H[r]? =some (rdO s p))(hl:lim≤r)(hs:s.length≤16384)(hp:p≤s.length):V (QaF code QaH) (Qcl code pf QaH (fun _=>none)) lim q41_1 ⟨[.ptr r 0,x 1,x 2,x 3,x 4,x 5,x 6,x 7,x 8,x 9,x 10,x 11,x 12,x 13,x 14,x 15,x 16,x 17,x 18,x 19,x 20,x 21,x 22,x 23,x 24,x 25,x 26,x 27,x 28,x 29,x 30,x 31,x 32,x 33,x 34,x 35,x 36,x 37,x 38,x 39,x 40,x 41,x 42,x 43,x 44,x 45,x 46,x 47,x 48,x 49,x 50,x 51,x 52,x 53,x 54,x 55,x 56,x 57,x 58,x 59,x 60,x 61,x 62],H⟩
  (fun e st=>e= .normal∧Qcb s 34 p= .ok (p+1)∧∃x:Nat→AV,st=⟨[.ptr r 0,x 1,x 2,x 3,x 4,x 5,x 6,x 7,x 8,x 9,x 10,x 11,x 12,x 13,x 14,x 15,x 16,x 17,x 18,x 19,x 20,x 21,x 22,x 23,x 24,x 25,x 26,x 27,x 28,x 29,x 30,x 31,x 32,x 33,x 34,x 35,x 36,x 37,x 38,x 39,x 40,x 41,x 42,x 43,x 44,x 45,x 46,x 47,x 48,x 49,x 50,x 51,x 52,x 53,x 54,x 55,x 56,x 57,x 58,x 59,x 60,x 61,x 62],H.set r (rdO s (p+1))⟩) (fun z=>Qcb s 34 p= .error (11,p)∧z=QdB 11 p):=by
 unfold q41_1
 rcases Qcq s 34 p with⟨h1,h2⟩|⟨h1,h2⟩
 ·have ew:Ev (QaF code QaH) 57 lim [.ptr r 0,.d (.int .u8 34)] H (.tuple []) _:=Qim (pr:=QaH) lim H r s p 34 gr hl hs h1
  (apply QaX;focus(refine Evl.call (X:=(QaF code QaH)) (ew) (Evl.all fun k e1=> ?_);simp(maxSteps:=100000000) only[zz,zd,simprocAttr,e1];(first|done|with_reducible exact rfl)))<;>(try simp only[zp,simprocAttr])
  exact⟨by first|exact trivial|exact rfl,h2,Qam _ _ _ rfl⟩
 ·refine Qan ?_;apply Qbq 1;(focus(intro _;simp only[zz,simprocAttr];(first|done|with_reducible exact rfl)));simp only[List.drop_succ_cons,List.drop_zero];refine QaD rfl ?_;simp only[zz,simprocAttr]
  exact EvP.fv (Qin (pr:=QaH) lim H r s p 34 gr hp h1) ⟨h2,rfl⟩
theorem v41_3(gr:H[r]? =some (rdO s p))(hp:p≤s.length):V (QaF code QaH) (Qcl code pf QaH (fun _=>none)) lim q41_3 ⟨[.ptr r 0,x 1,x 2,.ptr n 0,x 4,x 5,x 6,x 7,x 8,x 9,x 10,x 11,x 12,x 13,x 14,x 15,x 16,x 17,x 18,x 19,x 20,x 21,x 22,x 23,x 24,x 25,x 26,x 27,x 28,x 29,x 30,x 31,x 32,x 33,x 34,x 35,x 36,x 37,x 38,x 39,x 40,x 41,x 42,x 43,x 44,x 45,x 46,x 47,x 48,x 49,x 50,x 51,x 52,x 53,x 54,x 55,x 56,x 57,x 58,x 59,x 60,x 61,x 62],H⟩
  (fun e st=>e= .normal∧∃x:Nat→AV,st=⟨[.ptr r 0,x 1,x 2,.ptr n 0,.d (.int .u8 (nx s p).toNat),x 5,x 6,x 7,x 8,x 9,x 10,x 11,x 12,x 13,x 14,x 15,x 16,x 17,x 18,x 19,x 20,x 21,x 22,x 23,x 24,x 25,x 26,x 27,x 28,x 29,x 30,x 31,x 32,x 33,x 34,x 35,x 36,x 37,x 38,x 39,x 40,x 41,x 42,x 43,x 44,x 45,x 46,x 47,x 48,x 49,x 50,x 51,x 52,x 53,x 54,x 55,x 56,x 57,x 58,x 59,x 60,x 61,x 62],H⟩) (fun _=>False):=by
 unfold q41_3
 (apply QaX;focus(refine Evl.call (X:=(QaF code QaH)) (Qbo lim H r s p gr hp) (Evl.all fun k e1=> ?_);simp(maxSteps:=100000000) only[zz,zd,simprocAttr,e1];(first|done|with_reducible exact rfl)))<;>(try simp only[zp,simprocAttr])
 exact⟨by first|exact trivial|exact rfl,Qam _ _ _ rfl⟩
theorem v41_6(gr:H[r]? =some (rdO s p))(c:UInt8)(b:Bool)(hb:b=(decide (p=s.length)||decide (c.toNat<32))):V (QaF code QaH) (Qcl code pf QaH (fun _=>none)) lim q41_6 ⟨[.ptr r 0,x 1,x 2,.ptr n 0,.d (.int .u8 c.toNat),x 5,x 6,x 7,x 8,x 9,x 10,x 11,x 12,x 13,x 14,x 15,x 16,x 17,x 18,x 19,x 20,x 21,x 22,x 23,x 24,x 25,x 26,x 27,x 28,x 29,x 30,x 31,x 32,x 33,x 34,x 35,x 36,x 37,x 38,x 39,x 40,x 41,x 42,x 43,x 44,x 45,x 46,x 47,x 48,x 49,x 50,x 51,x 52,x 53,x 54,x 55,x 56,x 57,x 58,x 59,x 60,x 61,x 62],H⟩
  (fun e st=>e= .normal∧∃x:Nat→AV,st=⟨[.ptr r 0,x 1,x 2,.ptr n 0,.d (.int .u8 c.toNat),x 5,x 6,x 7,x 8,x 9,x 10,x 11,x 12,x 13,x 14,x 15,x 16,x 17,boolD b,x 19,x 20,x 21,x 22,x 23,x 24,x 25,x 26,x 27,x 28,x 29,x 30,x 31,x 32,x 33,x 34,x 35,x 36,x 37,x 38,x 39,x 40,x 41,x 42,x 43,x 44,x 45,x 46,x 47,x 48,x 49,x 50,x 51,x 52,x 53,x 54,x 55,x 56,x 57,x 58,x 59,x 60,x 61,x 62],H⟩) (fun _=>False):=by
 unfold q41_6
 have e:decide ((c.toNat:Int)<32)=decide (c.toNat<32):=by rw[Bool.eq_iff_iff];simp;omega
 cases h1:decide (p=s.length)with
 |true=>
  rw[h1,Bool.true_or]at hb
  (apply Qih;focus(intro k;simp(maxSteps:=100000000) only[zz,zd,simprocAttr,gr,QiA,h1];(first|done|with_reducible exact rfl)))<;>(try simp only[zp,simprocAttr])
  rw[hb]
  exact⟨by first|exact trivial|exact rfl,Qam _ _ _ rfl⟩
 |false=>
  rw[h1,Bool.false_or]at hb
  (apply Qih;focus(intro k;simp(maxSteps:=100000000) only[zz,zd,simprocAttr,gr,QiA,h1,e];(first|done|with_reducible exact rfl)))<;>(try simp only[zp,simprocAttr])
  rw[hb]
  exact⟨by first|exact trivial|exact rfl,Qam _ _ _ rfl⟩
theorem v41_7(gr:H[r]? =some (rdO s p))(c:UInt8)(b:Bool):V (QaF code QaH) (Qcl code pf QaH (fun _=>none)) lim q41_7 ⟨[.ptr r 0,x 1,x 2,.ptr n 0,.d (.int .u8 c.toNat),x 5,x 6,x 7,x 8,x 9,x 10,x 11,x 12,x 13,x 14,x 15,x 16,x 17,boolD b,x 19,x 20,x 21,x 22,x 23,x 24,x 25,x 26,x 27,x 28,x 29,x 30,x 31,x 32,x 33,x 34,x 35,x 36,x 37,x 38,x 39,x 40,x 41,x 42,x 43,x 44,x 45,x 46,x 47,x 48,x 49,x 50,x 51,x 52,x 53,x 54,x 55,x 56,x 57,x 58,x 59,x 60,x 61,x 62],H⟩ (fun _ _=>False) (fun z=>z=QdB 11 p):=by
 unfold q41_7
 refine Qan ?_;apply Qbq 5;(focus(intro _;simp only[zz,simprocAttr,gr];(first|done|with_reducible exact rfl)));simp only[List.drop_succ_cons,List.drop_zero];refine QaD rfl ?_;simp only[zz,simprocAttr]
 exact EvP.fv (Qa9 (pr:=QaH) lim H r 11 p) rfl
theorem v41_8(c:UInt8)(b b':Bool)(hb:((c.toNat:Int)==34)=b'):V (QaF code QaH) (Qcl code pf QaH (fun _=>none)) lim q41_8 ⟨[.ptr r 0,x 1,x 2,.ptr n 0,.d (.int .u8 c.toNat),x 5,x 6,x 7,x 8,x 9,x 10,x 11,x 12,x 13,x 14,x 15,x 16,x 17,boolD b,x 19,x 20,x 21,x 22,x 23,x 24,x 25,x 26,x 27,x 28,x 29,x 30,x 31,x 32,x 33,x 34,x 35,x 36,x 37,x 38,x 39,x 40,x 41,x 42,x 43,x 44,x 45,x 46,x 47,x 48,x 49,x 50,x 51,x 52,x 53,x 54,x 55,x 56,x 57,x 58,x 59,x 60,x 61,x 62],H⟩
  (fun e st=>e= .normal∧∃x:Nat→AV,st=⟨[.ptr r 0,x 1,x 2,.ptr n 0,.d (.int .u8 c.toNat),x 5,x 6,x 7,x 8,x 9,x 10,x 11,x 12,x 13,x 14,x 15,x 16,x 17,x 18,x 19,x 20,x 21,x 22,x 23,x 24,x 25,x 26,x 27,x 28,x 29,x 30,x 31,x 32,x 33,x 34,x 35,x 36,x 37,x 38,boolD b',x 40,x 41,x 42,x 43,x 44,x 45,x 46,x 47,x 48,x 49,x 50,x 51,x 52,x 53,x 54,x 55,x 56,x 57,x 58,x 59,x 60,x 61,x 62],H⟩) (fun _=>False):=by
 unfold q41_8
 refine v_r hb ?_
 exact⟨by first|exact trivial|exact rfl,Qam _ _ _ rfl⟩
theorem v41_11(c:UInt8)(b b':Bool)(hb:((c.toNat:Int)==92)=b'):V (QaF code QaH) (Qcl code pf QaH (fun _=>none)) lim QnS ⟨[.ptr r 0,x 1,x 2,.ptr n 0,.d (.int .u8 c.toNat),x 5,x 6,x 7,x 8,x 9,x 10,x 11,x 12,x 13,x 14,x 15,x 16,x 17,x 18,x 19,x 20,x 21,x 22,x 23,x 24,x 25,x 26,x 27,x 28,x 29,x 30,x 31,x 32,x 33,x 34,x 35,x 36,x 37,x 38,boolD b,x 40,x 41,x 42,x 43,x 44,x 45,x 46,x 47,x 48,x 49,x 50,x 51,x 52,x 53,x 54,x 55,x 56,x 57,x 58,x 59,x 60,x 61,x 62],H⟩
  (fun e st=>e= .normal∧∃x:Nat→AV,st=⟨[.ptr r 0,x 1,x 2,.ptr n 0,.d (.int .u8 c.toNat),x 5,x 6,x 7,x 8,x 9,x 10,x 11,x 12,x 13,x 14,x 15,x 16,x 17,x 18,x 19,x 20,x 21,x 22,x 23,x 24,x 25,x 26,x 27,x 28,x 29,x 30,x 31,x 32,x 33,x 34,x 35,x 36,x 37,x 38,x 39,x 40,x 41,x 42,x 43,x 44,x 45,x 46,x 47,x 48,x 49,boolD b',x 51,x 52,x 53,x 54,x 55,x 56,x 57,x 58,x 59,x 60,x 61,x 62],H⟩) (fun _=>False):=by
 unfold QnS
 refine v_r hb ?_
 exact⟨by first|exact trivial|exact rfl,Qam _ _ _ rfl⟩
theorem v41_9(gr:H[r]? =some (rdO s p))(hl:lim≤r)(hp:p<100000):V (QaF code QaH) (Qcl code pf QaH (fun _=>none)) lim q41_9 ⟨[.ptr r 0,x 1,x 2,.ptr n 0,x 4,x 5,x 6,x 7,x 8,x 9,x 10,x 11,x 12,x 13,x 14,x 15,x 16,x 17,x 18,x 19,x 20,x 21,x 22,x 23,x 24,x 25,x 26,x 27,x 28,x 29,x 30,x 31,x 32,x 33,x 34,x 35,x 36,x 37,x 38,x 39,x 40,x 41,x 42,x 43,x 44,x 45,x 46,x 47,x 48,x 49,x 50,x 51,x 52,x 53,x 54,x 55,x 56,x 57,x 58,x 59,x 60,x 61,x 62],H⟩
  (fun e st=>e= .normal∧∃x:Nat→AV,st=⟨[.ptr r 0,x 1,x 2,.ptr n 0,x 4,x 5,x 6,x 7,x 8,x 9,x 10,x 11,x 12,x 13,x 14,x 15,x 16,x 17,x 18,x 19,x 20,x 21,x 22,x 23,x 24,x 25,x 26,x 27,x 28,x 29,x 30,x 31,x 32,x 33,x 34,x 35,x 36,x 37,x 38,x 39,x 40,x 41,x 42,x 43,x 44,x 45,x 46,x 47,x 48,x 49,x 50,x 51,x 52,x 53,x 54,x 55,x 56,x 57,x 58,x 59,x 60,x 61,x 62],H.set r (rdO s (p+1))⟩) (fun _=>False):=by
 unfold q41_9
 have wp:IntKind.i64.wrap ((p:Int)+1)=((p+1:Nat):Int):=Qkl hp
 refine v_r (j_ gr (j_ wp hl)) ?_
 exact⟨by first|exact trivial|exact rfl,Qam _ _ _ rfl⟩
theorem v41_12(gr:H[r]? =some (rdO s p))(hl:lim≤r)(hp:p<100000):V (QaF code QaH) (Qcl code pf QaH (fun _=>none)) lim QnR ⟨[.ptr r 0,x 1,x 2,.ptr n 0,x 4,x 5,x 6,x 7,x 8,x 9,x 10,x 11,x 12,x 13,x 14,x 15,x 16,x 17,x 18,x 19,x 20,x 21,x 22,x 23,x 24,x 25,x 26,x 27,x 28,x 29,x 30,x 31,x 32,x 33,x 34,x 35,x 36,x 37,x 38,x 39,x 40,x 41,x 42,x 43,x 44,x 45,x 46,x 47,x 48,x 49,x 50,x 51,x 52,x 53,x 54,x 55,x 56,x 57,x 58,x 59,x 60,x 61,x 62],H⟩
  (fun e st=>e= .normal∧∃x:Nat→AV,st=⟨[.ptr r 0,x 1,x 2,.ptr n 0,x 4,x 5,x 6,x 7,x 8,x 9,x 10,x 11,x 12,x 13,x 14,x 15,x 16,x 17,x 18,x 19,x 20,x 21,x 22,x 23,x 24,x 25,x 26,x 27,x 28,x 29,x 30,x 31,x 32,x 33,x 34,x 35,x 36,x 37,x 38,x 39,x 40,x 41,x 42,x 43,x 44,x 45,x 46,x 47,x 48,x 49,x 50,x 51,x 52,x 53,x 54,x 55,x 56,x 57,x 58,x 59,x 60,x 61,x 62],H.set r (rdO s (p+1))⟩) (fun _=>False):=by
 unfold QnR
 have wp:IntKind.i64.wrap ((p:Int)+1)=((p+1:Nat):Int):=Qkl hp
 refine v_r (j_ gr (j_ wp hl)) ?_
 exact⟨by first|exact trivial|exact rfl,Qam _ _ _ rfl⟩
theorem v41_5(gr:H[r]? =some (rdO s p))(hl:lim≤r)(hp:p<100000):V (QaF code QaH) (Qcl code pf QaH (fun _=>none)) lim q41_5 ⟨[.ptr r 0,x 1,x 2,.ptr n 0,x 4,x 5,x 6,x 7,x 8,x 9,x 10,x 11,x 12,x 13,x 14,x 15,x 16,x 17,x 18,x 19,x 20,x 21,x 22,x 23,x 24,x 25,x 26,x 27,x 28,x 29,x 30,x 31,x 32,x 33,x 34,x 35,x 36,x 37,x 38,x 39,x 40,x 41,x 42,x 43,x 44,x 45,x 46,x 47,x 48,x 49,x 50,x 51,x 52,x 53,x 54,x 55,x 56,x 57,x 58,x 59,x 60,x 61,x 62],H⟩
  (fun e st=>e= .normal∧∃x:Nat→AV,st=⟨[.ptr r 0,x 1,x 2,.ptr n 0,x 4,x 5,x 6,x 7,x 8,x 9,x 10,x 11,x 12,x 13,x 14,x 15,x 16,x 17,x 18,x 19,x 20,x 21,x 22,x 23,x 24,x 25,x 26,x 27,x 28,x 29,x 30,x 31,x 32,x 33,x 34,x 35,x 36,x 37,x 38,x 39,x 40,x 41,x 42,x 43,x 44,x 45,x 46,x 47,x 48,x 49,x 50,x 51,x 52,x 53,x 54,x 55,x 56,x 57,x 58,x 59,x 60,x 61,x 62],H.set r (rdO s (p+1))⟩) (fun _=>False):=by
 unfold q41_5
 have wp:IntKind.i64.wrap ((p:Int)+1)=((p+1:Nat):Int):=Qkl hp
 refine v_r (j_ gr (j_ wp hl)) ?_
 exact⟨by first|exact trivial|exact rfl,Qam _ _ _ rfl⟩
end
end Go.Proofs.YtmhmjlfajlpabaaDoor
set_option maxHeartbeats 1000000
set_option linter.unusedVariables false
namespace Go.Proofs.YtmhmjlfajlpabaaDoor
open Go Go.Abs Go.Proofs Go.RowKit Go.Lib
structure TI (g0:Gh) (w0:World) (n b:Nat) (l:Tx) (g:Gh) (w:World):Prop where
 wf:WF g0 w0 g w
 hn:n<g.n
 rho:g.rho n=b
 b0:w0.heap.size≤b∧g.own b= .free∧g.bd b=0
 bld:∃row,Bld b l row w∧∀k,row=some k→w0.heap.size≤k∧g.own k= .free∧g.bd k=0
theorem Bld.lt{b:Nat}{l:Tx}{row:Option Nat}{w:World}(h:Bld b l row w):b<w.heap.size:=by
 obtain⟨p,v,_,h,_⟩:=h;exact h.lt
theorem Bld.row_lt{b:Nat}{l:Tx}{row:Option Nat}{w:World}(h:Bld b l row w){k:Nat}(hk:row=some k):k<w.heap.size:=by
 obtain⟨p,v,_,h,e⟩:=h;exact h.row_lt (e.trans hk)
theorem TI.step{g0:Gh}{w0:World}{n b:Nat}{l:Tx}{g g':Gh}{w w':World}(h:TI g0 w0 n b l g w)(hw:WF g w g' w'):TI g0 w0 n b l g' w':=by
 obtain⟨row,hb,hr⟩:=h.bld
 have i1:=hw.idle b hb.lt (.inl h.b0.2.1)
 refine⟨h.wf.trans hw,Nat.lt_of_lt_of_le h.hn hw.n,(hw.rho n h.hn).trans h.rho,⟨h.b0.1,i1.2.1.trans h.b0.2.1,i1.2.2.trans h.b0.2.2⟩,row,hb.kept i1.1 (fun k hk=>(hw.idle k (hb.row_lt hk) (.inl (hr k hk).2.1)).1),fun k hk=> ?_⟩
 have i2:=hw.idle k (hb.row_lt hk) (.inl (hr k hk).2.1)
 exact⟨(hr k hk).1,i2.2.1.trans (hr k hk).2.1,i2.2.2.trans (hr k hk).2.2⟩
theorem TI.use{g0:Gh}{w0:World}{H0 H:Qaa}(h0:HeapOK g0 H0 w0){n b:Nat}{l:Tx}{g:Gh}{w:World}(hH:HeapOK g H w)(h:TI g0 w0 n b l g w):
  ∃row,Bld b l row w∧(∀w',Mv b row w w'→Frn g w w'∧WF g0 w0 g w')∧∀w' l',Qpe b l' row w w'→Frn g w w'∧TI g0 w0 n b l' g w':=by
 obtain⟨row,hb,hr⟩:=h.bld
 have hm:∀w',Mv b row w w'→Frn g w w'∧WF g0 w0 g w':=fun w' hm=>by
  have hf:Frn g w w':=⟨hm.os,hm.tape,hm.output,hm.size,fun k hk ho=>hm.block k hk (fun e=>by
   subst e;rcases ho with ho|ho
   ·exact ho h.b0.2.1
   ·exact ho h.b0.2.2) (fun e=>by
   obtain⟨_,q1,q2⟩:=hr k e.symm
   rcases ho with ho|ho
   ·exact ho q1
   ·exact ho q2)⟩
  refine⟨hf,hf.wf h0 h.wf fun k hk=>hm.block k (Nat.lt_of_lt_of_le hk h.wf.size) (fun e=> ?_) (fun e=> ?_)⟩
  ·have:=h.b0.1;omega
  ·have:=(hr k e.symm).1;omega
 refine⟨row,hb,hm,fun w' l' hw=> ?_⟩
 obtain⟨row',hb',hmv,hrow⟩:=hw
 obtain⟨q1,q2⟩:=hm w' hmv
 refine⟨q1,q2,h.hn,h.rho,h.b0,row',hb',fun k hk=> ?_⟩
 rcases hrow with e|⟨k',e,hk'⟩
 ·exact hr k (e.symm.trans hk)
 ·rw[e]at hk;injection hk with hk;subst hk
  have:=hH.new k' hk'
  exact⟨Nat.le_trans h.wf.size hk',this⟩
theorem Inv.bool{g:Gh}{st:St}{a:Act}{w:World}(h:Inv g st a w){i:Nat}{b:Bool}(hT:st.T.getD i .undef=boolD b):a.eval (.tmp i)= .bool b:=by
 have:=(QbR h i).1
 rw[hT]at this
 show a.tmps.getD i undef=_
 generalize a.tmps.getD i undef=v at this
 cases this with
 |d _ _ h=>cases h;rfl
def opsOf:Code→Array Oper
 |.region _ ops _=>ops
 |_=> #[]
noncomputable def QaZ(c:Code)(i:Nat):Oper:=((opsOf c).toList[i]?).getD ⟨none,.move (.tmp 0),0, "",#[],none⟩
theorem b41_eq:b41= .seq p41_0 (.seq p41_1 (.seq p41_2 (.block 0 (.loop (.block 1 (.seq p41_3 (.block 2 (.seq p41_6 (.cond (.tmp 18) p41_7 (.seq p41_8 (.cond (.tmp 39) (.seq p41_9 (.seq Qdv .ret)) (.seq Qn3 (.cond (.tmp 50) (.seq Qn2 QbT) (.seq QgA p41_5)))))))))))))):=by kernel_rfl
theorem r2_eq:p41_2= .region 2 #[QaZ p41_2 0] false:=by kernel_rfl
theorem r2_op:QaZ p41_2 0=⟨some 3,.alloc 78,(QaZ p41_2 0).type,(QaZ p41_2 0).pos,(QaZ p41_2 0).after,none⟩:=by kernel_rfl
theorem r10_eq:Qdv= .region 10 #[QaZ Qdv 0,QaZ Qdv 1] false:=by kernel_rfl
theorem r13_eq:QbT= .region 13 #[QaZ QbT 0,QaZ QbT 1,QaZ QbT 2] false:=by kernel_rfl
theorem r4_eq:QgA= .region 4 #[QaZ QgA 0,QaZ QgA 1] false:=by kernel_rfl
theorem r2_wp{Q:Exit→Act→World→Prop}{a:Act}{w:World}(h:Q .normal (a.put (some 3) (.pointer (some ⟨w.heap.size,0,none⟩))) (w.alloc (.cells #[.pointer none,.slice none 0 0] 78))):p41_2.wp Tryd.prog Q a w:=by
 rw[r2_eq]
 refine wp_region_list ?_
 rw[r2_op]
 generalize(QaZ p41_2 0).pos=ps
 generalize(QaZ p41_2 0).type=ty
 generalize(QaZ p41_2 0).after=af
 go_wp2
 exact h
end Go.Proofs.YtmhmjlfajlpabaaDoor
set_option maxHeartbeats 1000000
set_option linter.unusedVariables false
namespace Go.Proofs.YtmhmjlfajlpabaaDoor
open Go Go.Abs Go.Proofs Go.RowKit Go.Lib
abbrev TS(r n:Nat)(x:Nat→AV):List AV:= [.ptr r 0,x 1,x 2,.ptr n 0,x 4,x 5,x 6,x 7,x 8,x 9,x 10,x 11,x 12,x 13,x 14,x 15,x 16,x 17,x 18,x 19,x 20,x 21,x 22,x 23,x 24,x 25,x 26,x 27,x 28,x 29,x 30,x 31,x 32,x 33,x 34,x 35,x 36,x 37,x 38,x 39,x 40,x 41,x 42,x 43,x 44,x 45,x 46,x 47,x 48,x 49,x 50,x 51,x 52,x 53,x 54,x 55,x 56,x 57,x 58,x 59,x 60,x 61,x 62]
abbrev TS4(r n:Nat)(c:UInt8)(x:Nat→AV):List AV:= [.ptr r 0,x 1,x 2,.ptr n 0,.d (.int .u8 c.toNat),x 5,x 6,x 7,x 8,x 9,x 10,x 11,x 12,x 13,x 14,x 15,x 16,x 17,x 18,x 19,x 20,x 21,x 22,x 23,x 24,x 25,x 26,x 27,x 28,x 29,x 30,x 31,x 32,x 33,x 34,x 35,x 36,x 37,x 38,x 39,x 40,x 41,x 42,x 43,x 44,x 45,x 46,x 47,x 48,x 49,x 50,x 51,x 52,x 53,x 54,x 55,x 56,x 57,x 58,x 59,x 60,x 61,x 62]
def TRes(g0:Gh)(w0:World)(H0:Qaa)(lim r:Nat)(s:Tx)(p:Nat)(e:Ending)(w':World):Prop:=
 (∃t q v g',Qcc s p= .ok (t,q)∧e= .returned v∧WF g0 w0 g' w'∧HeapOK g' (H0.set r (rdO s q)) w'∧VR g' w' (.d (.str t)) v)∨
 ∃er v g' H',Qcc s p= .error er∧e= .panicked [{ v:= .iface (QdB er.1 er.2).1 v,recovered:=false }]∧WF g0 w0 g' w'∧Ext lim H0 H'∧HeapOK g' H' w'∧VR g' w' (.d (QdB er.1 er.2).2) v
abbrev BP(g0:Gh)(w0:World)(H0:Qaa)(lim r:Nat)(s:Tx)(p:Nat):Exit→Act→World→Prop:=bodyPost Tryd.prog Tryd.f41 (TRes g0 w0 H0 lim r s p)
theorem chars_eq(s:Tx)(f:Nat)(acc:Tx)(p:Nat):QbG s (f+1) acc p=match s[p]? with
  |none=> .error (11,p)
  |some c=>
   if c.toNat<32 then .error (11,p)
   else if c=34 then .ok (acc,p+1)
   else if c=92 then match Qec s (p+1)with
    |.error e=> .error e
    |.ok (n,q)=>QbG s f (acc++QcU n) q
   else QbG s f (acc++ [c]) (p+1):=by
 conv=>lhs;unfold QbG
 rfl
theorem esc_rune{s:Tx}{p n q:Nat}(h:Qec s p= .ok (n,q)):Qgr n:=by
 unfold Qgr
 unfold Qec at h
 split at h
 ·cases h
 ·rename_i c hc
  have hl:=c.toNat_lt
  iterate 6 (split at h;·(have:=congrArg Prod.fst (Except.ok.inj h);simp only at this;omega))
  split at h
  ·split at h
   ·cases h
   ·rename_i n1 p1 h1
    have:=(Qg5 h1).1
    split at h
    ·have:=congrArg Prod.fst (Except.ok.inj h);simp only at this;omega
    ·split at h
     ·cases h
     ·split at h
      ·cases h
      ·rename_i n2 p2 h2
       have:=(Qg5 h2).1
       split at h
       ·cases h
       ·have:=congrArg Prod.fst (Except.ok.inj h);simp only at this;omega
  ·cases h
theorem QnO(n:Nat):(QcU n).length≤4:=by unfold QcU;(repeat' split)<;>simp
section
variable {g0:Gh} {w0:World} {H0:Qaa} {lim r:Nat} {s:Tx} {p:Nat}
theorem QkH{g:Gh}{w:World}{H:Qaa}(hw:WF g0 w0 g w)(hx:Ext lim H0 H){er:Nat×Nat}(he:Qcc s p= .error er):PanQ g w lim H (QdB er.1 er.2) (BP g0 w0 H0 lim r s p):=
 fun g' H' v a' w' k0 k1 kx k2 k3=>⟨k0,.inr ⟨er,v,g',H',he,rfl,hw.trans k1,hx.trans kx,k2,k3⟩⟩
theorem Qov(gr:r<H0.length)(o:AObj):(H0.set r o++ [AObj.dead])[r]? =some o:=by
 rw[List.getElem?_append_left (by simpa using gr)];simp[gr]
theorem QlY(gr:r<H0.length)(o o':AObj):(H0.set r o++ [AObj.dead]).set r o'=H0.set r o'++ [AObj.dead]:=by
 rw[List.set_append_left _ _ (by simpa using gr),List.set_set]
theorem kk_ext(hl:lim≤r)(hlim:lim≤H0.length)(o:AObj):Ext lim H0 (H0.set r o++ [AObj.dead]):=(Ext.set _ hl).trans (Ext.app _ (by simpa using hlim))
theorem c10_1: [QaZ Qdv 1].mapM (Qal Tryd.prog Qau [QaZ Qdv 0,QaZ Qdv 1])=some [⟨some 2,.move (.t 49),none,[49]⟩]:=by kernel_rfl
theorem c13_0:Qal Tryd.prog Qau [QaZ QbT 0,QaZ QbT 1,QaZ QbT 2] (QaZ QbT 0)=some ⟨some 60,.move (.t 0),none,[]⟩:=by kernel_rfl
theorem c13_1:Qal Tryd.prog Qau [QaZ QbT 0,QaZ QbT 1,QaZ QbT 2] (QaZ QbT 1)=some ⟨some 61,.call 60 [.t 60],none,[]⟩:=by kernel_rfl
theorem c4_0:Qal Tryd.prog Qau [QaZ QgA 0,QaZ QgA 1] (QaZ QgA 0)=some ⟨some 9,.move (.t 4),none,[]⟩:=by kernel_rfl
theorem o10_0:(QaZ Qdv 0).op= .call { callee:= .value (.func 58),args:= #[.tmp 3],argTypes:= #[78] }∧(QaZ Qdv 0).guard=none∧(QaZ Qdv 0).dst=some 49:=⟨by kernel_rfl,by kernel_rfl,by kernel_rfl⟩
theorem o13_2:(QaZ QbT 2).op= .call { callee:= .value (.func 59),args:= #[.tmp 3,.tmp 61],argTypes:= #[78,21] }∧(QaZ QbT 2).guard=none∧(QaZ QbT 2).dst=some 62:=⟨by kernel_rfl,by kernel_rfl,by kernel_rfl⟩
theorem o4_1:(QaZ QgA 1).op= .call { callee:= .value (.func 61),args:= #[.tmp 3,.tmp 9],argTypes:= #[78,5] }∧(QaZ QgA 1).guard=none∧(QaZ QgA 1).dst=some 10:=⟨by kernel_rfl,by kernel_rfl,by kernel_rfl⟩
theorem fn58:Qii Tryd.prog 58:=⟨_,Tryd.func58,by kernel_rfl,by kernel_rfl⟩
theorem fn59:Qii Tryd.prog 59:=⟨_,Tryd.func59,by kernel_rfl,by kernel_rfl⟩
theorem fn61:Qii Tryd.prog 61:=⟨_,Tryd.func61,by kernel_rfl,by kernel_rfl⟩
theorem Inv.ptr{g:Gh}{st:St}{a:Act}{w:World}(h:Inv g st a w){i n:Nat}(hT:st.T.getD i .undef= .ptr n 0):a.eval (.tmp i)= .pointer (some ⟨g.rho n,0,none⟩):=by
 have:=(QbR h i).1
 rw[hT]at this
 show a.tmps.getD i undef=_
 generalize a.tmps.getD i undef=v at this
 cases this;rfl
theorem Inv.num{g:Gh}{st:St}{a:Act}{w:World}(h:Inv g st a w){i:Nat}{k:IntKind}{n:Int}(hT:st.T.getD i .undef= .d (.int k n)):a.eval (.tmp i)= .int k n:=by
 have:=(QbR h i).1
 rw[hT]at this
 show a.tmps.getD i undef=_
 generalize a.tmps.getD i undef=v at this
 cases this with
 |d _ _ h=>cases h;rfl
end
end Go.Proofs.YtmhmjlfajlpabaaDoor
set_option maxHeartbeats 2000000
set_option linter.unusedVariables false
namespace Go.Proofs.YtmhmjlfajlpabaaDoor
open Go Go.Abs Go.Proofs Go.RowKit Go.Lib
section
variable {g0:Gh} {w0:World} {H0:Qaa} {lim r:Nat} {s:Tx} {p:Nat}
theorem res41:QaW Tryd.prog Tryd.f41.results.toList=some [.t 2]:=by kernel_rfl
theorem v41_13{lim:Nat}{H:Qaa}{r n:Nat}(x:Nat→AV){z:PV}(h:EvP (Qcl code pf QaH (fun _=>none)) 60 lim [.ptr r 0] H z):V (QaF code QaH) (Qcl code pf QaH (fun _=>none)) lim QnQ ⟨[.ptr r 0,x 1,x 2,.ptr n 0,x 4,x 5,x 6,x 7,x 8,x 9,x 10,x 11,x 12,x 13,x 14,x 15,x 16,x 17,x 18,x 19,x 20,x 21,x 22,x 23,x 24,x 25,x 26,x 27,x 28,x 29,x 30,x 31,x 32,x 33,x 34,x 35,x 36,x 37,x 38,x 39,x 40,x 41,x 42,x 43,x 44,x 45,x 46,x 47,x 48,x 49,x 50,x 51,x 52,x 53,x 54,x 55,x 56,x 57,x 58,x 59,x 60,x 61,x 62],H⟩ (fun _ _=>False) (fun z'=>z'=z):=by
 unfold QnQ
 refine Qan ?_;apply Qbq 1;(focus(intro _;simp only[zz,simprocAttr];(first|done|with_reducible exact rfl)));simp only[List.drop_succ_cons,List.drop_zero];refine QaD rfl ?_;simp only[zz,simprocAttr]
 exact EvP.fv h rfl
noncomputable abbrev QlF:Code:= .block 1 (.seq p41_3 (.block 2 (.seq p41_6 (.cond (.tmp 18) p41_7 (.seq p41_8 (.cond (.tmp 39) (.seq p41_9 (.seq Qdv .ret)) (.seq Qn3 (.cond (.tmp 50) (.seq Qn2 QbT) (.seq QgA p41_5)))))))))
theorem QnA(hS:EnvS Tryd.prog pf (QaF code QaH) (Qcl code pf QaH (fun _=>none)))(h0:HeapOK g0 H0 w0)(hr:r<H0.length)(hl:lim≤r)(hlim:lim≤H0.length)(hs:s.length≤16384){b:Nat}:
  ∀(m:Nat) {acc:Tx} {q f:Nat} {g:Gh} {a:Act} {w:World} {x:Nat→AV},m=s.length-q→q≤s.length→acc.length≤4*q→s.length-q+1≤f→Qcc s p=QbG s f acc q→TI g0 w0 H0.length b acc g w→
   Inv g ⟨TS r H0.length x,H0.set r (rdO s q)++ [.dead]⟩ a w→QfP Tryd.prog QlF (Exit.inBlock 0 (BP g0 w0 H0 lim r s p)) a w:=by
 intro m
 induction m using Nat.strongRecOn with
 |_ m ih=>
 intro acc q f g a w x hm hq hac hf hts hti hinv
 obtain⟨f,rfl⟩:∃k,f=k+1:=⟨f-1,by omega⟩
 rw[chars_eq]at hts
 have hll:∀o:AObj,lim≤(H0.set r o++ [AObj.dead]).length:=fun o=>by simp;omega
 have gr:=Qov hr (rdO s q)
 refine QcC (wp_block (wp_seq (QeX hS k41_3 rfl hinv (hll _) (v41_3 x gr hq) ?_ (fun _ h=>h.elim))))
 rintro e st1 g1 a1 w1 ⟨rfl,x1,rfl⟩ hw1 hi1 hx1
 have ht1:=hti.step hw1
 generalize hc:nx s q=c at hi1
 obtain⟨bb,hbb⟩:∃bb,bb=(decide (q=s.length)||decide (c.toNat<32)):=⟨_,rfl⟩
 show Code.wp Tryd.prog (.block 2 _) _ a1 w1
 refine wp_block (wp_seq (QeX hS k41_6 rfl hi1 (hll _) (v41_6 x1 gr c bb hbb) ?_ (fun _ h=>h.elim)))
 rintro e st2 g2 a2 w2 ⟨rfl,x2,rfl⟩ hw2 hi2 hx2
 have ht2:=ht1.step hw2
 show Code.wp Tryd.prog (.cond (.tmp 18) _ _) _ a2 w2
 refine wp_cond (Inv.bool (b:=bb) hi2 rfl) ?_
 cases bb with
 |true=>
  have he:Qcc s p= .error (11,q):=by
   rw[hts]
   by_cases hqe:q=s.length
   ·rw[List.getElem?_eq_none (by omega)]
   ·have hql:q<s.length:=by omega
    have:s[q]? =some c:=by rw[Qdd hql,hc]
    have h32:c.toNat<32:=by
     rcases Bool.or_eq_true_iff.1 hbb.symm with h|h
     ·exact absurd (of_decide_eq_true h) hqe
     ·exact of_decide_eq_true h
    rw[this]
    simp only[if_pos h32]
  rw[if_pos rfl]
  refine QeX hS k41_7 rfl hi2 (hll _) (v41_7 x2 gr c true) (fun _ _ _ _ _ h=>h.elim) ?_
  rintro _ rfl
  intro g' H' v a' w' k0 k1 kx k2 k3
  exact QkH ht2.wf (kk_ext hl hlim _) he g' H' v a' w' k0 k1 kx k2 k3
 |false=>
  have hbf:=Bool.or_eq_false_iff.1 hbb.symm
  have hqe:¬q=s.length:=of_decide_eq_false hbf.1
  have h32:¬c.toNat<32:=of_decide_eq_false hbf.2
  have hql:q<s.length:=by omega
  have hsq:s[q]? =some c:=by rw[Qdd hql,hc]
  rw[hsq]at hts
  simp only[if_neg h32]at hts
  rw[if_neg (by simp)]
  obtain⟨b2,hb2⟩:∃b2,((c.toNat:Int)==34)=b2:=⟨_,rfl⟩
  refine wp_seq (QeX hS k41_8 rfl hi2 (hll _) (v41_8 x2 c false b2 hb2) ?_ (fun _ h=>h.elim))
  rintro e st3 g3 a3 w3 ⟨rfl,x3,rfl⟩ hw3 hi3 hx3
  have ht3:=ht2.step hw3
  show Code.wp Tryd.prog (.cond (.tmp 39) _ _) _ a3 w3
  refine wp_cond (Inv.bool (b:=b2) hi3 rfl) ?_
  by_cases h34:c=34
  ·obtain rfl:b2=true:=by rw[←hb2];exact Qhw h34 rfl
   rw[if_pos h34]at hts
   rw[if_pos rfl]
   refine wp_seq (QeX hS k41_9 rfl hi3 (hll _) (v41_9 (fun i=>if i=4 then .d (.int .u8 c.toNat)else if i=39 then boolD true else x3 i) gr hl (by omega)) ?_ (fun _ h=>h.elim))
   rintro e st4 g4 a4 w4 ⟨rfl,x4,rfl⟩ hw4 hi4 hx4
   have ht4:=ht3.step hw4
   rw[QlY hr]at hi4
   show Code.wp Tryd.prog (.seq Qdv .ret) _ a4 w4
   obtain⟨row,hbl,hmv,hwr⟩:=ht4.use h0 hi4.heap
   rw[r10_eq]
   refine wp_seq (wp_region_list ?_)
   have hp3:a4.eval (.tmp 3)= .pointer (some ⟨b,0,none⟩):=by
    rw[Inv.ptr (n:=H0.length) hi4 rfl,ht4.rho]
   refine QgR o10_0.2.1 o10_0.1 fn58 (R:=fun e w'=>e= .returned (.string ⟨acc.toArray⟩)∧Mv b row w4 w') ?_ ?_
   ·rw[show(#[Operand.tmp 3].map a4.eval)= #[a4.eval (.tmp 3)] by simp,hp3]
    exact str_any hbl
   rintro e w5 ⟨rfl,hm5⟩
   refine⟨_,rfl, ?_⟩
   obtain⟨hf5,hwf5⟩:=hmv w5 hm5
   have hi5:=hf5.inv hi4
   rw[o10_0.2.2]
   have hi6:=hi5.put (d:=49) (x:= .d (.str acc)) (v:= .string ⟨acc.toArray⟩) (.d _ _ (.str _ _ rfl)) (Triv.d _ _)
   refine Qfi (lim:=lim) (hS.e 0) _ _ c10_1 hi6 (by simpa using hll (rdO s (q+1))) (show runOps _ _ _ _=some ⟨((TS r H0.length x4).set 49 (.d (.str acc))).set 2 (.d (.str acc)),H0.set r (rdO s (q+1))++ [.dead]⟩from rfl) ?_
   intro g7 a7 w7 hw7 hi7 hx7
   refine wp_ret ?_
   obtain⟨v,hv1,hv2,hv3⟩:=Qe7 hi7 res41 (show Qcg _ _ [.t 2]=some [.d (.str acc)]from rfl)
   refine⟨hi7.defers,v,hv1,.inl ⟨acc,q+1,v,g7.cut w7 H0.length,hts,rfl,Qi2 (hwf5.trans hw7) h0.n, ?_, ?_⟩⟩
   ·exact QjP h0 hi7.heap hr (Qov hr _) rfl (by rw[List.take_append_of_le_length (by simp),List.take_of_length_le (by simp)])
   ·cases hv2 with
    |d _ _ h=>cases h with|str _ _ h=>exact .d _ _ (.str _ _ h)
  ·obtain rfl:b2=false:=by rw[←hb2];exact Qhn h34 rfl
   rw[if_neg h34]at hts
   rw[if_neg (by simp)]
   obtain⟨b3,hb3⟩:∃b3,((c.toNat:Int)==92)=b3:=⟨_,rfl⟩
   refine wp_seq (QeX hS k41_11 rfl hi3 (hll _) (v41_11 x3 c false b3 hb3) ?_ (fun _ h=>h.elim))
   rintro e st4 g4 a4 w4 ⟨rfl,x4,rfl⟩ hw4 hi4 hx4
   have ht4:=ht3.step hw4
   show Code.wp Tryd.prog (.cond (.tmp 50) _ _) _ a4 w4
   refine wp_cond (Inv.bool (b:=b3) hi4 rfl) ?_
   by_cases h92:c=92
   ·obtain rfl:b3=true:=by rw[←hb3];exact Qhw h92 rfl
    rw[if_pos h92]at hts
    rw[if_pos rfl]
    refine wp_seq (QeX hS k41_12 rfl hi4 (hll _) (v41_12 (fun i=>if i=4 then .d (.int .u8 c.toNat)else if i=50 then boolD true else x4 i) gr hl (by omega)) ?_ (fun _ h=>h.elim))
    rintro e st5 g5 a5 w5 ⟨rfl,x5,rfl⟩ hw5 hi5 hx5
    have ht5:=ht4.step hw5
    rw[QlY hr]at hi5
    show Code.wp Tryd.prog QbT _ a5 w5
    have hev:=esc_ev (pr:=QaH) (pP:=fun _=>none) lim _ r s (q+1) (Qov hr (rdO s (q+1))) hl hs (by omega) (by omega)
    cases hes:Qec s (q+1)with
    |error er=>
     rw[hes]at hts
     refine QeX hS k41_13 rfl hi5 (hll _) (v41_13 x5 (hev.noJ hes)) (fun _ _ _ _ _ h=>h.elim) ?_
     rintro _ rfl
     intro g' H' v a' w' k0 k1 kx k2 k3
     exact QkH ht5.wf (kk_ext hl hlim _) hts g' H' v a' w' k0 k1 kx k2 k3
    |ok y=>
     obtain⟨n,q2⟩:=y
     rw[hes]at hts
     have hn:=esc_rune hes
     have hq2:=QoP hes
     have hev2:=hev.okJ hes
     rw[QlY hr]at hev2
     obtain⟨k0,hk0⟩:∃k0,∀k,k0≤k→(QaF code QaH) k 60 lim [.ptr r 0] (H0.set r (rdO s (q+1))++ [.dead])=some (i32D n,H0.set r (rdO s q2)++ [.dead]):=Ev.out hev2
     have hk1:=hk0 k0 (Nat.le_refl _)
     rw[r13_eq]
     refine wp_region_list ?_
     refine QbF (lim:=lim) (st':=⟨[.ptr r 0,x5 1,x5 2,.ptr H0.length 0,x5 4,x5 5,x5 6,x5 7,x5 8,x5 9,x5 10,x5 11,x5 12,x5 13,x5 14,x5 15,x5 16,x5 17,x5 18,x5 19,x5 20,x5 21,x5 22,x5 23,x5 24,x5 25,x5 26,x5 27,x5 28,x5 29,x5 30,x5 31,x5 32,x5 33,x5 34,x5 35,x5 36,x5 37,x5 38,x5 39,x5 40,x5 41,x5 42,x5 43,x5 44,x5 45,x5 46,x5 47,x5 48,x5 49,x5 50,x5 51,x5 52,x5 53,x5 54,x5 55,x5 56,x5 57,x5 58,x5 59,.ptr r 0,x5 61,x5 62],_⟩) c13_0 (hS.e k0) hi5 (hll _) (by simp only[zz,simprocAttr];rfl) ?_
     intro g6 a6 w6 hw6 hi6 hx6
     have ht6:=ht5.step hw6
     refine QbF (lim:=lim) (st':=⟨[.ptr r 0,x5 1,x5 2,.ptr H0.length 0,x5 4,x5 5,x5 6,x5 7,x5 8,x5 9,x5 10,x5 11,x5 12,x5 13,x5 14,x5 15,x5 16,x5 17,x5 18,x5 19,x5 20,x5 21,x5 22,x5 23,x5 24,x5 25,x5 26,x5 27,x5 28,x5 29,x5 30,x5 31,x5 32,x5 33,x5 34,x5 35,x5 36,x5 37,x5 38,x5 39,x5 40,x5 41,x5 42,x5 43,x5 44,x5 45,x5 46,x5 47,x5 48,x5 49,x5 50,x5 51,x5 52,x5 53,x5 54,x5 55,x5 56,x5 57,x5 58,x5 59,.ptr r 0,i32D n,x5 62],_⟩) c13_1 (hS.e k0) hi6 (hll _) (by simp only[zz,simprocAttr,hk1];rfl) ?_
     intro g7 a7 w7 hw7 hi7 hx7
     have ht7:=ht6.step hw7
     obtain⟨row,hbl,hmv,hwr⟩:=ht7.use h0 hi7.heap
     have hp3:a7.eval (.tmp 3)= .pointer (some ⟨b,0,none⟩):=by
      rw[Inv.ptr (n:=H0.length) hi7 rfl,ht7.rho]
     have hp61:a7.eval (.tmp 61)= .int .i32 n:=Inv.num hi7 rfl
     refine QgR o13_2.2.1 o13_2.1 fn59 (R:=fun e w'=>(∃v,e= .returned v)∧Qpe b (acc++QcU n) row w7 w') ?_ ?_
     ·rw[show(#[Operand.tmp 3,Operand.tmp 61].map a7.eval)= #[a7.eval (.tmp 3),a7.eval (.tmp 61)] by simp,hp3,hp61]
      exact wr_any n hn hbl (by omega)
     rintro e w8 ⟨⟨v,rfl⟩,hm8⟩
     refine⟨_,rfl, ?_⟩
     obtain⟨hf8,ht8⟩:=hwr w8 _ hm8
     rw[o13_2.2.2]
     have hi8:=(hf8.inv hi7).put (d:=62) (x:= .undef) (v:=v) (.undef _) (fun _ e=>by cases e)
     show QfP Tryd.prog QlF _ _ _
     have hlen:=QnO n
     exact ih (s.length-q2) (by omega) (x:=fun i=>(([.ptr r 0,x5 1,x5 2,.ptr H0.length 0,x5 4,x5 5,x5 6,x5 7,x5 8,x5 9,x5 10,x5 11,x5 12,x5 13,x5 14,x5 15,x5 16,x5 17,x5 18,x5 19,x5 20,x5 21,x5 22,x5 23,x5 24,x5 25,x5 26,x5 27,x5 28,x5 29,x5 30,x5 31,x5 32,x5 33,x5 34,x5 35,x5 36,x5 37,x5 38,x5 39,x5 40,x5 41,x5 42,x5 43,x5 44,x5 45,x5 46,x5 47,x5 48,x5 49,x5 50,x5 51,x5 52,x5 53,x5 54,x5 55,x5 56,x5 57,x5 58,x5 59,.ptr r 0,i32D n,x5 62]).set 62 AV.undef).getD i .undef) rfl hq2.2 (by simp;omega) (by omega) hts ht8 hi8
   ·obtain rfl:b3=false:=by rw[←hb3];exact Qhn h92 rfl
    rw[if_neg h92]at hts
    rw[if_neg (by simp)]
    rw[r4_eq]
    refine wp_seq (wp_region_list ?_)
    refine QbF (lim:=lim) (st':=⟨[.ptr r 0,x4 1,x4 2,.ptr H0.length 0,.d (.int .u8 c.toNat),x4 5,x4 6,x4 7,x4 8,.d (.int .u8 c.toNat),x4 10,x4 11,x4 12,x4 13,x4 14,x4 15,x4 16,x4 17,x4 18,x4 19,x4 20,x4 21,x4 22,x4 23,x4 24,x4 25,x4 26,x4 27,x4 28,x4 29,x4 30,x4 31,x4 32,x4 33,x4 34,x4 35,x4 36,x4 37,x4 38,x4 39,x4 40,x4 41,x4 42,x4 43,x4 44,x4 45,x4 46,x4 47,x4 48,x4 49,boolD false,x4 51,x4 52,x4 53,x4 54,x4 55,x4 56,x4 57,x4 58,x4 59,x4 60,x4 61,x4 62],_⟩) c4_0 (hS.e 0) hi4 (hll _) (by simp only[zz,simprocAttr];rfl) ?_
    intro g6 a6 w6 hw6 hi6 hx6
    have ht6:=ht4.step hw6
    obtain⟨row,hbl,hmv,hwr⟩:=ht6.use h0 hi6.heap
    have hp3:a6.eval (.tmp 3)= .pointer (some ⟨b,0,none⟩):=by
     rw[Inv.ptr (n:=H0.length) hi6 rfl,ht6.rho]
    have hp9:a6.eval (.tmp 9)= .int .u8 c.toNat:=Inv.num hi6 rfl
    refine QgR o4_1.2.1 o4_1.1 fn61 (R:=fun e w'=>e= .returned .nilIface∧Qpe b (acc++ [c]) row w6 w') ?_ ?_
    ·rw[show(#[Operand.tmp 3,Operand.tmp 9].map a6.eval)= #[a6.eval (.tmp 3),a6.eval (.tmp 9)] by simp,hp3,hp9]
     exact wb_any c hbl (by omega)
    rintro e w8 ⟨rfl,hm8⟩
    refine⟨_,rfl, ?_⟩
    obtain⟨hf8,ht8⟩:=hwr w8 _ hm8
    rw[o4_1.2.2]
    have hi8:=(hf8.inv hi6).put (d:=10) (x:= .undef) (v:= .nilIface) (.undef _) (fun _ e=>by cases e)
    show Code.wp Tryd.prog p41_5 _ _ w8
    refine QeX hS k41_5 rfl hi8 (hll _) (v41_5 (fun i=>([.ptr r 0,x4 1,x4 2,.ptr H0.length 0,.d (.int .u8 c.toNat),x4 5,x4 6,x4 7,x4 8,.d (.int .u8 c.toNat),x4 10,x4 11,x4 12,x4 13,x4 14,x4 15,x4 16,x4 17,x4 18,x4 19,x4 20,x4 21,x4 22,x4 23,x4 24,x4 25,x4 26,x4 27,x4 28,x4 29,x4 30,x4 31,x4 32,x4 33,x4 34,x4 35,x4 36,x4 37,x4 38,x4 39,x4 40,x4 41,x4 42,x4 43,x4 44,x4 45,x4 46,x4 47,x4 48,x4 49,boolD false,x4 51,x4 52,x4 53,x4 54,x4 55,x4 56,x4 57,x4 58,x4 59,x4 60,x4 61,x4 62].set 10 AV.undef).getD i .undef) gr hl (by omega)) ?_ (fun _ h=>h.elim)
    rintro e st9 g9 a9 w9 ⟨rfl,x9,rfl⟩ hw9 hi9 hx9
    have ht9:=ht8.step hw9
    rw[QlY hr]at hi9
    show QfP Tryd.prog QlF _ _ _
    exact ih (s.length-(q+1)) (by omega) (x:=x9) rfl (by omega) (by simp;omega) (by omega) hts ht9 hi9
end
end Go.Proofs.YtmhmjlfajlpabaaDoor
set_option maxHeartbeats 2000000
set_option linter.unusedVariables false
namespace Go.Proofs.YtmhmjlfajlpabaaDoor
open Go Go.Abs Go.Proofs Go.RowKit Go.Lib
theorem fn41:Qii Tryd.prog 41:=⟨_,Tryd.func41,by kernel_rfl,by kernel_rfl⟩
theorem body41:Tryd.f41.body=some b41:=by kernel_rfl
theorem nt41:Tryd.f41.ntmps=63:=by kernel_rfl
theorem Bld.new(w:World):Bld w.heap.size [] none (w.alloc (.cells #[.pointer none,.slice none 0 0] 78)):=
 ⟨.pointer none,.slice none 0 0,.inl rfl,⟨QaJ _ _,⟨rfl,.inl ⟨rfl,rfl⟩⟩,by simp[Value.ownBlock],fun _=>rfl⟩,rfl⟩
theorem Qhy(hS:EnvS Tryd.prog pf (QaF code QaH) (Qcl code pf QaH (fun _=>none))){g0:Gh}{w0:World}{H0:Qaa}{lim r:Nat}{s:Tx}{p:Nat}(h0:HeapOK g0 H0 w0)(hn:∀b,g0.own b≠ .res)(gr:H0[r]? =some (rdO s p))(hl:lim≤r)(hlim:lim≤H0.length)(hs:s.length≤16384)(hp:p≤s.length)
  {vals:Array Value}(hv0:1=vals.size)(hv:∀(i:Nat) x v,[AV.ptr r 0][i]? =some x→vals[i]? =some v→VR g0 w0 x v∧FOK g0 w0 (.slot i) x v):
  Calls Tryd.prog 41 vals w0 (TRes g0 w0 H0 lim r s p):=by
 have hr:=(List.getElem?_eq_some_iff.1 gr).1
 refine calls_of_wp Tryd.func41 body41 ?_
 rw[nt41,b41_eq]
 have hi0:Inv g0 ⟨_,H0⟩ { tmps:=vals++Array.replicate (63-vals.size) undef,defers:= [] } w0:=Qdc (args:= [.ptr r 0]) h0 hn hv0 hv 63
 refine wp_seq (QeX hS k41_0 rfl hi0 hlim (v41_0 (fun _=> .tuple [])) ?_ (fun _ h=>h.elim))
 rintro e st1 g1 a1 w1 ⟨rfl,x1,rfl⟩ hw1 hi1 hx1
 show Code.wp Tryd.prog (.seq p41_1 _) _ a1 w1
 refine wp_seq (QeX hS k41_1 rfl hi1 hlim (v41_1 x1 gr hl hs hp) ?_ ?_)
 rotate_left
 ·rintro _ ⟨hw,rfl⟩
  intro g' H' v a' w' k0 k1 kx k2 k3
  exact QkH hw1 (Ext.refl _ _) (er:=(11,p)) (by unfold Qcc;rw[hw]) g' H' v a' w' k0 k1 kx k2 k3
 rintro e st2 g2 a2 w2 ⟨rfl,hw,x2,rfl⟩ hw2 hi2 hx2
 have hpl:=(Qeg hw).2
 have hts:Qcc s p=QbG s (s.length+1) [] (p+1):=by unfold Qcc;rw[hw]
 show Code.wp Tryd.prog (.seq p41_2 _) _ a2 w2
 refine wp_seq (r2_wp ?_)
 show Code.wp Tryd.prog (.block 0 (.loop QlF)) _ _ _
 have hlen:(H0.set r (rdO s (p+1))).length=H0.length:=List.length_set
 have hnn:g2.n=H0.length:=by rw[hi2.heap.n,hlen]
 have hnew:=hi2.heap.new w2.heap.size (Nat.le_refl _)
 have hf:Frn g2 w2 (w2.alloc (.cells #[.pointer none,.slice none 0 0] 78)):=⟨rfl,rfl,rfl,by simp,fun k hk _=>heap_alloc _ _ _ hk⟩
 have hi3:=hf.inv hi2
 have hw3:=hf.wf h0 (hw1.trans hw2) fun k hk=>heap_alloc _ _ _ (Nat.lt_of_lt_of_le hk (hw1.trans hw2).size)
 have hwd:=Qil g2 (w2.alloc (.cells #[.pointer none,.slice none 0 0] 78)) w2.heap.size
 have hi4:Inv (g2.dead2 w2.heap.size) ⟨TS r H0.length (fun i=>if i=3 then .tuple []else x2 i),H0.set r (rdO s (p+1))++ [.dead]⟩ (a2.put (some 3) (.pointer (some ⟨w2.heap.size,0,none⟩))) (w2.alloc (.cells #[.pointer none,.slice none 0 0] 78)):=by
  have hrho:(g2.dead2 w2.heap.size).rho H0.length=w2.heap.size:=by simp[Gh.dead2,hnn]
  have hlt:H0.length<(g2.dead2 w2.heap.size).n:=by show H0.length<g2.n+1;omega
  have hvp:VR (g2.dead2 w2.heap.size) (w2.alloc (.cells #[.pointer none,.slice none 0 0] 78)) (.ptr H0.length 0) (.pointer (some ⟨w2.heap.size,0,none⟩)):=by
   have:=VR.ptr (g:=g2.dead2 w2.heap.size) (w:=w2.alloc (.cells #[.pointer none,.slice none 0 0] 78)) H0.length 0 hlt
   rwa [hrho]at this
  have hid:Inv (g2.dead2 w2.heap.size) ⟨[.ptr r 0,x2 1,x2 2,x2 3,x2 4,x2 5,x2 6,x2 7,x2 8,x2 9,x2 10,x2 11,x2 12,x2 13,x2 14,x2 15,x2 16,x2 17,x2 18,x2 19,x2 20,x2 21,x2 22,x2 23,x2 24,x2 25,x2 26,x2 27,x2 28,x2 29,x2 30,x2 31,x2 32,x2 33,x2 34,x2 35,x2 36,x2 37,x2 38,x2 39,x2 40,x2 41,x2 42,x2 43,x2 44,x2 45,x2 46,x2 47,x2 48,x2 49,x2 50,x2 51,x2 52,x2 53,x2 54,x2 55,x2 56,x2 57,x2 58,x2 59,x2 60,x2 61,x2 62],H0.set r (rdO s (p+1))++ [.dead]⟩ a2 (w2.alloc (.cells #[.pointer none,.slice none 0 0] 78)):=
   ⟨QmX hi3.heap _,hi3.size,fun i y v hy hv=>⟨hwd.vr (hi3.tok i y v hy hv).1,(hi3.tok i y v hy hv).2.keep fun b hb=>⟨hb,rfl,fun cs e fr hh hz=>⟨cs,fr,hh,rfl,hz⟩⟩⟩,hi3.nores,hi3.defers⟩
  exact hid.put (d:=3) hvp (fun _ e=>by cases e)
 have hti:TI g0 w0 H0.length w2.heap.size [] (g2.dead2 w2.heap.size) (w2.alloc (.cells #[.pointer none,.slice none 0 0] 78)):=
  ⟨hw3.trans hwd,by show H0.length<g2.n+1;omega,by simp[Gh.dead2,hnn],⟨(hw1.trans hw2).size,hnew.1,hnew.2⟩,none,Bld.new w2,fun k hk=>by cases hk⟩
 exact wp_block (QgG (QnA hS h0 hr hl hlim hs (s.length-(p+1)) (x:=fun i=>if i=3 then .tuple []else x2 i) rfl hpl (by simp) (by omega) hts hti hi4))
end Go.Proofs.YtmhmjlfajlpabaaDoor
set_option maxHeartbeats 1000000
namespace Go.Proofs.YtmhmjlfajlpabaaDoor
open Go Go.Abs Go.Proofs Go.RowKit Go.Lib
theorem QnB{lim:Nat}{args:List AV}{H H':Qaa}{v:AV}(h:Qi9 lim args H=some (v,H')):
  ∃r s p t q,args= [.ptr r 0]∧H[r]? =some (rdO s p)∧lim≤r∧p≤s.length∧s.length≤16384∧Qcc s p= .ok (t,q)∧v= .d (.str t)∧H'=H.set r (rdO s q):=by
 unfold Qi9 at h
 split at h
 ·rename_i r
  split at h
  ·rename_i s p hg
   split at h
   ·rename_i hc
    split at h
    ·rename_i t q ht
     simp only[Option.some.injEq,Prod.mk.injEq]at h
     obtain⟨rfl,rfl⟩:=h
     obtain⟨n,rfl⟩:∃n:Nat,p=(n:Int):=⟨p.toNat,by omega⟩
     exact⟨r,s,n,t,q,rfl,hg,hc.1,by omega,hc.2.2.2,ht,rfl,rfl⟩
    ·cases h
   ·cases h
  ·cases h
 ·cases h
theorem Qmr{lim:Nat}{args:List AV}{H:Qaa}{v:PV}(h:Qgm lim args H=some v):
  ∃r s p er,args= [.ptr r 0]∧H[r]? =some (rdO s p)∧lim≤r∧p≤s.length∧s.length≤16384∧Qcc s p= .error er∧v=QdB er.1 er.2:=by
 unfold Qgm at h
 split at h
 ·rename_i r
  split at h
  ·rename_i s p hg
   split at h
   ·rename_i hc
    split at h
    ·cases h
    ·rename_i e q ht
     simp only[Option.some.injEq]at h
     subst h
     obtain⟨n,rfl⟩:∃n:Nat,p=(n:Int):=⟨p.toNat,by omega⟩
     exact⟨r,s,n,(e,q),rfl,hg,hc.1,by omega,hc.2.2.2,ht,rfl⟩
   ·cases h
  ·cases h
 ·cases h
theorem text_sound(hS:EnvS Tryd.prog pf X1 XP1):FSound Tryd.prog 41 Qi9:=by
 intro lim args H a H' h hlim
 obtain⟨r,s,p,t,q,rfl,gr,hl,hp,hs,ht,rfl,rfl⟩:=QnB h
 refine⟨Ext.set _ hl,fun vals g w hH hn hv0 hv=> .inl ⟨fn41,(Qhy hS hH hn gr hl hlim hs hp hv0 hv).mono ?_⟩⟩
 rintro e w' (⟨t',q',v,g',h1,rfl,h2,h3,h4⟩|⟨er,v,g',H',h1,_⟩)
 ·rw[ht]at h1;cases h1
  exact⟨v,g',rfl,h2,h3,h4,FOK.triv (Triv.d _ _)⟩
 ·rw[ht]at h1;cases h1
theorem Qko(hS:EnvS Tryd.prog pf X1 XP1):PSound Tryd.prog 41 Qgm:=by
 intro lim args H t x h hlim
 obtain⟨r,s,p,er,rfl,gr,hl,hp,hs,ht,hv⟩:=Qmr h
 cases hv
 refine⟨fn41,fun vals g w hH hn hv0 hv=>(Qhy hS hH hn gr hl hlim hs hp hv0 (fun i x v h1 h2=>⟨(hv i x v h1 h2).1,FOK.triv (hv i x v h1 h2).2⟩)).mono ?_⟩
 rintro e w' (⟨t',q',v,g',h1,_⟩|⟨er',v,g',H',h1,rfl,h2,h3,h4,h5⟩)
 ·rw[ht]at h1;cases h1
 ·rw[ht]at h1;cases h1
  exact⟨v,g',H',rfl,h2,h3,h4,h5⟩
end Go.Proofs.YtmhmjlfajlpabaaDoor
namespace Go.Proofs.YtmhmjlfajlpabaaDoor
open Go Go.Abs Go.Lib
theorem QnD{k:Nat}(h:k<256):tab0[k]? =some (.int .u8 (firstT k:Nat)):=by
 have:=tab0_get h
 rw[List.getElem?_drop,Nat.add_zero]at this;exact this
theorem tab1_eq:tab1=(List.range 16).flatMap fun i=> [.int .u8 (accLo i:Nat),.int .u8 (accHi i:Nat)]:=by kernel_rfl
theorem pairs_at{f g:Nat→D}:∀(n i:Nat),i<n→((List.range n).flatMap fun i=> [f i,g i])[2*i]? =some (f i)∧((List.range n).flatMap fun i=> [f i,g i])[2*i+1]? =some (g i):=by
 have hlen:∀n,((List.range n).flatMap fun i=> [f i,g i]).length=2*n:=fun n=>by
  induction n with
  |zero=>rfl
  |succ n ih=>rw[List.range_succ,List.flatMap_append,List.length_append,ih];simp;omega
 intro n
 induction n with
 |zero=>intro i hi;omega
 |succ n ih=>
  intro i hi
  rw[List.range_succ,List.flatMap_append]
  by_cases h:i<n
  ·obtain⟨a,b⟩:=ih i h
   rw[List.getElem?_append_left (by rw[hlen];omega),List.getElem?_append_left (by rw[hlen];omega)]
   exact⟨a,b⟩
  ·obtain rfl:i=n:=by omega
   rw[List.getElem?_append_right (by rw[hlen];omega),List.getElem?_append_right (by rw[hlen];omega),hlen,Nat.sub_self,show 2*i+1-2*i=1 from by omega]
   exact⟨rfl,rfl⟩
theorem Qir(i:Nat)(h:i<16):tab1[2*i]? =some (.int .u8 (accLo i:Nat))∧tab1[2*i+1]? =some (.int .u8 (accHi i:Nat)):=by
 rw[tab1_eq];exact pairs_at 16 i h
def Pow10(w:World):Prop:=∀k,k<20→w.cell? ⟨3,k,none⟩=some (.int .u64 ((10^k:Nat):Int))
theorem tabOK_of{w:World}(h:Lib.Utf8Tabs 0 1 w)(h2:Pow10 w):Qpk w:=by
 intro n cs hn
 obtain⟨h0,h1⟩:=h
 simp only[Tab.tab]at hn
 by_cases n0:n=0
 ·subst n0
  rw[if_pos rfl]at hn
  cases hn
  have hl:tab0.length=256:=by rw[Qkr];simp
  refine VR.pref tab0 0 0 (fun k=> .int .u8 (firstT k:Nat)) ?_ (fun k hk=> ?_) (fun k c hk=> ?_)
  ·intro c hc
   rw[Qkr]at hc
   obtain⟨_,_,rfl⟩:=List.mem_map.1 hc
   rfl
  ·rw[Nat.zero_add]
   have:=h0 k (by omega)
   exact⟨Qdr this,this⟩
  ·have hk2:k<256:=by have:=(List.getElem?_eq_some_iff.1 hk).1;omega
   rw[QnD hk2]at hk
   cases hk
   exact .int _ _
 ·rw[if_neg n0]at hn
  by_cases n1:n=1
  ·subst n1
   rw[if_pos rfl]at hn
   cases hn
   have hl:tab1.length=32:=rfl
   refine VR.pref tab1 1 0 (fun k=>if k % 2=0 then .int .u8 (accLo (k/2))else .int .u8 (accHi (k/2))) ?_ (fun k hk=> ?_) (fun k c hk=> ?_)
   ·intro c hc
    have:tab1.all D.isCell=true:=rfl
    exact List.all_eq_true.1 this c hc
   ·rw[Nat.zero_add]
    have:=h1 (k/2) (by omega)
    by_cases e:k % 2=0
    ·simp only[if_pos e]
     have e2:2*(k/2)=k:=by omega
     rw[e2]at this
     exact⟨Qdr this.1,this.1⟩
    ·simp only[if_neg e]
     have e2:2*(k/2)+1=k:=by omega
     rw[e2]at this
     exact⟨Qdr this.2,this.2⟩
   ·have hk2:k<32:=by have:=(List.getElem?_eq_some_iff.1 hk).1;omega
    have:=Qir (k/2) (by omega)
    by_cases e:k % 2=0
    ·simp only[if_pos e]
     have e2:2*(k/2)=k:=by omega
     simp only[e2]at this
     rw[this.1]at hk;cases hk;exact .int _ _
    ·simp only[if_neg e]
     have e2:2*(k/2)+1=k:=by omega
     simp only[e2]at this
     rw[this.2]at hk;cases hk;exact .int _ _
  ·rw[if_neg n1]at hn
   by_cases n3:n=3
   ·subst n3
    rw[if_pos rfl]at hn
    cases hn
    have hl:tab3.length=20:=rfl
    refine VR.pref tab3 3 0 (fun k=> .int .u64 ((10^k:Nat):Int)) ?_ (fun k hk=> ?_) (fun k c hk=> ?_)
    ·intro c hc
     obtain⟨_,_,rfl⟩:=List.mem_map.1 hc
     rfl
    ·rw[Nat.zero_add]
     have:=h2 k (by omega)
     exact⟨Qdr this,this⟩
    ·have hk2:k<20:=by have:=(List.getElem?_eq_some_iff.1 hk).1;omega
     unfold tab3 at hk
     rw[List.getElem?_map,List.getElem?_range hk2]at hk
     cases hk;exact .int _ _
   ·rw[if_neg n3]at hn;cases hn
def ren:Go.Shelf.Ren:=⟨fun x=>x,fun t=>if t=119 then 89 else if t=138 then 91 else if t=139 then 92 else t,fun g=>g-3⟩
theorem types:U8Types Tryd.prog ren:=⟨by kernel_rfl,by kernel_rfl,by kernel_rfl,by kernel_rfl⟩
theorem extra:U8Extra Tryd.prog ren:=⟨by kernel_rfl,by kernel_rfl,by kernel_rfl,by kernel_rfl,by kernel_rfl,by kernel_rfl,by kernel_rfl⟩
theorem first_eq:Go.Pinned.utf8First=firstData:=by kernel_rfl
theorem Qpd:(Rows.laid_unicode_utf8_acceptRanges:DataW Unit)=acceptData:=by kernel_rfl
def QjJ:List (String×DataW Unit):= [("math/bits.deBruijn32tab",Rows.laid_math_bits_deBruijn32tab),("math/bits.deBruijn64tab",Rows.laid_math_bits_deBruijn64tab),("internal/strconv.uint64pow10",Rows.laid_internal_strconv_uint64pow10),("unicode/utf8.acceptRanges",Rows.laid_unicode_utf8_acceptRanges),("unicode/utf8.first",Rows.laid_unicode_utf8_first)]
theorem pow_eq:(Rows.laid_internal_strconv_uint64pow10:DataW Unit)=tabData .u64 pow10Tab:=by kernel_rfl
theorem pow_of{w:World}(h:VarReads Tryd.prog w "internal/strconv.uint64pow10" (tabData .u64 pow10Tab)):Pow10 w:=by
 obtain⟨g,t,cs,fuel,p,h1,h2,h3,h4⟩:=h
 have e1:Tryd.prog.globalNamed "internal/strconv.uint64pow10" =some 3:=by kernel_rfl
 rw[e1]at h1
 cases h1
 have e2:(Tryd.prog.globals[3]?).map (·.type)=some 127:=by kernel_rfl
 rw[e2]at h2
 cases h2
 have hc:=cells_of_tab (n:=20) (e:=98) (by kernel_rfl) (by kernel_rfl) (by kernel_rfl) (by kernel_rfl) h4
 have hti:TabIs Tryd.prog w "internal/strconv.uint64pow10" .u64 pow10Tab:=by
  unfold TabIs
  rw[h3,←hc]
 intro k hk
 have:=hti.cell e1 k (by rw[pow10Tab_length];exact hk)
 rwa [pow10Tab_at k hk]at this
theorem Qja{w:World}(h:laidMet Tryd.prog QjJ w):Qpk w:=by
 have h5:=Lib.laidMet.reads h (n:= "internal/strconv.uint64pow10") (d:=Rows.laid_internal_strconv_uint64pow10) (by simp[QjJ])
 rw[pow_eq]at h5
 refine tabOK_of ?_ (pow_of h5)
 have h3:=Lib.laidMet.reads h (n:= "unicode/utf8.first") (d:=Rows.laid_unicode_utf8_first) (by simp[QjJ])
 have h4:=Lib.laidMet.reads h (n:= "unicode/utf8.acceptRanges") (d:=Rows.laid_unicode_utf8_acceptRanges) (by simp[QjJ])
 have e:(Rows.laid_unicode_utf8_first:DataW Unit)=firstData:=first_eq
 rw[e]at h3
 rw[Qpd]at h4
 exact utf8Tabs_of_readsT types extra h3 h4
end Go.Proofs.YtmhmjlfajlpabaaDoor
namespace Go.Proofs.YtmhmjlfajlpabaaDoor
open Go Go.Proofs
def renS:Go.Shelf.Ren:=⟨fun f=>(([(6,62),(15,76),(14,75),(28,90),(29,91),(20,82),(21,83),(22,84),(23,85),(24,86),(25,87),(26,88),(27,89),(46,96),(47,97),(48,98),(49,99),(50,100),(57,105)]:List (Nat×Nat)).lookup f).getD f,
 fun t=>(([(22,63),(24,3),(25,86),(3,3),(39,69),(0,0),(53,103),(55,98),(4,4),(46,106),(45,105),(50,110),(5,5),(9,9),(66,119),(70,123),(76,129),(77,51)]:List (Nat×Nat)).lookup t).getD t,fun g=>g⟩
theorem QlX:SlLaysF.n6 Tryd.prog renS:=by
 constructor
 case f6=>first|exact⟨Tryd.f62.name,by decide,by kernel_rfl⟩|kernel_rfl
 case f15=>first|exact⟨Tryd.f76.name,by decide,by kernel_rfl⟩|kernel_rfl
 case f14=>first|exact⟨Tryd.f75.name,by decide,by kernel_rfl⟩|kernel_rfl
 case f28=>first|exact⟨Tryd.f90.name,by decide,by kernel_rfl⟩|kernel_rfl
 case f29=>first|exact⟨Tryd.f91.name,by decide,by kernel_rfl⟩|kernel_rfl
 case f20=>first|exact⟨Tryd.f82.name,by decide,by kernel_rfl⟩|kernel_rfl
 case f21=>first|exact⟨Tryd.f83.name,by decide,by kernel_rfl⟩|kernel_rfl
 case f22=>first|exact⟨Tryd.f84.name,by decide,by kernel_rfl⟩|kernel_rfl
 case f23=>first|exact⟨Tryd.f85.name,by decide,by kernel_rfl⟩|kernel_rfl
 case f24=>first|exact⟨Tryd.f86.name,by decide,by kernel_rfl⟩|kernel_rfl
 case f25=>first|exact⟨Tryd.f87.name,by decide,by kernel_rfl⟩|kernel_rfl
 case f26=>first|exact⟨Tryd.f88.name,by decide,by kernel_rfl⟩|kernel_rfl
 case f27=>first|exact⟨Tryd.f89.name,by decide,by kernel_rfl⟩|kernel_rfl
 case f46=>first|exact⟨Tryd.f96.name,by decide,by kernel_rfl⟩|kernel_rfl
 case f47=>first|exact⟨Tryd.f97.name,by decide,by kernel_rfl⟩|kernel_rfl
 case f48=>first|exact⟨Tryd.f98.name,by decide,by kernel_rfl⟩|kernel_rfl
 case f49=>first|exact⟨Tryd.f99.name,by decide,by kernel_rfl⟩|kernel_rfl
 case f50=>first|exact⟨Tryd.f100.name,by decide,by kernel_rfl⟩|kernel_rfl
 case f57=>first|exact⟨Tryd.f105.name,by decide,by kernel_rfl⟩|kernel_rfl
 all_goals first|kernel_rfl|exact fun w=>by kernel_rfl
end Go.Proofs.YtmhmjlfajlpabaaDoor
set_option maxHeartbeats 1000000
namespace Go.Proofs.YtmhmjlfajlpabaaDoor
open Go Go.Proofs Go.RowKit
def cmpB(ki kj:ByteArray):Int:=if Op.bytesLess ki.toList kj.toList then-1 else if ki.toList==kj.toList then 0 else 1
theorem gtr_run(a b:ByteArray)(w:World):(binOp .gtr 9 (.string a) (.string b)).run Tryd.prog w= .ok (.bool (!Op.bytesLess a.toList b.toList&& !a.toList==b.toList)) w:=by
 have u9:Tryd.prog.underlying 9=some .string:=by kernel_rfl
 simp[binOp,run_underlying u9,Op.stringOp]
theorem cmp63(W:World)(kb sb so n cap i j:Nat)(ki kj:ByteArray)(hk:W.cell? ⟨kb,0,none⟩=some (.slice (some ⟨sb,so,none⟩) n cap))(hi:i<n)(hj:j<n)
  (ci:W.cell? ⟨sb,so+i,none⟩=some (.string ki))(cj:W.cell? ⟨sb,so+j,none⟩=some (.string kj)):
  Calls Tryd.prog 63 #[.int .i64 i,.int .i64 j,.pointer (some ⟨kb,0,none⟩)] W fun e w'=>e= .returned (.int .i64 (cmpB ki kj))∧∃q,w'=W.drewN q:=by
 unfold cmpB
 cases h1:Op.bytesLess ki.toList kj.toList with
 |true=>
  go_enter Tryd.func63,Tryd.ntmps63
  go_wp2
  go_quiet (fail)
  go_wp2
  go_ret
  exact⟨rfl,_,rfl⟩
 |false=>
  have hg:=gtr_run ki kj
  simp only[h1]at hg
  cases h2:ki.toList==kj.toList with
  |true=>
   go_enter Tryd.func63,Tryd.ntmps63
   go_wp2
   go_quiet (fail)
   go_wp2
   go_quiet (fail)
   go_wp2
   go_ret
   exact⟨rfl,_,rfl⟩
  |false=>
   go_enter Tryd.func63,Tryd.ntmps63
   go_wp2
   go_quiet (fail)
   go_wp2
   go_quiet (fail)
   go_wp2
   go_ret
   exact⟨rfl,_,rfl⟩
end Go.Proofs.YtmhmjlfajlpabaaDoor
set_option maxHeartbeats 1000000
namespace Go.Proofs.YtmhmjlfajlpabaaDoor
open Go Go.Abs Go.Proofs Go.RowKit Go.Lib
theorem Qjb:∀ {xs:List D} {ks:List Tx},QdA xs=some ks→xs=ks.map D.str
 | [],_,h=>by cases h;rfl
 |.str s::l,ks,h=>by
  simp only[QdA,Option.map_eq_some_iff]at h
  obtain⟨r,h1,rfl⟩:=h
  rw[Qjb h1];rfl
 |.int _ _::_,_,h=>by simp[QdA]at h
 |.bool _::_,_,h=>by simp[QdA]at h
 |.agg _::_,_,h=>by simp[QdA]at h
 |.slice _::_,_,h=>by simp[QdA]at h
 |.nilptr::_,_,h=>by simp[QdA]at h
theorem QnH{lim:Nat}{args:List AV}{H H':Qaa}{a:AV}(h:Qkw lim args H=some (a,H')):
  ∃r k c ks,args= [.oslice r 0 ks.length c 1,.func (.func 63) [.ptr k 0]]∧H[r]? =some (.cells ((List.range ks.length).map fun(i:Nat)=>intD (i:Int)))∧H[k]? =some (.cells [.d (.slice (ks.map D.str))])∧lim≤r∧r≠k∧ks.length<1000000000000∧ks.Nodup∧a= .tuple []∧
   H'=H.set r (.cells ((Qay ks).map fun(i:Nat)=>intD (i:Int))):=by
 unfold Qkw at h
 split at h
 ·rename_i r n c k
  split at h
  ·rename_i cs xs h1 h2
   split at h
   ·rename_i ks h3
    split at h
    ·rename_i hc
     obtain⟨c1,c2,c3,c4,c5,c6,c7⟩:=hc
     simp only[Option.some.injEq,Prod.mk.injEq]at h
     obtain⟨rfl,rfl⟩:=h
     subst c3
     have e:=AV.beqs_eq c7
     subst e
     rw[Qjb h3]at h2
     exact⟨r,k,c,ks,rfl,h1,h2,c1,c2,c4,c5,rfl,rfl⟩
    ·cases h
   ·cases h
  ·cases h
 ·cases h
def bytesV:Value→ByteArray
 |.string s=>s
 |_=>default
theorem Qmt{bd:Nat→Nat}{w:World}{ks:List Tx}{v:Value}(h:DR bd w (.slice (ks.map D.str)) v)(hne:ks≠ []):
  ∃b off cap,∃B:Nat→ByteArray,v= .slice (some ⟨b,off,none⟩) ks.length cap∧∀i,i<ks.length→off+i<bd b∧w.cell? ⟨b,off+i,none⟩=some (.string (B i))∧(B i).data.toList=ks.getD i []:=by
 generalize e:(D.slice (ks.map D.str))=x at h
 cases h with
 |slice xs b off len cap sz vs hlen hcap hu hf hc hd=>
  injection e with e
  subst e
  simp only[List.length_map]at hlen hc
  have hsz:sz=1:=by
   obtain⟨k,l,rfl⟩:=List.exists_cons_of_ne_nil hne
   have:=hu (.str k) (by simp)
   exact this.symm
  subst hsz
  refine⟨b,off,cap,fun i=>bytesV (vs i),by rw[hlen],fun i hi=> ?_⟩
  obtain⟨q1,q2⟩:=hc i (by omega)
  have q3:=hd i 0 (.str ks[i]) (.str ks[i]) (by rw[List.getElem?_map,List.getElem?_eq_getElem hi];rfl) rfl
  simp only[Nat.mul_one,Nat.add_zero]at q3
  refine⟨q1, ?_, ?_⟩<;>simp only
  ·generalize vs i=u at q3 q2
   cases q3 with
   |str _ s hs=>exact q2
  ·generalize vs i=u at q3 q2
   cases q3 with
   |str _ s hs=>rw[show bytesV (.string s)=s from rfl,hs];simp only[List.getD,List.getElem?_eq_getElem hi,Option.getD_some]
 |slnil=>injection e with e;simp at e;exact absurd e hne
 |sle a cap=>injection e with e;simp at e;exact absurd e hne
 |_=>cases e
theorem fin_vals(n:Nat):(List.finRange n).map Fin.val=List.range n:=by
 apply List.ext_getElem<;>simp
theorem fn62:Qii Tryd.prog 62:=⟨_,Tryd.func62,by kernel_rfl,by kernel_rfl⟩
theorem cmpB_lt(a b:ByteArray):decide (cmpB a b<0)=decide (a.data.toList<b.data.toList):=by
 unfold cmpB
 rw[bless,toList_data,toList_data]
 by_cases h:a.data.toList<b.data.toList
 ·simp[h]
 ·simp only[h,decide_false,Bool.false_eq_true,if_false]
  split<;>simp
theorem Qmy{g:Gh}{w:World}{H:Qaa}(hH:HeapOK g H w){r k c:Nat}{ks:List Tx}
  (gr:H[r]? =some (.cells ((List.range ks.length).map fun(i:Nat)=>intD (i:Int))))(gk:H[k]? =some (.cells [.d (.slice (ks.map D.str))]))(hrk:r≠k)(hn:ks.length<1000000000000)(hd:ks.Nodup){vals:Array Value}(hv0:2=vals.size)
  (hv:∀(i:Nat) x v,[AV.oslice r 0 ks.length c 1,.func (.func 63) [.ptr k 0]][i]? =some x→vals[i]? =some v→VR g w x v∧FOK g w (.slot i) x v):
  Calls Tryd.prog 62 vals w fun e w'=>∃v g',e= .returned v∧WF g w g' w'∧HeapOK g' (H.set r (.cells ((Qay ks).map fun(i:Nat)=>intD (i:Int)))) w'∧VR g' w' (.tuple []) v∧FOK g' w' .res (.tuple []) v:=by
 obtain⟨v0,v1,rfl⟩:∃v0 v1,vals= #[v0,v1]:=⟨vals[0],vals[1],by
  apply Array.ext
  ·simpa using hv0.symm
  ·intro i h1 h2
   simp at h2
   rcases(by omega:i=0∨i=1)with rfl|rfl<;>rfl⟩
 have hv1:=(hv 0 _ v0 rfl rfl).1
 have hv2:=(hv 1 _ v1 rfl rfl).1
 obtain⟨hrn,vs,e,fr,h1,⟨h2a,h2b⟩,h3,h4,h5⟩:=hH.get gr
 obtain⟨hkn,us,e',fr',k1,⟨k2a,k2b⟩,k3,k4,k5⟩:=hH.get gk
 have har:=Qco gr (by simp)
 have hak:=Qco gk (by simp)
 have hb:g.rho r<w.heap.size:=hH.rho_lt hrn har
 simp only[List.length_map,List.length_range]at h2a
 cases hv1 with
 |osl _ _ _ _ cap' _ q1 q2 q3 q4=>
 cases hv2 with
 |func _ _ vs2 p1 p2 p3=>
 obtain⟨u0,rfl⟩:∃u0,vs2= #[u0]:=⟨vs2[0]'(by simp at p1;omega),by
  apply Array.ext
  ·simp at p1⊢;omega
  ·intro i a b
   simp at b;subst b;rfl⟩
 have hp:=p2 0 _ u0 rfl rfl
 cases hp with
 |ptr _ _ hlt=>
 by_cases hne:ks= []
 ·subst hne
  have:=AnyF.slices_SortFunc_none (P:=Tryd.prog) (ρ:=renS) { QlX with } (some ⟨g.rho r,0,none⟩) cap' (.func (.func 63) #[] #[.pointer (some ⟨g.rho k,0,none⟩)]) w
  refine Calls.mono this ?_
  rintro _ _ ⟨rfl,rfl⟩
  refine⟨_,g,rfl,.refl _ _, ?_,.tuple [] #[] rfl (fun i c v h=>by simp at h) (fun i c v h=>by simp at h),FOK.ne (by simp)⟩
  have e1:H.set r (.cells ((Qay []).map fun(i:Nat)=>intD (i:Int)))=H:=by
   apply List.ext_getElem?
   intro i
   rw[List.getElem?_set]
   split
   ·rename_i hi;subst hi
    rw[gr]
    simp[(List.getElem?_eq_some_iff.1 gr).1,Qay,Qmz]
   ·rfl
  rw[e1];exact hH
 ·obtain⟨m,hm⟩:∃m,ks.length=m+1:=⟨ks.length-1,by have:=List.length_pos_iff.2 hne;omega⟩
  have u0v:∃u,us[0]? =some u∧DR g.bd w (.slice (ks.map D.str)) u:=by
   have:0<us.size:=by simp at k2a;omega
   refine⟨us[0],Array.getElem?_eq_getElem this, ?_⟩
   have:=(k5 0 _ us[0] rfl (Array.getElem?_eq_getElem this)).1
   cases this with
   |d _ _ h=>exact h
  obtain⟨u,hu0,hu⟩:=u0v
  obtain⟨sb,so,scap,B,rfl,hB⟩:=Qmt hu hne
  have hsb:sb≠g.rho r:=fun e=>by
   have:=(hB 0 (by omega)).1
   rw[e,(hH.own r hrn har).2]at this
   omega
  have hkb:g.rho k≠g.rho r:=fun e=>hrk (hH.rho_inj hrn hkn har hak e.symm)
  have hsbl:sb<w.heap.size:=hH.bd_lt (hB 0 (by omega)).1
  have hkbl:g.rho k<w.heap.size:=hH.rho_lt hkn hak
  have hinj:∀i j:Fin (m+1),(B i).data.toList=(B j).data.toList→i=j:=fun i j h=>by
   have hi:i.1<ks.length:=by omega
   have hj:j.1<ks.length:=by omega
   rw[(hB i.1 hi).2.2,(hB j.1 hj).2.2]at h
   exact Fin.ext (QjL hd hi hj h)
  let enc:Fin (m+1)→Value:=fun i=> .int .i64 (i.1:Nat)
  let cf:Fin (m+1)→Fin (m+1)→Int:=fun i j=>cmpB (B i) (B j)
  have hlt:∀i j,ltOf cf i j=decide ((B i).data.toList<(B j).data.toList):=fun i j=>cmpB_lt _ _
  have swo:Go.Sort.SWO (ltOf cf):=by
   refine⟨fun x=> ?_,fun x y z h1 h2=> ?_,fun x y z h1 h2=> ?_⟩
   ·rw[hlt];simp[List.lt_irrefl]
   ·rw[hlt]at*;simp only[decide_eq_true_eq]at*;exact List.lt_trans h1 h2
   ·rw[hlt]at*
    simp only[decide_eq_false_iff_not,List.not_lt]at*
    exact List.le_trans h2 h1
  have tot:∀x y,ltOf cf x y=false→ltOf cf y x=false→x=y:=fun x y h1 h2=>by
   rw[hlt]at h1 h2
   simp only[decide_eq_false_iff_not,List.not_lt]at h1 h2
   exact hinj x y (List.le_antisymm h2 h1)
  have eg:∀args w,(callFunc 63 args).run Tryd.prog w= .ok (.enter 63 args) w:=enters_of Tryd.func63 (by kernel_rfl) rfl
  let d:Array (Fin (m+1)):=(List.finRange (m+1)).toArray
  have hds:d.size=m+1:=by simp[d]
  have hdj:∀(j:Nat) (hj:j<m+1),d[j]! =⟨j,hj⟩:=fun j hj=>by
   rw[getElem!_pos d j (by omega)]
   simp[d]
  have hHd:Go.Sort.Holds enc w (g.rho r) 0 d:=fun j hj=>by
   rw[hds]at hj
   have hjs:j<vs.size:=by omega
   refine⟨?_, ?_⟩
   ·rw[Nat.zero_add,QaC h1,Array.getElem?_eq_getElem hjs]
    have:=(h5 j (intD (j:Nat)) vs[j] (by simp[List.getElem?_map,List.getElem?_range,hm,hj]) (Array.getElem?_eq_getElem hjs)).1
    rw[hdj j hj]
    generalize vs[j]=vj at this
    cases this with
    |d _ _ h=>cases h;rfl
   ·rw[Nat.zero_add];exact Qbv h1 h3 hjs
  have reads:CmpReads Tryd.prog 63 #[.pointer (some ⟨g.rho k,0,none⟩)] enc cf (g.rho r) 0 (m+1) w:=by
   intro q os dk hs x y
   have hx:x.1<ks.length:=by omega
   have hy:y.1<ks.length:=by omega
   have hcell:∀(b o:Nat),b≠g.rho r→b<w.heap.size→(sortWorld enc w (g.rho r) 0 q dk os).cell? ⟨b,o,none⟩=w.cell? ⟨b,o,none⟩:=fun b o h1 h2=>by
    unfold sortWorld
    rw[Go.Sort.cell?_grow _ _ _ (by simpa using h2),Go.Sort.cell?_putRow_other _ _ _ _ _ _ (.inl h1),Go.Sort.cell?_ahead]
   exact cmp63 _ (g.rho k) sb so ks.length scap x.1 y.1 (B x) (B y) (by rw[hcell _ _ hkb hkbl,QaC k1];exact hu0) hx hy (by rw[hcell _ _ hsb hsbl];exact(hB x.1 hx).2.1) (by rw[hcell _ _ hsb hsbl];exact(hB y.1 hy).2.1)
  have hS:=Any.slices_SortFunc_total QlX enc (fun _=>rfl) cf swo 63 #[.pointer (some ⟨g.rho k,0,none⟩)] (g.rho r) 0 cap' d w eg (by rw[hds];exact reads.lays) hHd hb (by rw[hds];omega) tot
  rw[show d.size=ks.length by rw[hds,hm]]at hS
  refine Calls.mono hS ?_
  rintro _ _ ⟨rfl,q,os,rfl⟩
  have hrow:((List.finRange (m+1)).mergeSort fun x y=> !ltOf cf y x).map Fin.val=Qay ks:=by
   rw[←Qkb hd,List.map_mergeSort (s:=fun i j=> !tless (ks.getD j []) (ks.getD i [])),fin_vals,hm]
   intro i _ j _
   rw[hlt,tless,bless,(hB i.1 (by omega)).2.2,(hB j.1 (by omega)).2.2]
  have hys:(d.toList.mergeSort fun x y=> !ltOf cf y x)=((List.finRange (m+1)).mergeSort fun x y=> !ltOf cf y x):=rfl
  rw[hys]
  generalize hgy:((List.finRange (m+1)).mergeSort fun x y=> !ltOf cf y x)=ys at hrow
  have hyl:ys.length=m+1:=by rw[←hgy,List.length_mergeSort];simp
  rw[show sortWorld enc w (g.rho r) 0 q ys.toArray os=Go.Sort.grow ((w.drewN q).setCells (g.rho r) 0 (ys.map enc)) os from sorted_world enc w (g.rho r) 0 q d ys os hHd (by rw[hyl,hds])]
  have f1:Frn g w (w.drewN q):=⟨rfl,rfl,rfl,Nat.le_refl _,fun _ _ _=>rfl⟩
  have hH1:=f1.heap hH
  have hw1:WF g w g (w.drewN q):=f1.wf hH (.refl _ _) fun _ _=>rfl
  obtain⟨ht,hor,_⟩:=Qdo (P:=Tryd.prog) hH1 (r:=r) (us:=ys.map enc) (ds:=(Qay ks).map fun(i:Nat)=>intD (i:Int)) (off:=0) gr (by simp[hyl,hm]) (by rw[←hrow];simp) (fun c hc=>by
   obtain⟨i,_,rfl⟩:=List.mem_map.1 hc;rfl) (fun i c v hc hv=>by
   rw[←hrow]at hc
   simp only[List.getElem?_map,Option.map_map,Option.map_eq_some_iff]at hc hv
   obtain⟨a,ha,rfl⟩:=hc
   obtain⟨b,hb,rfl⟩:=hv
   rw[ha]at hb;cases hb
   exact⟨.d _ _ (.int _ _),FOK.triv (Triv.d _ _)⟩)
  have hspl:splice ((List.range ks.length).map fun(i:Nat)=>intD (i:Int)) 0 ((Qay ks).map fun(i:Nat)=>intD (i:Int))=(Qay ks).map fun(i:Nat)=>intD (i:Int):=by
   unfold splice
   rw[List.take_zero,List.nil_append,List.drop_eq_nil_of_le (by rw[←hrow];simp[hyl,hm]),List.append_nil]
  rw[hspl]at hor
  have hH2:=QcF hH1 hrn har ht hor
  have hw2:=Qbs hH1 hrn har ht
  have f3:Frn g ((w.drewN q).setCells (g.rho r) 0 (ys.map enc)) (Go.Sort.grow ((w.drewN q).setCells (g.rho r) 0 (ys.map enc)) os):=⟨rfl,rfl,rfl,by simp,fun k hk _=>Go.Sort.heap_grow_old _ _ hk⟩
  have hH3:=f3.heap hH2
  have hw3:=f3.wf hH2 (.refl _ _) fun k hk=>Go.Sort.heap_grow_old _ _ hk
  exact⟨_,g,rfl,(hw1.trans hw2).trans hw3,hH3,.tuple [] #[] rfl (fun i c v h=>by simp at h) (fun i c v h=>by simp at h),FOK.ne (by simp)⟩
theorem Qmx:FSound Tryd.prog 62 Qkw:=by
 intro lim args H a H' h hlim
 obtain⟨r,k,c,ks,rfl,gr,gk,hl,hrk,hn,hd,rfl,rfl⟩:=QnH h
 exact⟨Ext.set _ hl,fun vals g w hH hn' hv0 hv=> .inl ⟨fn62,Qmy hH gr gk hrk hn hd hv0 hv⟩⟩
end Go.Proofs.YtmhmjlfajlpabaaDoor
set_option maxHeartbeats 1000000
namespace Go.Proofs.YtmhmjlfajlpabaaDoor
open Go Go.Abs Go.Proofs Go.RowKit
theorem QjB{P:Program}{f:FuncId}(hf:Qii P f){k:IntKind}{ok:Int→Prop} [DecidablePred ok]{out:Int→D}{res:Int→Value}
  (hr:∀(bd:Nat→Nat) (w:World) n,ok n→DR bd w (out n) (res n))
  (h:∀(w:World) (n:Int),ok n→Calls P f #[.int k n] w fun e w'=>e= .returned (res n)∧w'=w):
  FSound P f fun _ args H=>match args with
   | [.d (.int k' n)]=>if k'=k∧ok n then some (.d (out n),H)else none
   |_=>none:=by
 intro lim args H a H' hF hlim
 simp only at hF
 split at hF
 ·rename_i k' n
  split at hF
  ·rename_i hok
   obtain⟨rfl,hok⟩:=hok
   simp only[Option.some.injEq,Prod.mk.injEq]at hF
   obtain⟨rfl,rfl⟩:=hF
   refine⟨Ext.refl _ _,fun vals g w hH hn hl hv=> .inl ⟨hf, ?_⟩⟩
   obtain⟨vl⟩:=vals
   match vl,hl with
   | [u],_=>
     have h0:=(hv 0 _ u rfl (by simp)).1
     cases h0 with
     |d _ _ h0=>cases h0 with
      |int=>
       refine Calls.mono (h w n hok) ?_
       rintro e w' ⟨rfl,rfl⟩
       exact⟨_,g,rfl,.refl _ _,hH,.d _ _ (hr _ _ n hok),fun xs e=>by cases e⟩
  ·cases hF
 ·cases hF
def ren91:Go.Shelf.Ren:=⟨fun f=>(([(129,91)]:List (Nat×Nat)).lookup f).getD f,fun t=>(([(53,98),(3,3),(4,4),(46,69),(5,5),(9,9)]:List (Nat×Nat)).lookup t).getD t,fun g=>g⟩
theorem lays91:Lays.n129 Tryd.prog ren91:=by
 constructor<;>first|kernel_rfl|exact fun w=>by kernel_rfl
def ren92:Go.Shelf.Ren:=⟨fun f=>(([(283,92)]:List (Nat×Nat)).lookup f).getD f,fun t=>(([(3,3),(9,9),(4,4)]:List (Nat×Nat)).lookup t).getD t,fun g=>g⟩
theorem lays92:Lays.n283 Tryd.prog ren92:=by
 constructor<;>first|kernel_rfl|exact fun w=>by kernel_rfl
def ren94:Go.Shelf.Ren:=⟨fun f=>(([(285,94)]:List (Nat×Nat)).lookup f).getD f,fun t=>(([(37,22),(53,98),(3,3),(4,4),(51,103),(9,9),(5,5),(0,0)]:List (Nat×Nat)).lookup t).getD t,fun g=>g⟩
theorem lays94:Lays.n285 Tryd.prog ren94:=by
 constructor<;>first|kernel_rfl|exact fun w=>by kernel_rfl
theorem small_eq{n:Nat}(h:n<100):QdD n=Lib.decDigits n:=by
 unfold QdD
 split
 ·rename_i h1;rw[Lib.decDigits_one h1]
 ·rename_i h1;rw[Lib.decDigits_two h1 h]
theorem fn91:Qii Tryd.prog 91:=⟨_,Tryd.func91,by kernel_rfl,by kernel_rfl⟩
theorem fn92:Qii Tryd.prog 92:=⟨_,Tryd.func92,by kernel_rfl,by kernel_rfl⟩
theorem fn94:Qii Tryd.prog 94:=⟨_,Tryd.func94,by kernel_rfl,by kernel_rfl⟩
theorem Qkx:FSound Tryd.prog 92 QhD:=by
 have:=QjB (k:= .i64) fn92 (ok:=fun i=>0≤i∧i<100) (out:=fun i=> .str (QdD i.toNat)) (res:=fun i=> .string ⟨(Lib.decDigits i.toNat).toArray⟩)
  (fun bd w n hn=> .str _ _ (by rw[small_eq (by omega)])) fun w n hn=>by
    obtain⟨m,rfl⟩:∃m:Nat,n=(m:Int):=⟨n.toNat,by omega⟩
    exact Any.internal_strconv_small lays92 m (by omega) w
 refine this.less fun lim a H r hr=> ?_
 unfold QhD at hr
 split at hr
 ·simp only[true_and];exact hr
 ·cases hr
theorem QkR:FSound Tryd.prog 91 QhY:=by
 have:=QjB (k:= .u64) fn91 (ok:=fun i=>0≤i∧i<18446744073709551616) (out:=fun u=> .int .i64 (Lib.bitLen u.toNat:Nat)) (res:=fun u=> .int .i64 (Lib.bitLen u.toNat:Nat))
  (fun bd w n hn=> .int _ _) fun w n hn=>Any.bits_Len64 lays91 n w hn.1 (by omega)
 refine this.less fun lim a H r hr=> ?_
 unfold QhY at hr
 split at hr
 ·simp only[true_and];exact hr
 ·cases hr
theorem fbF_inv{lim:Nat}{args:List AV}{H H':Qaa}{a:AV}(h:fbF lim args H=some (a,H')):
  ∃r c u cs,args= [.oslice r 0 (Lib.nDigits u) c 1,.d (.int .u64 (u:Nat))]∧H[r]? =some (.cells cs)∧lim≤r∧u<18446744073709551616∧Lib.nDigits u≤24∧Lib.nDigits u≤cs.length∧cs.take (Lib.nDigits u)=List.replicate (Lib.nDigits u) (.d (.int .u8 0))∧a= .tuple []∧
   H'=H.set r (.cells (splice cs 0 ((Lib.decDigits u).map fun b=>AV.d (byteD b)))):=by
 unfold fbF at h
 split at h
 ·rename_i r n c u
  split at h
  ·rename_i cs h1
   split at h
   ·rename_i hc
    obtain⟨c1,c2,c3,c4,c24,c5,c6⟩:=hc
    simp only[Option.some.injEq,Prod.mk.injEq]at h
    obtain⟨rfl,rfl⟩:=h
    obtain⟨m,rfl⟩:∃m:Nat,u=(m:Int):=⟨u.toNat,by omega⟩
    simp only[Int.toNat_natCast]at c4
    subst c4
    exact⟨r,c,m,cs,rfl,h1,c1,by omega,c24,c5,AV.beqs_eq c6,rfl,rfl⟩
   ·cases h
  ·cases h
 ·cases h
abbrev encB(b:UInt8):Value:= .int .u8 (b.toNat:Int)
theorem fb_calls{g:Gh}{w:World}{H:Qaa}(hH:HeapOK g H w){r c u:Nat}{cs:List AV}(gr:H[r]? =some (.cells cs))(hu:u<18446744073709551616)(hn24:Lib.nDigits u≤24)(hn:Lib.nDigits u≤cs.length)
  (hz:cs.take (Lib.nDigits u)=List.replicate (Lib.nDigits u) (.d (.int .u8 0))){vals:Array Value}(hv0:2=vals.size)
  (hv:∀(i:Nat) x v,[AV.oslice r 0 (Lib.nDigits u) c 1,.d (.int .u64 (u:Nat))][i]? =some x→vals[i]? =some v→VR g w x v∧FOK g w (.slot i) x v):
  Calls Tryd.prog 94 vals w fun e w'=>∃v g',e= .returned v∧WF g w g' w'∧HeapOK g' (H.set r (.cells (splice cs 0 ((Lib.decDigits u).map fun b=>AV.d (byteD b))))) w'∧VR g' w' (.tuple []) v∧FOK g' w' .res (.tuple []) v:=by
 obtain⟨v0,v1,rfl⟩:∃v0 v1,vals= #[v0,v1]:=⟨vals[0],vals[1],by
  apply Array.ext
  ·simpa using hv0.symm
  ·intro i h1 h2
   simp at h2
   rcases(by omega:i=0∨i=1)with rfl|rfl<;>rfl⟩
 have hv1:=(hv 0 _ v0 rfl rfl).1
 have hv2:=(hv 1 _ v1 rfl rfl).1
 obtain⟨hrn,vs,e,fr,h1,⟨h2a,h2b⟩,h3,h4,h5⟩:=hH.get gr
 have har:=Qco gr (by simp)
 generalize hN:Lib.nDigits u=N at*
 cases hv1 with
 |osl _ _ _ _ cap' _ q1 q2 q3 q4=>
 cases hv2 with
 |d _ _ hv2=>
 cases hv2 with
 |int=>
 let d:Array UInt8:=Array.replicate N 0
 have hds:d.size=N:=by simp[d]
 have hHd:Go.Sort.Holds encB w (g.rho r) 0 d:=fun j hj=>by
  rw[hds]at hj
  have hjs:j<vs.size:=by omega
  refine⟨?_, ?_⟩
  ·rw[Nat.zero_add,QaC h1,Array.getElem?_eq_getElem hjs]
   have hcj:cs[j]? =some (.d (.int .u8 0)):=by
    have:=congrArg (fun l=>l[j]?) hz
    simp only[List.getElem?_take,if_pos hj,List.getElem?_replicate]at this
    exact this
   have:=(h5 j _ vs[j] hcj (Array.getElem?_eq_getElem hjs)).1
   generalize vs[j]=vj at this
   cases this with
   |d _ _ h=>
    cases h
    rw[getElem!_pos d j (by omega)]
    simp[d,encB]
  ·rw[Nat.zero_add];exact Qbv h1 h3 hjs
 have hS:=Any.internal_strconv_formatBase10 lays94 (g.rho r) 0 cap' u d w hHd (by rw[hds,←hN];exact Lib.lt_pow_nDigits u) hu (by omega)
 rw[hds]at hS
 refine Calls.mono hS ?_
 rintro _ _ ⟨rfl,q,v',dk,rfl,hfi⟩
 have hfs:dk.size=N:=hfi.size
 have hdk:dk=(Lib.decDigits u).toArray:=by
  apply Array.ext
  ·rw[hfs,List.size_toArray,Lib.decDigits_length,hN]
  ·intro i a b
   rw[←hN]at hfi
   have:=Lib.row_is_numeral hfi i (by simpa using b)
   rw[getElem!_pos dk i a]at this
   exact this.symm
 subst hdk
 rw[show(Go.Sort.putRow encB w (g.rho r) 0 (Lib.decDigits u).toArray).drewN q=(w.drewN q).setCells (g.rho r) 0 ((Lib.decDigits u).map encB)from Lib.putRow_eq_setCells encB w (g.rho r) 0 d (Lib.decDigits u) q hHd (by rw[hds,←hN,Lib.decDigits_length])]
 have f1:Frn g w (w.drewN q):=⟨rfl,rfl,rfl,Nat.le_refl _,fun _ _ _=>rfl⟩
 have hH1:=f1.heap hH
 have hw1:WF g w g (w.drewN q):=f1.wf hH (.refl _ _) fun _ _=>rfl
 obtain⟨ht,hor,_⟩:=Qdo (P:=Tryd.prog) hH1 (r:=r) (us:=(Lib.decDigits u).map encB) (ds:=(Lib.decDigits u).map fun b=>AV.d (byteD b)) (off:=0) gr (by rw[List.length_map,Lib.decDigits_length];omega) (by simp) (fun c hc=>by
  obtain⟨i,_,rfl⟩:=List.mem_map.1 hc;rfl) (fun i c v hc hv=>by
  simp only[List.getElem?_map,Option.map_eq_some_iff]at hc hv
  obtain⟨a,ha,rfl⟩:=hc
  obtain⟨b,hb,rfl⟩:=hv
  rw[ha]at hb;cases hb
  exact⟨.d _ _ (.int _ _),FOK.triv (Triv.d _ _)⟩)
 have hH2:=QcF hH1 hrn har ht hor
 have hw2:=Qbs hH1 hrn har ht
 exact⟨_,g,rfl,hw1.trans hw2,hH2,.tuple [] #[] rfl (fun i c v h=>by simp at h) (fun i c v h=>by simp at h),FOK.ne (by simp)⟩
theorem fb_sound:FSound Tryd.prog 94 fbF:=by
 intro lim args H a H' h hlim
 obtain⟨r,c,u,cs,rfl,gr,hl,hu,hn24,hn,hz,rfl,rfl⟩:=fbF_inv h
 exact⟨Ext.set _ hl,fun vals g w hH hn' hv0 hv=> .inl ⟨fn94,fb_calls hH gr hu hn24 hn hz hv0 hv⟩⟩
end Go.Proofs.YtmhmjlfajlpabaaDoor
namespace Go.Proofs.YtmhmjlfajlpabaaDoor
open Go Go.Abs Go.Lib
def ren2:Go.Shelf.Ren:=⟨fun f=>if f=196 then 67 else if f=259 then 78 else f,fun t=>if t=119 then 89 else if t=46 then 69 else if t=139 then 92 else if t=138 then 91 else if t=53 then 98 else t,fun g=>g-3⟩
theorem Qou:Go.Proofs.Lays.n196 Tryd.prog ren2:=by
 constructor<;>first|kernel_rfl|exact fun w=>by kernel_rfl
theorem int_of{bd:Nat→Nat}{w:World}{k:IntKind}{n:Int}{v:Value}(h:DR bd w (.int k n) v):v= .int k n:=by cases h;rfl
theorem Qgw{g:Gh}{w:World}{cs:List D}{b:Nat}(h:VR g w (.pref cs) (.pointer (some ⟨b,0,none⟩))){i:Nat}{k:IntKind}{n:Int}(hi:cs[i]? =some (.int k n)):w.cell? ⟨b,i,none⟩=some (.int k n):=by
 cases h with
 |pref _ _ _ vs hf hc hd=>
  have h1:=(hc i (List.getElem?_eq_some_iff.1 hi).1).2
  rw[Nat.zero_add]at h1
  have:=int_of (hd i _ hi)
  rw[this]at h1
  exact h1
theorem Qfy{g:Gh}{H:Qaa}{w:World}(h:HeapOK g H w):Lib.Utf8Tabs 0 1 w:=by
 have g0:=h.glob 0 tab0 rfl
 have g1:=h.glob 1 tab1 rfl
 exact⟨fun k hk=>Qgw g0 (QnD hk),fun k hk=>⟨Qgw g1 (Qir k hk).1,Qgw g1 (Qir k hk).2⟩⟩
theorem Qkn:FSound Tryd.prog 67 Qi6:=by
 refine Go.Abs.text_sound Tryd.func67 (by kernel_rfl) (by kernel_rfl) (ok:=fun s=>s.length≤9223372036854775807) (out:=fun s=> .bool (Lib.validD s)) (res:=fun s=> .bool (Lib.validD s.data.toList)) (fun bd w s=> .bool _) fun g H w hH s hs=> ?_
 exact Any.utf8_ValidString Qou s w (by simpa using hs) (Qfy hH)
def ren3:Go.Shelf.Ren:=⟨fun f=>if f=197 then 35 else if f=260 then 55 else f,fun t=>if t=105 then 54 else if t=119 then 89 else if t=46 then 69 else if t=139 then 92 else if t=138 then 91 else t,fun g=>g-3⟩
theorem laysDec:Go.Proofs.Lays.n197 Tryd.prog ren3:=by
 constructor<;>first|kernel_rfl|exact fun w=>by kernel_rfl
theorem QoT:FSound Tryd.prog 35 decF:=by
 have h:=Qkq (P:=Tryd.prog) Tryd.func35 (by kernel_rfl) (by kernel_rfl) (ok:=fun _=>True) (out:=fun s=> .int .i32 ((dg s).1:Nat)) (out2:=fun s=> .int .i64 ((dg s).2:Nat)) (res:=fun s=> .int .i32 ((dg s.data.toList).1:Nat)) (res2:=fun s=> .int .i64 ((dg s.data.toList).2:Nat)) (fun bd w s=> .int _ _) (fun bd w s=> .int _ _) fun g H w hH s _=>by
  have e:dg s.data.toList=decodeGo s:=by
   obtain⟨⟨l⟩⟩:=s
   rfl
  rw[e]
  exact Any.utf8_DecodeRuneInString laysDec s w (Qfy hH)
 refine h.less fun lim a H r hr=> ?_
 unfold decF at hr
 split at hr
 ·simp only[if_true];exact hr
 ·cases hr
theorem QoA:FSound Tryd.prog 70 QcR:=QiL Tryd.func70 (by kernel_rfl) (by kernel_rfl) (by kernel_rfl) (by kernel_rfl)
theorem Qjm:∀f F,QaH f=some F→FSound Tryd.prog f F:=fun f F h=>by
 unfold QaH at h
 split at h
 ·rename_i hf;subst hf;cases h;exact Qkn
 split at h
 ·rename_i hf;subst hf;cases h;exact QoA
 split at h
 ·rename_i hf;subst hf;cases h;exact QoT
 split at h
 ·rename_i hf;subst hf;cases h;exact Qmx
 split at h
 ·rename_i hf;subst hf;cases h;exact Qkx
 split at h
 ·rename_i hf;subst hf;cases h;exact QkR
 split at h
 ·rename_i hf;subst hf;cases h;exact fb_sound
 ·cases h
theorem hS1:EnvS Tryd.prog pf X1 XP1:=EnvS.slim QiF Qjm (fun _ _ h=>by cases h) (fun _ _ h=>by cases h) QiT
theorem Qjn:∀f F,Qbb f=some F→FSound Tryd.prog f F:=fun f F h=>by
 unfold Qbb at h
 split at h
 ·rename_i hf;subst hf;cases h;exact text_sound hS1
 ·exact Qjm f F h
theorem QnY:∀f F,QdK f=some F→PSound Tryd.prog f F:=fun f F h=>by
 unfold QdK at h
 split at h
 ·rename_i hf;subst hf;cases h;exact Qko hS1
 ·cases h
theorem hS0:EnvS Tryd.prog pf X0 XP:=EnvS.slim QiF Qjn QnY QhH QiT
end Go.Proofs.YtmhmjlfajlpabaaDoor
namespace Go.Proofs.YtmhmjlfajlpabaaDoor
open Go Go.Abs
theorem Qhc:∀ {xs:List D} {s:Tx},QbV xs=some s→xs.length=s.length
 | [],s,h=>by cases h;rfl
 |.int k n::xs,s,h=>by
  cases k with
  |u8=>
   simp only[QbV]at h
   split at h
   ·rename_i bs hb;cases h;simp[Qhc hb]
   ·cases h
  |_=>cases h
 |.bool _::_,_,h=>by cases h
 |.str _::_,_,h=>by cases h
 |.nilptr::_,_,h=>by cases h
 |.slice _::_,_,h=>by cases h
 |.agg _::_,_,h=>by cases h
theorem Qhi:∀ {cs:List AV} {s:Tx},AV.bytes cs=some s→cs.length=s.length
 | [],s,h=>by cases h;rfl
 |.d (.int k n)::xs,s,h=>by
  cases k with
  |u8=>
   simp only[AV.bytes]at h
   split at h
   ·rename_i bs hb;cases h;simp[Qhi hb]
   ·cases h
  |_=>cases h
 |.d (.bool _)::_,_,h=>by cases h
 |.d (.str _)::_,_,h=>by cases h
 |.d .nilptr::_,_,h=>by cases h
 |.d (.slice _)::_,_,h=>by cases h
 |.d (.agg _)::_,_,h=>by cases h
 |.undef::_,_,h=>by cases h
 |.fslice _::_,_,h=>by cases h
 |.lit _::_,_,h=>by cases h
 |.ptr _ _::_,_,h=>by cases h
 |.pref _::_,_,h=>by cases h
 |.oslice _ _ _ _ _::_,_,h=>by cases h
 |.agg _::_,_,h=>by cases h
 |.tuple _::_,_,h=>by cases h
 |.mapr _::_,_,h=>by cases h
 |.nilmap::_,_,h=>by cases h
 |.func _ _::_,_,h=>by cases h
 |.nilfunc::_,_,h=>by cases h
 |.iface _ _::_,_,h=>by cases h
 |.niliface::_,_,h=>by cases h
 |.ubool::_,_,h=>by cases h
theorem QfK{H:Qaa}{v:AV}{s:Tx}(h:QfL H v=some s):(∃xs,v= .d (.slice xs)∧QbV xs=some s∧xs.length=s.length)∨
  ∃r off cap cs,v= .oslice r off s.length cap 1∧H[r]? =some (.cells cs)∧off+s.length≤cs.length∧AV.bytes ((cs.drop off).take s.length)=some s:=by
 unfold QfL at h
 split at h
 ·rename_i xs;exact .inl ⟨xs,rfl,h,Qhc h⟩
 ·rename_i r off len cap sz
  split at h
  ·rename_i hz
   subst hz
   split at h
   ·rename_i cs hr
    split at h
    ·rename_i hl
     have:=Qhi h
     simp only[List.length_take,List.length_drop]at this
     obtain rfl:len=s.length:=by omega
     exact .inr ⟨r,off,cap,cs,rfl,hr,hl,h⟩
    ·cases h
   ·cases h
  ·cases h
 ·cases h
section
variable {lim:Nat} {H:Qaa} {s:Tx} (x:Nat→AV) {v0:AV}
theorem v10_0:V X0 XP lim q10_0 ⟨[v0,x 1,x 2,x 3,x 4,x 5,x 6,x 7,x 8,x 9,x 10,x 11,x 12,x 13,x 14,x 15,x 16,x 17,x 18,x 19,x 20,x 21,x 22,x 23,x 24,x 25,x 26,x 27,x 28,x 29,x 30,x 31,x 32,x 33,x 34,x 35,x 36,x 37,x 38,x 39,x 40,x 41,x 42,x 43,x 44,x 45,x 46,x 47,x 48],H⟩ (fun e st=>e= .normal∧∃x:Nat→AV,st=⟨[v0,x 1,.ptr H.length 0,.ptr (H.length+1) 0,.ptr (H.length+2) 0,x 5,x 6,x 7,x 8,x 9,x 10,x 11,x 12,x 13,x 14,x 15,x 16,x 17,x 18,x 19,x 20,x 21,x 22,x 23,x 24,x 25,x 26,x 27,x 28,x 29,x 30,x 31,x 32,x 33,x 34,x 35,x 36,x 37,x 38,x 39,x 40,x 41,x 42,x 43,x 44,x 45,x 46,x 47,x 48],H++ [zO,nO 0,nO 0]⟩) (fun _=>False):=by
 unfold q10_0
 have a1:(H++ [zO]).length=H.length+1:=by simp
 have a2:(H++ [zO]++ [nO 0]).length=H.length+2:=by simp
 have a3:H++ [zO]++ [nO 0]++ [nO 0]=H++ [zO,nO 0,nO 0]:=by simp
 refine v_r (j_ a1 (j_ a2 a3)) ?_
 exact⟨by first|exact trivial|exact rfl,Qam _ _ _ rfl⟩
theorem v10_1{K:Qaa}{n:Nat}(hb:QfL H v0=some s):V X0 XP lim q10_1 ⟨[v0,x 1,.ptr n 0,.ptr (n+1) 0,.ptr (n+2) 0,x 5,x 6,x 7,x 8,x 9,x 10,x 11,x 12,x 13,x 14,x 15,x 16,x 17,x 18,x 19,x 20,x 21,x 22,x 23,x 24,x 25,x 26,x 27,x 28,x 29,x 30,x 31,x 32,x 33,x 34,x 35,x 36,x 37,x 38,x 39,x 40,x 41,x 42,x 43,x 44,x 45,x 46,x 47,x 48],K⟩ (fun e st=>e= .normal∧∃x:Nat→AV,st=⟨[v0,x 1,.ptr n 0,.ptr (n+1) 0,.ptr (n+2) 0,x 5,x 6,x 7,x 8,boolD (decide (16384<s.length)),x 10,x 11,x 12,x 13,x 14,x 15,x 16,x 17,x 18,x 19,x 20,x 21,x 22,x 23,x 24,x 25,x 26,x 27,x 28,x 29,x 30,x 31,x 32,x 33,x 34,x 35,x 36,x 37,x 38,x 39,x 40,x 41,x 42,x 43,x 44,x 45,x 46,x 47,x 48],K⟩) (fun _=>False):=by
 unfold q10_1
 have e:decide ((s.length:Int)>16384)=decide (16384<s.length):=by rw[Bool.eq_iff_iff];simp;omega
 rcases QfK hb with⟨xs,rfl,h1,h2⟩|⟨r,off,cap,cs,rfl,h1,h2,h3⟩
 ·refine v_r (j_ h2 e) ?_
  exact⟨by first|exact trivial|exact rfl,Qam _ _ _ rfl⟩
 ·refine v_r e ?_
  exact⟨by first|exact trivial|exact rfl,Qam _ _ _ rfl⟩
theorem v10_2(hl:lim≤H.length):V X0 XP lim q10_2 ⟨[x 0,x 1,.ptr H.length 0,.ptr (H.length+1) 0,.ptr (H.length+2) 0,x 5,x 6,x 7,x 8,x 9,x 10,x 11,x 12,x 13,x 14,x 15,x 16,x 17,x 18,x 19,x 20,x 21,x 22,x 23,x 24,x 25,x 26,x 27,x 28,x 29,x 30,x 31,x 32,x 33,x 34,x 35,x 36,x 37,x 38,x 39,x 40,x 41,x 42,x 43,x 44,x 45,x 46,x 47,x 48],H++ [zO,nO 0,nO 0]⟩ (fun e st=>e= .normal∧∃x:Nat→AV,st=⟨[x 0,x 1,.ptr H.length 0,.ptr (H.length+1) 0,.ptr (H.length+2) 0,x 5,x 6,x 7,x 8,x 9,x 10,x 11,x 12,x 13,x 14,x 15,x 16,x 17,x 18,x 19,x 20,x 21,x 22,x 23,x 24,x 25,x 26,x 27,x 28,x 29,x 30,x 31,x 32,x 33,x 34,x 35,x 36,x 37,x 38,x 39,x 40,x 41,x 42,x 43,x 44,x 45,x 46,x 47,x 48],H++ [zO,nO 13,nO 16384]⟩) (fun _=>False):=by
 unfold q10_2
 obtain⟨K,kk,g1,g2,g3,s1,s2,s3⟩:=three H
 have l1:lim≤H.length+1:=by omega
 have l2:lim≤H.length+2:=by omega
 rw[←kk,←kk]
 refine v_r (j_ g1 (j_ g2 (j_ g3 (j_ s1 (j_ s2 (j_ s3 (j_ hl (j_ l1 l2)))))))) ?_
 exact⟨by first|exact trivial|exact rfl,QdU rfl rfl⟩
theorem v10_3(hb:QfL H v0=some s):V X0 XP lim q10_3 ⟨[v0,x 1,.ptr H.length 0,.ptr (H.length+1) 0,.ptr (H.length+2) 0,x 5,x 6,x 7,x 8,x 9,x 10,x 11,x 12,x 13,x 14,x 15,x 16,x 17,x 18,x 19,x 20,x 21,x 22,x 23,x 24,x 25,x 26,x 27,x 28,x 29,x 30,x 31,x 32,x 33,x 34,x 35,x 36,x 37,x 38,x 39,x 40,x 41,x 42,x 43,x 44,x 45,x 46,x 47,x 48],H++ [zO,nO 0,nO 0]⟩ (fun e st=>e= .normal∧∃x:Nat→AV,st=⟨[x 0,x 1,.ptr H.length 0,.ptr (H.length+1) 0,.ptr (H.length+2) 0,.ptr (H.length+3) 0,x 6,x 7,x 8,x 9,x 10,x 11,x 12,x 13,x 14,x 15,x 16,x 17,x 18,x 19,x 20,x 21,x 22,x 23,x 24,x 25,x 26,x 27,x 28,x 29,x 30,x 31,x 32,x 33,x 34,x 35,x 36,x 37,x 38,x 39,x 40,x 41,x 42,x 43,x 44,x 45,x 46,x 47,x 48],H++ [zO,nO 0,nO 0,rdO s (0:Nat)]⟩) (fun _=>False):=by
 unfold q10_3
 have a1:(H++ [zO,nO 0,nO 0]).length=H.length+3:=by simp
 have a2:∀o,H++ [zO,nO 0,nO 0]++ [o]=H++ [zO,nO 0,nO 0,o]:=fun o=>by simp
 rcases QfK hb with⟨xs,rfl,h1,h2⟩|⟨r,off,cap,cs,rfl,h1,h2,h3⟩
 ·refine v_r (j_ h1 (j_ a1 a2)) ?_
  exact⟨by first|exact trivial|exact rfl,Qam _ _ _ rfl⟩
 ·have hr:(H++ [zO,nO 0,nO 0])[r]? =some (.cells cs):=by
   rw[List.getElem?_append_left (List.getElem?_eq_some_iff.1 h1).1];exact h1
  refine v_r (j_ h2 (j_ h3 (j_ hr (j_ a1 a2)))) ?_
  exact⟨by first|exact trivial|exact rfl,Qam _ _ _ rfl⟩
theorem v10_4(hs:s.length≤16384):V X0 XP lim q10_4 ⟨[x 0,x 1,.ptr H.length 0,.ptr (H.length+1) 0,.ptr (H.length+2) 0,.ptr (H.length+3) 0,x 6,x 7,x 8,x 9,x 10,x 11,x 12,x 13,x 14,x 15,x 16,x 17,x 18,x 19,x 20,x 21,x 22,x 23,x 24,x 25,x 26,x 27,x 28,x 29,x 30,x 31,x 32,x 33,x 34,x 35,x 36,x 37,x 38,x 39,x 40,x 41,x 42,x 43,x 44,x 45,x 46,x 47,x 48],H++ [zO,nO 0,nO 0,rdO s (0:Nat)]⟩ (fun e st=>e= .normal∧∃x:Nat→AV,st=⟨[x 0,x 1,.ptr H.length 0,.ptr (H.length+1) 0,.ptr (H.length+2) 0,.ptr (H.length+3) 0,intD (Qa1 s),x 7,x 8,x 9,x 10,x 11,x 12,x 13,x 14,x 15,x 16,x 17,x 18,x 19,x 20,x 21,x 22,x 23,x 24,x 25,x 26,x 27,x 28,x 29,x 30,x 31,x 32,x 33,x 34,x 35,x 36,x 37,x 38,x 39,x 40,x 41,x 42,x 43,x 44,x 45,x 46,x 47,x 48],H++ [zO,nO 0,nO 0,rdO s (0:Nat)]⟩) (fun _=>False):=by
 unfold q10_4
 obtain⟨K,kk,g1,g2,g3,g4,s1,s2,s3,s4⟩:=four H
 rw[←kk]
 have hb:=Qo2 (pr:=Qbb) lim (K zO (nO 0) (nO 0) (rdO s (0:Nat))) s (by omega)
 (apply QaX;focus(refine Evl.call (X:=X0) (hb) (Evl.all fun k e1=> ?_);simp(maxSteps:=100000000) only[zz,zd,simprocAttr,g4,e1];(first|done|with_reducible exact rfl)))<;>(try simp only[zp,simprocAttr])
 exact⟨by first|exact trivial|exact rfl,Qam _ _ _ rfl⟩
theorem v10_5{K:Qaa}{n:Nat}{b:Int}:V X0 XP lim q10_5 ⟨[x 0,x 1,.ptr n 0,.ptr (n+1) 0,.ptr (n+2) 0,.ptr (n+3) 0,intD b,x 7,x 8,x 9,x 10,x 11,x 12,x 13,x 14,x 15,x 16,x 17,x 18,x 19,x 20,x 21,x 22,x 23,x 24,x 25,x 26,x 27,x 28,x 29,x 30,x 31,x 32,x 33,x 34,x 35,x 36,x 37,x 38,x 39,x 40,x 41,x 42,x 43,x 44,x 45,x 46,x 47,x 48],K⟩ (fun e st=>e= .normal∧∃x:Nat→AV,st=⟨[x 0,x 1,.ptr n 0,.ptr (n+1) 0,.ptr (n+2) 0,.ptr (n+3) 0,intD b,x 7,x 8,x 9,x 10,x 11,x 12,x 13,x 14,x 15,x 16,x 17,x 18,x 19,x 20,boolD (decide (b≥0)),x 22,x 23,x 24,x 25,x 26,x 27,x 28,x 29,x 30,x 31,x 32,x 33,x 34,x 35,x 36,x 37,x 38,x 39,x 40,x 41,x 42,x 43,x 44,x 45,x 46,x 47,x 48],K⟩) (fun _=>False):=by
 unfold q10_5
 refine v_r trivial ?_
 exact⟨by first|exact trivial|exact rfl,Qam _ _ _ rfl⟩
theorem v10_6{b:Int}(hl:lim≤H.length):V X0 XP lim q10_6 ⟨[x 0,x 1,.ptr H.length 0,.ptr (H.length+1) 0,.ptr (H.length+2) 0,.ptr (H.length+3) 0,intD b,x 7,x 8,x 9,x 10,x 11,x 12,x 13,x 14,x 15,x 16,x 17,x 18,x 19,x 20,x 21,x 22,x 23,x 24,x 25,x 26,x 27,x 28,x 29,x 30,x 31,x 32,x 33,x 34,x 35,x 36,x 37,x 38,x 39,x 40,x 41,x 42,x 43,x 44,x 45,x 46,x 47,x 48],H++ [zO,nO 0,nO 0,rdO s (0:Nat)]⟩ (fun e st=>e= .normal∧∃x:Nat→AV,st=⟨[x 0,x 1,.ptr H.length 0,.ptr (H.length+1) 0,.ptr (H.length+2) 0,x 5,x 6,x 7,x 8,x 9,x 10,x 11,x 12,x 13,x 14,x 15,x 16,x 17,x 18,x 19,x 20,x 21,x 22,x 23,x 24,x 25,x 26,x 27,x 28,x 29,x 30,x 31,x 32,x 33,x 34,x 35,x 36,x 37,x 38,x 39,x 40,x 41,x 42,x 43,x 44,x 45,x 46,x 47,x 48],H++ [zO,nO 10,nO b,rdO s (0:Nat)]⟩) (fun _=>False):=by
 unfold q10_6
 obtain⟨K,kk,g1,g2,g3,g4,s1,s2,s3,s4⟩:=four H
 have l1:lim≤H.length+1:=by omega
 have l2:lim≤H.length+2:=by omega
 rw[←kk,←kk]
 refine v_r (j_ g1 (j_ g2 (j_ g3 (j_ s1 (j_ s2 (j_ s3 (j_ hl (j_ l1 l2)))))))) ?_
 exact⟨by first|exact trivial|exact rfl,QdU rfl rfl⟩
theorem v10_8(hl:lim≤H.length+3)(hs:s.length≤16384):V X0 XP lim q10_8 ⟨[x 0,x 1,.ptr H.length 0,.ptr (H.length+1) 0,.ptr (H.length+2) 0,.ptr (H.length+3) 0,x 6,x 7,x 8,x 9,x 10,x 11,x 12,x 13,x 14,x 15,x 16,x 17,x 18,x 19,x 20,x 21,x 22,x 23,x 24,x 25,x 26,x 27,x 28,x 29,x 30,x 31,x 32,x 33,x 34,x 35,x 36,x 37,x 38,x 39,x 40,x 41,x 42,x 43,x 44,x 45,x 46,x 47,x 48],H++ [zO,nO 0,nO 0,rdO s (0:Nat)]⟩ (fun e st=>e= .normal∧∃x:Nat→AV,st=⟨[x 0,x 1,.ptr H.length 0,.ptr (H.length+1) 0,.ptr (H.length+2) 0,.ptr (H.length+3) 0,x 6,x 7,x 8,x 9,x 10,x 11,x 12,x 13,x 14,x 15,x 16,x 17,x 18,x 19,x 20,x 21,x 22,x 23,x 24,x 25,x 26,x 27,x 28,x 29,x 30,x 31,x 32,x 33,x 34,x 35,x 36,x 37,x 38,x 39,x 40,x 41,x 42,x 43,x 44,x 45,x 46,x 47,x 48],H++ [zO,nO 0,nO 0,rdO s (Qaf s 0)]⟩) (fun _=>False):=by
 unfold q10_8
 obtain⟨K,kk,g1,g2,g3,g4,s1,s2,s3,s4⟩:=four H
 rw[←kk,←kk]
 have hb:=Qdi (pr:=Qbb) lim (K zO (nO 0) (nO 0) (rdO s (0:Nat))) (H.length+3) s 0 (g4 _ _ _ _) hl (Nat.zero_le _) hs
 rw[s4]at hb
 (apply QaX;focus(refine Evl.call (X:=X0) (hb) (Evl.all fun k e1=> ?_);simp(maxSteps:=100000000) only[zz,zd,simprocAttr,e1];(first|done|with_reducible exact rfl)))<;>(try simp only[zp,simprocAttr])
 exact⟨by first|exact trivial|exact rfl,Qam _ _ _ rfl⟩
theorem v10_9{j:J}{p q:Nat}(hl:lim≤H.length)(hs:s.length≤16384)(hp:p≤s.length)(hv:Qa8 s (2*s.length+3) 1 p= .ok (j,q)):V X0 XP lim q10_9 ⟨[x 0,x 1,.ptr H.length 0,.ptr (H.length+1) 0,.ptr (H.length+2) 0,.ptr (H.length+3) 0,x 6,x 7,x 8,x 9,x 10,x 11,x 12,x 13,x 14,x 15,x 16,x 17,x 18,x 19,x 20,x 21,x 22,x 23,x 24,x 25,x 26,x 27,x 28,x 29,x 30,x 31,x 32,x 33,x 34,x 35,x 36,x 37,x 38,x 39,x 40,x 41,x 42,x 43,x 44,x 45,x 46,x 47,x 48],H++ [zO,nO 0,nO 0,rdO s p]⟩ (fun e st=>e= .normal∧∃x:Nat→AV,st=⟨[x 0,x 1,.ptr H.length 0,.ptr (H.length+1) 0,.ptr (H.length+2) 0,.ptr (H.length+3) 0,x 6,x 7,x 8,x 9,x 10,x 11,x 12,x 13,x 14,x 15,x 16,x 17,x 18,x 19,x 20,x 21,x 22,x 23,x 24,x 25,x 26,x 27,x 28,x 29,x 30,x 31,x 32,x 33,x 34,x 35,x 36,x 37,x 38,x 39,x 40,x 41,x 42,x 43,x 44,x 45,x 46,x 47,x 48],H++ [jO j,nO 0,nO 0,rdO s q]⟩) (fun _=>False):=by
 unfold q10_9
 obtain⟨K,kk,g1,g2,g3,g4,s1,s2,s3,s4⟩:=four H
 rw[←kk,←kk]
 have he:=(Qi5 (2*s.length+3)) lim (K zO (nO 0) (nO 0) (rdO s p)) (H.length+3) s p 1 (g4 _ _ _ _) (by omega) hs hp (by omega) (by omega)
 have ev:Ev X0 25 lim [.ptr (H.length+3) 0,intD 1] (K zO (nO 0) (nO 0) (rdO s p)) _ _:=he.okJ hv
 rw[s4,jd]at ev
 (apply QaX;focus(refine Evl.call (X:=X0) (ev) (Evl.all fun k e1=> ?_);simp(maxSteps:=100000000) only[zz,zd,simprocAttr,g1,s1,hl,e1];(first|done|with_reducible exact rfl)))<;>(try simp only[zp,simprocAttr])
 exact⟨by first|exact trivial|exact rfl,Qam _ _ _ rfl⟩
theorem v10_10{a b c:AObj}{p:Nat}(hl:lim≤H.length+3)(hs:s.length≤16384)(hp:p≤s.length):V X0 XP lim QnW ⟨[x 0,x 1,.ptr H.length 0,.ptr (H.length+1) 0,.ptr (H.length+2) 0,.ptr (H.length+3) 0,x 6,x 7,x 8,x 9,x 10,x 11,x 12,x 13,x 14,x 15,x 16,x 17,x 18,x 19,x 20,x 21,x 22,x 23,x 24,x 25,x 26,x 27,x 28,x 29,x 30,x 31,x 32,x 33,x 34,x 35,x 36,x 37,x 38,x 39,x 40,x 41,x 42,x 43,x 44,x 45,x 46,x 47,x 48],H++ [a,b,c,rdO s p]⟩ (fun e st=>e= .normal∧∃x:Nat→AV,st=⟨[x 0,x 1,.ptr H.length 0,.ptr (H.length+1) 0,.ptr (H.length+2) 0,.ptr (H.length+3) 0,x 6,x 7,x 8,x 9,x 10,x 11,x 12,x 13,x 14,x 15,x 16,x 17,x 18,x 19,x 20,x 21,x 22,x 23,x 24,x 25,x 26,x 27,x 28,x 29,x 30,x 31,x 32,x 33,x 34,x 35,x 36,x 37,x 38,x 39,x 40,x 41,x 42,x 43,x 44,x 45,x 46,x 47,x 48],H++ [a,b,c,rdO s (Qaf s p)]⟩) (fun _=>False):=by
 unfold QnW
 obtain⟨K,kk,g1,g2,g3,g4,s1,s2,s3,s4⟩:=four H
 rw[←kk,←kk]
 have hb:=Qdi (pr:=Qbb) lim (K a b c (rdO s p)) (H.length+3) s p (g4 _ _ _ _) hl hp hs
 rw[s4]at hb
 (apply QaX;focus(refine Evl.call (X:=X0) (hb) (Evl.all fun k e1=> ?_);simp(maxSteps:=100000000) only[zz,zd,simprocAttr,e1];(first|done|with_reducible exact rfl)))<;>(try simp only[zp,simprocAttr])
 exact⟨by first|exact trivial|exact rfl,Qam _ _ _ rfl⟩
theorem v10_11{a b c:AObj}{p:Nat}:V X0 XP lim QnV ⟨[x 0,x 1,.ptr H.length 0,.ptr (H.length+1) 0,.ptr (H.length+2) 0,.ptr (H.length+3) 0,x 6,x 7,x 8,x 9,x 10,x 11,x 12,x 13,x 14,x 15,x 16,x 17,x 18,x 19,x 20,x 21,x 22,x 23,x 24,x 25,x 26,x 27,x 28,x 29,x 30,x 31,x 32,x 33,x 34,x 35,x 36,x 37,x 38,x 39,x 40,x 41,x 42,x 43,x 44,x 45,x 46,x 47,x 48],H++ [a,b,c,rdO s p]⟩ (fun e st=>e= .normal∧∃x:Nat→AV,st=⟨[x 0,x 1,.ptr H.length 0,.ptr (H.length+1) 0,.ptr (H.length+2) 0,.ptr (H.length+3) 0,x 6,x 7,x 8,x 9,x 10,x 11,x 12,x 13,x 14,x 15,x 16,x 17,x 18,x 19,x 20,x 21,x 22,x 23,x 24,x 25,x 26,x 27,x 28,x 29,x 30,x 31,x 32,x 33,x 34,x 35,x 36,x 37,x 38,x 39,boolD (decide (p<s.length)),x 41,x 42,x 43,x 44,x 45,x 46,x 47,x 48],H++ [a,b,c,rdO s p]⟩) (fun _=>False):=by
 unfold QnV
 obtain⟨K,kk,g1,g2,g3,g4,s1,s2,s3,s4⟩:=four H
 have e:decide ((p:Int)<(s.length:Int))=decide (p<s.length):=by rw[Bool.eq_iff_iff];simp
 rw[←kk]
 refine v_r (j_ g4 e) ?_
 exact⟨by first|exact trivial|exact rfl,Qam _ _ _ rfl⟩
theorem v10_13{j:J}{n:Nat}{o:AObj}(hl:lim≤H.length)(hj:OrdOK n j)(hjw:wt j≤100000000000):V X0 XP lim QnU ⟨[x 0,x 1,.ptr H.length 0,.ptr (H.length+1) 0,.ptr (H.length+2) 0,.ptr (H.length+3) 0,x 6,x 7,x 8,x 9,x 10,x 11,x 12,x 13,x 14,x 15,x 16,x 17,x 18,x 19,x 20,x 21,x 22,x 23,x 24,x 25,x 26,x 27,x 28,x 29,x 30,x 31,x 32,x 33,x 34,x 35,x 36,x 37,x 38,x 39,x 40,x 41,x 42,x 43,x 44,x 45,x 46,x 47,x 48],H++ [jO j,nO 0,nO 0,o]⟩ (fun e st=>e= .normal∧∃x:Nat→AV,st=⟨[x 0,x 1,.ptr H.length 0,.ptr (H.length+1) 0,.ptr (H.length+2) 0,x 5,x 6,x 7,x 8,x 9,x 10,x 11,x 12,x 13,x 14,x 15,x 16,x 17,x 18,x 19,x 20,x 21,x 22,x 23,x 24,x 25,x 26,x 27,x 28,x 29,x 30,x 31,x 32,x 33,x 34,x 35,x 36,x 37,x 38,x 39,x 40,x 41,x 42,x 43,x 44,x 45,x 46,x 47,x 48],H++ [jO (Qah j),nO 0,nO 0,o]⟩) (fun _=>False):=by
 unfold QnU
 obtain⟨K,kk,g1,g2,g3,g4,s1,s2,s3,s4⟩:=four H
 have l1:lim≤H.length+1:=by omega
 have l2:lim≤H.length+2:=by omega
 rw[←kk,←kk]
 have he:=Qfc (pr:=Qbb) n lim (K (jO j) (nO 0) (nO 0) o) j hj hjw
 rw[jd,jd]at he
 (apply QaX;focus(refine Evl.call (X:=X0) (he) (Evl.all fun k e1=> ?_);simp(maxSteps:=100000000) only[zz,zd,simprocAttr,g1,g2,g3,s1,s2,s3,hl,l1,l2,e1];(first|done|with_reducible exact rfl)))<;>(try simp only[zp,simprocAttr])
 exact⟨by first|exact trivial|exact rfl,Qam _ _ _ rfl⟩
theorem v23_3n{n:Nat}:V X0 XP lim QnT ⟨[.ptr n 0,.ptr (n+1) 0,.ptr (n+2) 0,x 3,x 4,x 5,.niliface,x 7,x 8,x 9,x 10,x 11,x 12,x 13,x 14,x 15,x 16],H⟩ (fun e st=>e= .normal∧∃x:Nat→AV,st=⟨[x 0,x 1,x 2,x 3,x 4,x 5,x 6,x 7,boolD true,x 9,x 10,x 11,x 12,x 13,x 14,x 15,x 16],H⟩) (fun _=>False):=by
 unfold QnT
 refine Qih (fun k=>rfl) ?_
 exact⟨by first|exact trivial|exact rfl,Qam _ _ _ rfl⟩
theorem v23_3p{n:Nat}{t:TypeId}{d:AV}:V X0 XP lim QnT ⟨[.ptr n 0,.ptr (n+1) 0,.ptr (n+2) 0,x 3,x 4,x 5,.iface t d,x 7,x 8,x 9,x 10,x 11,x 12,x 13,x 14,x 15,x 16],H⟩ (fun e st=>e= .normal∧∃x:Nat→AV,st=⟨[.ptr n 0,.ptr (n+1) 0,.ptr (n+2) 0,x 3,x 4,x 5,.iface t d,x 7,boolD false,x 9,x 10,x 11,x 12,x 13,x 14,x 15,x 16],H⟩) (fun _=>False):=by
 unfold QnT
 refine Qih (fun k=>rfl) ?_
 exact⟨by first|exact trivial|exact rfl,Qam _ _ _ rfl⟩
theorem v23_4:V X0 XP lim q23_4 ⟨[x 0,x 1,x 2,x 3,x 4,x 5,x 6,x 7,x 8,x 9,x 10,x 11,x 12,x 13,x 14,x 15,x 16],H⟩ (fun e st=>e= .normal∧∃x:Nat→AV,st=⟨[x 0,x 1,x 2,x 3,x 4,x 5,x 6,x 7,x 8,x 9,x 10,x 11,x 12,x 13,x 14,x 15,x 16],H⟩) (fun _=>False):=by
 unfold q23_4
 refine v_r trivial ?_
 exact⟨by first|exact trivial|exact rfl,Qam _ _ _ rfl⟩
theorem v23_6{n:Nat}{e p:Int}(hl:lim≤H.length):V X0 XP lim q23_6 ⟨[.ptr n 0,.ptr (n+1) 0,.ptr (n+2) 0,x 3,x 4,x 5,x 6,x 7,x 8,x 9,x 10,.d (.agg [.int .i64 e,.int .i64 p]),x 12,x 13,x 14,x 15,x 16],H⟩ (fun z st=>z= .normal∧∃x:Nat→AV,st=⟨[.ptr n 0,.ptr (n+1) 0,.ptr (n+2) 0,x 3,.ptr H.length 0,x 5,x 6,x 7,x 8,x 9,x 10,x 11,x 12,x 13,x 14,x 15,x 16],H++ [.cells [intD e,intD p]]⟩) (fun _=>False):=by
 unfold q23_6
 have s1:∀o o',(H++ [o]).set H.length o'=H++ [o']:=fun o o'=>by rw[List.set_append_right _ _ (by omega)];simp
 refine v_r (j_ s1 hl) ?_
 exact⟨by first|exact trivial|exact rfl,Qam _ _ _ rfl⟩
theorem v23_7{n L:Nat}{e p a b:Int}{c1 c2 c3 c4 c5:AV}(h1:H[n]? =some (.cells [c1,c2,c3,c4,c5]))(h2:H[n+1]? =some (nO a))(h3:H[n+2]? =some (nO b))(h4:H[L]? =some (.cells [intD e,intD p]))(hL:n+3≤L)(hl:lim≤n):
  V X0 XP lim q23_7 ⟨[.ptr n 0,.ptr (n+1) 0,.ptr (n+2) 0,x 3,.ptr L 0,x 5,x 6,x 7,x 8,x 9,x 10,x 11,x 12,x 13,x 14,x 15,x 16],H⟩ (fun z st=>z= .normal∧∃x:Nat→AV,st=⟨[x 0,x 1,x 2,x 3,x 4,x 5,x 6,x 7,x 8,x 9,x 10,x 11,x 12,x 13,x 14,x 15,x 16],((H.set n zO).set (n+1) (nO e)).set (n+2) (nO p)⟩) (fun _=>False):=by
 unfold q23_7
 have l1:lim≤n+1:=by omega
 have l2:lim≤n+2:=by omega
 have g1:∀o,(H.set n o)[n+1]? =some (nO a):=fun o=>by rw[List.getElem?_set_ne (by omega)];exact h2
 have g2:∀o o',((H.set n o).set (n+1) o')[n+2]? =some (nO b):=fun o o'=>by rw[List.getElem?_set_ne (by omega),List.getElem?_set_ne (by omega)];exact h3
 have g3:∀o,(H.set n o)[L]? =some (.cells [intD e,intD p]):=fun o=>by rw[List.getElem?_set_ne (by omega)];exact h4
 have g4:∀o o',((H.set n o).set (n+1) o')[L]? =some (.cells [intD e,intD p]):=fun o o'=>by rw[List.getElem?_set_ne (by omega),List.getElem?_set_ne (by omega)];exact h4
 (apply Qih;focus(intro k;simp(maxSteps:=100000000) only[zz,zd,simprocAttr,h1,h2,h3,h4,g1,g2,g3,g4,hl,l1,l2];(first|done|with_reducible exact rfl)))<;>(try simp only[zp,simprocAttr])
 exact⟨by first|exact trivial|exact rfl,Qam _ _ _ rfl⟩
end
end Go.Proofs.YtmhmjlfajlpabaaDoor
set_option maxHeartbeats 1000000
set_option linter.unusedVariables false
namespace Go.Proofs.YtmhmjlfajlpabaaDoor
open Go Go.Abs Go.Proofs Go.RowKit Go.Lib
theorem b10_eq:b10= .seq p10_0 (.seq (.seq p10_1 (.cond (.tmp 9) (.seq p10_2 .ret) .skip)) (.seq p10_3 (.seq (.seq p10_4 (.seq p10_5 (.cond (.tmp 21) (.seq p10_6 .ret) .skip))) (.seq QgB (.seq p10_8 (.seq QeB (.seq QlN (.seq (.seq QlM (.cond (.tmp 40) QbD .skip)) (.seq QlL .ret))))))))):=by kernel_rfl
theorem b23_eq:b23= .seq p23_0 (.block 0 (.seq p23_3 (.cond (.tmp 8) p23_4 (.seq Qfa (.cond (.tmp 10) (.seq p23_6 p23_7) (.seq p23_1 p23_2)))))):=by kernel_rfl
theorem fn10:Qii Tryd.prog 10:=⟨_,Tryd.func10,by kernel_rfl,by kernel_rfl⟩
theorem body10:Tryd.f10.body=some b10:=by kernel_rfl
theorem nt10:Tryd.f10.ntmps=49:=by kernel_rfl
theorem body23:Tryd.f23.body=some b23:=by kernel_rfl
theorem nt23:Tryd.f23.ntmps=17:=by kernel_rfl
theorem res10:QaW Tryd.prog Tryd.f10.results.toList=some [.cell 2 true 5,.cell 3 false 1,.cell 4 false 1]:=by kernel_rfl
theorem res23:QaW Tryd.prog Tryd.f23.results.toList=some []:=by kernel_rfl
theorem r7x_eq:QgB= .region 7 #[QaZ QgB 0,QaZ QgB 1] false:=by kernel_rfl
theorem r9x_eq:QeB= .region 9 #[QaZ QeB 0,QaZ QeB 1,QaZ QeB 2] false:=by kernel_rfl
theorem r12x_eq:QbD= .region 12 #[QaZ QbD 0,QaZ QbD 1,QaZ QbD 2,QaZ QbD 3,QaZ QbD 4,QaZ QbD 5] false:=by kernel_rfl
theorem o7_1:(QaZ QgB 1).op= .defer { callee:= .value (.tmp 24),args:= #[],argTypes:= #[] }∧(QaZ QgB 1).guard=none∧(QaZ QgB 1).dst=none:=⟨by kernel_rfl,by kernel_rfl,by kernel_rfl⟩
theorem o9_1:(QaZ QeB 1).op= .call { callee:= .value (.func 25),args:= #[.tmp 27,.const (.int .i64 1)],argTypes:= #[41,3] }∧(QaZ QeB 1).guard=none:=⟨by kernel_rfl,by kernel_rfl⟩
theorem o12_5:(QaZ QbD 5).op= .call { callee:= .value (.func 26),args:= #[.tmp 41,.const (.int .i64 16),.tmp 45],argTypes:= #[41,27,3] }∧(QaZ QbD 5).guard=none:=⟨by kernel_rfl,by kernel_rfl⟩
theorem c7_0:Qal Tryd.prog Qau [QaZ QgB 0,QaZ QgB 1] (QaZ QgB 0)=some ⟨some 24,.mkFunc (.func 23) [.t 2,.t 3,.t 4],none,[]⟩:=by kernel_rfl
theorem c9_0:Qal Tryd.prog Qau [QaZ QeB 0,QaZ QeB 1,QaZ QeB 2] (QaZ QeB 0)=some ⟨some 27,.move (.t 5),none,[]⟩:=by kernel_rfl
noncomputable abbrev Qn6:List Oper:= [QaZ QbD 0,QaZ QbD 1,QaZ QbD 2,QaZ QbD 3,QaZ QbD 4,QaZ QbD 5]
theorem c12_0:Qal Tryd.prog Qau Qn6 (QaZ QbD 0)=some ⟨some 41,.move (.t 5),none,[]⟩:=by kernel_rfl
theorem c12_1:Qal Tryd.prog Qau Qn6 (QaZ QbD 1)=some ⟨some 42,.move (.t 5),none,[]⟩:=by kernel_rfl
theorem c12_2:Qal Tryd.prog Qau Qn6 (QaZ QbD 2)=some ⟨some 43,.nilCheck (.t 42),none,[]⟩:=by kernel_rfl
theorem c12_3:Qal Tryd.prog Qau Qn6 (QaZ QbD 3)=some ⟨some 44,.fieldAddr 1 (.t 43),none,[]⟩:=by kernel_rfl
theorem c12_4:Qal Tryd.prog Qau Qn6 (QaZ QbD 4)=some ⟨some 45,.load false 1 (.t 44),none,[]⟩:=by kernel_rfl
theorem r0x_eq:p23_0= .region 0 #[QaZ p23_0 0] false:=by kernel_rfl
theorem o0_0:(QaZ p23_0 0).op= .call { callee:= .builtin .recover,args:= #[],argTypes:= #[] }∧(QaZ p23_0 0).guard=none∧(QaZ p23_0 0).dst=some 6:=⟨by kernel_rfl,by kernel_rfl,by kernel_rfl⟩
theorem r5x_eq:Qfa= .region 5 #[QaZ Qfa 0,QaZ Qfa 1,QaZ Qfa 2] false:=by kernel_rfl
theorem o5_0:(QaZ Qfa 0).op= .typeAssert (.tmp 6) 20 45 true∧(QaZ Qfa 0).guard=none∧(QaZ Qfa 0).dst=some 9:=⟨by kernel_rfl,by kernel_rfl,by kernel_rfl⟩
theorem c5_x: [QaZ Qfa 1,QaZ Qfa 2].mapM (Qal Tryd.prog Qau [QaZ Qfa 0,QaZ Qfa 1,QaZ Qfa 2])=some [⟨some 10,.extract (.t 9) 1,none,[]⟩,⟨some 11,.extract (.t 9) 0,none,[]⟩]:=by kernel_rfl
section
variable [Dfr] {P:Program} {g:Gh} {w:World} {st:St} {a:Act} {Q:Exit→Act→World→Prop}
theorem Inv.weak(h:Inv g st a w){T:List AV}(hl:T.length=st.T.length)(hT:∀(i:Nat) x,T[i]? =some x→x= .undef∨st.T[i]? =some x):Inv g ⟨T,st.H⟩ a w where
 heap:=h.heap
 size:=by rw[←h.size];exact hl
 tok i x v hx hv:=by
  rcases hT i x hx with rfl|hx'
  ·exact⟨.undef _,FOK.ne (by simp)⟩
  ·exact h.tok i x v hx' hv
 nores:=h.nores
 defers:=h.defers
theorem Inv.move(h:Inv g st a w){g':Gh}{H':Qaa}{w':World}(hw:WF g w g' w')(hH:HeapOK g' H' w')(hn:∀b,g'.own b≠ .res)(hT:∀x∈st.T,∀xs,x≠ .fslice xs):Inv g' ⟨st.T,H'⟩ a w' where
 heap:=hH
 size:=h.size
 tok i x v hx hv:=⟨hw.vr (h.tok i x v hx hv).1,FOK.ne (hT x (List.mem_of_getElem? hx))⟩
 nores:=hn
 defers:=h.defers
theorem QiO{f:FuncId}(hf:Qii P f)(xs:Array Value)(w:World):(callFunc f xs).run P w= .ok (.enter f xs) w:=by
 obtain⟨fn,hfn,hb,hname⟩:=hf
 have:fn.body.isNone=false:=by cases e:fn.body<;>simp_all
 simp only[callFunc,Sem.run_bind,run_program,Result.andThen_ok,hfn,hname,this]
 simp
theorem Qh2{ops:Array Oper}{o:Oper}{rest:List Oper}(hg:o.guard=none){f:FuncId}{xs:Array Operand}{ts:Array TypeId}(ho:o.op= .call { callee:= .value (.func f),args:=xs,argTypes:=ts })(hf:Qii P f)
  {R:Ending→World→Prop}(hc:Calls P f (xs.map a.eval) w R)(hk:∀e w',R e w'→∃ch,e= .panicked ch∧Q (.panic ch) a w'):wpList P ops Q (o::rest) a w:=by
 have he:(execOp a.eval o).run P w= .ok (.enter f (xs.map a.eval)) w:=by
  obtain⟨dst,op,type,pos,after,guard⟩:=o
  simp only at ho;subst ho
  show(callFunc f (#[]++xs.map a.eval++ #[])).run P w=_
  rw[QiO hf];simp
 refine wpList_plain hg fun K hK=> ?_
 unfold Oper.wp
 rw[he,Oper.upon_enter]
 refine hc.mono fun e w' hr=> ?_
 obtain⟨ch,rfl,h⟩:=hk e w' hr
 exact h
theorem QmZ{ops:Array Oper}{o:Oper}{rest:List Oper}(hg:o.guard=none){x:Operand}{ts:Array TypeId}(ho:o.op= .defer { callee:= .value x,args:= #[],argTypes:=ts }){f:FuncId}{cap:Array Value}(hx:a.eval x= .func (.func f) #[] cap)
  (hk:wpList P ops Q rest ({ a with defers:= { target:= .fn (.func f) cap,args:= #[] }::a.defers }.put o.dst undef) w):wpList P ops Q (o::rest) a w:=by
 refine wpList_plain hg fun K hK=> ?_
 obtain⟨dst,op,type,pos,after,guard⟩:=o
 simp only at ho;subst ho
 unfold Oper.wp execOp
 simp only[resolve,hx,Sem.run_bind,Sem.run_pure,Result.andThen_ok,Oper.upon]
 have h2:=hK _ _ hk
 simpa[Deferred.ofValue]using h2
end
theorem QkB{ev:Operand→Value}{o:Oper}{ts:Array TypeId}(ho:o.op= .call { callee:= .builtin .recover,args:= #[],argTypes:=ts })(P:Program)(w:World):(execOp ev o).run P w= .ok .recover w:=by
 obtain⟨dst,op,type,pos,after,guard⟩:=o
 simp only at ho;subst ho
 rfl
theorem r23_0{Q:Exit→Act→List Frame→World→Prop}{a:Act}{cs:List Frame}{w:World}(h:match recoverD cs with
  |some (v,cs')=>Q .normal (a.put (some 6) v) cs' w
  |none=>Q .normal (a.put (some 6) .nilIface) cs w):p23_0.wpS Tryd.prog Q a cs w:=by
 rw[r0x_eq]
 refine wpS_region ?_
 show wpOpsS Tryd.prog #[QaZ p23_0 0] Q [0] a cs w
 have hw:Region.wanted (QaZ p23_0 0) (yielded #[QaZ p23_0 0] a.tmps)=true:=by simp only[Region.wanted,o0_0.2.1]
 simp only[wpOpsS,List.getElem?_toArray,List.getElem?_cons_zero,hw,if_true,QkB o0_0.1,o0_0.2.2]
 cases hr:recoverD cs with
 |none=>rw[hr]at h;exact h
 |some p=>rw[hr]at h;exact h
section
variable {g:Gh} {H:Qaa} {w:World} {n:Nat}
abbrev ptrV(g:Gh)(n:Nat):Value:= .pointer (some ⟨g.rho n,0,none⟩)
abbrev caps(g:Gh)(n:Nat):Array Value:= #[ptrV g n,ptrV g (n+1),ptrV g (n+2)]
theorem inv23(hH:HeapOK g H w)(hn:∀b,g.own b≠ .res)(hl:n+2<g.n){x:AV}{v:Value}(hv:VR g w x v)(ht:Triv x v):
  Inv g ⟨[.ptr n 0,.ptr (n+1) 0,.ptr (n+2) 0,.tuple [],.tuple [],.tuple [],x,.tuple [],.tuple [],.tuple [],.tuple [],.tuple [],.tuple [],.tuple [],.tuple [],.tuple [],.tuple []],H⟩ (({ tmps:=caps g n++Array.replicate (17-(caps g n).size) undef,defers:= [] }:Act).put (some 6) v) w:=by
 have hi:=Qdc (args:= [.ptr n 0,.ptr (n+1) 0,.ptr (n+2) 0]) hH hn (vals:=caps g n) rfl (fun i y u hy hu=>by
  match i,hy,hu with
  |0,hy,hu=>cases hy;cases hu;exact⟨.ptr _ _ (by omega),FOK.ne (by simp)⟩
  |1,hy,hu=>cases hy;cases hu;exact⟨.ptr _ _ (by omega),FOK.ne (by simp)⟩
  |2,hy,hu=>cases hy;cases hu;exact⟨.ptr _ _ (by omega),FOK.ne (by simp)⟩
  |k+3,hy,hu=>simp at hy) 17
 exact Inv.put (st:=⟨[.ptr n 0,.ptr (n+1) 0,.ptr (n+2) 0,.tuple [],.tuple [],.tuple [],.tuple [],.tuple [],.tuple [],.tuple [],.tuple [],.tuple [],.tuple [],.tuple [],.tuple [],.tuple [],.tuple []],H⟩) (d:=6) hi hv ht
theorem Qnh(hS:EnvS Tryd.prog pf X0 XP)(hH:HeapOK g H w)(hn:∀b,g.own b≠ .res)(hl:n+2<g.n):
  CallsD Tryd.prog 23 (caps g n) .returning w fun e u' w'=>(∃v,e= .returned v)∧u'= .returning∧∃g',WF g w g' w'∧HeapOK g' H w'∧∀b,g'.own b≠ .res:=by
 refine callsD_of_wpS Tryd.func23 body23 fun c₀ cs hu=> ?_
 rw[b23_eq,nt23]
 refine wpS_seq (r23_0 ?_)
 have hr:recoverD (c₀::cs)=none:=by simp only[recoverD,hu]
 rw[hr]
 show Code.wpS _ _ _ _ _ _
 have hi:=inv23 hH hn hl (x:= .niliface) (v:= .nilIface) .niliface (fun xs e=>by cases e)
 refine wpS_of_wp (wp_block (wp_seq (QeX hS k23_3 rfl hi (Nat.zero_le _) (v23_3n (fun _=> .tuple [])) ?_ (fun _ h=>h.elim))))
 rintro e st1 g1 a1 w1 ⟨rfl,x1,rfl⟩ hw1 hi1 hx1
 show Code.wp Tryd.prog (.cond (.tmp 8) _ _) _ a1 w1
 refine wp_cond (Inv.bool (b:=true) hi1 rfl) ?_
 rw[if_pos rfl]
 refine QeX hS k23_4 rfl hi1 (Nat.zero_le _) (v23_4 (fun i=>if i=8 then boolD true else x1 i)) ?_ (fun _ h=>h.elim)
 rintro e st2 g2 a2 w2 ⟨rfl,x2,rfl⟩ hw2 hi2 hx2
 obtain⟨v,hv1,hv2,hv3⟩:=Qe7 hi2 res23 (show Qcg _ _ []=some []from rfl)
 refine⟨hi2.defers,.returning,by cases c₀;simp_all,v,hv1,⟨v,rfl⟩,rfl,g2,hw1.trans hw2,hi2.heap,hi2.nores⟩
theorem QmD{ev:Operand→Value}{o:Oper}{x:Operand}(ho:o.op= .typeAssert x 20 45 true){v:Value}(hx:ev x= .iface 45 v)(w:World):(execOp ev o).run Tryd.prog w= .ok (.value (.tuple #[v,.bool true])) w:=by
 obtain⟨dst,op,type,pos,after,guard⟩:=o
 simp only at ho;subst ho
 unfold execOp
 simp only[hx]
 kernel_rfl
theorem QmY{P:Program}{a:Act}{Q:Exit→Act→World→Prop}{ops:Array Oper}{o:Oper}{rest:List Oper}(hg:o.guard=none){v:Value}(he:(execOp a.eval o).run P w= .ok (.value v) w)(hk:wpList P ops Q rest (a.put o.dst v) w):wpList P ops Q (o::rest) a w:=by
 refine wpList_plain hg fun K hK=> ?_
 unfold Oper.wp
 rw[he]
 exact hK _ _ hk
abbrev Qhp(H:Qaa)(n:Nat)(e p:Int):Qaa:=(((H++ [AObj.cells [intD e,intD p]]).set n zO).set (n+1) (nO e)).set (n+2) (nO p)
theorem QoZ(hS:EnvS Tryd.prog pf X0 XP)(hH:HeapOK g H w)(hn:∀b,g.own b≠ .res)(hl:n+2<g.n){c1 c2 c3 c4 c5:AV}{a b e p:Int}{v:Value}(o1:H[n]? =some (.cells [c1,c2,c3,c4,c5]))(o2:H[n+1]? =some (nO a))(o3:H[n+2]? =some (nO b))
  (hv:VR g w (.d (.agg [.int .i64 e,.int .i64 p])) v):
  CallsD Tryd.prog 23 (caps g n) (.panicking [{ v:= .iface 45 v,recovered:=false }]) w fun z u' w'=>(∃v,z= .returned v)∧settle u'= .returning∧∃g',WF g w g' w'∧HeapOK g' (Qhp H n e p) w'∧∀b,g'.own b≠ .res:=by
 refine callsD_of_wpS Tryd.func23 body23 fun c₀ cs hu=> ?_
 rw[b23_eq,nt23]
 refine wpS_seq (r23_0 ?_)
 have hr:recoverD (c₀::cs)=some (.iface 45 v,{ c₀ with mode:= .panicking [{ v:= .iface 45 v,recovered:=true }] }::cs):=by simp only[recoverD,hu]
 rw[hr]
 show Code.wpS _ _ _ _ _ _
 have hnl:H.length=g.n:=hH.n.symm
 have hi:=inv23 hH hn hl (x:= .iface 45 (.d (.agg [.int .i64 e,.int .i64 p]))) (v:= .iface 45 v) (.iface _ _ _ hv (Triv.d _ _)) (fun xs e=>by cases e)
 refine wpS_of_wp (wp_block (wp_seq (QeX hS k23_3 rfl hi (Nat.zero_le _) (v23_3p (fun _=> .tuple [])) ?_ (fun _ h=>h.elim))))
 rintro z st1 g1 a1 w1 ⟨rfl,x1,rfl⟩ hw1 hi1 hx1
 show Code.wp Tryd.prog (.cond (.tmp 8) _ _) _ a1 w1
 refine wp_cond (Inv.bool (b:=false) hi1 rfl) ?_
 rw[if_neg (by simp)]
 have h6:=(QbR hi1 6).1
 rw[show(St.T _).getD 6 .undef= .iface 45 (.d (.agg [.int .i64 e,.int .i64 p]))from rfl]at h6
 have h6':a1.eval (.tmp 6)=a1.tmps.getD 6 undef:=rfl
 generalize a1.tmps.getD 6 undef=u6 at h6 h6'
 cases h6 with
 |iface _ _ v6 hv6 ht6=>
 rw[r5x_eq]
 refine wp_seq (wp_region_list (QmY o5_0.2.1 (QmD o5_0.1 h6' w1) ?_))
 rw[o5_0.2.2]
 have hvt:VR g1 w1 (.tuple [.d (.agg [.int .i64 e,.int .i64 p]),boolD true]) (.tuple #[v6,.bool true]):=by
  refine .tuple _ _ rfl (fun i c u hc hu=> ?_) (fun i c u hc hu=> ?_)
  ·match i,hc,hu with
   |0,hc,hu=>cases hc;cases hu;exact hv6
   |1,hc,hu=>cases hc;cases hu;exact .d _ _ (.bool _)
   |k+2,hc,hu=>simp at hc
  ·match i,hc,hu with
   |0,hc,hu=>cases hc;exact Triv.d _ _
   |1,hc,hu=>cases hc;exact Triv.d _ _
   |k+2,hc,hu=>simp at hc
 have hi2:=hi1.put (d:=9) hvt (fun xs e=>by cases e)
 refine Qfi (lim:=0) (hS.e 0) _ _ c5_x hi2 (Nat.zero_le _) (show runOps _ _ _ _=some ⟨[.ptr n 0,.ptr (n+1) 0,.ptr (n+2) 0,x1 3,x1 4,x1 5,.iface 45 (.d (.agg [.int .i64 e,.int .i64 p])),x1 7,boolD false,.tuple [.d (.agg [.int .i64 e,.int .i64 p]),boolD true],boolD true,.d (.agg [.int .i64 e,.int .i64 p]),x1 12,x1 13,x1 14,x1 15,x1 16],H⟩from rfl) ?_
 intro g3 a3 w3 hw3 hi3 hx3
 show Code.wp Tryd.prog (.cond (.tmp 10) _ _) _ a3 w3
 refine wp_cond (Inv.bool (b:=true) hi3 rfl) ?_
 rw[if_pos rfl]
 refine wp_seq (QeX hS k23_6 rfl hi3 (Nat.zero_le _) (v23_6 (fun i=>if i=6 then .iface 45 (.d (.agg [.int .i64 e,.int .i64 p]))else if i=8 then boolD false else if i=9 then .tuple [.d (.agg [.int .i64 e,.int .i64 p]),boolD true]else if i=10 then boolD true else x1 i) (Nat.zero_le _)) ?_ (fun _ h=>h.elim))
 rintro z st4 g4 a4 w4 ⟨rfl,x4,rfl⟩ hw4 hi4 hx4
 show Code.wp Tryd.prog p23_7 _ a4 w4
 have more:∀ {i:Nat} {o:AObj},H[i]? =some o→(H++ [AObj.cells [intD e,intD p]])[i]? =some o:=fun h=>by rw[List.getElem?_append_left (List.getElem?_eq_some_iff.1 h).1];exact h
 refine QeX hS k23_7 rfl hi4 (Nat.zero_le _) (v23_7 x4 (more o1) (more o2) (more o3) (show _=some (AObj.cells [intD e,intD p]) by simp) (by omega) (Nat.zero_le _)) ?_ (fun _ h=>h.elim)
 rintro z st5 g5 a5 w5 ⟨rfl,x5,rfl⟩ hw5 hi5 hx5
 obtain⟨v,hv1,hv2,hv3⟩:=Qe7 hi5 res23 (show Qcg _ _ []=some []from rfl)
 exact⟨hi5.defers,_,rfl,v,hv1,⟨v,rfl⟩,rfl,g5,((hw1.trans hw3).trans hw4).trans hw5,hi5.heap,hi5.nores⟩
end
end Go.Proofs.YtmhmjlfajlpabaaDoor
set_option maxHeartbeats 1000000
set_option linter.unusedVariables false
namespace Go.Proofs.YtmhmjlfajlpabaaDoor
open Go Go.Abs Go.Proofs Go.RowKit Go.Lib
def DRes(g0:Gh)(w0:World)(H0:Qaa)(s:Tx)(e:Ending)(w':World):Prop:=
 ∃v g',e= .returned v∧WF g0 w0 g' w'∧HeapOK g' H0 w'∧VR g' w' (QcI (QaP s)) v
abbrev dcl(c:Array Value):Deferred:= { target:= .fn (.func 23) c,args:= #[] }
def Gh.unres(g:Gh):Gh:=g.relabel .res .mine
theorem QfT(g:Gh)(w:World):WF g w (Gh.unres g) w where
 os:=rfl
 tape:=rfl
 output:=rfl
 size:=Nat.le_refl _
 idle x _ ho:=by
  have:g.own x≠ .res:=by rcases ho with h|h<;>rw[h]<;>simp
  simp[Gh.unres,Gh.relabel,this]
 stays b i hi:=⟨hi,rfl⟩
 n:=Nat.le_refl _
 rho _ _:=rfl
 out x hx:=by
  simp only[Gh.unres,Gh.relabel]at hx
  split at hx
  ·cases hx
  ·exact hx
 mine x hx:=by simp[Gh.unres,Gh.relabel,hx]
theorem QmW{g:Gh}{H:Qaa}{w:World}(h:HeapOK g H w):HeapOK (Gh.unres g) H w where
 n:=h.n
 own r hr ha:=by
  obtain⟨h1,h2⟩:=h.own r hr ha
  exact⟨by simp[Gh.unres,Gh.relabel,h1],h2⟩
 obj r o ho:=by
  have hr:r<g.n:=by rw[h.n];exact(List.getElem?_eq_some_iff.1 ho).1
  exact(h.obj r o ho).keep (QfT g w) hr (fun _=>rfl) (fun j a v hf=>hf.keep fun x hx=>⟨by simp[Gh.unres,Gh.relabel,hx],rfl,fun cs e fr hh hz=>⟨cs,fr,hh,rfl,hz⟩⟩)
 new x hx:=by
  obtain⟨h1,h2⟩:=h.new x hx
  exact⟨by simp[Gh.unres,Gh.relabel,h1],h2⟩
 glob n cs hn:=(QfT g w).vr (h.glob n cs hn)
theorem no_unres(g:Gh)(b:Nat):(Gh.unres g).own b≠ .res:=by
 simp only[Gh.unres,Gh.relabel]
 split
 ·simp
 ·assumption
theorem Ext.get{lim:Nat}{H H':Qaa}(h:Ext lim H H'){i:Nat}(hi:i<lim):H'[i]? =H[i]? :=by
 have:=congrArg (fun l=>l[i]?) h.2
 simpa only[List.getElem?_take,if_pos hi]using this
section
variable {g0:Gh} {w0:World} {H0:Qaa} {s:Tx}
theorem Qk7 [Dfr](h0:HeapOK g0 H0 w0){g:Gh}{st:St}{a:Act}{w:World}(hw:WF g0 w0 g w)(hi:Inv g st a w){j:D}{e p:Int}(hr:Qcg st.T st.H [.cell 2 true 5,.cell 3 false 1,.cell 4 false 1]=some [.d j,intD e,intD p])(hx:Ext H0.length H0 st.H)
  (hd:QcI (QaP s)= .tuple [.d j,intD e,intD p]):∃v,(results Tryd.f10 a.tmps).run Tryd.prog w= .ok v w∧DRes g0 w0 H0 s (.returned v) w:=by
 obtain⟨v,hv1,hv2,_⟩:=Qe7 hi res10 hr
 refine⟨v,hv1,v,g.cut w H0.length,rfl,Qi2 hw h0.n,QiM h0 hi.heap hx, ?_⟩
 rw[hd]
 exact QeK hi.heap hv2 rfl
theorem QlZ(c:Array Value)(w:World):(invoke (.fn (.func 23) c) #[]).run Tryd.prog w= .ok (.enter 23 c) w:=by
 have hf:Qii Tryd.prog 23:=⟨_,Tryd.func23,by kernel_rfl,by kernel_rfl⟩
 have:=QiO hf (#[]++c) w
 show(callFunc 23 (#[]++c)).run Tryd.prog w=_
 rw[this];simp
theorem Qca{g g':Gh}{w w':World}{n:Nat}(hw:WF g w g' w')(hl:n+2<g.n):caps g' n=caps g n:=by
 simp only[caps,ptrV,hw.rho n (by omega),hw.rho (n+1) (by omega),hw.rho (n+2) hl]
theorem Inv.boolD' [Dfr]{g:Gh}{st:St}{a:Act}{w:World}(h:Inv g st a w){i:Nat}{b:Bool}(hT:st.T.getD i .undef=boolD b):a.eval (.tmp i)= .bool b:=by
 have:=(QbR h i).1
 rw[hT]at this
 show a.tmps.getD i undef=_
 generalize a.tmps.getD i undef=v at this
 cases this with
 |d _ _ h=>cases h;rfl
theorem Inv.ptrD [Dfr]{g:Gh}{st:St}{a:Act}{w:World}(h:Inv g st a w){i n:Nat}(hT:st.T.getD i .undef= .ptr n 0):a.eval (.tmp i)= .pointer (some ⟨g.rho n,0,none⟩):=by
 have:=(QbR h i).1
 rw[hT]at this
 show a.tmps.getD i undef=_
 generalize a.tmps.getD i undef=v at this
 cases this;rfl
theorem Inv.numD [Dfr]{g:Gh}{st:St}{a:Act}{w:World}(h:Inv g st a w){i:Nat}{k:IntKind}{n:Int}(hT:st.T.getD i .undef= .d (.int k n)):a.eval (.tmp i)= .int k n:=by
 have:=(QbR h i).1
 rw[hT]at this
 show a.tmps.getD i undef=_
 generalize a.tmps.getD i undef=v at this
 cases this with
 |d _ _ h=>cases h;rfl
theorem Inv.funcD [Dfr]{g:Gh}{st:St}{a:Act}{w:World}(h:Inv g st a w){i n:Nat}(hT:st.T.getD i .undef= .func (.func 23) [.ptr n 0,.ptr (n+1) 0,.ptr (n+2) 0]):a.eval (.tmp i)= .func (.func 23) #[] (caps g n):=by
 have:=(QbR h i).1
 rw[hT]at this
 show a.tmps.getD i undef=_
 generalize a.tmps.getD i undef=v at this
 cases this with
 |func _ _ vs hl h ht=>
  congr 1
  apply Array.ext
  ·simpa using hl.symm
  ·intro k hk1 hk2
   simp only[caps,List.size_toArray,List.length_cons,List.length_nil]at hk2
   have h1:vs[k]? =some vs[k]:=Array.getElem?_eq_getElem hk1
   match k,hk2 with
   |0,_=>have:=h 0 _ _ rfl h1;generalize vs[0]=u at this;cases this;rfl
   |1,_=>have:=h 1 _ _ rfl h1;generalize vs[1]=u at this;cases this;rfl
   |2,_=>have:=h 2 _ _ rfl h1;generalize vs[2]=u at this;cases this;rfl
abbrev Qlw:List AV:=List.replicate 44 .undef
theorem Qme [Dfr](hS:EnvS Tryd.prog pf X0 XP)(h0:HeapOK g0 H0 w0){c:Array Value}(hd:Dfr.ds= [dcl c]){g:Gh}{T:List AV}{a:Act}{w:World}{c1 c2 c3 c4 c5:AV}{a1 b1:Int}{o:AObj}(hw:WF g0 w0 g w)(hc:caps g H0.length=c)
  (hi:Inv g ⟨T,H0++ [.cells [c1,c2,c3,c4,c5],nO a1,nO b1,o]⟩ a w)(hT:T.length=49)(hT2:T[2]? =some (.ptr H0.length 0))(hT3:T[3]? =some (.ptr (H0.length+1) 0))(hT4:T[4]? =some (.ptr (H0.length+2) 0))
  {g':Gh}{H':Qaa}{w':World}{v:Value}{e p:Nat}(hw':WF g w g' w')(hx:Ext (H0.length+3) (H0++ [.cells [c1,c2,c3,c4,c5],nO a1,nO b1,o]) H')(hH':HeapOK g' H' w')(hv:VR g' w' (.d (.agg [.int .i64 e,.int .i64 p])) v)(hds:QaP s= .error (e,p)):
  Leaves Tryd.prog Tryd.f10 a.tmps (DRes g0 w0 H0 s) a.defers (.panicking [{ v:= .iface 45 v,recovered:=false }]) w':=by
 obtain⟨K,kk,k1,k2,k3,k4,_⟩:=four H0
 rw[←kk]at hi hx
 have hgn:g.n=H0.length+4:=by rw[hi.heap.n,kk];simp
 have hw1:=hw'.trans (QfT g' w')
 have hH1:=QmW hH'
 have hgn1:H0.length+2<(Gh.unres g').n:=Nat.lt_of_lt_of_le (by omega) hw1.n
 rw[hi.defers,hd]
 have o1:=(Ext.get hx (show H0.length<H0.length+3 by omega)).trans (k1 _ _ _ _)
 have o2:=(Ext.get hx (show H0.length+1<H0.length+3 by omega)).trans (k2 _ _ _ _)
 have o3:=(Ext.get hx (show H0.length+2<H0.length+3 by omega)).trans (k3 _ _ _ _)
 have hlen:=hx.1
 rw[kk]at hlen
 simp only[List.length_append,List.length_cons,List.length_nil]at hlen
 refine leaves_cons (f:=23) (args:=c) (by simp) (QlZ c _) ?_
 rw[←hc,←Qca hw1 (by omega)]
 refine(QoZ hS hH1 (no_unres g') hgn1 o1 o2 o3 ((QfT g' w').vr hv)).mono ?_
 rintro z u' w2 ⟨⟨v2,rfl⟩,hu,g2,hw2,hH2,hn2⟩
 show Leaves Tryd.prog Tryd.f10 a.tmps (DRes g0 w0 H0 s) [] (settle u') w2
 rw[hu]
 have hwk:=Inv.weak hi (T:= [.undef,.undef,.ptr H0.length 0,.ptr (H0.length+1) 0,.ptr (H0.length+2) 0]++Qlw) (by rw[hT];rfl) fun i x hx=>by
  match i,hx with
  |0,hx=>cases hx;exact .inl rfl
  |1,hx=>cases hx;exact .inl rfl
  |2,hx=>cases hx;exact .inr hT2
  |3,hx=>cases hx;exact .inr hT3
  |4,hx=>cases hx;exact .inr hT4
  |k+5,hx=>
   have:Qlw[k]? =some x:=hx
   exact .inl (List.eq_of_mem_replicate (List.mem_of_getElem? this))
 have him:=Inv.move hwk (hw1.trans hw2) hH2 hn2 fun x hx xs=>by
  rcases List.mem_append.1 hx with h|h
  ·simp only[List.mem_cons,List.not_mem_nil,or_false]at h
   rcases h with rfl|rfl|rfl|rfl|rfl<;>simp
  ·rw[List.eq_of_mem_replicate h];simp
 have s1:(Qhp H' H0.length e p)[H0.length]? =some zO:=by
  unfold Qhp
  rw[List.getElem?_set_ne (by omega),List.getElem?_set_ne (by omega),List.getElem?_set_self (by simp;omega)]
 have s2:(Qhp H' H0.length e p)[H0.length+1]? =some (nO e):=by
  unfold Qhp
  rw[List.getElem?_set_ne (by omega),List.getElem?_set_self (by simp;omega)]
 have s3:(Qhp H' H0.length e p)[H0.length+2]? =some (nO p):=by
  unfold Qhp
  rw[List.getElem?_set_self (by simp;omega)]
 refine Qk7 h0 (hw.trans (hw1.trans hw2)) him (j:=J.zero.d) (e:=e) (p:=p) ?_ ?_ (by rw[hds])
 ·simp only[Qcg,List.cons_append,List.nil_append,List.getD_cons_succ,List.getD_cons_zero,s1,s2,s3]
  rfl
 ·refine⟨by simp[Qhp];omega, ?_⟩
  have e1:(Qhp H' H0.length e p).take H0.length=H'.take H0.length:=by
   unfold Qhp
   rw[List.take_set_of_le (by omega),List.take_set_of_le (by omega),List.take_set_of_le (by omega),List.take_append_of_le_length (by omega)]
  have e2:=(Ext.less hx (show H0.length≤H0.length+3 by omega)).2
  rw[e1,e2,kk,List.take_append_of_le_length (Nat.le_refl _)]
end
end Go.Proofs.YtmhmjlfajlpabaaDoor
set_option maxHeartbeats 2000000
set_option linter.unusedVariables false
namespace Go.Proofs.YtmhmjlfajlpabaaDoor
open Go Go.Abs Go.Proofs Go.RowKit Go.Lib
abbrev D5(n:Nat)(x:Nat→AV):List AV:= [x 0,x 1,.ptr n 0,.ptr (n+1) 0,.ptr (n+2) 0,.ptr (n+3) 0,x 6,x 7,x 8,x 9,x 10,x 11,x 12,x 13,x 14,x 15,x 16,x 17,x 18,x 19,x 20,x 21,x 22,x 23,x 24,x 25,x 26,x 27,x 28,x 29,x 30,x 31,x 32,x 33,x 34,x 35,x 36,x 37,x 38,x 39,x 40,x 41,x 42,x 43,x 44,x 45,x 46,x 47,x 48]
noncomputable abbrev restC:Code:= .seq p10_8 (.seq QeB (.seq QlN (.seq (.seq QlM (.cond (.tmp 40) QbD .skip)) (.seq QlL .ret))))
section
variable {g0:Gh} {w0:World} {H0:Qaa} {s:Tx}
theorem Ext4{H0 K:Qaa}{lim:Nat}(h:lim≤H0.length)(l:List AObj):Ext lim H0 (H0++l):=⟨by simp,List.take_append_of_le_length h⟩
theorem dec_rest [Dfr](hS:EnvS Tryd.prog pf X0 XP)(h0:HeapOK g0 H0 w0){c:Array Value}(hd:Dfr.ds= [dcl c])(hs:s.length≤16384)(hbr:¬0≤Qa1 s){g:Gh}{a:Act}{w:World}{x:Nat→AV}(hw:WF g0 w0 g w)(hc:caps g H0.length=c)
  (hi:Inv g ⟨D5 H0.length x,H0++ [zO,nO 0,nO 0,rdO s (0:Nat)]⟩ a w):restC.wp Tryd.prog (bodyPostD Tryd.prog Tryd.f10 (DRes g0 w0 H0 s)) a w:=by
 have hll:∀(a b c d:AObj),H0.length≤(H0++ [a,b,c,d]).length:=fun _ _ _ _=>by simp
 have hll3:∀(a b c d:AObj),H0.length+3≤(H0++ [a,b,c,d]).length:=fun _ _ _ _=>by simp
 have hgn:∀ {g:Gh} {T:List AV} {a b c d:AObj} {ac:Act} {w:World},Inv g ⟨T,H0++ [a,b,c,d]⟩ ac w→H0.length+2<g.n:=fun h=>by rw[h.heap.n];simp
 refine wp_seq (QeX hS k10_8 rfl hi (hll _ _ _ _) (v10_8 x (by omega) hs) ?_ (fun _ h=>h.elim))
 rintro z st1 g1 a1 w1 ⟨rfl,x1,rfl⟩ hw1 hi1 hx1
 have hc1:=(Qca hw1 (hgn hi)).trans hc
 have hb0:=(Qbn s 0).2 (Nat.zero_le _)
 generalize hp:Qaf s 0=p at hi1 hb0
 have hval:=(Qi5 (2*s.length+3)) (H0.length+3) (H0++ [zO,nO 0,nO 0,rdO s p]) (H0.length+3) s p 1 (by rw[List.getElem?_append_right (by omega)];simp) (Nat.le_refl _) hs hb0 (by omega) (by omega)
 have hds:QaP s=match Qa8 s (2*s.length+3) 1 p with
  |.error e=> .error e
  |.ok (j,q)=>if Qaf s q<s.length then .error (16,Qaf s q)else .ok (Qah j):=by
  unfold QaP
  rw[if_neg (by omega),if_neg hbr,hp]
  cases Qa8 s (2*s.length+3) 1 p with
  |error e=>rfl
  |ok y=>rfl
 show Code.wp Tryd.prog (.seq QeB _) _ a1 w1
 cases hv:Qa8 s (2*s.length+3) 1 p with
 |error er=>
  rw[hv]at hds
  have hP:=hval.noJ hv
  unfold EvP at hP
  obtain⟨k0,hP⟩:=hP
  rw[r9x_eq]
  refine wp_seq (wp_region_list ?_)
  refine QbF (lim:=H0.length) (E:=X0 0) c9_0 (hS.e 0) hi1 (hll _ _ _ _) (show stepOp _ _ _ _=some ⟨(D5 H0.length x1).set 27 (.ptr (H0.length+3) 0),_⟩from rfl) ?_
  intro g2 a2 w2 hw2 hi2 hx2
  obtain⟨hf,hcall⟩:=hS.p k0 25 (H0.length+3) [.ptr (H0.length+3) 0,intD ((1:Nat):Int)] _ _ _ (hP k0 (Nat.le_refl _)) (hll3 _ _ _ _)
  have hvals:(#[Operand.tmp 27,.const (.int .i64 1)].map a2.eval)= #[a2.eval (.tmp 27),.int .i64 1]:=by simp[Act.eval]
  refine Qh2 o9_1.2 o9_1.1 hf (hcall (#[Operand.tmp 27,.const (.int .i64 1)].map a2.eval) g2 w2 hi2.heap hi2.nores (by simp) ?_) ?_
  ·rw[hvals,Inv.ptrD (n:=H0.length+3) hi2 rfl]
   intro i y u hy hu
   match i,hy,hu with
   |0,hy,hu=>cases hy;cases hu;exact⟨.ptr _ _ (by rw[hi2.heap.n];simp),fun xs e=>by cases e⟩
   |1,hy,hu=>cases hy;cases hu;exact⟨.d _ _ (.int _ _),Triv.d _ _⟩
   |k+2,hy,hu=>simp at hy
  ·rintro e w' ⟨v,g',H',rfl,hw',hx',hH',hv'⟩
   refine⟨_,rfl, ?_⟩
   have hc2:=(Qca hw2 (hgn hi1)).trans hc1
   exact Qme hS h0 hd ((hw.trans hw1).trans hw2) hc2 hi2 rfl rfl rfl rfl hw' hx' hH' hv' hds
 |ok y=>
  obtain⟨j,q⟩:=y
  rw[hv]at hds
  simp only at hds
  have hvl:=QfW hv
  have hbq:=(Qbn s q).2 hvl.2
  obtain⟨⟨no,hno⟩,hnw⟩:=Qns hv
  refine wp_seq (QeX hS k10_9 rfl hi1 (hll _ _ _ _) (v10_9 x1 (Nat.le_refl _) hs hb0 hv) ?_ (fun _ h=>h.elim))
  rintro z st2 g2 a2 w2 ⟨rfl,x2,rfl⟩ hw2 hi2 hx2
  have hc2:=(Qca hw2 (hgn hi1)).trans hc1
  show Code.wp Tryd.prog (.seq QlN _) _ a2 w2
  refine wp_seq (QeX hS k10_10 rfl hi2 (hll _ _ _ _) (v10_10 x2 (by omega) hs hvl.2) ?_ (fun _ h=>h.elim))
  rintro z st3 g3 a3 w3 ⟨rfl,x3,rfl⟩ hw3 hi3 hx3
  have hc3:=(Qca hw3 (hgn hi2)).trans hc2
  generalize hbs:Qaf s q=q' at hi3 hds hbq
  show Code.wp Tryd.prog (.seq (.seq QlM _) _) _ a3 w3
  refine wp_seq (wp_seq (QeX hS k10_11 rfl hi3 (hll _ _ _ _) (v10_11 (lim:=H0.length) x3) ?_ (fun _ h=>h.elim)))
  rintro z st4 g4 a4 w4 ⟨rfl,x,rfl⟩ hw4 hi4 hx4
  have hc4:=(Qca hw4 (hgn hi3)).trans hc3
  show Code.wp Tryd.prog (.cond (.tmp 40) _ _) _ a4 w4
  refine wp_cond (Inv.boolD' (b:=decide (q'<s.length)) hi4 rfl) ?_
  by_cases hq:q'<s.length
  ·rw[if_pos hq]at hds
   rw[decide_eq_true hq,if_pos rfl]
   have hP:=Qa9 (pr:=Qbb) (pP:=QdK) (H0.length+3) (H0++ [jO j,nO 0,nO 0,rdO s q']) (H0.length+3) 16 q'
   unfold EvP at hP
   obtain⟨k0,hP⟩:=hP
   rw[r12x_eq]
   refine wp_region_list ?_
   have gk:(H0++ [jO j,nO 0,nO 0,rdO s q'])[H0.length+3]? =some (rdO s q'):=by rw[List.getElem?_append_right (by omega)];simp
   refine QbF (lim:=H0.length) (E:=X0 0) c12_0 (hS.e 0) hi4 (hll _ _ _ _) (st':=⟨[x 0,x 1,.ptr H0.length 0,.ptr (H0.length+1) 0,.ptr (H0.length+2) 0,.ptr (H0.length+3) 0,x 6,x 7,x 8,x 9,x 10,x 11,x 12,x 13,x 14,x 15,x 16,x 17,x 18,x 19,x 20,x 21,x 22,x 23,x 24,x 25,x 26,x 27,x 28,x 29,x 30,x 31,x 32,x 33,x 34,x 35,x 36,x 37,x 38,x 39,boolD (decide (q'<s.length)),.ptr (H0.length+3) 0,x 42,x 43,x 44,x 45,x 46,x 47,x 48],_⟩) rfl ?_
   intro g5 a5 w5 hw5 hi5 hx5
   refine QbF (lim:=H0.length) (E:=X0 0) c12_1 (hS.e 0) hi5 (hll _ _ _ _) (st':=⟨[x 0,x 1,.ptr H0.length 0,.ptr (H0.length+1) 0,.ptr (H0.length+2) 0,.ptr (H0.length+3) 0,x 6,x 7,x 8,x 9,x 10,x 11,x 12,x 13,x 14,x 15,x 16,x 17,x 18,x 19,x 20,x 21,x 22,x 23,x 24,x 25,x 26,x 27,x 28,x 29,x 30,x 31,x 32,x 33,x 34,x 35,x 36,x 37,x 38,x 39,boolD (decide (q'<s.length)),.ptr (H0.length+3) 0,.ptr (H0.length+3) 0,x 43,x 44,x 45,x 46,x 47,x 48],_⟩) rfl ?_
   intro g6 a6 w6 hw6 hi6 hx6
   refine QbF (lim:=H0.length) (E:=X0 0) c12_2 (hS.e 0) hi6 (hll _ _ _ _) (st':=⟨[x 0,x 1,.ptr H0.length 0,.ptr (H0.length+1) 0,.ptr (H0.length+2) 0,.ptr (H0.length+3) 0,x 6,x 7,x 8,x 9,x 10,x 11,x 12,x 13,x 14,x 15,x 16,x 17,x 18,x 19,x 20,x 21,x 22,x 23,x 24,x 25,x 26,x 27,x 28,x 29,x 30,x 31,x 32,x 33,x 34,x 35,x 36,x 37,x 38,x 39,boolD (decide (q'<s.length)),.ptr (H0.length+3) 0,.ptr (H0.length+3) 0,.ptr (H0.length+3) 0,x 44,x 45,x 46,x 47,x 48],_⟩) rfl ?_
   intro g7 a7 w7 hw7 hi7 hx7
   refine QbF (lim:=H0.length) (E:=X0 0) c12_3 (hS.e 0) hi7 (hll _ _ _ _) (st':=⟨[x 0,x 1,.ptr H0.length 0,.ptr (H0.length+1) 0,.ptr (H0.length+2) 0,.ptr (H0.length+3) 0,x 6,x 7,x 8,x 9,x 10,x 11,x 12,x 13,x 14,x 15,x 16,x 17,x 18,x 19,x 20,x 21,x 22,x 23,x 24,x 25,x 26,x 27,x 28,x 29,x 30,x 31,x 32,x 33,x 34,x 35,x 36,x 37,x 38,x 39,boolD (decide (q'<s.length)),.ptr (H0.length+3) 0,.ptr (H0.length+3) 0,.ptr (H0.length+3) 0,.ptr (H0.length+3) 1,x 45,x 46,x 47,x 48],_⟩) rfl ?_
   intro g8 a8 w8 hw8 hi8 hx8
   refine QbF (lim:=H0.length) (E:=X0 0) c12_4 (hS.e 0) hi8 (hll _ _ _ _) (st':=⟨[x 0,x 1,.ptr H0.length 0,.ptr (H0.length+1) 0,.ptr (H0.length+2) 0,.ptr (H0.length+3) 0,x 6,x 7,x 8,x 9,x 10,x 11,x 12,x 13,x 14,x 15,x 16,x 17,x 18,x 19,x 20,x 21,x 22,x 23,x 24,x 25,x 26,x 27,x 28,x 29,x 30,x 31,x 32,x 33,x 34,x 35,x 36,x 37,x 38,x 39,boolD (decide (q'<s.length)),.ptr (H0.length+3) 0,.ptr (H0.length+3) 0,.ptr (H0.length+3) 0,.ptr (H0.length+3) 1,intD q',x 46,x 47,x 48],H0++ [jO j,nO 0,nO 0,rdO s q']⟩) ?_ ?_
   ·simp only[zz,simprocAttr,gk]
   intro g9 a9 w9 hw9 hi9 hx9
   obtain⟨hf,hcall⟩:=hS.p k0 26 (H0.length+3) [.ptr (H0.length+3) 0,intD ((16:Nat):Int),intD q'] _ _ _ (hP k0 (Nat.le_refl _)) (hll3 _ _ _ _)
   have hvals:(#[Operand.tmp 41,.const (.int .i64 16),.tmp 45].map a9.eval)= #[a9.eval (.tmp 41),.int .i64 16,a9.eval (.tmp 45)]:=by simp[Act.eval]
   have hw49:=((((hw5.trans hw6).trans hw7).trans hw8).trans hw9)
   have hc9:=(Qca hw49 (hgn hi4)).trans hc4
   refine Qh2 o12_5.2 o12_5.1 hf (hcall (#[Operand.tmp 41,.const (.int .i64 16),.tmp 45].map a9.eval) g9 w9 hi9.heap hi9.nores (by simp) ?_) ?_
   ·rw[hvals,Inv.ptrD (n:=H0.length+3) hi9 rfl,Inv.numD (k:= .i64) (n:=q') hi9 rfl]
    intro i y u hy hu
    match i,hy,hu with
    |0,hy,hu=>cases hy;cases hu;exact⟨.ptr _ _ (by rw[hi9.heap.n];simp),fun xs e=>by cases e⟩
    |1,hy,hu=>cases hy;cases hu;exact⟨.d _ _ (.int _ _),Triv.d _ _⟩
    |2,hy,hu=>cases hy;cases hu;exact⟨.d _ _ (.int _ _),Triv.d _ _⟩
    |k+3,hy,hu=>simp at hy
   ·rintro e w' ⟨v,g',H',rfl,hw',hx',hH',hv'⟩
    refine⟨_,rfl, ?_⟩
    exact Qme hS h0 hd (((((hw.trans hw1).trans hw2).trans hw3).trans hw4).trans hw49) hc9 hi9 rfl rfl rfl rfl hw' hx' hH' hv' hds
  ·rw[if_neg hq]at hds
   rw[decide_eq_false hq,if_neg (by simp)]
   refine wp_skip ?_
   show Code.wp Tryd.prog (.seq QlL .ret) _ a4 w4
   refine wp_seq (QeX hS k10_13 rfl hi4 (hll _ _ _ _) (v10_13 (fun i=>if i=40 then boolD (decide (q'<s.length))else x i) (Nat.le_refl _) hno (by omega)) ?_ (fun _ h=>h.elim))
   rintro z st5 g5 a5 w5 ⟨rfl,x5,rfl⟩ hw5 hi5 hx5
   have hc5:=(Qca hw5 (hgn hi4)).trans hc4
   refine wp_ret ?_
   show Leaves Tryd.prog Tryd.f10 a5.tmps (DRes g0 w0 H0 s) a5.defers .returning w5
   rw[hi5.defers,hd]
   refine leaves_cons (f:=23) (args:=c) (by simp) (QlZ c _) ?_
   rw[←hc5]
   refine(Qnh hS hi5.heap hi5.nores (hgn hi5)).mono ?_
   rintro z u' w6 ⟨⟨v2,rfl⟩,rfl,g6,hw6,hH6,hn6⟩
   show Leaves Tryd.prog Tryd.f10 a5.tmps (DRes g0 w0 H0 s) [] .returning w6
   have hwk:=Inv.weak hi5 (T:= [.undef,.undef,.ptr H0.length 0,.ptr (H0.length+1) 0,.ptr (H0.length+2) 0]++Qlw) rfl fun i x hx=>by
    match i,hx with
    |0,hx=>cases hx;exact .inl rfl
    |1,hx=>cases hx;exact .inl rfl
    |2,hx=>cases hx;exact .inr rfl
    |3,hx=>cases hx;exact .inr rfl
    |4,hx=>cases hx;exact .inr rfl
    |k+5,hx=>
     have:Qlw[k]? =some x:=hx
     exact .inl (List.eq_of_mem_replicate (List.mem_of_getElem? this))
   have him:=Inv.move hwk hw6 hH6 hn6 fun x hx xs=>by
    rcases List.mem_append.1 hx with h|h
    ·simp only[List.mem_cons,List.not_mem_nil,or_false]at h
     rcases h with rfl|rfl|rfl|rfl|rfl<;>simp
    ·rw[List.eq_of_mem_replicate h];simp
   refine Qk7 h0 (((((hw.trans hw1).trans hw2).trans hw3).trans hw4).trans hw5|>.trans hw6) him (j:=(Qah j).d) (e:=0) (p:=0) ?_ (Ext4 (K:=H0) (Nat.le_refl _) _) (by rw[hds])
   obtain⟨K,kk,k1,k2,k3,k4,_⟩:=four H0
   rw[←kk,jd]
   simp only[Qcg,List.cons_append,List.nil_append,List.getD_cons_succ,List.getD_cons_zero,k1,k2,k3]
   rfl
theorem QoU(h0:HeapOK g0 H0 w0){g:Gh}{st:St}{a:Act}{w:World}(hw:WF g0 w0 g w)(hi:Inv g st a w){j:D}{e p:Int}(hr:Qcg st.T st.H [.cell 2 true 5,.cell 3 false 1,.cell 4 false 1]=some [.d j,intD e,intD p])(hx:Ext H0.length H0 st.H)
  (hd:QcI (QaP s)= .tuple [.d j,intD e,intD p]):Leaves Tryd.prog Tryd.f10 a.tmps (DRes g0 w0 H0 s) a.defers .returning w:=by
 rw[hi.defers]
 exact Qk7 h0 hw hi hr hx hd
theorem QoV(hS:EnvS Tryd.prog pf X0 XP)(h0:HeapOK g0 H0 w0)(hn:∀b,g0.own b≠ .res){v0:AV}(hb:QfL H0 v0=some s){vals:Array Value}(hv0:1=vals.size)(hv:∀(i:Nat) x v,[v0][i]? =some x→vals[i]? =some v→VR g0 w0 x v∧FOK g0 w0 (.slot i) x v):
  Calls Tryd.prog 10 vals w0 (DRes g0 w0 H0 s):=by
 refine calls_of_wp_defers Tryd.func10 body10 ?_
 rw[nt10,b10_eq]
 have hll0:H0.length≤H0.length:=Nat.le_refl _
 have hll3:∀(a b c:AObj),H0.length≤(H0++ [a,b,c]).length:=fun _ _ _=>by simp
 have hll:∀(a b c d:AObj),H0.length≤(H0++ [a,b,c,d]).length:=fun _ _ _ _=>by simp
 have hi0:Inv g0 ⟨_,H0⟩ { tmps:=vals++Array.replicate (49-vals.size) undef,defers:= [] } w0:=Qdc (args:= [v0]) h0 hn hv0 hv 49
 refine wp_seq (QeX hS k10_0 rfl hi0 hll0 (v10_0 (fun _=> .tuple [])) ?_ (fun _ h=>h.elim))
 rintro z st1 g1 a1 w1 ⟨rfl,x1,rfl⟩ hw1 hi1 hx1
 show Code.wp Tryd.prog (.seq (.seq p10_1 _) _) _ a1 w1
 refine wp_seq (wp_seq (QeX hS k10_1 rfl hi1 (hll3 _ _ _) (v10_1 (lim:=H0.length) (K:=H0++ [zO,nO 0,nO 0]) (n:=H0.length) x1 hb) ?_ (fun _ h=>h.elim)))
 rintro z st2 g2 a2 w2 ⟨rfl,x2,rfl⟩ hw2 hi2 hx2
 show Code.wp Tryd.prog (.cond (.tmp 9) _ _) _ a2 w2
 refine wp_cond (Inv.boolD' (b:=decide (16384<s.length)) hi2 rfl) ?_
 by_cases hs:16384<s.length
 ·have hds:QaP s= .error (13,16384):=by unfold QaP;rw[if_pos hs]
  rw[decide_eq_true hs,if_pos rfl]
  refine wp_seq (QeX hS k10_2 rfl hi2 (hll3 _ _ _) (v10_2 (fun i=>if i=0 then v0 else if i=9 then boolD (decide (16384<s.length))else x2 i) hll0) ?_ (fun _ h=>h.elim))
  rintro z st3 g3 a3 w3 ⟨rfl,x3,rfl⟩ hw3 hi3 hx3
  refine wp_ret ?_
  refine QoU h0 ((hw1.trans hw2).trans hw3) hi3 (j:=J.zero.d) (e:=13) (p:=16384) ?_ (Ext4 (K:=H0) (Nat.le_refl _) _) (by rw[hds];rfl)
  obtain⟨K,kk,k1,k2,k3,_⟩:=three H0
  rw[←kk]
  simp only[Qcg,List.getD_cons_succ,List.getD_cons_zero,k1,k2,k3]
  rfl
 have hs':s.length≤16384:=by omega
 rw[decide_eq_false hs,if_neg (by simp)]
 refine wp_skip ?_
 show Code.wp Tryd.prog (.seq p10_3 _) _ a2 w2
 refine wp_seq (QeX hS k10_3 rfl hi2 (hll3 _ _ _) (v10_3 (fun i=>if i=9 then boolD (decide (16384<s.length))else x2 i) hb) ?_ (fun _ h=>h.elim))
 rintro z st3 g3 a3 w3 ⟨rfl,x3,rfl⟩ hw3 hi3 hx3
 show Code.wp Tryd.prog (.seq (.seq p10_4 _) _) _ a3 w3
 refine wp_seq (wp_seq (QeX hS k10_4 rfl hi3 (hll _ _ _ _) (v10_4 (lim:=H0.length) x3 hs') ?_ (fun _ h=>h.elim)))
 rintro z st4 g4 a4 w4 ⟨rfl,x4,rfl⟩ hw4 hi4 hx4
 show Code.wp Tryd.prog (.seq p10_5 _) _ a4 w4
 refine wp_seq (QeX hS k10_5 rfl hi4 (hll _ _ _ _) (v10_5 (lim:=H0.length) (K:=H0++ [zO,nO 0,nO 0,rdO s (0:Nat)]) (n:=H0.length) (b:=Qa1 s) x4) ?_ (fun _ h=>h.elim))
 rintro z st5 g5 a5 w5 ⟨rfl,x5,rfl⟩ hw5 hi5 hx5
 show Code.wp Tryd.prog (.cond (.tmp 21) _ _) _ a5 w5
 refine wp_cond (Inv.boolD' (b:=decide (Qa1 s≥0)) hi5 rfl) ?_
 have hw15:=(((hw1.trans hw2).trans hw3).trans hw4).trans hw5
 by_cases hbr:0≤Qa1 s
 ·have hds:QaP s= .error (10,(Qa1 s).toNat):=by unfold QaP;rw[if_neg hs,if_pos hbr]
  have hnb:((Qa1 s).toNat:Int)=Qa1 s:=by omega
  rw[decide_eq_true hbr,if_pos rfl]
  refine wp_seq (QeX hS k10_6 rfl hi5 (hll _ _ _ _) (v10_6 (s:=s) (fun i=>if i=21 then boolD (decide (Qa1 s≥0))else x5 i) hll0) ?_ (fun _ h=>h.elim))
  rintro z st6 g6 a6 w6 ⟨rfl,x6,rfl⟩ hw6 hi6 hx6
  refine wp_ret ?_
  refine QoU h0 (hw15.trans hw6) hi6 (j:=J.zero.d) (e:=10) (p:=Qa1 s) ?_ (Ext4 (K:=H0) (Nat.le_refl _) _) (by rw[hds];show AV.tuple [_,_,intD ((Qa1 s).toNat:Int)]=_;rw[hnb];rfl)
  obtain⟨K,kk,k1,k2,k3,k4,_⟩:=four H0
  rw[←kk]
  simp only[Qcg,List.getD_cons_succ,List.getD_cons_zero,k1,k2,k3]
  rfl
 rw[decide_eq_false hbr,if_neg (by simp)]
 refine wp_skip ?_
 show Code.wp Tryd.prog (.seq QgB restC) _ a5 w5
 rw[r7x_eq]
 refine wp_seq (wp_region_list ?_)
 refine QbF (lim:=H0.length) (E:=X0 0) c7_0 (hS.e 0) hi5 (hll _ _ _ _) (show stepOp _ _ _ _=some ⟨(D5 H0.length fun i=>if i=6 then intD (Qa1 s)else if i=21 then boolD (decide (Qa1 s≥0))else x5 i).set 24 (.func (.func 23) [.ptr H0.length 0,.ptr (H0.length+1) 0,.ptr (H0.length+2) 0]),_⟩from rfl) ?_
 intro g6 a6 w6 hw6 hi6 hx6
 refine QmZ o7_1.2.1 o7_1.1 (f:=23) (cap:=caps g6 H0.length) (Inv.funcD (n:=H0.length) hi6 rfl) ?_
 rw[o7_1.2.2]
 refine @dec_rest g0 w0 H0 s ⟨[dcl (caps g6 H0.length)]⟩ hS h0 (caps g6 H0.length) rfl hs' hbr g6 _ w6 (fun i=>if i=6 then intD (Qa1 s)else if i=21 then boolD (decide (Qa1 s≥0))else if i=24 then .func (.func 23) [.ptr H0.length 0,.ptr (H0.length+1) 0,.ptr (H0.length+2) 0]else x5 i) (hw15.trans hw6) rfl ?_
 exact @Go.Abs.Inv.mk tabs ⟨[dcl (caps g6 H0.length)]⟩ _ _ _ _ hi6.heap hi6.size hi6.tok hi6.nores (by show _::a6.defers=_;rw[hi6.defers];rfl)
theorem Qj2:FSound Tryd.prog 10 Qen:=by
 intro lim args H a H' h hlim
 unfold Qen at h
 split at h
 ·rename_i v0
  simp only[Option.map_eq_some_iff]at h
  obtain⟨s,hb,h⟩:=h
  simp only[Prod.mk.injEq]at h
  obtain⟨rfl,rfl⟩:=h
  refine⟨Ext.refl _ _,fun vals g w hH hn hv0 hv=> .inl ⟨fn10,(QoV hS0 hH hn hb hv0 hv).mono ?_⟩⟩
  rintro e w' ⟨v,g',rfl,h1,h2,h3⟩
  refine⟨v,g',rfl,h1,h2,h3,FOK.ne ?_⟩
  cases QaP s<;>simp[QcI]
 ·cases h
end
end Go.Proofs.YtmhmjlfajlpabaaDoor
set_option maxRecDepth 1000000
namespace Go.Proofs.YtmhmjlfajlpabaaDoor
open Go Go.Abs
theorem Qo7:QaF code Qgv 60 11 0 [] []=some (boolD true,[]):=by kernel_rfl
theorem Qjl:∀f F,Qgv f=some F→FSound Tryd.prog f F:=fun f F h=>by
 unfold Qgv at h
 split at h
 ·rename_i hf;subst hf;cases h;exact Qj2
 ·exact Qjn f F h
theorem Qlh:FSound Tryd.prog 11 Qo8:=
 Qj7 (d:= .bool true) QiF Qjl QiT (k:=60) rfl Qo7
theorem prims_ok:∀f F,Qap f=some F→FSound Tryd.prog f F:=fun f F h=>by
 unfold Qap at h
 split at h
 ·rename_i hf;subst hf;cases h;exact Qlh
 ·exact Qjl f F h
end Go.Proofs.YtmhmjlfajlpabaaDoor
set_option maxHeartbeats 2000000
namespace Go.Proofs.YtmhmjlfajlpabaaDoor
open Go Go.Abs Go.Proofs Go.RowKit Go.Lib
def endsF:QbC:=fun _ args H=>match args,H with
 | [],[]=>some (boolD true,[])
 |_,_=>none
theorem QkF:Qdu Qap (fun _=>none):=fun f FP h=>by cases h
theorem hSF:EnvS Tryd.prog pf (QaF code Qap) (Qcl code pf Qap (fun _=>none)):=EnvS.slim QiF prims_ok (fun f F h=>by cases h) QkF QiT
theorem fn7:Qii Tryd.prog 7:=⟨_,Tryd.func7,by kernel_rfl,by kernel_rfl⟩
theorem body7:Tryd.f7.body=some b7:=by kernel_rfl
theorem nt7:Tryd.f7.ntmps=138:=by kernel_rfl
theorem res7:QaW Tryd.prog Tryd.f7.results.toList=some [.t 0]:=by kernel_rfl
theorem b7_eq:b7= .seq p7_0 (.seq p7_1 (.seq p7_2 (.seq p7_3 (.seq p7_4 (.seq p7_5 (.seq p7_6 (.seq p7_7 (.seq p7_8 (.seq p7_9 (.seq p7_10 p7_B)))))))))):=by kernel_rfl
theorem row_ends(n:Nat):((List.replicate (n+2) (AV.d (.int .u8 97))).set 0 (.d (.int .u8 34))).set (n+1) (.d (.int .u8 34))=((34::(List.replicate n 97++ [34]):Tx).map byteD).map .d:=by
 have h1:List.replicate (n+2) (AV.d (.int .u8 97))=AV.d (.int .u8 97)::(List.replicate n (AV.d (.int .u8 97))++ [AV.d (.int .u8 97)]):=by
  rw[List.replicate_succ,List.replicate_succ']
 rw[h1,List.set_cons_zero,List.set_cons_succ,List.set_append,if_neg (by simp),List.length_replicate,Nat.sub_self,List.set_cons_zero]
 simp[byteD]
theorem Qm9:FSound Tryd.prog 7 endsF:=by
 intro lim args H a H' h hlim
 obtain⟨rfl,rfl,rfl,rfl⟩:args= []∧H= []∧a=boolD true∧H'= []:=by
  unfold endsF at h
  split at h
  ·simp only[Option.some.injEq,Prod.mk.injEq]at h
   exact⟨rfl,rfl,h.1.symm,h.2.symm⟩
  ·cases h
 refine⟨Ext.refl _ _,fun vals g w hH hn hv0 hv=> .inl ⟨fn7, ?_⟩⟩
 refine calls_of_wp Tryd.func7 body7 ?_
 rw[nt7,b7_eq]
 have hi:Inv g ⟨_,[]⟩ { tmps:=vals++Array.replicate (138-vals.size) undef,defers:= [] } w:=Qdc (args:= []) hH hn hv0 hv 138
 refine Qcv hSF k7_0 hi (v7_0 (fun _=> .tuple [])) ?_
 rintro _ g1 a1 w1 ⟨x,rfl⟩ hw1 hi1
 refine Qcv hSF k7_1 hi1 (v7_1 x) ?_
 rintro _ g2 a2 w2 ⟨x,rfl⟩ hw2 hi2
 refine Qcv hSF k7_2 hi2 (v7_2 x) ?_
 rintro _ g3 a3 w3 ⟨O,C,x,hO,hC,rfl⟩ hw3 hi3
 have hOC:O.length+C.length≤100:=by rw[hO,hC];simp
 refine Qcv hSF k7_3 hi3 (v7_3 x rfl hOC (j:=QmQ 11) (by rw[hO,hC];exact dec12) (by rw[hO];exact List.cons_ne_nil _ _)) ?_
 rintro _ g4 a4 w4 ⟨x,rfl⟩ hw4 hi4
 refine Qcv hSF k7_4 hi4 (v7_4 x rfl rfl hOC (by rw[hO,hC];exact dec13) (by rw[hO];exact List.cons_ne_nil _ _)) ?_
 rintro _ g5 a5 w5 ⟨x,rfl⟩ hw5 hi5
 obtain⟨n,hn⟩:∃n,n=16382:=⟨_,rfl⟩
 refine Qcv hSF k7_5 hi5 (v7_5 x (N:=n+2) (by omega)) ?_
 rintro _ g6 a6 w6 ⟨R,x,hR,rfl⟩ hw6 hi6
 refine Qcv hSF k7_6 hi6 (v7_6 x (by omega) hR) ?_
 rintro _ g7 a7 w7 ⟨R1,x,hR1,rfl⟩ hw7 hi7
 refine Qcv hSF k7_7 hi7 (v7_7 x (by omega) (by simp[hR1]) rfl) ?_
 rintro _ g8 a8 w8 ⟨x,rfl⟩ hw8 hi8
 refine Qcv hSF k7_8 hi8 (v7_8 x (K:=n+1) (R':=((34::(List.replicate n 97++ [34]):Tx).map byteD).map .d) (by omega) rfl (by simp[hR1]) (by rw[hR1];exact row_ends n)) ?_
 rintro _ g9 a9 w9 ⟨x,rfl⟩ hw9 hi9
 have hBl:(34::(List.replicate n 97++ [34]):Tx).length=n+2:=by simp
 have hdB:=dec_a (n:=n) (by omega)
 have heB:=enc_a (n:=n) (by omega)
 have hte:((List.replicate n 97++ [97]:Tx))=List.replicate (n+1) 97:=by rw[List.replicate_succ']
 have heM:=enc_more (n:=n+1) (by omega)
 have htl:(List.replicate n (97:UInt8)).length≤20000:=by rw[List.length_replicate];omega
 have htl2:(List.replicate (n+1) (97:UInt8)).length≤20000:=by rw[List.length_replicate];omega
 generalize(34::(List.replicate n 97++ [34]):Tx)=B at*
 refine Qcv hSF k7_9 hi9 (v7_9 x hBl rfl hdB) ?_
 rintro _ g10 a10 w10 ⟨x,rfl⟩ hw10 hi10
 refine Qcv hSF k7_10 hi10 (v7_10 x (tJ_wt _ htl) heB) ?_
 rintro _ g11 a11 w11 ⟨x,rfl⟩ hw11 hi11
 obtain⟨g12,hw12,hi12⟩:=hi11.thaw (i:=10) (r:=2) (n:=n+2) (xs:=B.map byteD) rfl rfl (fun y hy=>by
  obtain⟨b,_,rfl⟩:=List.mem_map.1 hy
  exact⟨rfl,rfl⟩) (by simp;exact hBl) (by rintro e;rw[List.map_eq_nil_iff]at e;rw[e]at hBl;simp at hBl)
 refine W_wp hSF k7_B hi12 (Nat.zero_le _) (v7_B x (q:= .dead) (j:=QmQ 11) (N:=n+2) (by omega) hBl rfl hte htl (tJ_wt _ htl2) (dec_more (by rw[List.length_append,hBl];show 16384<n+2+1;omega)) heM Qol (by have:=nest_wt;omega)) ?_
 rintro e st' g13 a13 w13 ⟨rfl,x,K,rfl⟩ hw13 hi13
 obtain⟨v,h1,h2,_⟩:=Qe7 hi13 res7 (vs:= [boolD true]) rfl
 have hw:=(((((((((((hw1.trans hw2).trans hw3).trans hw4).trans hw5).trans hw6).trans hw7).trans hw8).trans hw9).trans hw10).trans hw11).trans hw12).trans hw13
 have hx:Ext ([]:Qaa).length [] K:=⟨Nat.zero_le _,rfl⟩
 refine⟨hi13.defers,v,h1,v,g13.cut w13 ([]:Qaa).length,rfl,Qi2 hw hH.n,QiM hH hi13.heap hx,QeK hi13.heap h2 rfl,FOK.triv (Triv.d _ _)⟩
theorem Qna{vals:Array Value}{w:World}(hG:Qpk w)(hv:ArgsOK w [] vals.toList):Calls Tryd.prog 7 vals w fun e w'=>e= .returned (.bool true)∧Below w.heap.size w w':=
 QmI Qm9 rfl fn7 hG hv fun hf v w' h=>by
  have:=QiO hf vals w
  rw[this]at h;cases h
end Go.Proofs.YtmhmjlfajlpabaaDoor
namespace Go.Proofs.YtmhmjlfajlpabaaDoor
open Go Go.Abs Go.RowKit
def IsJ(ds:List D):Prop:=∃j:J,ds= [.int .i64 j.k,.int .i64 j.n,.str j.t,sD j.ks,jsD j.l]
end Go.Proofs.YtmhmjlfajlpabaaDoor
