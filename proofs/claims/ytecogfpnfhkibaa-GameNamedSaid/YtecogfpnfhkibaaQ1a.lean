/- A part of the proofs of the laws of this seat: contracts of the functions that they reach, each proved of the program's form in Lean. No condition beyond those that each contract names. -/
import Derived.Test.YtecogfpnfhkibaaProg
import Derived.Test.YtecogfpnfhkibaaSnd3
import Derived.Test.YtecogfpnfhkibaaA0
import Derived.Test.YtecogfpnfhkibaaN1a
import Derived.Test.YtecogfpnfhkibaaN1b
import Derived.Test.YtecogfpnfhkibaaN1c
import Derived.Test.YtecogfpnfhkibaaN1d
import Derived.Test.YtecogfpnfhkibaaN1e
import Derived.Test.YtecogfpnfhkibaaN1f
import Derived.Test.YtecogfpnfhkibaaN1g
import Derived.Test.YtecogfpnfhkibaaN1h
set_option linter.unusedVariables false
set_option linter.unusedSimpArgs false
set_option maxRecDepth 20000
set_option maxHeartbeats 4000000
namespace Go.Abs
open Go.Proofs
variable {P:Program}
end Go.Abs
namespace Go.Abs
end Go.Abs
namespace Go.Abs
variable {P:Program}
end Go.Abs
namespace Go.Abs
end Go.Abs
namespace Go.Abs
end Go.Abs
namespace Go.Abs
variable {P:Program}
end Go.Abs
namespace Go.Abs
variable {P:Program}
end Go.Abs
namespace Go.Abs
end Go.Abs
namespace Go.Abs
end Go.Abs
namespace Go.Abs
variable {P:Program}
end Go.Abs
namespace Go.Abs
end Go.Abs
namespace Go.Abs
variable {P:Program}
theorem w_frzI {Q:Post} {e:Nat→AV} {σ:Sig} {t i g n:Nat} {xs:List Int} (hx:e t= .msl i g n 1) (hσ:σ i=(g,.row (xs.map (AV.int .i64)))) (hn:xs.length=n) (hk:Q .nor (upd (frzE i g (xs.map (AV.int .i64)) e) t (.slc 1 (iR xs) .non)) (frzS i g (xs.map (AV.int .i64)) σ)):awp P (.frz (.t t)) Q e σ:=by
 subst hn
 have he:frzE i g (xs.map (AV.int .i64)) e t= .slc 1 (iR xs) .non:=by simp[frzE,hx,frzA,chunk1]
 rw[←upd_same he] at hk
 show frzW (e t) e σ _
 rw[hx];show (match σ i with | (g',.row c)=>g=g'∧c.all AV.scal=true∧Q .nor (frzE i g c e) (frzS i g c σ) | _=>False)
 rw[hσ];exact⟨rfl,by simp[AV.scal],hk⟩
end Go.Abs
namespace Go.Abs
variable {P:Program}
def getI (l:List Int) (i:Int):Int:=(l[i.toNat]?).getD 0
theorem getI_of {xs:List Int} {i y:Int} (h:xs[i.toNat]?=some y):getI xs i=y:=by simp[getI,h]
theorem w_ixG {K:(Nat→AV)→Sig→Prop} {e:Nat→AV} {σ:Sig} {xs:List Int} {d:Nat} {t:Tag} {x i:IOpd} {r:List IStep} {k:IntKind} {n:Int} (hx:x.ev e= .slc 1 (iR xs) t) (hi:i.ev e= .int k n) (h:0≤n∧n<xs.length)
  (hk:stepsW P r K (upd e d (.pin [.int .i64 (getI xs n)])) σ):stepsW P (⟨some d,none,.ixA 1 x i⟩::r) K e σ:=
 w_ixM hx hi h fun y hy=>by rw[getI_of hy] at hk;exact hk
end Go.Abs
namespace Go.Abs
variable {P:Program}
end Go.Abs
namespace Go.Abs
section
variable {P:Program} {Q:Post} {K:(Nat→AV)→Sig→Prop} {e:Nat→AV} {σ:Sig}
theorem zGi {xs:List Int} {d:Nat} {t:Tag} {x i:IOpd} {r:List IStep} {k:IntKind} {n:Int} (hk:stepsW P r K (upd e d (.pin [.int .i64 (getI xs n)])) σ) (hx:x.ev e= .slc 1 (iR xs) t:=by with_unfolding_all exact rfl) (hi:i.ev e= .int k n:=by with_unfolding_all exact rfl) (h:0≤n∧n<xs.length:=by with_unfolding_all exact sd):stepsW P (⟨some d,none,.ixA 1 x i⟩::r) K e σ:=w_ixG hx hi h hk
end
end Go.Abs
namespace Go.Abs
theorem getI_nat {l:List Int} {i:Nat} (hi:i<l.length):getI l i=l[i]:=by simp[getI,hi]
theorem mem_seat {n:Nat} {l:List Int} (h:isPerm n l) {g:Nat} (hg:g<n):∃i:Nat,i<n∧getI l i=g:=by
 obtain⟨i,hi,he⟩:=List.getElem_of_mem (h.all (g:=g) (by omega))
 have:=h.len
 exact⟨i,by omega,by rw[getI_nat hi,he]⟩
end Go.Abs
namespace Go.Abs
open Go.Proofs
def ir93:IFn:=
 ⟨19,[(2,none)],(.seq (.ops [oo 1 (.box 2 0),
 oo 2 (.mov (kI 0))])
 (.seq (.ops [oo 3 (.mov (kI 0))])
 (.seq (.seq (.ops [oo 6 (.ld 2 true 1),
 oo 7 (.callF 72 [6]),
 oo 8 (.len false 7),
 oo 9 (.mov (kI 0))])
 (.blk 0 (.loop (.seq (.ops [oo 10 (.bin .lss 9 8)])
 (.seq (.cnd 10
 .skip
 (.exit 0))
 (.seq (.blk 1 (.seq (.ops [oo 11 (.ixA 7 7 9),
 oo 12 (.ld 7 true 11),
 oo 5 (.new [(.int .i64 0),(.int .i64 0),(.int .i64 0),(.int .i64 0),(.int .i64 0),(.bool false),(.bool false)]),
 ⟨none,none,(.st 7 5 12)⟩])
 (.seq (.ops [oo 13 (.flA 6 5),
 oo 14 (.ld 1 false 13)])
 (.cnd 14
 (.ops [oo 15 (.mov 3),
 oo 16 (.bin .add 15 (kI 1)),
 oo 3 (.mov 16)])
 .skip))))
 (.ops [oo 17 (.bin .add 9 (kI 1)),
 oo 9 (.mov 17)])))))))
 (.seq (.ops [oo 18 (.mov 3),
 oo 2 (.mov 18)])
 .ret))))⟩
def hint93 (P:Program):Hint:={}
theorem censers_c (G:Gm) (hd:G.ds.length≤24) (hc:∀d∈G.ds,drawsB d=true→1≤d.count∧d.count≤12):Fn0 Try.prog 93 [gmA G] (fun v=>v= .int .i64 (censG (stepsG G.ds):Nat)):=by
 have hst:=steps_c G hd hc
 have hsl:=stepsG_len G.ds hc
 obtain⟨L,hL⟩:∃L,stepsG G.ds=L:=⟨_,rfl⟩
 rw[hL] at hst hsl ⊢
 refine RawC.walk (H:=hint93 Try.prog) ir93 Try.func93 rfl rfl rfl ?_
 unfold ir93
 repeat' (first
  | with_reducible (first | refine Rd.p ?_ | refine w_alt ?_ ?_ | refine zE ?_ | refine zE0 ?_)
  | with_reducible (first | refine zI fun y hy=>?_ | refine zL ?_ | refine zS ?_ | refine zA fun _=>?_ | refine zV ?_ | refine zC ?_ | refine zG ?_ | refine zU ?_ | refine zG0 ?_ | refine zU0 ?_ | refine zF ?_)
  | ((with_reducible refine acall_id ?_);refine ACall.val hst rfl rfl ?_)
  | with_reducible (first | refine zX ?_ | refine zD fun _=>?_ | refine zD0 ?_ | refine zN ?_ | refine zF0 ?_ | refine zX0 ?_ | refine z1 ?_ | refine z2 ?_ | refine z3 ?_ | refine z4 ?_ | refine z5 ?_ | refine z6 ?_ | refine z7 ?_ | refine z8 ?_ | refine y1 ?_ | refine y2 ?_ | refine y3 ?_ | refine y4 ?_ | refine y5 ?_ | refine y6 ?_ | refine y7 ?_ | refine y8 ?_ | refine Rt.p (fun _=>?_) fun _=>?_)
  | ((with_reducible apply w_ixM);(focus exact rfl);(focus exact rfl);case' hk=>intro y hy) | ((with_reducible (first | apply w_val | apply q_ends));(focus exact rfl)))
 refine w_loopK [7,8] [] (fun x:List Sp×List Sp=>L=x.1++x.2) (fun x=>x.2.length) (fun x=>[(3,.int .i64 (censG x.1:Nat)),(9,.int .i64 (x.1.length:Int))]) (fun _=>[]) ([],L) rfl ⟨rfl,rfl,trivial⟩ trivial ?_
 rintro⟨pre,post⟩ hl e σ
 dsimp only at hl ⊢
 have hlen:=congrArg List.length hl
 rw[List.length_append] at hlen
 have hcl:censG pre≤pre.length:=List.length_filter_le _ _
 cases post with
 | nil=>
   simp only[List.length_nil] at hlen
   rw[List.append_nil] at hl
   subst hl
   repeat' (first
    | with_reducible (first | refine Rd.p ?_ | refine w_alt ?_ ?_ | refine zE ?_ | refine zE0 ?_)
    | with_reducible (first | refine zI fun y hy=>?_ | refine zL ?_ | refine zS ?_ | refine zA fun _=>?_ | refine zV ?_ | refine zC ?_ | refine zG ?_ | refine zU ?_ | refine zG0 ?_ | refine zU0 ?_ | refine zF ?_)
    | with_reducible (first | refine zX ?_ | refine zD fun _=>?_ | refine zD0 ?_ | refine zN ?_ | refine zF0 ?_ | refine zX0 ?_ | refine z1 ?_ | refine z2 ?_ | refine z3 ?_ | refine z4 ?_ | refine z5 ?_ | refine z6 ?_ | refine z7 ?_ | refine z8 ?_ | refine y1 ?_ | refine y2 ?_ | refine y3 ?_ | refine y4 ?_ | refine y5 ?_ | refine y6 ?_ | refine y7 ?_ | refine y8 ?_ | refine Rt.p (fun _=>?_) fun _=>?_)
    | ((with_reducible apply w_ixM);(focus exact rfl);(focus exact rfl);case' hk=>intro y hy) | ((with_reducible (first | apply w_val | apply q_ends));(focus exact rfl)))
   all_goals first
    | (exfalso;omega)
    | rfl
 | cons x post=>
   obtain⟨d,b,c⟩:=x
   simp only[List.length_cons] at hlen
   cases c with
   | false=>
     have hcs:censG (pre++[(d,b,false)])=censG pre:=by simp[censG,List.filter_append]
     repeat' (first
      | with_reducible (first | refine Rd.p ?_ | refine w_alt ?_ ?_ | refine zE ?_ | refine zE0 ?_)
      | (refine w_ixP (f:=fun x:Sp=>[AV.int .i64 x.1.kind,.int .i64 x.1.bag,.int .i64 x.1.other,.int .i64 x.1.wood,.int .i64 x.1.count,.bool x.2.1,.bool x.2.2]) hl rfl rfl ?_)
      | with_reducible (first | refine zI fun y hy=>?_ | refine zL ?_ | refine zS ?_ | refine zA fun _=>?_ | refine zV ?_ | refine zC ?_ | refine zG ?_ | refine zU ?_ | refine zG0 ?_ | refine zU0 ?_ | refine zF ?_)
      | with_reducible (first | refine zX ?_ | refine zD fun _=>?_ | refine zD0 ?_ | refine zN ?_ | refine zF0 ?_ | refine zX0 ?_ | refine z1 ?_ | refine z2 ?_ | refine z3 ?_ | refine z4 ?_ | refine z5 ?_ | refine z6 ?_ | refine z7 ?_ | refine z8 ?_ | refine y1 ?_ | refine y2 ?_ | refine y3 ?_ | refine y4 ?_ | refine y5 ?_ | refine y6 ?_ | refine y7 ?_ | refine y8 ?_ | refine Rt.p (fun _=>?_) fun _=>?_)
      | ((with_reducible apply w_ixM);(focus exact rfl);(focus exact rfl);case' hk=>intro y hy) | ((with_reducible (first | apply w_val | apply q_ends));(focus exact rfl)))
     all_goals first
      | (exfalso;omega)
      | exact q_loop (pre++[(d,b,false)],post) (by show L=_;rw[hl];simp) (Nat.lt_succ_self _) ⟨by show AV.int .i64 _=AV.int .i64 _;rw[hcs],by rw[len_snoc];rfl,trivial⟩ (by repeat' (first | exact slots_nil | apply slots_cons | rfl | (rw[map_snoc];rfl) | (rw[len_snoc];rfl) | (rw[hS];rfl) | (rw[hS,map_snoc];rfl) | (refine int_eq ?_;(try dsimp only);omega) | (refine congrArg AV.bool ?_;simp_all;done))) (by repeat' (first | exact kept_nil | apply kept_cons | rfl)) (by repeat' (first | exact kept_nil | apply kept_cons | rfl))
   | true=>
     have hcs:censG (pre++[(d,b,true)])=censG pre+1:=by simp[censG,List.filter_append]
     repeat' (first
      | with_reducible (first | refine Rd.p ?_ | refine w_alt ?_ ?_ | refine zE ?_ | refine zE0 ?_)
      | (refine w_ixP (f:=fun x:Sp=>[AV.int .i64 x.1.kind,.int .i64 x.1.bag,.int .i64 x.1.other,.int .i64 x.1.wood,.int .i64 x.1.count,.bool x.2.1,.bool x.2.2]) hl rfl rfl ?_)
      | with_reducible (first | refine zI fun y hy=>?_ | refine zL ?_ | refine zS ?_ | refine zA fun _=>?_ | refine zV ?_ | refine zC ?_ | refine zG ?_ | refine zU ?_ | refine zG0 ?_ | refine zU0 ?_ | refine zF ?_)
      | with_reducible (first | refine zX ?_ | refine zD fun _=>?_ | refine zD0 ?_ | refine zN ?_ | refine zF0 ?_ | refine zX0 ?_ | refine z1 ?_ | refine z2 ?_ | refine z3 ?_ | refine z4 ?_ | refine z5 ?_ | refine z6 ?_ | refine z7 ?_ | refine z8 ?_ | refine y1 ?_ | refine y2 ?_ | refine y3 ?_ | refine y4 ?_ | refine y5 ?_ | refine y6 ?_ | refine y7 ?_ | refine y8 ?_ | refine Rt.p (fun _=>?_) fun _=>?_)
      | ((with_reducible apply w_ixM);(focus exact rfl);(focus exact rfl);case' hk=>intro y hy) | ((with_reducible (first | apply w_val | apply q_ends));(focus exact rfl)))
     all_goals first
      | (exfalso;omega)
      | exact q_loop (pre++[(d,b,true)],post) (by show L=_;rw[hl];simp) (Nat.lt_succ_self _) ⟨by show AV.int .i64 _=AV.int .i64 _;rw[hcs];rfl,by rw[len_snoc];rfl,trivial⟩ (by repeat' (first | exact slots_nil | apply slots_cons | rfl | (rw[map_snoc];rfl) | (rw[len_snoc];rfl) | (rw[hS];rfl) | (rw[hS,map_snoc];rfl) | (refine int_eq ?_;(try dsimp only);omega) | (refine congrArg AV.bool ?_;simp_all;done))) (by repeat' (first | exact kept_nil | apply kept_cons | rfl)) (by repeat' (first | exact kept_nil | apply kept_cons | rfl))
def ir114:IFn:=
 ⟨19,[(4,none)],(.seq (.ops [oo 4 (.mov (kI 0))])
 (.seq (.seq (.ops [oo 6 (.mov 0),
 oo 7 (.len false 6),
 oo 8 (.mov (kI 0))])
 (.blk 0 (.loop (.seq (.ops [oo 9 (.bin .lss 8 7)])
 (.seq (.cnd 9
 .skip
 (.exit 0))
 (.seq (.blk 1 (.seq (.ops [oo 10 (.mov 8),
 oo 5 (.mov 10)])
 (.seq (.ops [oo 11 (.mov 1),
 oo 12 (.mov 0),
 oo 13 (.mov 5),
 oo 14 (.ixA 1 12 13),
 oo 15 (.ld 1 false 14),
 oo 16 (.callV 11 [15])])
 (.cnd 16
 (.seq (.ops [oo 17 (.mov 5),
 oo 4 (.mov 17)])
 .ret)
 .skip))))
 (.ops [oo 18 (.bin .add 8 (kI 1)),
 oo 8 (.mov 18)])))))))
 (.seq (.ops [oo 4 (.mov (.k (.int .i64 (-1))))])
 .ret)))⟩
def hint114 (P:Program):Hint:={}
def ir94:IFn:=
 ⟨9,[(4,none)],(.seq (.ops [oo 4 (.mov (kB false))])
 (.seq (.ops [oo 5 (.mov 0),
 oo 6 (.mov 1),
 oo 7 (.callF 114 [5,6]),
 oo 8 (.bin .geq 7 (kI 0)),
 oo 4 (.mov 8)])
 .ret))⟩
def hint94 (P:Program):Hint:={}
def ir95:IFn:=
 ⟨11,[(3,none)],(.seq (.ops [oo 3 (.mov (kB false))])
 (.seq (.ops [oo 4 (.mov 0),
 oo 5 (.flA 0 1),
 oo 6 (.ld 1 false 5),
 oo 7 (.len false 6),
 oo 8 (.bin .sub 7 (kI 1)),
 oo 9 (.callF 50 [4,(kI 0),8]),
 oo 10 (.not 9),
 oo 3 (.mov 10)])
 .ret))⟩
def hint95 (P:Program):Hint:={}
def ir70:IFn:=
 ⟨13,[(4,none)],(.seq (.ops [oo 2 (.box 2 0),
 oo 4 (.mov (kI 0))])
 (.seq (.seq (.ops [oo 5 (.mov 1),
 oo 6 (.len false 5),
 oo 7 (.ld 2 true 2),
 oo 8 (.callF 93 [7]),
 oo 9 (.bin .neq 6 8)])
 (.cnd 9
 (.seq (.ops [oo 4 (.mov (kI 3))])
 .ret)
 .skip))
 (.seq (.seq (.seq (.frz 2)
 (.ops [oo 10 (.mov 1),
 oo 11 (.mkf (.func 95) [] [2]),
 oo 12 (.callF 94 [10,11])]))
 (.cnd 12
 (.seq (.ops [oo 4 (.mov (kI 7))])
 .ret)
 .skip))
 (.seq (.ops [oo 4 (.mov (kI 0))])
 .ret))))⟩
def hint70 (P:Program):Hint:={site:=[],nils:=[],frz:=[(11,2)],mve:=[],wr:=[] }
theorem idxF_c (k:Nat) (cs:List AV) (p:Int→Bool) (l:List Int) (hl:l.length<1000000) (hf:∀x∈l,Fn0 Try.prog k [.int .i64 x,.pin cs] (fun v=>v= .bool (p x))):Fn0 Try.prog 114 [.slc 1 (iR l) .non,.clo (.func k) [] [.pin cs]] (fun v=>∃i:Int,v= .int .i64 i∧(0≤i↔l.any p=true)):=by
 refine RawC.walk (H:=hint114 Try.prog) ir114 Try.func114 rfl rfl rfl ?_
 unfold ir114
 repeat' (first
  | with_reducible (first | refine Rd.p ?_ | refine w_alt ?_ ?_ | refine zE ?_ | refine zE0 ?_)
  | with_reducible (first | refine zI fun y hy=>?_ | refine zL ?_ | refine zS ?_ | refine zA fun _=>?_ | refine zV ?_ | refine zC ?_ | refine zG ?_ | refine zU ?_ | refine zG0 ?_ | refine zU0 ?_ | refine zF ?_)
  | with_reducible (first | refine zX ?_ | refine zD fun _=>?_ | refine zD0 ?_ | refine zN ?_ | refine zF0 ?_ | refine zX0 ?_ | refine z1 ?_ | refine z2 ?_ | refine z3 ?_ | refine z4 ?_ | refine z5 ?_ | refine z6 ?_ | refine z7 ?_ | refine z8 ?_ | refine y1 ?_ | refine y2 ?_ | refine y3 ?_ | refine y4 ?_ | refine y5 ?_ | refine y6 ?_ | refine y7 ?_ | refine y8 ?_ | refine Rt.p (fun _=>?_) fun _=>?_)
  | ((with_reducible apply w_ixM);(focus exact rfl);(focus exact rfl);case' hk=>intro y hy) | ((with_reducible (first | apply w_val | apply q_ends));(focus exact rfl)))
 refine w_loopK [0,1,7] [] (fun x:List Int×List Int=>l=x.1++x.2∧x.1.any p=false) (fun x=>x.2.length) (fun x=>[(8,.int .i64 x.1.length)]) (fun _=>[]) ([],l) ⟨rfl,rfl⟩ ⟨rfl,trivial⟩ trivial ?_
 rintro⟨pre,post⟩ ⟨hll,hb⟩ e σ
 dsimp only at hll hb ⊢
 have hlen:=congrArg List.length hll
 cases post with
 | nil=>
   simp only[List.append_nil,List.length_append,List.length_nil] at hlen
   repeat' (first
    | with_reducible (first | refine Rd.p ?_ | refine w_alt ?_ ?_ | refine zE ?_ | refine zE0 ?_)
    | with_reducible (first | refine zI fun y hy=>?_ | refine zL ?_ | refine zS ?_ | refine zA fun _=>?_ | refine zV ?_ | refine zC ?_ | refine zG ?_ | refine zU ?_ | refine zG0 ?_ | refine zU0 ?_ | refine zF ?_)
    | with_reducible (first | refine zX ?_ | refine zD fun _=>?_ | refine zD0 ?_ | refine zN ?_ | refine zF0 ?_ | refine zX0 ?_ | refine z1 ?_ | refine z2 ?_ | refine z3 ?_ | refine z4 ?_ | refine z5 ?_ | refine z6 ?_ | refine z7 ?_ | refine z8 ?_ | refine y1 ?_ | refine y2 ?_ | refine y3 ?_ | refine y4 ?_ | refine y5 ?_ | refine y6 ?_ | refine y7 ?_ | refine y8 ?_ | refine Rt.p (fun _=>?_) fun _=>?_)
    | ((with_reducible apply w_ixM);(focus exact rfl);(focus exact rfl);case' hk=>intro y hy) | ((with_reducible (first | apply w_val | apply q_ends));(focus exact rfl)))
   all_goals first
    | (exfalso;omega)
    | exact⟨-1,rfl,by rw[hll,List.append_nil,hb];simp⟩
 | cons c post=>
   simp only[List.length_append,List.length_cons] at hlen
   have hfc:=hf c (by rw[hll];simp)
   cases hpc:p c with
   | false=>
     rw[hpc] at hfc
     repeat' (first
      | with_reducible (first | refine Rd.p ?_ | refine w_alt ?_ ?_ | refine zE ?_ | refine zE0 ?_)
      | (refine w_ixP hll rfl rfl ?_)
      | with_reducible (first | refine zI fun y hy=>?_ | refine zL ?_ | refine zS ?_ | refine zA fun _=>?_ | refine zV ?_ | refine zC ?_ | refine zG ?_ | refine zU ?_ | refine zG0 ?_ | refine zU0 ?_ | refine zF ?_)
      | ((with_reducible refine acall_id ?_);refine ACall.val hfc rfl rfl ?_)
      | with_reducible (first | refine zX ?_ | refine zD fun _=>?_ | refine zD0 ?_ | refine zN ?_ | refine zF0 ?_ | refine zX0 ?_ | refine z1 ?_ | refine z2 ?_ | refine z3 ?_ | refine z4 ?_ | refine z5 ?_ | refine z6 ?_ | refine z7 ?_ | refine z8 ?_ | refine y1 ?_ | refine y2 ?_ | refine y3 ?_ | refine y4 ?_ | refine y5 ?_ | refine y6 ?_ | refine y7 ?_ | refine y8 ?_ | refine Rt.p (fun _=>?_) fun _=>?_)
      | ((with_reducible apply w_ixM);(focus exact rfl);(focus exact rfl);case' hk=>intro y hy) | ((with_reducible (first | apply w_val | apply q_ends));(focus exact rfl)))
     all_goals first
      | (exfalso;omega)
      | exact q_loop (pre++[c],post) ⟨by dsimp only;rw[hll];simp,by rw[List.any_append,hb];simp[hpc]⟩ (Nat.lt_succ_self _) ⟨by rw[len_snoc];rfl,trivial⟩ (by repeat' (first | exact slots_nil | apply slots_cons | rfl | (rw[map_snoc];rfl) | (rw[len_snoc];rfl) | (rw[hS];rfl) | (rw[hS,map_snoc];rfl) | (refine int_eq ?_;(try dsimp only);omega) | (refine congrArg AV.bool ?_;simp_all;done))) (by repeat' (first | exact kept_nil | apply kept_cons | rfl)) (by repeat' (first | exact kept_nil | apply kept_cons | rfl))
   | true=>
     rw[hpc] at hfc
     repeat' (first
      | with_reducible (first | refine Rd.p ?_ | refine w_alt ?_ ?_ | refine zE ?_ | refine zE0 ?_)
      | (refine w_ixP hll rfl rfl ?_)
      | with_reducible (first | refine zI fun y hy=>?_ | refine zL ?_ | refine zS ?_ | refine zA fun _=>?_ | refine zV ?_ | refine zC ?_ | refine zG ?_ | refine zU ?_ | refine zG0 ?_ | refine zU0 ?_ | refine zF ?_)
      | ((with_reducible refine acall_id ?_);refine ACall.val hfc rfl rfl ?_)
      | with_reducible (first | refine zX ?_ | refine zD fun _=>?_ | refine zD0 ?_ | refine zN ?_ | refine zF0 ?_ | refine zX0 ?_ | refine z1 ?_ | refine z2 ?_ | refine z3 ?_ | refine z4 ?_ | refine z5 ?_ | refine z6 ?_ | refine z7 ?_ | refine z8 ?_ | refine y1 ?_ | refine y2 ?_ | refine y3 ?_ | refine y4 ?_ | refine y5 ?_ | refine y6 ?_ | refine y7 ?_ | refine y8 ?_ | refine Rt.p (fun _=>?_) fun _=>?_)
      | ((with_reducible apply w_ixM);(focus exact rfl);(focus exact rfl);case' hk=>intro y hy) | ((with_reducible (first | apply w_val | apply q_ends));(focus exact rfl)))
     all_goals first
      | (exfalso;omega)
      | exact⟨pre.length,rfl,by rw[hll];simp[hpc]⟩
theorem conF_c (k:Nat) (cs:List AV) (p:Int→Bool) (l:List Int) (hl:l.length<1000000) (hf:∀x∈l,Fn0 Try.prog k [.int .i64 x,.pin cs] (fun v=>v= .bool (p x))):Fn0 Try.prog 94 [.slc 1 (iR l) .non,.clo (.func k) [] [.pin cs]] (fun v=>v= .bool (l.any p)):=by
 have hi:=idxF_c k cs p l hl hf
 refine RawC.walk (H:=hint94 Try.prog) ir94 Try.func94 rfl rfl rfl ?_
 unfold ir94
 repeat' (first
  | with_reducible (first | refine Rd.p ?_ | refine w_alt ?_ ?_ | refine zE ?_ | refine zE0 ?_)
  | with_reducible (first | refine zI fun y hy=>?_ | refine zL ?_ | refine zS ?_ | refine zA fun _=>?_ | refine zV ?_ | refine zC ?_ | refine zG ?_ | refine zU ?_ | refine zG0 ?_ | refine zU0 ?_ | refine zF ?_)
  | ((with_reducible refine acall_id ?_);refine ACall.fn0 hi rfl ?_;rintro _ ⟨i,rfl,hk⟩)
  | with_reducible (first | refine zX ?_ | refine zD fun _=>?_ | refine zD0 ?_ | refine zN ?_ | refine zF0 ?_ | refine zX0 ?_ | refine z1 ?_ | refine z2 ?_ | refine z3 ?_ | refine z4 ?_ | refine z5 ?_ | refine z6 ?_ | refine z7 ?_ | refine z8 ?_ | refine y1 ?_ | refine y2 ?_ | refine y3 ?_ | refine y4 ?_ | refine y5 ?_ | refine y6 ?_ | refine y7 ?_ | refine y8 ?_ | refine Rt.p (fun _=>?_) fun _=>?_)
  | ((with_reducible apply w_ixM);(focus exact rfl);(focus exact rfl);case' hk=>intro y hy) | ((with_reducible (first | apply w_val | apply q_ends));(focus exact rfl)))
 exact congrArg AV.bool (by rw[Bool.eq_iff_iff];simpa using hk)
theorem checkCourse1_c (G:Gm) (x:Int) (hn:G.ws.length<1000):Fn0 Try.prog 95 [.int .i64 x,gmP G] (fun v=>v= .bool (!inB x 0 (G.ws.length-1))):=by
 refine RawC.walk (H:=hint95 Try.prog) ir95 Try.func95 rfl rfl rfl ?_
 unfold ir95
 repeat' (first
  | with_reducible (first | refine Rd.p ?_ | refine w_alt ?_ ?_ | refine zE ?_ | refine zE0 ?_)
  | with_reducible (first | refine zI fun y hy=>?_ | refine zL ?_ | refine zS ?_ | refine zA fun _=>?_ | refine zV ?_ | refine zC ?_ | refine zG ?_ | refine zU ?_ | refine zG0 ?_ | refine zU0 ?_ | refine zF ?_)
  | ((with_reducible refine acall_id ?_);refine ACall.val (gin_c x 0 (G.ws.length-1)) rfl rfl ?_)
  | with_reducible (first | refine zX ?_ | refine zD fun _=>?_ | refine zD0 ?_ | refine zN ?_ | refine zF0 ?_ | refine zX0 ?_ | refine z1 ?_ | refine z2 ?_ | refine z3 ?_ | refine z4 ?_ | refine z5 ?_ | refine z6 ?_ | refine z7 ?_ | refine z8 ?_ | refine y1 ?_ | refine y2 ?_ | refine y3 ?_ | refine y4 ?_ | refine y5 ?_ | refine y6 ?_ | refine y7 ?_ | refine y8 ?_ | refine Rt.p (fun _=>?_) fun _=>?_)
  | ((with_reducible apply w_ixM);(focus exact rfl);(focus exact rfl);case' hk=>intro y hy) | ((with_reducible (first | apply w_val | apply q_ends));(focus exact rfl)))
 all_goals first
  | (exfalso;omega)
  | rfl
def courseErr (G:Gm) (c:List Int):Int:=if (c.length:Int)=(censG (stepsG G.ds):Nat) then (if c.any (fun x=>!inB x 0 (G.ws.length-1))=true then 7 else 0) else 3
theorem checkCourse_c (G:Gm) (I:List Sp→Wt→Prop) (h:GmIn G I) (c:List Int) (hc:c.length<1000):Fn0 Try.prog 70 [gmA G,.slc 1 (iR c) .non] (fun v=>v= .int .i64 (courseErr G c)):=by
 obtain⟨B,hB⟩:∃B,courseErr G c=B:=⟨_,rfl⟩
 rw[hB]
 unfold courseErr at hB
 have h6:=h.n6
 have hce:=censers_c G h.d24 h.cnt
 have hcf:=conF_c 95 [.slc 2 (wR G.ws) .non,.slc 5 (dlR G.ds) .non] (fun x=>!inB x 0 (G.ws.length-1)) c (by omega) fun x _=>checkCourse1_c G x (by omega)
 by_cases h1:(c.length:Int)=(censG (stepsG G.ds):Nat)
 · rw[if_pos h1] at hB
   cases hany:c.any (fun x=>!inB x 0 (G.ws.length-1)) with
   | true=>
     rw[hany] at hB hcf
     rw[if_pos rfl] at hB
     subst hB
     refine RawC.walk (H:=hint70 Try.prog) ir70 Try.func70 rfl rfl rfl ?_
     unfold ir70
     repeat' (first
      | with_reducible (first | refine Rd.p ?_ | refine w_alt ?_ ?_ | refine zE ?_ | refine zE0 ?_)
      | with_reducible (first | refine zI fun y hy=>?_ | refine zL ?_ | refine zS ?_ | refine zA fun _=>?_ | refine zV ?_ | refine zC ?_ | refine zG ?_ | refine zU ?_ | refine zG0 ?_ | refine zU0 ?_ | refine zF ?_)
      | ((with_reducible refine acall_id ?_);refine ACall.val hce rfl rfl ?_)
      | (refine w_frzR rfl rfl rfl ?_)
      | ((with_reducible refine acall_id ?_);refine ACall.val hcf rfl rfl ?_)
      | with_reducible (first | refine zX ?_ | refine zD fun _=>?_ | refine zD0 ?_ | refine zN ?_ | refine zF0 ?_ | refine zX0 ?_ | refine z1 ?_ | refine z2 ?_ | refine z3 ?_ | refine z4 ?_ | refine z5 ?_ | refine z6 ?_ | refine z7 ?_ | refine z8 ?_ | refine y1 ?_ | refine y2 ?_ | refine y3 ?_ | refine y4 ?_ | refine y5 ?_ | refine y6 ?_ | refine y7 ?_ | refine y8 ?_ | refine Rt.p (fun _=>?_) fun _=>?_)
      | ((with_reducible apply w_ixM);(focus exact rfl);(focus exact rfl);case' hk=>intro y hy) | ((with_reducible (first | apply w_val | apply q_ends));(focus exact rfl)))
     all_goals first
      | (exfalso;omega)
      | rfl
   | false=>
     rw[hany] at hB hcf
     rw[if_neg Bool.false_ne_true] at hB
     subst hB
     refine RawC.walk (H:=hint70 Try.prog) ir70 Try.func70 rfl rfl rfl ?_
     unfold ir70
     repeat' (first
      | with_reducible (first | refine Rd.p ?_ | refine w_alt ?_ ?_ | refine zE ?_ | refine zE0 ?_)
      | with_reducible (first | refine zI fun y hy=>?_ | refine zL ?_ | refine zS ?_ | refine zA fun _=>?_ | refine zV ?_ | refine zC ?_ | refine zG ?_ | refine zU ?_ | refine zG0 ?_ | refine zU0 ?_ | refine zF ?_)
      | ((with_reducible refine acall_id ?_);refine ACall.val hce rfl rfl ?_)
      | (refine w_frzR rfl rfl rfl ?_)
      | ((with_reducible refine acall_id ?_);refine ACall.val hcf rfl rfl ?_)
      | with_reducible (first | refine zX ?_ | refine zD fun _=>?_ | refine zD0 ?_ | refine zN ?_ | refine zF0 ?_ | refine zX0 ?_ | refine z1 ?_ | refine z2 ?_ | refine z3 ?_ | refine z4 ?_ | refine z5 ?_ | refine z6 ?_ | refine z7 ?_ | refine z8 ?_ | refine y1 ?_ | refine y2 ?_ | refine y3 ?_ | refine y4 ?_ | refine y5 ?_ | refine y6 ?_ | refine y7 ?_ | refine y8 ?_ | refine Rt.p (fun _=>?_) fun _=>?_)
      | ((with_reducible apply w_ixM);(focus exact rfl);(focus exact rfl);case' hk=>intro y hy) | ((with_reducible (first | apply w_val | apply q_ends));(focus exact rfl)))
     all_goals first
      | (exfalso;omega)
      | rfl
 · rw[if_neg h1] at hB
   subst hB
   refine RawC.walk (H:=hint70 Try.prog) ir70 Try.func70 rfl rfl rfl ?_
   unfold ir70
   repeat' (first
    | with_reducible (first | refine Rd.p ?_ | refine w_alt ?_ ?_ | refine zE ?_ | refine zE0 ?_)
    | with_reducible (first | refine zI fun y hy=>?_ | refine zL ?_ | refine zS ?_ | refine zA fun _=>?_ | refine zV ?_ | refine zC ?_ | refine zG ?_ | refine zU ?_ | refine zG0 ?_ | refine zU0 ?_ | refine zF ?_)
    | ((with_reducible refine acall_id ?_);refine ACall.val hce rfl rfl ?_)
    | with_reducible (first | refine zX ?_ | refine zD fun _=>?_ | refine zD0 ?_ | refine zN ?_ | refine zF0 ?_ | refine zX0 ?_ | refine z1 ?_ | refine z2 ?_ | refine z3 ?_ | refine z4 ?_ | refine z5 ?_ | refine z6 ?_ | refine z7 ?_ | refine z8 ?_ | refine y1 ?_ | refine y2 ?_ | refine y3 ?_ | refine y4 ?_ | refine y5 ?_ | refine y6 ?_ | refine y7 ?_ | refine y8 ?_ | refine Rt.p (fun _=>?_) fun _=>?_)
    | ((with_reducible apply w_ixM);(focus exact rfl);(focus exact rfl);case' hk=>intro y hy) | ((with_reducible (first | apply w_val | apply q_ends));(focus exact rfl)))
   all_goals first
    | (exfalso;omega)
    | rfl
theorem rowB_sum (B:List Int) (i:Int):(rowB B i).sum=bgSize B i:=rfl
theorem pickF_lt:∀{R:List Int} {p:Int},0≤p→p<R.sum→pickF R p<R.length∧0<R.getD (pickF R p) 0
 | [],p,h0,h1=>by simp at h1;omega
 | k::r,p,h0,h1=>by
   rw[pickF]
   by_cases h:p<k
   · rw[if_pos h];exact⟨by simp,by simp;omega⟩
   · rw[if_neg h]
     rw[List.sum_cons] at h1
     obtain⟨h2,h3⟩:=pickF_lt (R:=r) (p:=p-k) (by omega) (by omega)
     exact⟨by simp;omega,by simpa using h3⟩
theorem pickW_ok {B:List Int} {i p:Int} (h0:0≤p) (h1:p<bgSize B i):(0≤pickW B i p∧pickW B i p≤5)∧0<bgAt B i (pickW B i p):=by
 obtain⟨h2,h3⟩:=pickF_lt (R:=rowB B i) h0 (by rw[rowB_sum];exact h1)
 rw[rowB_len] at h2
 rw[rowB_get B i h2] at h3
 exact⟨by unfold pickW;omega,h3⟩
def cntP:List Sp→List Int→List Int→Int
 | [],_,_=>1
 | x::r,c,B=>
   if x.2.1=true then (match c with
    | []=>bgSize B x.1.bag*cntP r [] (drawB B x.1.bag (pickW B x.1.bag 0))
    | w::c'=>nSum 6 fun v=>if x.2.2=true then (if v=w then bgAt B x.1.bag v*cntP r c' (drawB B x.1.bag v) else 0) else bgAt B x.1.bag v*cntP r c (drawB B x.1.bag v))
   else if x.2.2=true then (match c with
    | []=>cntP r [] (mixedB x.1 B)
    | w::c'=>if w=x.1.wood then cntP r c' (mixedB x.1 B) else 0)
   else cntP r c (mixedB x.1 B)
def ir60:IFn:=
 ⟨11,[(2,none)],(.seq (.ops [oo 1 (.box 5 0),
 oo 2 (.mov (kB false))])
 (.seq (.ops [oo 3 (.flA 0 1),
 oo 4 (.ld 1 false 3),
 oo 5 (.bin .eql 4 (kI 4)),
 oo 6 (.mov 5),
 ⟨(some 7),(some (6,false)),(.flA 0 1)⟩,
 ⟨(some 8),(some (6,false)),(.ld 1 false 7)⟩,
 ⟨(some 9),(some (6,false)),(.bin .eql 8 (kI 5))⟩,
 oo 10 (.pick 6 (kB true) 9),
 oo 2 (.mov 10)])
 .ret))⟩
def hint60 (P:Program):Hint:={}
def ir61:IFn:=
 ⟨19,[(4,none)],(.seq (.ops [oo 2 (.box 24 0),
 oo 4 (.mov (kI 0))])
 (.seq (.ops [oo 5 (.mov (kI 0))])
 (.seq (.seq (.ops [oo 6 (.mov (kI 0))])
 (.blk 0 (.loop (.seq (.seq (.ops [oo 7 (.mov 6),
 oo 8 (.bin .lss 7 (kI 6))])
 (.cnd 8
 .skip
 (.exit 0)))
 (.seq (.blk 1 (.ops [oo 11 (.mov 5),
 oo 12 (.mov 1),
 oo 13 (.mov 6),
 oo 14 (.ixAr 4 6 2 12),
 oo 15 (.ixAr 6 1 14 13),
 oo 16 (.ld 1 false 15),
 oo 17 (.bin .add 11 16),
 oo 5 (.mov 17)]))
 (.ops [oo 9 (.mov 6),
 oo 10 (.bin .add 9 (kI 1)),
 oo 6 (.mov 10)]))))))
 (.seq (.ops [oo 18 (.mov 5),
 oo 4 (.mov 18)])
 .ret))))⟩
def hint61 (P:Program):Hint:={}
def ir62:IFn:=
 ⟨16,[(6,some (24,true))],(.seq (.ops [oo 3 (.box 24 0),
 oo 6 (.new [(.int .i64 0),(.int .i64 0),(.int .i64 0),(.int .i64 0),(.int .i64 0),(.int .i64 0),(.int .i64 0),(.int .i64 0),(.int .i64 0),(.int .i64 0),(.int .i64 0),(.int .i64 0),(.int .i64 0),(.int .i64 0),(.int .i64 0),(.int .i64 0),(.int .i64 0),(.int .i64 0),(.int .i64 0),(.int .i64 0),(.int .i64 0),(.int .i64 0),(.int .i64 0),(.int .i64 0)])])
 (.seq (.ops [oo 7 (.mov 1),
 oo 8 (.mov 2),
 oo 9 (.ixAr 4 6 3 7),
 oo 10 (.ixAr 6 1 9 8),
 oo 11 (.ld 1 false 10),
 oo 12 (.bin .sub 11 (kI 1)),
 oo 13 (.ixAr 4 6 3 7),
 oo 14 (.ixAr 6 1 13 8),
 ⟨none,none,(.st 1 14 12)⟩])
 (.seq (.ops [oo 15 (.ld 24 true 3),
 ⟨none,none,(.st 24 6 15)⟩])
 .ret)))⟩
def hint62 (P:Program):Hint:={}
def ir63:IFn:=
 ⟨27,[(6,none)],(.seq (.ops [oo 3 (.box 24 0),
 oo 6 (.mov (kI 0))])
 (.seq (.seq (.ops [oo 7 (.mov (kI 0))])
 (.blk 0 (.loop (.seq (.seq (.ops [oo 8 (.mov 7),
 oo 9 (.bin .lss 8 (kI 6))])
 (.cnd 9
 .skip
 (.exit 0)))
 (.seq (.blk 1 (.seq (.seq (.ops [oo 12 (.mov 2),
 oo 13 (.mov 1),
 oo 14 (.mov 7),
 oo 15 (.ixAr 4 6 3 13),
 oo 16 (.ixAr 6 1 15 14),
 oo 17 (.ld 1 false 16),
 oo 18 (.bin .lss 12 17)])
 (.cnd 18
 (.seq (.ops [oo 19 (.mov 7),
 oo 6 (.mov 19)])
 .ret)
 .skip))
 (.ops [oo 20 (.mov 2),
 oo 21 (.mov 1),
 oo 22 (.mov 7),
 oo 23 (.ixAr 4 6 3 21),
 oo 24 (.ixAr 6 1 23 22),
 oo 25 (.ld 1 false 24),
 oo 26 (.bin .sub 20 25),
 oo 2 (.mov 26)])))
 (.ops [oo 10 (.mov 7),
 oo 11 (.bin .add 10 (kI 1)),
 oo 7 (.mov 11)]))))))
 (.seq (.ops [oo 6 (.mov (kI 0))])
 .ret)))⟩
def hint63 (P:Program):Hint:={}
def ir64:IFn:=
 ⟨56,[(4,some (24,true))],(.seq (.ops [oo 2 (.box 24 0),
 oo 3 (.box 5 1),
 oo 4 (.new [(.int .i64 0),(.int .i64 0),(.int .i64 0),(.int .i64 0),(.int .i64 0),(.int .i64 0),(.int .i64 0),(.int .i64 0),(.int .i64 0),(.int .i64 0),(.int .i64 0),(.int .i64 0),(.int .i64 0),(.int .i64 0),(.int .i64 0),(.int .i64 0),(.int .i64 0),(.int .i64 0),(.int .i64 0),(.int .i64 0),(.int .i64 0),(.int .i64 0),(.int .i64 0),(.int .i64 0)])])
 (.seq (.seq (.ops [oo 6 (.flA 0 3),
 oo 7 (.ld 1 false 6)])
 (.blk 0 (.seq (.ops [oo 9 (.bin .eql 7 (kI 2)),
 oo 8 (.mov 9)])
 (.cnd 8
 (.ops [oo 10 (.flA 1 3),
 oo 11 (.ld 1 false 10),
 oo 12 (.flA 3 3),
 oo 13 (.ld 1 false 12),
 oo 14 (.flA 1 3),
 oo 15 (.ld 1 false 14),
 oo 16 (.flA 3 3),
 oo 17 (.ld 1 false 16),
 oo 18 (.ixAr 4 6 2 15),
 oo 19 (.ixAr 6 1 18 17),
 oo 20 (.ld 1 false 19),
 oo 21 (.flA 4 3),
 oo 22 (.ld 1 false 21),
 oo 23 (.bin .add 20 22),
 oo 24 (.ixAr 4 6 2 11),
 oo 25 (.ixAr 6 1 24 13),
 ⟨none,none,(.st 1 25 23)⟩])
 (.seq (.ops [oo 27 (.bin .eql 7 (kI 3)),
 oo 26 (.mov 27)])
 (.cnd 26
 (.seq (.ops [oo 5 (.mov (kI 0))])
 (.blk 1 (.loop (.seq (.seq (.ops [oo 28 (.mov 5),
 oo 29 (.bin .lss 28 (kI 6))])
 (.cnd 29
 .skip
 (.exit 1)))
 (.seq (.blk 2 (.ops [oo 32 (.flA 2 3),
 oo 33 (.ld 1 false 32),
 oo 34 (.mov 5),
 oo 35 (.flA 1 3),
 oo 36 (.ld 1 false 35),
 oo 37 (.mov 5),
 oo 38 (.flA 2 3),
 oo 39 (.ld 1 false 38),
 oo 40 (.mov 5),
 oo 41 (.ixAr 4 6 2 39),
 oo 42 (.ixAr 6 1 41 40),
 oo 43 (.ld 1 false 42),
 oo 44 (.flA 1 3),
 oo 45 (.ld 1 false 44),
 oo 46 (.mov 5),
 oo 47 (.ixAr 4 6 2 45),
 oo 48 (.ixAr 6 1 47 46),
 oo 49 (.ld 1 false 48),
 oo 50 (.bin .add 43 49),
 oo 51 (.ixAr 4 6 2 33),
 oo 52 (.ixAr 6 1 51 34),
 oo 53 (.ixAr 4 6 2 36),
 ⟨none,none,(.st 1 52 50)⟩,
 ⟨none,none,(.chk 1 false 35 36)⟩,
 oo 54 (.ixAr 6 1 53 37),
 ⟨none,none,(.st 1 54 (kI 0))⟩]))
 (.ops [oo 30 (.mov 5),
 oo 31 (.bin .add 30 (kI 1)),
 oo 5 (.mov 31)]))))))
 .skip))))))
 (.seq (.ops [oo 55 (.ld 24 true 2),
 ⟨none,none,(.st 24 4 55)⟩])
 .ret)))⟩
def hint64 (P:Program):Hint:={}
theorem rdraws_c (d:Dl):Fn0 Try.prog 60 [dlA d] (fun v=>v= .bool (drawsB d)):=by
 by_cases h4:d.kind=4
 · have e1:drawsB d=true:=by simp[drawsB,h4]
   rw[e1]
   refine RawC.walk (H:=hint60 Try.prog) ir60 Try.func60 rfl rfl rfl ?_
   unfold ir60
   repeat' (first
    | with_reducible (first | refine Rd.p ?_ | refine w_alt ?_ ?_ | refine zE ?_ | refine zE0 ?_)
    | with_reducible (first | refine zI fun y hy=>?_ | refine zL ?_ | refine zS ?_ | refine zA fun _=>?_ | refine zV ?_ | refine zC ?_ | refine zG ?_ | refine zU ?_ | refine zG0 ?_ | refine zU0 ?_ | refine zF ?_)
    | with_reducible (first | refine zX ?_ | refine zD fun _=>?_ | refine zD0 ?_ | refine zN ?_ | refine zF0 ?_ | refine zX0 ?_ | refine z1 ?_ | refine z2 ?_ | refine z3 ?_ | refine z4 ?_ | refine z5 ?_ | refine z6 ?_ | refine z7 ?_ | refine z8 ?_ | refine y1 ?_ | refine y2 ?_ | refine y3 ?_ | refine y4 ?_ | refine y5 ?_ | refine y6 ?_ | refine y7 ?_ | refine y8 ?_ | refine Rt.p (fun _=>?_) fun _=>?_)
    | ((with_reducible apply w_ixM);(focus exact rfl);(focus exact rfl);case' hk=>intro y hy) | ((with_reducible (first | apply w_val | apply q_ends));(focus exact rfl)))
   all_goals first
    | (exfalso;omega)
    | rfl
 · have e1:drawsB d=decide (d.kind=5):=by simp[drawsB,h4]
   rw[e1]
   refine RawC.walk (H:=hint60 Try.prog) ir60 Try.func60 rfl rfl rfl ?_
   unfold ir60
   repeat' (first
    | with_reducible (first | refine Rd.p ?_ | refine w_alt ?_ ?_ | refine zE ?_ | refine zE0 ?_)
    | with_reducible (first | refine zI fun y hy=>?_ | refine zL ?_ | refine zS ?_ | refine zA fun _=>?_ | refine zV ?_ | refine zC ?_ | refine zG ?_ | refine zU ?_ | refine zG0 ?_ | refine zU0 ?_ | refine zF ?_)
    | with_reducible (first | refine zX ?_ | refine zD fun _=>?_ | refine zD0 ?_ | refine zN ?_ | refine zF0 ?_ | refine zX0 ?_ | refine z1 ?_ | refine z2 ?_ | refine z3 ?_ | refine z4 ?_ | refine z5 ?_ | refine z6 ?_ | refine z7 ?_ | refine z8 ?_ | refine y1 ?_ | refine y2 ?_ | refine y3 ?_ | refine y4 ?_ | refine y5 ?_ | refine y6 ?_ | refine y7 ?_ | refine y8 ?_ | refine Rt.p (fun _=>?_) fun _=>?_)
    | ((with_reducible apply w_ixM);(focus exact rfl);(focus exact rfl);case' hk=>intro y hy) | ((with_reducible (first | apply w_val | apply q_ends));(focus exact rfl)))
   all_goals first
    | (exfalso;omega)
    | rfl
theorem rsize_c (B:List Int) (h:bgIn B) (i:Int) (hi:0≤i∧i≤3):Fn0 Try.prog 61 [bgV B,.int .i64 i] (fun v=>v= .int .i64 (bgSize B i)):=by
 have hl:=h.l
 obtain⟨R,hR⟩:∃R,rowB B i=R:=⟨_,rfl⟩
 have hRl:R.length=6:=by rw[←hR];exact rowB_len _ _
 have hRs:R.sum=bgSize B i:=by rw[←hR];rfl
 have hRg:∀w,w<6→R.getD w 0=B.getD (i.toNat*6+w) 0:=fun w hw=>by rw[←hR,rowB_get _ _ hw];rfl
 have hRb:∀v∈R,0≤v∧v≤1000000:=fun v hv=>by
  rw[←hR] at hv
  obtain⟨w,_,rfl⟩:=List.mem_map.1 hv
  exact h.at _
 refine RawC.walk (H:=hint61 Try.prog) ir61 Try.func61 rfl rfl rfl ?_
 unfold ir61
 repeat' (first
  | with_reducible (first | refine Rd.p ?_ | refine w_alt ?_ ?_ | refine zE ?_ | refine zE0 ?_)
  | (first | (refine w_boxN rfl hl ?_;intro g2))
  | with_reducible (first | refine zI fun y hy=>?_ | refine zL ?_ | refine zS ?_ | refine zA fun _=>?_ | refine zV ?_ | refine zC ?_ | refine zG ?_ | refine zU ?_ | refine zG0 ?_ | refine zU0 ?_ | refine zF ?_)
  | with_reducible (first | refine zX ?_ | refine zD fun _=>?_ | refine zD0 ?_ | refine zN ?_ | refine zF0 ?_ | refine zX0 ?_ | refine z1 ?_ | refine z2 ?_ | refine z3 ?_ | refine z4 ?_ | refine z5 ?_ | refine z6 ?_ | refine z7 ?_ | refine z8 ?_ | refine y1 ?_ | refine y2 ?_ | refine y3 ?_ | refine y4 ?_ | refine y5 ?_ | refine y6 ?_ | refine y7 ?_ | refine y8 ?_ | refine Rt.p (fun _=>?_) fun _=>?_)
  | ((with_reducible apply w_ixM);(focus exact rfl);(focus exact rfl);case' hk=>intro y hy) | ((with_reducible (first | apply w_val | apply q_ends));(focus exact rfl)))
 refine w_loopK [1,2] [2] (fun k:Nat=>k≤6) (fun k=>6-k) (fun k=>[(6,.int .i64 (k:Int)),(5,.int .i64 ((R.take k).sum))]) (fun _=>[]) 0 (Nat.zero_le _) ⟨rfl,rfl,trivial⟩ trivial ?_
 rintro k hk e σ
 try dsimp only at hk ⊢
 have hb:=sum_bd (M:=1000000) (l:=R.take k) fun x hx=>hRb x (List.mem_of_mem_take hx)
 have hlk:(R.take k).length=k:=by rw[List.length_take];omega
 by_cases hk6:k=6
 · subst hk6
   have e1:R.take 6=R:=List.take_of_length_le (by omega)
   rw[e1,hRs]
   repeat' (first
    | with_reducible (first | refine Rd.p ?_ | refine w_alt ?_ ?_ | refine zE ?_ | refine zE0 ?_)
    | with_reducible (first | refine zI fun y hy=>?_ | refine zL ?_ | refine zS ?_ | refine zA fun _=>?_ | refine zV ?_ | refine zC ?_ | refine zG ?_ | refine zU ?_ | refine zG0 ?_ | refine zU0 ?_ | refine zF ?_)
    | with_reducible (first | refine zX ?_ | refine zD fun _=>?_ | refine zD0 ?_ | refine zN ?_ | refine zF0 ?_ | refine zX0 ?_ | refine z1 ?_ | refine z2 ?_ | refine z3 ?_ | refine z4 ?_ | refine z5 ?_ | refine z6 ?_ | refine z7 ?_ | refine z8 ?_ | refine y1 ?_ | refine y2 ?_ | refine y3 ?_ | refine y4 ?_ | refine y5 ?_ | refine y6 ?_ | refine y7 ?_ | refine y8 ?_ | refine Rt.p (fun _=>?_) fun _=>?_)
    | ((with_reducible apply w_ixM);(focus exact rfl);(focus exact rfl);case' hk=>intro y hy) | ((with_reducible (first | apply w_val | apply q_ends));(focus exact rfl)))
   all_goals first
    | (exfalso;omega)
    | rfl
 have hts:=take_sum (R:=R) (k:=k) (by omega)
 have hrg:=hRg k (by omega)
 have hat:=h.at (i.toNat*6+k)
 have ho:0+i.toNat*6+k*1=i.toNat*6+k:=by omega
 rw[hlk] at hb
 repeat' (first
  | with_reducible (first | refine Rd.p ?_ | refine w_alt ?_ ?_ | refine zE ?_ | refine zE0 ?_)
  | (first | refine w_ldEl rfl ho rfl (by omega) ?_)
  | with_reducible (first | refine zI fun y hy=>?_ | refine zL ?_ | refine zS ?_ | refine zA fun _=>?_ | refine zV ?_ | refine zC ?_ | refine zG ?_ | refine zU ?_ | refine zG0 ?_ | refine zU0 ?_ | refine zF ?_)
  | with_reducible (first | refine zX ?_ | refine zD fun _=>?_ | refine zD0 ?_ | refine zN ?_ | refine zF0 ?_ | refine zX0 ?_ | refine z1 ?_ | refine z2 ?_ | refine z3 ?_ | refine z4 ?_ | refine z5 ?_ | refine z6 ?_ | refine z7 ?_ | refine z8 ?_ | refine y1 ?_ | refine y2 ?_ | refine y3 ?_ | refine y4 ?_ | refine y5 ?_ | refine y6 ?_ | refine y7 ?_ | refine y8 ?_ | refine Rt.p (fun _=>?_) fun _=>?_)
  | ((with_reducible apply w_ixM);(focus exact rfl);(focus exact rfl);case' hk=>intro y hy) | ((with_reducible (first | apply w_val | apply q_ends));(focus exact rfl)))
 all_goals first
  | (exfalso;omega)
  | exact q_loop (k+1) (by show k+1≤6;omega) (by show 6-(k+1)<6-k;omega) ⟨int_eq (by simp),by show AV.int .i64 _=AV.int .i64 _;rw[hts,hrg],trivial⟩ trivial (by repeat' (first | exact kept_nil | apply kept_cons | rfl)) (by repeat' (first | exact kept_nil | apply kept_cons | rfl))
theorem rwithout_c (B:List Int) (h:bgIn B) (i w:Int) (hi:0≤i∧i≤3) (hw:0≤w∧w≤5):Fn0 Try.prog 62 [bgV B,.int .i64 i,.int .i64 w] (fun v=>v=bgV (drawB B i w)):=by
 have hl:=h.l
 have hat:=h.at (i.toNat*6+w.toNat)
 have ho:0+i.toNat*6+w.toNat*1=i.toNat*6+w.toNat:=by omega
 have hdl:=drawB_len hl i w
 refine RawC.walk (H:=hint62 Try.prog) ir62 Try.func62 rfl rfl rfl ?_
 unfold ir62
 repeat' (first
  | with_reducible (first | refine Rd.p ?_ | refine w_alt ?_ ?_ | refine zE ?_ | refine zE0 ?_)
  | (first | (refine w_boxN rfl hl ?_;intro g2) | refine w_ldEl rfl ho rfl (by omega) ?_ | refine w_stElC rfl ho rfl (by omega) rfl (drawB_set B i w) ?_ | refine w_ldN rfl rfl hdl ?_ | refine w_stN rfl rfl rfl rfl hdl ?_)
  | with_reducible (first | refine zI fun y hy=>?_ | refine zL ?_ | refine zS ?_ | refine zA fun _=>?_ | refine zV ?_ | refine zC ?_ | refine zG ?_ | refine zU ?_ | refine zG0 ?_ | refine zU0 ?_ | refine zF ?_)
  | with_reducible (first | refine zX ?_ | refine zD fun _=>?_ | refine zD0 ?_ | refine zN ?_ | refine zF0 ?_ | refine zX0 ?_ | refine z1 ?_ | refine z2 ?_ | refine z3 ?_ | refine z4 ?_ | refine z5 ?_ | refine z6 ?_ | refine z7 ?_ | refine z8 ?_ | refine y1 ?_ | refine y2 ?_ | refine y3 ?_ | refine y4 ?_ | refine y5 ?_ | refine y6 ?_ | refine y7 ?_ | refine y8 ?_ | refine Rt.p (fun _=>?_) fun _=>?_)
  | ((with_reducible apply w_ixM);(focus exact rfl);(focus exact rfl);case' hk=>intro y hy) | ((with_reducible (first | apply w_val | apply q_ends));(focus exact rfl)))
 all_goals first
  | (exfalso;omega)
  | exact end_bg hdl
theorem rwood_c (B:List Int) (h:bgIn B) (i p:Int) (hi:0≤i∧i≤3) (hp:0≤p∧p<bgSize B i) (hp2:p≤1000000):Fn0 Try.prog 63 [bgV B,.int .i64 i,.int .i64 p] (fun v=>v= .int .i64 (pickW B i p)):=by
 have hl:=h.l
 obtain⟨R6,hR6⟩:∃R6,rowB B i=R6:=⟨_,rfl⟩
 have hRl:R6.length=6:=by rw[←hR6];exact rowB_len _ _
 have hRs:R6.sum=bgSize B i:=by rw[←hR6];rfl
 have hpw:pickW B i p=(pickF R6 p:Nat):=by unfold pickW;rw[hR6]
 have hRg:∀w,w<6→R6.getD w 0=B.getD (i.toNat*6+w) 0:=fun w hw=>by rw[←hR6,rowB_get _ _ hw];rfl
 rw[hpw]
 refine RawC.walk (H:=hint63 Try.prog) ir63 Try.func63 rfl rfl rfl ?_
 unfold ir63
 repeat' (first
  | with_reducible (first | refine Rd.p ?_ | refine w_alt ?_ ?_ | refine zE ?_ | refine zE0 ?_)
  | (first | (refine w_boxN rfl hl ?_;intro g2))
  | with_reducible (first | refine zI fun y hy=>?_ | refine zL ?_ | refine zS ?_ | refine zA fun _=>?_ | refine zV ?_ | refine zC ?_ | refine zG ?_ | refine zU ?_ | refine zG0 ?_ | refine zU0 ?_ | refine zF ?_)
  | with_reducible (first | refine zX ?_ | refine zD fun _=>?_ | refine zD0 ?_ | refine zN ?_ | refine zF0 ?_ | refine zX0 ?_ | refine z1 ?_ | refine z2 ?_ | refine z3 ?_ | refine z4 ?_ | refine z5 ?_ | refine z6 ?_ | refine z7 ?_ | refine z8 ?_ | refine y1 ?_ | refine y2 ?_ | refine y3 ?_ | refine y4 ?_ | refine y5 ?_ | refine y6 ?_ | refine y7 ?_ | refine y8 ?_ | refine Rt.p (fun _=>?_) fun _=>?_)
  | ((with_reducible apply w_ixM);(focus exact rfl);(focus exact rfl);case' hk=>intro y hy) | ((with_reducible (first | apply w_val | apply q_ends));(focus exact rfl)))
 refine w_loopK [1,3] [3] (fun x:Nat×Int=>(0≤x.2∧x.2<(R6.drop x.1).sum)∧x.2≤1000000∧x.1+pickF (R6.drop x.1) x.2=pickF R6 p∧x.1≤6) (fun x=>6-x.1) (fun x=>[(7,.int .i64 (x.1:Int)),(2,.int .i64 x.2)]) (fun _=>[]) (0,p) ⟨⟨hp.1,by show p<R6.sum;omega⟩,hp2,Nat.zero_add _,Nat.zero_le 6⟩ ⟨rfl,rfl,trivial⟩ trivial ?_
 rintro⟨w,k⟩ ⟨hk,hk12,hpk,hw6⟩ e3 σ3
 dsimp only at hk hk12 hpk hw6 ⊢
 have hw5:w<6:=by
  apply Classical.byContradiction
  intro h
  have:R6.drop w=[]:=List.drop_of_length_le (by omega)
  rw[this] at hk;simp at hk;omega
 have hdw:R6.drop w=R6.getD w 0::R6.drop (w+1):=by
  rw[List.drop_eq_getElem_cons (by omega),List.getD_eq_getElem?_getD,List.getElem?_eq_getElem (by omega)];rfl
 have hRw:=hRg w hw5
 have hin2:=h.at (i.toNat*6+w)
 have ho:0+i.toNat*6+w*1=i.toNat*6+w:=by omega
 rw[hdw,pickF] at hpk
 rw[hdw,List.sum_cons] at hk
 rw[hRw] at hpk hk
 by_cases hkw:k<B.getD (i.toNat*6+w) 0
 · rw[if_pos hkw] at hpk
   rw[←hpk]
   repeat' (first
    | with_reducible (first | refine Rd.p ?_ | refine w_alt ?_ ?_ | refine zE ?_ | refine zE0 ?_)
    | (first | refine w_ldEl rfl ho rfl (by omega) ?_)
    | with_reducible (first | refine zI fun y hy=>?_ | refine zL ?_ | refine zS ?_ | refine zA fun _=>?_ | refine zV ?_ | refine zC ?_ | refine zG ?_ | refine zU ?_ | refine zG0 ?_ | refine zU0 ?_ | refine zF ?_)
    | with_reducible (first | refine zX ?_ | refine zD fun _=>?_ | refine zD0 ?_ | refine zN ?_ | refine zF0 ?_ | refine zX0 ?_ | refine z1 ?_ | refine z2 ?_ | refine z3 ?_ | refine z4 ?_ | refine z5 ?_ | refine z6 ?_ | refine z7 ?_ | refine z8 ?_ | refine y1 ?_ | refine y2 ?_ | refine y3 ?_ | refine y4 ?_ | refine y5 ?_ | refine y6 ?_ | refine y7 ?_ | refine y8 ?_ | refine Rt.p (fun _=>?_) fun _=>?_)
    | ((with_reducible apply w_ixM);(focus exact rfl);(focus exact rfl);case' hk=>intro y hy) | ((with_reducible (first | apply w_val | apply q_ends));(focus exact rfl)))
   all_goals first
    | (exfalso;omega)
    | rfl
 · rw[if_neg hkw] at hpk
   repeat' (first
    | with_reducible (first | refine Rd.p ?_ | refine w_alt ?_ ?_ | refine zE ?_ | refine zE0 ?_)
    | (first | refine w_ldEl rfl ho rfl (by omega) ?_)
    | with_reducible (first | refine zI fun y hy=>?_ | refine zL ?_ | refine zS ?_ | refine zA fun _=>?_ | refine zV ?_ | refine zC ?_ | refine zG ?_ | refine zU ?_ | refine zG0 ?_ | refine zU0 ?_ | refine zF ?_)
    | with_reducible (first | refine zX ?_ | refine zD fun _=>?_ | refine zD0 ?_ | refine zN ?_ | refine zF0 ?_ | refine zX0 ?_ | refine z1 ?_ | refine z2 ?_ | refine z3 ?_ | refine z4 ?_ | refine z5 ?_ | refine z6 ?_ | refine z7 ?_ | refine z8 ?_ | refine y1 ?_ | refine y2 ?_ | refine y3 ?_ | refine y4 ?_ | refine y5 ?_ | refine y6 ?_ | refine y7 ?_ | refine y8 ?_ | refine Rt.p (fun _=>?_) fun _=>?_)
    | ((with_reducible apply w_ixM);(focus exact rfl);(focus exact rfl);case' hk=>intro y hy) | ((with_reducible (first | apply w_val | apply q_ends));(focus exact rfl)))
   all_goals first
    | (exfalso;omega)
    | exact q_loop (w+1,k-B.getD (i.toNat*6+w) 0) ⟨by dsimp only;omega,by dsimp only;omega,by dsimp only;omega,hw5⟩ (by show 6-(w+1)<6-w;omega) ⟨by show AV.int .i64 _=AV.int .i64 _;exact int_eq (by simp),rfl,trivial⟩ (by repeat' (first | exact slots_nil | apply slots_cons | rfl | (rw[map_snoc];rfl) | (rw[len_snoc];rfl) | (rw[hS];rfl) | (rw[hS,map_snoc];rfl) | (refine int_eq ?_;(try dsimp only);omega) | (refine congrArg AV.bool ?_;simp_all;done))) (by repeat' (first | exact kept_nil | apply kept_cons | rfl)) (by repeat' (first | exact kept_nil | apply kept_cons | rfl))
def pourW (B:List Int) (i k w:Nat):List Int:=(List.range 24).map fun y=>if y/6=k∧y%6<w then B.getD y 0+B.getD (i*6+y%6) 0 else if y/6=i∧y%6<w then 0 else B.getD y 0
theorem pourW_len (B:List Int) (i k w:Nat):(pourW B i k w).length=24:=by simp[pourW]
theorem pourW_zero {B:List Int} (h:B.length=24) (i k:Nat):pourW B i k 0=B:=ext24 (pourW_len ..) h fun y hy=>by
 unfold pourW
 rw[map24_get hy,if_neg (by omega),if_neg (by omega)]
theorem pourW_six {B:List Int} (i k:Int):pourW B i.toNat k.toNat 6=bgPour B i k:=by
 unfold pourW bgPour
 refine List.map_congr_left fun y hy=>?_
 have:y%6<6:=Nat.mod_lt _ (by decide)
 by_cases h1:y/6=k.toNat
 · rw[if_pos ⟨h1,this⟩,if_pos h1]
 · rw[if_neg (fun h=>h1 h.1),if_neg h1]
   by_cases h2:y/6=i.toNat
   · rw[if_pos ⟨h2,this⟩,if_pos h2]
   · rw[if_neg (fun h=>h2 h.1),if_neg h2]
theorem pourW_succ {B:List Int} {i k w:Nat} (hi:i<4) (hk:k<4) (hik:i≠k) (hw:w<6):((pourW B i k w).set (k*6+w) (B.getD (k*6+w) 0+B.getD (i*6+w) 0)).set (i*6+w) 0=pourW B i k (w+1):=ext24 (by rw[List.length_set,List.length_set,pourW_len]) (pourW_len ..) fun y hy=>by
 rw[set_getD (by rw[List.length_set,pourW_len];omega),set_getD (by rw[pourW_len];omega)]
 unfold pourW
 rw[map24_get hy,map24_get hy]
 by_cases e1:y=i*6+w
 · subst e1
   have h1:(i*6+w)/6=i:=by omega
   have h2:(i*6+w)%6=w:=by omega
   rw[if_pos rfl,h1,h2,if_neg (by omega),if_pos (by omega)]
 · rw[if_neg e1]
   by_cases e2:y=k*6+w
   · subst e2
     have h1:(k*6+w)/6=k:=by omega
     have h2:(k*6+w)%6=w:=by omega
     rw[if_pos rfl,h1,h2,if_pos (by omega)]
   · rw[if_neg e2]
     by_cases h1:y/6=k∧y%6<w
     · rw[if_pos h1,if_pos (by omega)]
     · rw[if_neg h1,if_neg (c:=y/6=k∧y%6<w+1) (by omega)]
       by_cases h2:y/6=i∧y%6<w
       · rw[if_pos h2,if_pos (by omega)]
       · rw[if_neg h2,if_neg (by omega)]
theorem pourW_get {B:List Int} {i k w:Nat} (hi:i<4) (hk:k<4) (hw:w<6):(pourW B i k w).getD (k*6+w) 0=B.getD (k*6+w) 0∧(pourW B i k w).getD (i*6+w) 0=B.getD (i*6+w) 0:=by
 unfold pourW
 rw[map24_get (by omega),map24_get (by omega)]
 have h1:(i*6+w)/6=i:=by omega
 have h2:(i*6+w)%6=w:=by omega
 have h3:(k*6+w)/6=k:=by omega
 have h4:(k*6+w)%6=w:=by omega
 rw[h1,h2,h3,h4]
 refine⟨?_,?_⟩
 · rw[if_neg (by omega),if_neg (by omega)]
 · rw[if_neg (by omega),if_neg (by omega)]
theorem rready_c (d:Dl) (B:List Int) (h:bgIn B) (h2:d.kind=2→(0≤d.bag∧d.bag≤3)∧(0≤d.wood∧d.wood≤5)∧0≤d.count∧d.count≤1000000) (h3:d.kind=3→(0≤d.bag∧d.bag≤3)∧(0≤d.other∧d.other≤3)∧d.bag≠d.other):
  Fn0 Try.prog 64 [bgV B,dlA d] (fun v=>v=bgV (mixedB d B)):=by
 have hl:=h.l
 unfold mixedB
 by_cases e2:d.kind=2
 · obtain⟨b1,b2,b3⟩:=h2 e2
   rw[if_pos e2]
   have hp:=h.at (d.bag.toNat*6+d.wood.toNat)
   have ho:0+d.bag.toNat*6+d.wood.toNat*1=d.bag.toNat*6+d.wood.toNat:=by omega
   have hsl:(B.set (d.bag.toNat*6+d.wood.toNat) (B.getD (d.bag.toNat*6+d.wood.toNat) 0+d.count)).length=24:=by rw[List.length_set];exact hl
   refine RawC.walk (H:=hint64 Try.prog) ir64 Try.func64 rfl rfl rfl ?_
   unfold ir64
   repeat' (first
    | with_reducible (first | refine Rd.p ?_ | refine w_alt ?_ ?_ | refine zE ?_ | refine zE0 ?_)
    | (first | (refine w_boxN rfl hl ?_;intro g2) | refine w_ldEl rfl ho rfl (by omega) ?_ | refine w_stEl rfl ho rfl (by omega) rfl ?_ | refine w_ldN rfl rfl hsl ?_ | refine w_stN rfl rfl rfl rfl hsl ?_)
    | with_reducible (first | refine zI fun y hy=>?_ | refine zL ?_ | refine zS ?_ | refine zA fun _=>?_ | refine zV ?_ | refine zC ?_ | refine zG ?_ | refine zU ?_ | refine zG0 ?_ | refine zU0 ?_ | refine zF ?_)
    | with_reducible (first | refine zX ?_ | refine zD fun _=>?_ | refine zD0 ?_ | refine zN ?_ | refine zF0 ?_ | refine zX0 ?_ | refine z1 ?_ | refine z2 ?_ | refine z3 ?_ | refine z4 ?_ | refine z5 ?_ | refine z6 ?_ | refine z7 ?_ | refine z8 ?_ | refine y1 ?_ | refine y2 ?_ | refine y3 ?_ | refine y4 ?_ | refine y5 ?_ | refine y6 ?_ | refine y7 ?_ | refine y8 ?_ | refine Rt.p (fun _=>?_) fun _=>?_)
    | ((with_reducible apply w_ixM);(focus exact rfl);(focus exact rfl);case' hk=>intro y hy) | ((with_reducible (first | apply w_val | apply q_ends));(focus exact rfl)))
   all_goals first
    | (exfalso;omega)
    | exact end_bg hsl
 rw[if_neg e2]
 by_cases e3:d.kind=3
 case neg=>
  rw[if_neg e3]
  refine RawC.walk (H:=hint64 Try.prog) ir64 Try.func64 rfl rfl rfl ?_
  unfold ir64
  repeat' (first
   | with_reducible (first | refine Rd.p ?_ | refine w_alt ?_ ?_ | refine zE ?_ | refine zE0 ?_)
   | (first | (refine w_boxN rfl hl ?_;intro g2) | refine w_ldN rfl rfl hl ?_ | refine w_stN rfl rfl rfl rfl hl ?_)
   | with_reducible (first | refine zI fun y hy=>?_ | refine zL ?_ | refine zS ?_ | refine zA fun _=>?_ | refine zV ?_ | refine zC ?_ | refine zG ?_ | refine zU ?_ | refine zG0 ?_ | refine zU0 ?_ | refine zF ?_)
   | with_reducible (first | refine zX ?_ | refine zD fun _=>?_ | refine zD0 ?_ | refine zN ?_ | refine zF0 ?_ | refine zX0 ?_ | refine z1 ?_ | refine z2 ?_ | refine z3 ?_ | refine z4 ?_ | refine z5 ?_ | refine z6 ?_ | refine z7 ?_ | refine z8 ?_ | refine y1 ?_ | refine y2 ?_ | refine y3 ?_ | refine y4 ?_ | refine y5 ?_ | refine y6 ?_ | refine y7 ?_ | refine y8 ?_ | refine Rt.p (fun _=>?_) fun _=>?_)
   | ((with_reducible apply w_ixM);(focus exact rfl);(focus exact rfl);case' hk=>intro y hy) | ((with_reducible (first | apply w_val | apply q_ends));(focus exact rfl)))
  all_goals first
   | (exfalso;omega)
   | exact end_bg hl
 obtain⟨b1,b2,b3⟩:=h3 e3
 rw[if_pos e3]
 refine RawC.walk (H:=hint64 Try.prog) ir64 Try.func64 rfl rfl rfl ?_
 unfold ir64
 repeat' (first
  | with_reducible (first | refine Rd.p ?_ | refine w_alt ?_ ?_ | refine zE ?_ | refine zE0 ?_)
  | (first | (refine w_boxN rfl hl ?_;intro g2))
  | with_reducible (first | refine zI fun y hy=>?_ | refine zL ?_ | refine zS ?_ | refine zA fun _=>?_ | refine zV ?_ | refine zC ?_ | refine zG ?_ | refine zU ?_ | refine zG0 ?_ | refine zU0 ?_ | refine zF ?_)
  | with_reducible (first | refine zX ?_ | refine zD fun _=>?_ | refine zD0 ?_ | refine zN ?_ | refine zF0 ?_ | refine zX0 ?_ | refine z1 ?_ | refine z2 ?_ | refine z3 ?_ | refine z4 ?_ | refine z5 ?_ | refine z6 ?_ | refine z7 ?_ | refine z8 ?_ | refine y1 ?_ | refine y2 ?_ | refine y3 ?_ | refine y4 ?_ | refine y5 ?_ | refine y6 ?_ | refine y7 ?_ | refine y8 ?_ | refine Rt.p (fun _=>?_) fun _=>?_)
  | ((with_reducible apply w_ixM);(focus exact rfl);(focus exact rfl);case' hk=>intro y hy) | ((with_reducible (first | apply w_val | apply q_ends));(focus exact rfl)))
 all_goals try (exfalso;omega)
 rename_i g3 g4
 refine w_loopK [2,3,4] [3,4] (fun w:Nat=>w≤6) (fun w=>6-w) (fun w=>[(5,.int .i64 (w:Int))]) (fun w=>[(2,(g2,.row (nI (pourW B d.bag.toNat d.other.toNat w))))]) 0 (Nat.zero_le _) ⟨rfl,trivial⟩ ⟨by rw[pourW_zero hl];rfl,trivial⟩ ?_
 rintro w hw e σ
 try dsimp only at hw ⊢
 have hpl:=pourW_len B d.bag.toNat d.other.toNat w
 by_cases hw6:w=6
 · subst hw6
   rw[pourW_six] at hpl ⊢
   repeat' (first
    | with_reducible (first | refine Rd.p ?_ | refine w_alt ?_ ?_ | refine zE ?_ | refine zE0 ?_)
    | (first | refine w_ldN rfl rfl hpl ?_ | refine w_stN rfl rfl rfl rfl hpl ?_)
    | with_reducible (first | refine zI fun y hy=>?_ | refine zL ?_ | refine zS ?_ | refine zA fun _=>?_ | refine zV ?_ | refine zC ?_ | refine zG ?_ | refine zU ?_ | refine zG0 ?_ | refine zU0 ?_ | refine zF ?_)
    | with_reducible (first | refine zX ?_ | refine zD fun _=>?_ | refine zD0 ?_ | refine zN ?_ | refine zF0 ?_ | refine zX0 ?_ | refine z1 ?_ | refine z2 ?_ | refine z3 ?_ | refine z4 ?_ | refine z5 ?_ | refine z6 ?_ | refine z7 ?_ | refine z8 ?_ | refine y1 ?_ | refine y2 ?_ | refine y3 ?_ | refine y4 ?_ | refine y5 ?_ | refine y6 ?_ | refine y7 ?_ | refine y8 ?_ | refine Rt.p (fun _=>?_) fun _=>?_)
    | ((with_reducible apply w_ixM);(focus exact rfl);(focus exact rfl);case' hk=>intro y hy) | ((with_reducible (first | apply w_val | apply q_ends));(focus exact rfl)))
   all_goals first
    | (exfalso;omega)
    | exact end_bg hpl
 have ho:0+d.other.toNat*6+w*1=d.other.toNat*6+w:=by omega
 have hb:0+d.bag.toNat*6+w*1=d.bag.toNat*6+w:=by omega
 have q1:=h.at (d.other.toNat*6+w)
 have q2:=h.at (d.bag.toNat*6+w)
 obtain⟨p1,p2⟩:=pourW_get (B:=B) (i:=d.bag.toNat) (k:=d.other.toNat) (w:=w) (by omega) (by omega) (by omega)
 have hps:=pourW_succ (B:=B) (i:=d.bag.toNat) (k:=d.other.toNat) (w:=w) (by omega) (by omega) (by omega) (by omega)
 generalize pourW B d.bag.toNat d.other.toNat w=PK at*
 have hsl:d.bag.toNat*6+w<(PK.set (d.other.toNat*6+w) (B.getD (d.other.toNat*6+w) 0+B.getD (d.bag.toNat*6+w) 0)).length:=by rw[List.length_set];omega
 repeat' (first
  | with_reducible (first | refine Rd.p ?_ | refine w_alt ?_ ?_ | refine zE ?_ | refine zE0 ?_)
  | (first | refine w_ldV rfl ho rfl (by omega) p1 ?_ | refine w_ldV rfl hb rfl (by omega) p2 ?_ | refine w_stEl rfl ho rfl (by omega) rfl ?_ | refine w_stEl rfl hb rfl hsl rfl ?_)
  | with_reducible (first | refine zI fun y hy=>?_ | refine zL ?_ | refine zS ?_ | refine zA fun _=>?_ | refine zV ?_ | refine zC ?_ | refine zG ?_ | refine zU ?_ | refine zG0 ?_ | refine zU0 ?_ | refine zF ?_)
  | with_reducible (first | refine zX ?_ | refine zD fun _=>?_ | refine zD0 ?_ | refine zN ?_ | refine zF0 ?_ | refine zX0 ?_ | refine z1 ?_ | refine z2 ?_ | refine z3 ?_ | refine z4 ?_ | refine z5 ?_ | refine z6 ?_ | refine z7 ?_ | refine z8 ?_ | refine y1 ?_ | refine y2 ?_ | refine y3 ?_ | refine y4 ?_ | refine y5 ?_ | refine y6 ?_ | refine y7 ?_ | refine y8 ?_ | refine Rt.p (fun _=>?_) fun _=>?_)
  | ((with_reducible apply w_ixM);(focus exact rfl);(focus exact rfl);case' hk=>intro y hy) | ((with_reducible (first | apply w_val | apply q_ends));(focus exact rfl)))
 all_goals first
  | (exfalso;omega)
  | exact q_loop (w+1) (by show w+1≤6;omega) (by show 6-(w+1)<6-w;omega) ⟨int_eq (by simp),trivial⟩ ⟨by rw[←hps];rfl,trivial⟩ (by repeat' (first | exact kept_nil | apply kept_cons | rfl)) (by repeat' (first | exact kept_nil | apply kept_cons | rfl))
def spOf (d:Dl):Sp:=(d,drawsB d,decide (d.kind=5) || decide (d.kind=6))
section
variable {P:Program} {K:(Nat→AV)→Sig→Prop} {e:Nat→AV} {σ:Sig} {x:IOpd} {r:List IStep} {i g t n:Nat} {B:List Int}
theorem w_chkN (hx:x.ev e= .ref i g 0) (hσ:σ i=(g,.row (nI B))) (hn:B.length=n) (ht:e t= .agg (nI B)) (hk:stepsW P r K e σ):stepsW P (⟨none,none,.chk n true x t⟩::r) K e σ:=by
 have e1:ldO n true σ (x.ev e)=some (g=g∧0+n≤(nI B).length,.agg (nI B)):=by
  rw[hx]
  simp only[ldO,hσ,partO]
  rw[List.drop_zero,List.take_of_length_le (by rw[List.length_map];omega)]
 refine w_det0 (p:=(g=g∧0+n≤(nI B).length)∧ .agg (nI B)=e t) (v:= .junk) (σ':=σ) (fun _=>?_) ⟨⟨rfl,by rw[List.length_map];omega⟩,ht.symm⟩ hk
 show (match ldO n true σ (x.ev e) with
  | some (p,v)=>some (p∧v=e t,AV.junk,σ)
  | none=>none)=_
 rw[e1]
end
theorem ACall.bg2i {P:Program} {f:Nat} {B:List Int} {a1 a2:List AV} {r:Int} {σ:Sig} {d:Nat} {Q:AV→Sig→Prop} (h:Fn0 P f (bgV B::a1) (fun a=>a= .int .i64 r)) (ha:a1=renL [] a2) (hQ:Q (.int .i64 r) σ):ACall P f (bgV B::a2) σ d Q:=
 ACall.val h (by show bgV B::a1=ren [] (bgV B)::renL [] a2;rw[ren_bg,ha]) rfl hQ
theorem ACall.bg2b {P:Program} {f:Nat} {B C:List Int} {a1 a2:List AV} {σ:Sig} {d:Nat} {Q:AV→Sig→Prop} (h:Fn0 P f (bgV B::a1) (fun a=>a=bgV C)) (ha:a1=renL [] a2) (hQ:Q (bgV C) σ):ACall P f (bgV B::a2) σ d Q:=
 ACall.val h (by show bgV B::a1=ren [] (bgV B)::renL [] a2;rw[ren_bg,ha]) (ren_bg [] C) hQ
theorem fct_mono:∀{j k:Nat},j≤k→fct j≤fct k:=by
 intro j k h
 induction k with
 | zero=>rw[Nat.le_zero.1 h];exact Int.le_refl _
 | succ k ih=>
   by_cases e:j=k+1
   · rw[e];exact Int.le_refl _
   · have:=ih (by omega)
     have hp:=fct_pos k
     have:1*fct k≤((k+1:Nat):Int)*fct k:=Int.mul_le_mul_of_nonneg_right (by omega) (by omega)
     show fct j≤((k+1:Nat):Int)*fct k
     omega
theorem szP_bd {n:Nat} {l:List Sp} {b:List Int} {m:Int} (ht:tbIn b m) (h:runOK n l b m):1≤szP l b∧szP l b≤479001600:=by
 have h1:=szP_le ht h
 have hs:=ht.sm
 have hm:=ht.m
 have h2:=fct_mono (show (sumB b+12-m).toNat≤12 by omega)
 rw[fct12] at h2
 exact⟨szP_pos h,by omega⟩
section
variable {x:Sp} {r:List Sp} {B c:List Int} {w:Int}
theorem cntP_dn (h:x.2.1=true):cntP (x::r) [] B=bgSize B x.1.bag*cntP r [] (drawB B x.1.bag (pickW B x.1.bag 0)):=by
 show (if x.2.1=true then _ else _)=_
 rw[if_pos h]
def cntW (x:Sp) (r:List Sp) (B:List Int) (w:Int) (c:List Int) (v:Int):Int:=if x.2.2=true then (if v=w then bgAt B x.1.bag v*cntP r c (drawB B x.1.bag v) else 0) else bgAt B x.1.bag v*cntP r (w::c) (drawB B x.1.bag v)
theorem cntP_dc (h:x.2.1=true):cntP (x::r) (w::c) B=nSum 6 (cntW x r B w c):=by
 show (if x.2.1=true then _ else _)=_
 rw[if_pos h];rfl
theorem cntP_pn (h:¬x.2.1=true) (h2:x.2.2=true):cntP (x::r) [] B=cntP r [] (mixedB x.1 B):=by
 show (if x.2.1=true then _ else if x.2.2=true then _ else _)=_
 rw[if_neg h,if_pos h2]
theorem cntP_pc (h:¬x.2.1=true) (h2:x.2.2=true):cntP (x::r) (w::c) B=if w=x.1.wood then cntP r c (mixedB x.1 B) else 0:=by
 show (if x.2.1=true then _ else if x.2.2=true then _ else _)=_
 rw[if_neg h,if_pos h2]
theorem cntP_m (h:¬x.2.1=true) (h2:¬x.2.2=true):cntP (x::r) c B=cntP r c (mixedB x.1 B):=by
 show (if x.2.1=true then _ else if x.2.2=true then _ else _)=_
 rw[if_neg h,if_neg h2]
end
theorem cntP_bd {n:Nat} (hn:n≤6):∀{l:List Sp} {b:List Int} {m:Int} {B:List Int} (c:List Int),tbIn b m→runOK n l b m→bgT n b B→0≤cntP l c B∧cntP l c B≤szP l b
 | [],_,_,_,c,_,_,_=>by
   show 0≤(1:Int)∧(1:Int)≤1
   decide
 | x::r,b,m,B,c,ht,hr,hB=>by
   have hx:=hr.1
   have ht2:=(ht.step hx).1
   have hz:=szP_pos hr.2
   rw[szP]
   by_cases hd:x.2.1=true
   · obtain⟨hb,ha⟩:=hx.d hd
     have hs:=hB.size hb
     have e:spB x b=setI b x.1.bag (atI b x.1.bag+ -1):=by unfold spB;rw[if_pos hd]
     rw[if_pos hd]
     have hdr:∀(v:Int) (c:List Int),0≤v→v≤5→0≤bgAt B x.1.bag v*cntP r c (drawB B x.1.bag v)∧bgAt B x.1.bag v*cntP r c (drawB B x.1.bag v)≤bgAt B x.1.bag v*szP r (spB x b):=fun v c hv hv5=>by
      by_cases h0:bgAt B x.1.bag v=0
      · rw[h0,Int.zero_mul,Int.zero_mul];exact⟨Int.le_refl _,Int.le_refl _⟩
      · have hp:=bgAt_nn hB.nn x.1.bag v
        have hB2:=hB.draw ht.l hn hb (w:=v) ⟨hv,hv5⟩ (by omega)
        obtain⟨i1,i2⟩:=cntP_bd hn c ht2 hr.2 (by rw[e];exact hB2)
        exact⟨Int.mul_nonneg hp i1,Int.mul_le_mul_of_nonneg_left i2 hp⟩
     cases c with
     | nil=>
       rw[cntP_dn hd,hs]
       obtain⟨hp,hq⟩:=pickW_ok (B:=B) (i:=x.1.bag) (p:=0) (Int.le_refl _) (by rw[hs];omega)
       have hB2:=hB.draw ht.l hn hb hp hq
       obtain⟨i1,i2⟩:=cntP_bd hn [] ht2 hr.2 (by rw[e];exact hB2)
       exact⟨Int.mul_nonneg (by omega) i1,Int.mul_le_mul_of_nonneg_left i2 (by omega)⟩
     | cons w c=>
       rw[cntP_dc hd]
       have hF:∀k:Nat,k<6→0≤cntW x r B w c k∧cntW x r B w c k≤bgAt B x.1.bag k*szP r (spB x b):=fun k hk=>by
        unfold cntW
        have hbn:=bgAt_nn hB.nn x.1.bag k
        split
        · split
          · exact hdr k c (by omega) (by omega)
          · exact⟨Int.le_refl _,Int.mul_nonneg hbn (by omega)⟩
        · exact hdr k (w::c) (by omega) (by omega)
       refine⟨nSum_nn fun k hk=>(hF k hk).1,?_⟩
       have hle:∀j:Nat,j≤6→nSum j (cntW x r B w c)≤nSum j fun v=>bgAt B x.1.bag v*szP r (spB x b):=by
        intro j
        induction j with
        | zero=>intro _;exact Int.le_refl _
        | succ j ih=>
          intro hj
          have:=ih (by omega)
          have:=(hF j (by omega)).2
          rw[nSum,nSum];omega
       have h6:=hle 6 (Nat.le_refl _)
       rw[nSum_mulr,hB.s x.1.bag hb] at h6
       exact h6
   · have hdf:x.2.1=false:=by simpa using hd
     have hB2:=hB.mix ht.l hn hx hdf
     rw[if_neg hd,Int.one_mul]
     by_cases hc:x.2.2=true
     · cases c with
       | nil=>rw[cntP_pn hd hc];exact cntP_bd hn [] ht2 hr.2 hB2
       | cons w c=>
         rw[cntP_pc hd hc]
         split
         · exact cntP_bd hn c ht2 hr.2 hB2
         · exact⟨Int.le_refl _,by omega⟩
     · rw[cntP_m hd hc];exact cntP_bd hn c ht2 hr.2 hB2
theorem cntW_bd {n:Nat} (hn:n≤6) {x:Sp} {r:List Sp} {b:List Int} {m:Int} {B:List Int} (ht:tbIn b m) (hr:runOK n (x::r) b m) (hB:bgT n b B) (hd:x.2.1=true) (w:Int) (c:List Int):(∀k:Nat,k<6→0≤cntW x r B w c k)∧ ∀k:Nat,k≤6→0≤nSum k (cntW x r B w c)∧nSum k (cntW x r B w c)≤479001600:=by
 have hx:=hr.1
 obtain⟨hb,ha⟩:=hx.d hd
 have ht2:=(ht.step hx).1
 have e:spB x b=setI b x.1.bag (atI b x.1.bag+ -1):=by unfold spB;rw[if_pos hd]
 have hF:∀k:Nat,k<6→0≤cntW x r B w c k:=fun k hk=>by
  have hdr:∀(c:List Int),0≤bgAt B x.1.bag k*cntP r c (drawB B x.1.bag k):=fun c=>by
   by_cases h0:bgAt B x.1.bag k=0
   · rw[h0,Int.zero_mul];exact Int.le_refl _
   · have hp:=bgAt_nn hB.nn x.1.bag k
     have hB2:=hB.draw ht.l hn hb (w:=(k:Int)) (by omega) (by omega)
     exact Int.mul_nonneg hp (cntP_bd hn c ht2 hr.2 (by rw[e];exact hB2)).1
  unfold cntW
  split
  · split
    · exact hdr c
    · exact Int.le_refl _
  · exact hdr _
 refine⟨hF,fun k hk=>⟨nSum_nn fun j hj=>hF j (by omega),?_⟩⟩
 have h1:=nSum_mono (n:=6) hF hk
 have h2:=(cntP_bd hn (w::c) ht hr hB).2
 rw[cntP_dc hd] at h2
 have:=(szP_bd ht hr).2
 omega
def ir92:IFn:=
 ⟨123,[(6,none)],(.seq (.ops [oo 4 (.box 24 1),
 oo 6 (.mov (kI 0))])
 (.seq (.seq (.ops [oo 11 (.mov 0),
 oo 12 (.len false 11),
 oo 13 (.bin .eql 12 (kI 0))])
 (.cnd 13
 (.seq (.ops [oo 6 (.mov (kI 1))])
 .ret)
 .skip))
 (.seq (.ops [oo 14 (.mov 0),
 oo 15 (.ixA 5 14 (kI 0)),
 oo 16 (.ld 5 true 15),
 oo 7 (.new [(.int .i64 0),(.int .i64 0),(.int .i64 0),(.int .i64 0),(.int .i64 0)]),
 ⟨none,none,(.st 5 7 16)⟩])
 (.seq (.blk 0 (.seq (.ops [oo 18 (.ld 5 true 7),
 oo 19 (.callF 60 [18]),
 oo 20 (.not 19),
 oo 21 (.mov 20),
 ⟨(some 22),(some (21,true)),(.flA 0 7)⟩,
 ⟨(some 23),(some (21,true)),(.ld 1 false 22)⟩,
 ⟨(some 24),(some (21,true)),(.bin .neq 23 (kI 6))⟩,
 oo 25 (.pick 21 24 (kB false)),
 oo 17 (.mov 25)])
 (.cnd 17
 (.seq (.ops [oo 26 (.mov 0),
 oo 27 (.slS 5 26 (some (kI 1)) none none),
 oo 28 (.ld 24 true 4),
 oo 29 (.ld 5 true 7),
 oo 31 (.mov 2),
 oo 30 (.callF 64 [28,29]),
 oo 32 (.callF 92 [27,30,31]),
 oo 6 (.mov 32)])
 .ret)
 (.seq (.ops [oo 34 (.flA 0 7),
 oo 35 (.ld 1 false 34),
 oo 36 (.bin .eql 35 (kI 6)),
 oo 37 (.mov 36),
 ⟨(some 38),(some (37,true)),(.mov 2)⟩,
 ⟨(some 39),(some (37,true)),(.len false 38)⟩,
 ⟨(some 40),(some (37,true)),(.bin .eql 39 (kI 0))⟩,
 oo 41 (.pick 37 40 (kB false)),
 oo 33 (.mov 41)])
 (.cnd 33
 (.seq (.ops [oo 42 (.mov 0),
 oo 43 (.slS 5 42 (some (kI 1)) none none),
 oo 44 (.ld 24 true 4),
 oo 45 (.callF 92 [43,44,(.k .nsl)]),
 oo 6 (.mov 45)])
 .ret)
 (.seq (.ops [oo 47 (.flA 0 7),
 oo 48 (.ld 1 false 47),
 oo 49 (.bin .eql 48 (kI 6)),
 oo 46 (.mov 49)])
 (.cnd 46
 (.seq (.seq (.ops [oo 50 (.mov 2),
 oo 51 (.ixA 1 50 (kI 0)),
 oo 52 (.ld 1 false 51),
 oo 53 (.flA 3 7),
 oo 54 (.ld 1 false 53),
 oo 55 (.bin .neq 52 54)])
 (.cnd 55
 (.seq (.ops [oo 6 (.mov (kI 0))])
 .ret)
 .skip))
 (.seq (.ops [oo 56 (.mov 0),
 oo 57 (.slS 5 56 (some (kI 1)) none none),
 oo 58 (.ld 24 true 4),
 oo 59 (.mov 2),
 oo 60 (.slS 1 59 (some (kI 1)) none none),
 oo 61 (.callF 92 [57,58,60]),
 oo 6 (.mov 61)])
 .ret))
 (.seq (.ops [oo 63 (.mov 2),
 oo 64 (.len false 63),
 oo 65 (.bin .eql 64 (kI 0)),
 oo 62 (.mov 65)])
 (.cnd 62
 (.seq (.ops [oo 66 (.ld 24 true 4),
 oo 67 (.flA 1 7),
 oo 68 (.ld 1 false 67),
 oo 70 (.mov 0),
 oo 71 (.slS 5 70 (some (kI 1)) none none),
 oo 72 (.ld 24 true 4),
 oo 73 (.flA 1 7),
 oo 74 (.ld 1 false 73),
 oo 75 (.ld 24 true 4),
 oo 76 (.flA 1 7),
 oo 77 (.ld 1 false 76),
 oo 69 (.callF 61 [66,68]),
 ⟨none,none,(.chk 24 true 4 72)⟩,
 ⟨none,none,(.chk 1 false 73 74)⟩,
 ⟨none,none,(.chk 24 true 4 75)⟩,
 ⟨none,none,(.chk 1 false 76 77)⟩,
 oo 78 (.callF 63 [75,77,(kI 0)]),
 ⟨none,none,(.chk 24 true 4 72)⟩,
 ⟨none,none,(.chk 1 false 73 74)⟩,
 oo 79 (.callF 62 [72,74,78]),
 oo 80 (.callF 92 [71,79,(.k .nsl)]),
 oo 81 (.bin .mul 69 80),
 oo 6 (.mov 81)])
 .ret)
 .skip)))))))))
 (.seq (.ops [oo 8 (.mov (kI 0))])
 (.seq (.seq (.ops [oo 9 (.mov (kI 0))])
 (.blk 1 (.loop (.seq (.seq (.ops [oo 82 (.mov 9),
 oo 83 (.bin .lss 82 (kI 6))])
 (.cnd 83
 .skip
 (.exit 1)))
 (.seq (.blk 2 (.seq (.seq (.ops [oo 86 (.flA 1 7),
 oo 87 (.ld 1 false 86),
 oo 88 (.mov 9),
 oo 89 (.ixAr 4 6 4 87),
 oo 90 (.ixAr 6 1 89 88),
 oo 91 (.ld 1 false 90),
 oo 92 (.bin .eql 91 (kI 0))])
 (.cnd 92
 (.exit 2)
 .skip))
 (.seq (.ops [oo 93 (.mov 2),
 oo 10 (.mov 93)])
 (.seq (.seq (.ops [oo 94 (.flA 0 7),
 oo 95 (.ld 1 false 94),
 oo 96 (.bin .eql 95 (kI 5))])
 (.cnd 96
 (.seq (.seq (.ops [oo 97 (.mov 9),
 oo 98 (.mov 2),
 oo 99 (.ixA 1 98 (kI 0)),
 oo 100 (.ld 1 false 99),
 oo 101 (.bin .neq 97 100)])
 (.cnd 101
 (.exit 2)
 .skip))
 (.ops [oo 102 (.mov 2),
 oo 103 (.slS 1 102 (some (kI 1)) none none),
 oo 10 (.mov 103)]))
 .skip))
 (.ops [oo 104 (.mov 8),
 oo 105 (.flA 1 7),
 oo 106 (.ld 1 false 105),
 oo 107 (.mov 9),
 oo 108 (.ixAr 4 6 4 106),
 oo 109 (.ixAr 6 1 108 107),
 oo 110 (.ld 1 false 109),
 oo 111 (.mov 0),
 oo 112 (.slS 5 111 (some (kI 1)) none none),
 oo 113 (.ld 24 true 4),
 oo 114 (.flA 1 7),
 oo 115 (.ld 1 false 114),
 oo 116 (.mov 9),
 oo 118 (.mov 10),
 oo 117 (.callF 62 [113,115,116]),
 ⟨none,none,(.chk 1 false 105 106)⟩,
 ⟨none,none,(.chk 1 false 109 110)⟩,
 oo 119 (.callF 92 [112,117,118]),
 ⟨none,none,(.chk 1 false 105 106)⟩,
 ⟨none,none,(.chk 1 false 109 110)⟩,
 oo 120 (.bin .mul 110 119),
 oo 121 (.bin .add 104 120),
 oo 8 (.mov 121)])))))
 (.ops [oo 84 (.mov 9),
 oo 85 (.bin .add 84 (kI 1)),
 oo 9 (.mov 85)]))))))
 (.seq (.ops [oo 122 (.mov 8),
 oo 6 (.mov 122)])
 .ret)))))))⟩
def hint92 (P:Program):Hint:={}
def CV (a:AV) (c:List Int):Prop:=(a= .nsl∧c=[])∨a= .slc 1 (iR c) .non
section
variable {P:Program} {K:(Nat→AV)→Sig→Prop} {e:Nat→AV} {σ:Sig} {x h:IOpd} {r:List IStep}
theorem w_slT {α:Type} {f:α→List AV} {l:List α} {p:α} {d sz:Nat} {t:Tag} (hx:x.ev e= .slc sz ((p::l).map f) t) (hk:stepsW P r K (upd e d (.slc sz (l.map f) .non)) σ):stepsW P (⟨some d,none,.slS sz x (some (.k (.int .i64 1))) none none⟩::r) K e σ:=by
 refine w_slM (a:=1) (b:=((p::l).length:Int)) hx rfl rfl ⟨by decide,by rw[List.length_cons];omega,Int.le_refl _⟩ ?_
 have e1:((p::l).drop (1:Int).toNat).take (((p::l).length:Int)-1).toNat=l:=by
  show l.take _=l
  exact List.take_of_length_le (by rw[List.length_cons];omega)
 rw[e1];exact hk
theorem w_chkAt {i g off t:Nat} {cs:List AV} {a:AV} (hx:x.ev e= .ref i g off) (hσ:σ i=(g,.row cs)) (hc:cs[off]?=some a) (hf:forceA a=some a) (ht:e t=a)
  (hk:stepsW P r K e σ):stepsW P (⟨none,none,.chk 1 false x t⟩::r) K e σ:=by
 refine w_det0 (p:=(g=g∧True)∧a=e t) (v:= .junk) (σ':=σ) (fun _=>?_) ⟨⟨rfl,trivial⟩,ht.symm⟩ hk
 show (match ldO 1 false σ (x.ev e) with
  | some (p,v)=>some (p∧v=e t,AV.junk,σ)
  | none=>none)=_
 rw[hx]
 simp only[ldO,hσ,partO,hc,hf,liftV,okV]
theorem w_chkEl {i g off t p:Nat} {B:List Int} (hx:x.ev e= .ref i g off) (ho:off=p) (hσ:σ i=(g,.row (nI B))) (hp:p<B.length) (ht:e t= .int .i64 (B.getD p 0)) (hk:stepsW P r K e σ):stepsW P (⟨none,none,.chk 1 false x t⟩::r) K e σ:=
 w_chkAt hx hσ (by rw[ho];exact nI_get hp) rfl ht hk
end
end Go.Abs
