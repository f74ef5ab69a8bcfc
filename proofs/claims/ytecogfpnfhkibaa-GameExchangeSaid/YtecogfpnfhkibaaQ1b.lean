/- A part of the proofs of the laws of this seat: contracts of the functions that they reach, each proved of the program's form in Lean. No condition beyond those that each contract names. -/
import Derived.Test.YtecogfpnfhkibaaProg
import Derived.Test.YtecogfpnfhkibaaSnd3
import Derived.Test.YtecogfpnfhkibaaA0
import Derived.Test.YtecogfpnfhkibaaN1a
import Derived.Test.YtecogfpnfhkibaaN1b
import Derived.Test.YtecogfpnfhkibaaN1c
import Derived.Test.YtecogfpnfhkibaaN1d
import Derived.Test.YtecogfpnfhkibaaN1e
import Derived.Test.YtecogfpnfhkibaaN1f
import Derived.Test.YtecogfpnfhkibaaN1g
import Derived.Test.YtecogfpnfhkibaaN1h
import Derived.Test.YtecogfpnfhkibaaQ1a
set_option linter.unusedVariables false
set_option linter.unusedSimpArgs false
set_option maxRecDepth 20000
set_option maxHeartbeats 4000000
namespace Go.Abs
open Go.Proofs
def act1 (d:Dl):List Dl:=if drawsB d=true then List.replicate d.count.toNat {d with count:=1 } else[d]
def actsF (l:List Dl):List Dl:=l.flatMap act1
def nrm (x:Sp):Sp:=if x.2.1=true then ({x.1 with count:=1 },x.2) else x
theorem act1_sp (d:Dl):(act1 d).map spOf=(stp1 d).map nrm:=by
 unfold act1 stp1
 by_cases h:drawsB d=true
 · rw[if_pos h,if_pos h,List.map_replicate,List.map_replicate]
   congr 1
   have hk:d.kind=4∨d.kind=5:=by simpa[drawsB] using h
   have h6:decide (d.kind=6)=false:=decide_eq_false (by omega)
   have h':drawsB {d with count:=1 }=true:=h
   unfold spOf nrm
   rw[h',if_pos rfl]
   show (_,true,decide (d.kind=5) || decide (d.kind=6))=_
   rw[h6,Bool.or_false]
 · have h':drawsB d=false:=by simpa using h
   rw[if_neg h,if_neg h]
   have h5:decide (d.kind=5)=false:=by
    have:¬(d.kind=4∨d.kind=5):=by simpa[drawsB] using h
    exact decide_eq_false (by omega)
   unfold spOf nrm
   simp only[List.map_cons,List.map_nil,h',h5,Bool.false_or,Bool.false_eq_true,if_false]
theorem acts_sp:∀l:List Dl,(actsF l).map spOf=(stepsG l).map nrm
 | []=>rfl
 | d::r=>by
   show (act1 d++actsF r).map spOf=(stp1 d++stepsG r).map nrm
   rw[List.map_append,List.map_append,act1_sp,acts_sp r]
theorem nrm_2 (x:Sp):(nrm x).2=x.2:=by unfold nrm;split<;>rfl
theorem nrm_bag (x:Sp):(nrm x).1.bag=x.1.bag∧(nrm x).1.wood=x.1.wood∧(nrm x).1.kind=x.1.kind∧(nrm x).1.other=x.1.other:=by unfold nrm;split<;>exact⟨rfl,rfl,rfl,rfl⟩
theorem nrm_f {x:Sp} (h:x.2.1=false):nrm x=x:=by unfold nrm;rw[h];rfl
theorem spB_nrm (x:Sp) (b:List Int):spB (nrm x) b=spB x b:=by
 by_cases h:x.2.1=true
 · unfold spB;rw[nrm_2,if_pos h,if_pos h,(nrm_bag x).1]
 · rw[nrm_f (by simpa using h)]
theorem spM_nrm (x:Sp) (m:Int):spM (nrm x) m=spM x m:=by
 by_cases h:x.2.1=true
 · unfold spM;rw[nrm_2,if_pos h,if_pos h]
 · rw[nrm_f (by simpa using h)]
theorem runOK_nrm {n:Nat}:∀{l:List Sp} {b:List Int} {m:Int},runOK n l b m→runOK n (l.map nrm) b m
 | [],_,_,_=>trivial
 | x::r,b,m,h=>by
   refine⟨?_,?_⟩
   · by_cases hd:x.2.1=true
     · refine⟨fun _=>by rw[(nrm_bag x).1];exact h.1.d hd,fun h2=>?_,fun h2=>?_⟩
       · rw[nrm_2,hd] at h2;cases h2
       · rw[nrm_2,hd] at h2;cases h2
     · rw[nrm_f (by simpa using hd)];exact h.1
   · rw[spB_nrm,spM_nrm];exact runOK_nrm h.2
theorem szL_nrm:∀(l:List Sp) (b:List Int),szL (l.map nrm) b=szL l b
 | [],_=>rfl
 | x::r,b=>by rw[List.map_cons,szL,szL,spB_nrm,szL_nrm r,nrm_2,(nrm_bag x).1]
theorem act1_len {d:Dl} (h:drawsB d=true→1≤d.count∧d.count≤12):(act1 d).length≤12:=by
 unfold act1
 split
 · rw[List.length_replicate];have:=h (by assumption);omega
 · simp
theorem acts_len:∀(l:List Dl),(∀d∈l,drawsB d=true→1≤d.count∧d.count≤12)→(actsF l).length≤12*l.length
 | [],_=>Nat.le_refl _
 | d::r,h=>by
   have h1:=act1_len (h d (by simp))
   have h2:=acts_len r fun x hx=>h x (by simp[hx])
   show (act1 d++actsF r).length≤12*(r.length+1)
   rw[List.length_append];omega
theorem dl_snoc (out:List Dl) (d:Dl) (g:Nat):AV.slc 5 (dlR out++[[.int .i64 d.kind,.int .i64 d.bag,.int .i64 d.other,.int .i64 d.wood,.int .i64 d.count]]) (.own 3 g)=AV.slc 5 (dlR (out++[d])) (.own 3 g):=
 congrArg (fun z=>AV.slc 5 z (.own 3 g)) (map_snoc (f:=fun d:Dl=>[AV.int .i64 d.kind,.int .i64 d.bag,.int .i64 d.other,.int .i64 d.wood,.int .i64 d.count]) (x:=d)).symm
theorem acts_c (G:Gm) (hd:G.ds.length≤24) (hc:∀d∈G.ds,drawsB d=true→1≤d.count∧d.count≤12):Fn0 Try.prog 58 [gmA G] (fun v=>v= .slc 5 (dlR (actsF G.ds)) .non):=by
 refine RawC.walk (H:=hint58 Try.prog) ir58 Try.func58 rfl rfl rfl ?_
 unfold ir58
 repeat' (first
  | refine advE ?_ | with_reducible refine w_alt ?_ ?_
  | with_reducible refine zI fun y hy=>?_ | refine advL ?_
  | refine adv ?_ | with_reducible (first | intro _ | refine Rt.p (fun _=>?_) fun _=>?_)
  | ((with_reducible apply w_ixM);(focus exact rfl);(focus exact rfl);case' hk=>intro y hy) | ((with_reducible (first | apply w_val | apply q_ends));(focus exact rfl)))
 rename_i g1 g3
 refine w_loopK [1] [1] (fun x:List Dl×List Dl×List Dl×Nat=>G.ds=x.1++x.2.1∧x.2.2.1++actsF x.2.1=actsF G.ds∧x.2.2.1.length≤12*x.1.length) (fun x=>x.2.1.length) (fun x=>[(4,.int .i64 (x.1.length:Int)),(3,.slc 5 (dlR x.2.2.1) (.own 3 x.2.2.2))]) (fun x=>[(3,(x.2.2.2,.row []))]) ([],G.ds,[],g3) ⟨rfl,rfl,Nat.le_refl _⟩ ⟨rfl,rfl,trivial⟩ ⟨rfl,trivial⟩ ?_
 rintro⟨pre,post,out,g⟩ ⟨hl,he,ho⟩ e σ
 dsimp only at hl he ho ⊢
 have hlen:=congrArg List.length hl
 rw[List.length_append] at hlen
 have hol:(dlR out).length=out.length:=List.length_map _
 cases post with
 | nil=>
   simp only[List.length_nil] at hlen
   rw[show actsF []=[] from rfl,List.append_nil] at he
   repeat' (first
    | refine advE ?_ | with_reducible refine w_alt ?_ ?_
    | with_reducible refine zI fun y hy=>?_ | refine advL ?_
    | refine adv ?_ | with_reducible (first | intro _ | refine Rt.p (fun _=>?_) fun _=>?_)
    | ((with_reducible apply w_ixM);(focus exact rfl);(focus exact rfl);case' hk=>intro y hy) | ((with_reducible (first | apply w_val | apply q_ends));(focus exact rfl)))
   all_goals first
    | (exfalso;omega)
    | (rw[←he];rfl)
 | cons d post=>
   simp only[List.length_cons] at hlen
   have hdc:=hc d (by rw[hl];simp)
   have hl1:=act1_len hdc
   have he1:out++(act1 d++actsF post)=actsF G.ds:=by rw[←he];rfl
   by_cases hdr:drawsB d=true
   · have hk:d.kind=4∨d.kind=5:=by simpa[drawsB] using hdr
     have hdn:=hdc hdr
     have e1:act1 d=List.replicate d.count.toNat {d with count:=1 }:=by unfold act1;rw[hdr];rfl
     rw[e1] at he1
     by_cases h4:d.kind=4
     all_goals
      repeat' (first
       | refine advE ?_ | with_reducible refine w_alt ?_ ?_
       | (refine w_ixP (f:=fun d:Dl=>[AV.int .i64 d.kind,.int .i64 d.bag,.int .i64 d.other,.int .i64 d.wood,.int .i64 d.count]) hl rfl rfl ?_)
       | with_reducible refine zI fun y hy=>?_ | refine advL ?_
       | refine adv ?_ | with_reducible (first | intro _ | refine Rt.p (fun _=>?_) fun _=>?_)
       | ((with_reducible apply w_ixM);(focus exact rfl);(focus exact rfl);case' hk=>intro y hy) | ((with_reducible (first | apply w_val | apply q_ends));(focus exact rfl)))
      all_goals try (exfalso;omega)
      refine w_loopK [1,4,5] [1,5] (fun x:Nat×Nat×Nat=>(x.1:Int)+x.2.1=d.count) (fun x=>x.2.1) (fun x=>[(6,.int .i64 (x.2.1:Int)),(3,.slc 5 (dlR (out++List.replicate x.1 {d with count:=1 })) (.own 3 x.2.2))]) (fun x=>[(3,(x.2.2,.row []))]) (0,d.count.toNat,g) (by show (0:Int)+((d.count.toNat:Nat):Int)=_;omega) ⟨int_eq (by show d.count=((d.count.toNat:Nat):Int);omega),by show AV.slc 5 (dlR out) _=AV.slc 5 (dlR (out++[])) _;rw[List.append_nil],trivial⟩ ⟨rfl,trivial⟩ ?_
      rintro⟨j,k,g'⟩ hj e2 σ2
      dsimp only at hj ⊢
      have hol2:(dlR (out++List.replicate j {d with count:=1 })).length=out.length+j:=by rw[List.length_map,List.length_append,List.length_replicate]
      have hol3:(out++List.replicate j {d with count:=1 }).length=out.length+j:=by rw[List.length_append,List.length_replicate]
      cases k with
      | zero=>
        have hjn:d.count.toNat=j:=by omega
        rw[hjn] at he1
        repeat' (first
         | refine advE ?_ | with_reducible refine w_alt ?_ ?_
         | with_reducible refine zI fun y hy=>?_ | refine advL ?_
         | refine adv ?_ | with_reducible (first | intro _ | refine Rt.p (fun _=>?_) fun _=>?_)
         | ((with_reducible apply w_ixM);(focus exact rfl);(focus exact rfl);case' hk=>intro y hy) | ((with_reducible (first | apply w_val | apply q_ends));(focus exact rfl)))
        all_goals first
         | (exfalso;omega)
         | exact q_loop (pre++[d],post,out++List.replicate j {d with count:=1 },g') ⟨by rw[hl];simp,by rw[←he1];simp,by show (out++List.replicate j _).length≤_;rw[hol3,List.length_append];simp only[List.length_cons,List.length_nil];omega⟩ (by show post.length<post.length+1;omega) ⟨by rw[len_snoc];rfl,rfl,trivial⟩ (by repeat' (first | exact slots_nil | apply slots_cons | rfl | (rw[map_snoc];rfl) | (rw[len_snoc];rfl) | (rw[hS];rfl) | (rw[hS,map_snoc];rfl) | (refine int_eq ?_;(try dsimp only);omega) | (refine congrArg AV.bool ?_;simp_all;done))) (by repeat' (first | exact kept_nil | apply kept_cons | rfl)) (by repeat' (first | exact kept_nil | apply kept_cons | rfl))
      | succ k=>
        repeat' (first
         | refine advE ?_ | with_reducible refine w_alt ?_ ?_
         | with_reducible refine zI fun y hy=>?_ | refine advL ?_
         | refine adv ?_ | with_reducible (first | intro _ | refine Rt.p (fun _=>?_) fun _=>?_)
         | ((with_reducible apply w_ixM);(focus exact rfl);(focus exact rfl);case' hk=>intro y hy) | ((with_reducible (first | apply w_val | apply q_ends));(focus exact rfl)))
        all_goals try (exfalso;omega)
        all_goals
         rename_i g4
         have hsn:out++List.replicate j {d with count:=1 }++[{d with count:=1 }]=out++List.replicate (j+1) {d with count:=1 }:=by rw[List.append_assoc,List.replicate_succ']
         refine q_loop (j+1,k,g4) (by show ((j+1:Nat):Int)+k=_;omega) (Nat.lt_succ_self k) ⟨int_eq (by simp),?_,trivial⟩ (by repeat' (first | exact slots_nil | apply slots_cons | rfl | (rw[map_snoc];rfl) | (rw[len_snoc];rfl) | (rw[hS];rfl) | (rw[hS,map_snoc];rfl) | (refine int_eq ?_;(try dsimp only);omega) | (refine congrArg AV.bool ?_;simp_all;done))) (by repeat' (first | exact kept_nil | apply kept_cons | rfl)) (by repeat' (first | exact kept_nil | apply kept_cons | rfl))
         rw[←hsn]
         exact dl_snoc (out++List.replicate j {d with count:=1 }) {d with count:=1 } g4
   · have hk:¬(d.kind=4∨d.kind=5):=by simpa[drawsB] using hdr
     have e1:act1 d=[d]:=by unfold act1;rw[if_neg hdr]
     rw[e1] at he1
     repeat' (first
      | refine advE ?_ | with_reducible refine w_alt ?_ ?_
      | (refine w_ixP (f:=fun d:Dl=>[AV.int .i64 d.kind,.int .i64 d.bag,.int .i64 d.other,.int .i64 d.wood,.int .i64 d.count]) hl rfl rfl ?_)
      | with_reducible refine zI fun y hy=>?_ | refine advL ?_
      | refine adv ?_ | with_reducible (first | intro _ | refine Rt.p (fun _=>?_) fun _=>?_)
      | ((with_reducible apply w_ixM);(focus exact rfl);(focus exact rfl);case' hk=>intro y hy) | ((with_reducible (first | apply w_val | apply q_ends));(focus exact rfl)))
     all_goals try (exfalso;omega)
     refine w_loopK [1,4,5] [1,5] (fun x:Bool×Nat=>True) (fun x=>if x.1=true then 1 else 0) (fun x=>[(6,.int .i64 (if x.1=true then 1 else 0)),(3,.slc 5 (dlR (if x.1=true then out else out++[d])) (.own 3 x.2))]) (fun x=>[(3,(x.2,.row []))]) (true,g) trivial ⟨rfl,rfl,trivial⟩ ⟨rfl,trivial⟩ ?_
     rintro⟨b,g'⟩ _ e2 σ2
     cases b with
     | true=>
       simp only[if_true]
       repeat' (first
        | refine advE ?_ | with_reducible refine w_alt ?_ ?_
        | with_reducible refine zI fun y hy=>?_ | refine advL ?_
        | refine adv ?_ | with_reducible (first | intro _ | refine Rt.p (fun _=>?_) fun _=>?_)
        | ((with_reducible apply w_ixM);(focus exact rfl);(focus exact rfl);case' hk=>intro y hy) | ((with_reducible (first | apply w_val | apply q_ends));(focus exact rfl)))
       all_goals try (exfalso;omega)
       all_goals
        rename_i g4
        exact q_loop (false,g4) trivial (by show (0:Nat)<1;decide) ⟨rfl,by first | rfl | exact dl_snoc out d g4,trivial⟩ (by repeat' (first | exact slots_nil | apply slots_cons | rfl | (rw[map_snoc];rfl) | (rw[len_snoc];rfl) | (rw[hS];rfl) | (rw[hS,map_snoc];rfl) | (refine int_eq ?_;(try dsimp only);omega) | (refine congrArg AV.bool ?_;simp_all;done))) (by repeat' (first | exact kept_nil | apply kept_cons | rfl)) (by repeat' (first | exact kept_nil | apply kept_cons | rfl))
     | false=>
       simp only[Bool.false_eq_true,if_false]
       repeat' (first
        | refine advE ?_ | with_reducible refine w_alt ?_ ?_
        | with_reducible refine zI fun y hy=>?_ | refine advL ?_
        | refine adv ?_ | with_reducible (first | intro _ | refine Rt.p (fun _=>?_) fun _=>?_)
        | ((with_reducible apply w_ixM);(focus exact rfl);(focus exact rfl);case' hk=>intro y hy) | ((with_reducible (first | apply w_val | apply q_ends));(focus exact rfl)))
       all_goals first
        | (exfalso;omega)
        | exact q_loop (pre++[d],post,out++[d],g') ⟨by rw[hl];simp,by rw[←he1];simp,by show (out++[_]).length≤_;rw[List.length_append,List.length_append];simp only[List.length_cons,List.length_nil];omega⟩ (by show post.length<post.length+1;omega) ⟨by rw[len_snoc];rfl,rfl,trivial⟩ (by repeat' (first | exact slots_nil | apply slots_cons | rfl | (rw[map_snoc];rfl) | (rw[len_snoc];rfl) | (rw[hS];rfl) | (rw[hS,map_snoc];rfl) | (refine int_eq ?_;(try dsimp only);omega) | (refine congrArg AV.bool ?_;simp_all;done))) (by repeat' (first | exact kept_nil | apply kept_cons | rfl)) (by repeat' (first | exact kept_nil | apply kept_cons | rfl))
section
variable {P:Program} {K:(Nat→AV)→Sig→Prop} {e:Nat→AV} {σ:Sig} {x:IOpd} {r:List IStep} {i g t n:Nat} {B:List Int}
theorem w_chkN (hx:x.ev e= .ref i g 0) (hσ:σ i=(g,.row (nI B))) (hn:B.length=n) (ht:e t= .agg (nI B)) (hk:stepsW P r K e σ):stepsW P (⟨none,none,.chk n true x t⟩::r) K e σ:=by
 have e1:ldO n true σ (x.ev e)=some (g=g∧0+n≤(nI B).length,.agg (nI B)):=by
  rw[hx]
  simp only[ldO,hσ,partO]
  rw[List.drop_zero,List.take_of_length_le (by rw[List.length_map];omega)]
 refine w_det0 (p:=(g=g∧0+n≤(nI B).length)∧ .agg (nI B)=e t) (v:= .junk) (σ':=σ) (fun _=>?_) ⟨⟨rfl,by rw[List.length_map];omega⟩,ht.symm⟩ hk
 show (match ldO n true σ (x.ev e) with
  | some (p,v)=>some (p∧v=e t,AV.junk,σ)
  | none=>none)=_
 rw[e1]
end
def ir25:IFn:=
 ⟨51,[(2,none)],(.seq (.ops [oo 1 (.box 2 0),
 oo 2 (.mov (.k .nsl))])
 (.seq (.ops [oo 3 (.nil 1 3)])
 (.seq (.ops [oo 4 (.new [(.int .i64 0),(.int .i64 0),(.int .i64 0),(.int .i64 0),(.int .i64 0),(.int .i64 0),(.int .i64 0),(.int .i64 0),(.int .i64 0),(.int .i64 0),(.int .i64 0),(.int .i64 0),(.int .i64 0),(.int .i64 0),(.int .i64 0),(.int .i64 0),(.int .i64 0),(.int .i64 0),(.int .i64 0),(.int .i64 0),(.int .i64 0),(.int .i64 0),(.int .i64 0),(.int .i64 0)])])
 (.seq (.ops [oo 7 (.ld 2 true 1),
 oo 8 (.callF 58 [7]),
 oo 5 (.mov 8)])
 (.seq (.seq (.ops [oo 6 (.mov (kI 0))])
 (.blk 0 (.loop (.seq (.seq (.ops [oo 9 (.mov 6),
 oo 10 (.mov 5),
 oo 11 (.len false 10),
 oo 12 (.bin .lss 9 11)])
 (.cnd 12
 .skip
 (.exit 0)))
 (.seq (.blk 1 (.seq (.seq (.ops [oo 15 (.mov 5),
 oo 16 (.mov 6),
 oo 17 (.ixA 5 15 16),
 oo 18 (.ld 5 true 17),
 oo 19 (.callF 60 [18])])
 (.cnd 19
 (.seq (.ops [oo 20 (.mov 3),
 oo 21 (.ld 24 true 4),
 oo 22 (.mov 5),
 oo 23 (.mov 6),
 oo 24 (.ixA 5 22 23),
 oo 25 (.flA 1 24),
 oo 26 (.ld 1 false 25),
 oo 27 (.callF 61 [21,26]),
 oo 28 (.bsl 1 [[(.int .i64 0)]] [(0,27)]),
 oo 29 (.app 1 8 20 28 3),
 oo 3 (.mov 29)])
 (.seq (.ops [oo 30 (.ld 24 true 4),
 oo 31 (.mov 5),
 oo 32 (.mov 6),
 oo 33 (.ixA 5 31 32),
 oo 34 (.flA 1 33),
 oo 35 (.ld 1 false 34),
 oo 36 (.ld 24 true 4),
 oo 37 (.mov 5),
 oo 38 (.mov 6),
 oo 39 (.ixA 5 37 38),
 oo 40 (.flA 1 39),
 oo 41 (.ld 1 false 40),
 oo 42 (.callF 63 [36,41,(kI 0)]),
 ⟨none,none,(.chk 24 true 4 30)⟩,
 ⟨none,none,(.chk 1 false 34 35)⟩,
 oo 43 (.callF 62 [30,35,42]),
 ⟨none,none,(.st 24 4 43)⟩])
 (.exit 1)))
 .skip))
 (.ops [oo 44 (.ld 24 true 4),
 oo 45 (.mov 5),
 oo 46 (.mov 6),
 oo 47 (.ixA 5 45 46),
 oo 48 (.ld 5 true 47),
 oo 49 (.callF 64 [44,48]),
 ⟨none,none,(.st 24 4 49)⟩])))
 (.ops [oo 13 (.mov 6),
 oo 14 (.bin .add 13 (kI 1)),
 oo 6 (.mov 14)]))))))
 (.seq (.ops [oo 50 (.mov 3),
 oo 2 (.mov 50)])
 .ret))))))⟩
def hint25 (P:Program):Hint:={site:=[(29,3)],nils:=[(3,1)],frz:=[],mve:=[],wr:=[] }
theorem run_acts {G:Gm} (h:GOK G):runOK G.ws.length ((actsF G.ds).map spOf) tb0.bags tb0.mixed:=by
 rw[acts_sp];exact runOK_nrm h.ex
theorem ACall.bg2i {P:Program} {f:Nat} {B:List Int} {a1 a2:List AV} {r:Int} {σ:Sig} {d:Nat} {Q:AV→Sig→Prop} (h:Fn0 P f (bgV B::a1) (fun a=>a= .int .i64 r)) (ha:a1=renL [] a2) (hQ:Q (.int .i64 r) σ):ACall P f (bgV B::a2) σ d Q:=
 ACall.val h (by show bgV B::a1=ren [] (bgV B)::renL [] a2;rw[ren_bg,ha]) rfl hQ
theorem ACall.bg2b {P:Program} {f:Nat} {B C:List Int} {a1 a2:List AV} {σ:Sig} {d:Nat} {Q:AV→Sig→Prop} (h:Fn0 P f (bgV B::a1) (fun a=>a=bgV C)) (ha:a1=renL [] a2) (hQ:Q (bgV C) σ):ACall P f (bgV B::a2) σ d Q:=
 ACall.val h (by show bgV B::a1=ren [] (bgV B)::renL [] a2;rw[ren_bg,ha]) (ren_bg [] C) hQ
theorem Sizes_c (G:Gm) (h:GOK G):Fn0 Try.prog 25 [gmA G] (fun v=>v= .slc 1 (iR (szL (stepsG G.ds) tb0.bags)) .non):=by
 have hac:=acts_c G h.d24 h.cnt
 have hal:=acts_len G.ds h.cnt
 have hrun:=run_acts h
 have hd24:=h.d24
 have hsz:szL ((actsF G.ds).map spOf) tb0.bags=szL (stepsG G.ds) tb0.bags:=by rw[acts_sp,szL_nrm]
 obtain⟨A,hA⟩:∃A,actsF G.ds=A:=⟨_,rfl⟩
 rw[hA] at hac hal hrun hsz
 rw[←hsz]
 refine RawC.walk (H:=hint25 Try.prog) ir25 Try.func25 rfl rfl rfl ?_
 unfold ir25
 repeat' (first
  | refine advE ?_ | with_reducible refine w_alt ?_ ?_
  | with_reducible refine zI fun y hy=>?_ | refine advL ?_
  | ((with_reducible refine acall_id ?_);refine ACall.val hac rfl rfl ?_)
  | refine adv ?_ | with_reducible (first | intro _ | refine Rt.p (fun _=>?_) fun _=>?_)
  | ((with_reducible apply w_ixM);(focus exact rfl);(focus exact rfl);case' hk=>intro y hy) | ((with_reducible (first | apply w_val | apply q_ends));(focus exact rfl)))
 rename_i g3 g4
 refine w_loopK [4,5] [] (fun x:List Dl×List Dl×List Int×List Int×Nat×List Int×Int=>A=x.1++x.2.1∧x.2.2.2.1++szL (x.2.1.map spOf) x.2.2.2.2.2.1=szL (A.map spOf) tb0.bags∧x.2.2.2.1.length≤x.1.length∧tbIn x.2.2.2.2.2.1 x.2.2.2.2.2.2∧runOK G.ws.length (x.2.1.map spOf) x.2.2.2.2.2.1 x.2.2.2.2.2.2∧bgT G.ws.length x.2.2.2.2.2.1 x.2.2.1) (fun x=>x.2.1.length)
  (fun x=>[(6,.int .i64 (x.1.length:Int)),(3,.slc 1 (iR x.2.2.2.1) (.own 3 x.2.2.2.2.1))]) (fun x=>[(4,(g4,.row (nI x.2.2.1))),(3,(x.2.2.2.2.1,.row []))]) ([],A,bg0,[],g3,tb0.bags,tb0.mixed) ⟨rfl,rfl,Nat.le_refl _,tb0_in,hrun,bgT0 _⟩ ⟨rfl,rfl,trivial⟩ ⟨rfl,rfl,trivial⟩ ?_
 rintro⟨pre,post,B,out,g,b,m⟩ ⟨hl,he,ho,ht,hr,hB⟩ e σ
 dsimp only at hl he ho ht hr hB ⊢
 have hlen:=congrArg List.length hl
 rw[List.length_append] at hlen
 have hol:(iR out).length=out.length:=List.length_map _
 have hBl:=hB.l
 have hin:=hB.bgin ht
 cases post with
 | nil=>
   simp only[List.length_nil] at hlen
   rw[show szL (List.map spOf []) b=[] from rfl,List.append_nil] at he
   rw[←he]
   repeat' (first
    | refine advE ?_ | with_reducible refine w_alt ?_ ?_
    | with_reducible refine zI fun y hy=>?_ | refine advL ?_
    | refine adv ?_ | with_reducible (first | intro _ | refine Rt.p (fun _=>?_) fun _=>?_)
    | ((with_reducible apply w_ixM);(focus exact rfl);(focus exact rfl);case' hk=>intro y hy) | ((with_reducible (first | apply w_val | apply q_ends));(focus exact rfl)))
   all_goals first
    | (exfalso;omega)
    | rfl
 | cons d post=>
   simp only[List.length_cons] at hlen
   have hx:=hr.1
   have hds:=rdraws_c d
   cases hdb:drawsB d with
   | true=>
     rw[hdb] at hds
     obtain⟨hb,ha⟩:=hx.d hdb
     have hsz1:=hB.size hb
     have hle:=ht.le hb
     have hsm:=ht.sm
     have hm:=ht.m
     change 0≤d.bag∧d.bag≤3 at hb
     change 1≤atI b d.bag at ha
     change bgSize B d.bag=atI b d.bag at hsz1
     change atI b d.bag≤sumB b at hle
     have hs1:=rsize_c B hin d.bag hb
     have hp0:0≤(0:Int)∧(0:Int)<bgSize B d.bag:=by omega
     obtain⟨hq,hq2⟩:=pickW_ok hp0.1 hp0.2
     have hs2:=rwood_c B hin d.bag 0 hb hp0 (by decide)
     have hs3:=rwithout_c B hin d.bag (pickW B d.bag 0) hb hq
     have hB2:=hB.draw ht.l h.n6 hb hq hq2
     have hbe:spB (spOf d) b=setI b d.bag (atI b d.bag+ -1):=by unfold spB;rw[if_pos (show (spOf d).2.1=true from hdb)];rfl
     rw[←hbe] at hB2
     have hdl:=hB2.l
     have he1:out++(bgSize B d.bag::szL (post.map spOf) (spB (spOf d) b))=szL (A.map spOf) tb0.bags:=by
      rw[←he,List.map_cons,szL,if_pos (show (spOf d).2.1=true from hdb),hsz1];rfl
     repeat' (first
      | refine advE ?_ | with_reducible refine w_alt ?_ ?_
      | (first | refine w_ixP (f:=fun d:Dl=>[AV.int .i64 d.kind,.int .i64 d.bag,.int .i64 d.other,.int .i64 d.wood,.int .i64 d.count]) hl rfl rfl ?_ | refine w_ldN rfl rfl hBl ?_ | refine w_chkN rfl rfl hBl rfl ?_ | refine w_stN rfl rfl (by rw[List.length_map];exact hBl) rfl hdl ?_)
      | with_reducible refine zI fun y hy=>?_ | refine advL ?_
      | ((with_reducible refine acall_id ?_);refine ACall.val hds rfl rfl ?_)
      | ((with_reducible refine acall_id ?_);refine ACall.bg2i hs1 rfl ?_)
      | ((with_reducible refine acall_id ?_);refine ACall.bg2i hs2 rfl ?_)
      | ((with_reducible refine acall_id ?_);refine ACall.bg2b hs3 rfl ?_)
      | refine adv ?_ | with_reducible (first | intro _ | refine Rt.p (fun _=>?_) fun _=>?_)
      | ((with_reducible apply w_ixM);(focus exact rfl);(focus exact rfl);case' hk=>intro y hy) | ((with_reducible (first | apply w_val | apply q_ends));(focus exact rfl)))
     all_goals try (exfalso;omega)
     all_goals
      rename_i g5
      exact q_loop (pre++[d],post,drawB B d.bag (pickW B d.bag 0),out++[bgSize B d.bag],g5,spB (spOf d) b,spM (spOf d) m) ⟨by rw[hl];simp,by rw[←he1];simp,by dsimp only;rw[len_snoc,len_snoc];omega,(ht.step hx).1,hr.2,hB2⟩ (Nat.lt_succ_self _) ⟨by rw[len_snoc];rfl,rfl,trivial⟩ (by repeat' (first | exact slots_nil | apply slots_cons | rfl | (rw[map_snoc];rfl) | (rw[len_snoc];rfl) | (rw[hS];rfl) | (rw[hS,map_snoc];rfl) | (refine int_eq ?_;(try dsimp only);omega) | (refine congrArg AV.bool ?_;simp_all;done))) (by repeat' (first | exact kept_nil | apply kept_cons | rfl)) (by repeat' (first | exact kept_nil | apply kept_cons | rfl))
   | false=>
     rw[hdb] at hds
     have hm:=ht.m
     have hn6:=h.n6
     have hs1:=rready_c d B hin (fun h2=>by obtain⟨q1,q2,q3,q4⟩:=hx.h2 hdb h2;change 0≤d.wood∧d.wood<_ at q2;change 1≤d.count at q3;change m+d.count≤12 at q4;exact⟨q1,by omega,by omega⟩) (fun h3=>hx.h3 hdb h3)
     have hB2:=hB.mix ht.l h.n6 hx hdb
     have hdl:(mixedB d B).length=24:=hB2.l
     have he1:out++szL (post.map spOf) (spB (spOf d) b)=szL (A.map spOf) tb0.bags:=by
      rw[←he,List.map_cons,szL,if_neg (show ¬(spOf d).2.1=true by show ¬drawsB d=true;rw[hdb];decide)]
     repeat' (first
      | refine advE ?_ | with_reducible refine w_alt ?_ ?_
      | (first | refine w_ixP (f:=fun d:Dl=>[AV.int .i64 d.kind,.int .i64 d.bag,.int .i64 d.other,.int .i64 d.wood,.int .i64 d.count]) hl rfl rfl ?_ | refine w_ldN rfl rfl hBl ?_ | refine w_chkN rfl rfl hBl rfl ?_ | refine w_stN rfl rfl (by rw[List.length_map];exact hBl) rfl hdl ?_)
      | with_reducible refine zI fun y hy=>?_ | refine advL ?_
      | ((with_reducible refine acall_id ?_);refine ACall.val hds rfl rfl ?_)
      | ((with_reducible refine acall_id ?_);refine ACall.bgbg hs1 rfl ?_)
      | refine adv ?_ | with_reducible (first | intro _ | refine Rt.p (fun _=>?_) fun _=>?_)
      | ((with_reducible apply w_ixM);(focus exact rfl);(focus exact rfl);case' hk=>intro y hy) | ((with_reducible (first | apply w_val | apply q_ends));(focus exact rfl)))
     all_goals first
      | (exfalso;omega)
      | exact q_loop (pre++[d],post,mixedB d B,out,g,spB (spOf d) b,spM (spOf d) m) ⟨by rw[hl];simp,he1,by dsimp only;rw[len_snoc];omega,(ht.step hx).1,hr.2,hB2⟩ (Nat.lt_succ_self _) ⟨by rw[len_snoc];rfl,rfl,trivial⟩ (by repeat' (first | exact slots_nil | apply slots_cons | rfl | (rw[map_snoc];rfl) | (rw[len_snoc];rfl) | (rw[hS];rfl) | (rw[hS,map_snoc];rfl) | (refine int_eq ?_;(try dsimp only);omega) | (refine congrArg AV.bool ?_;simp_all;done))) (by repeat' (first | exact kept_nil | apply kept_cons | rfl)) (by repeat' (first | exact kept_nil | apply kept_cons | rfl))
theorem fct_mono:∀{j k:Nat},j≤k→fct j≤fct k:=by
 intro j k h
 induction k with
 | zero=>rw[Nat.le_zero.1 h];exact Int.le_refl _
 | succ k ih=>
   by_cases e:j=k+1
   · rw[e];exact Int.le_refl _
   · have:=ih (by omega)
     have hp:=fct_pos k
     have:1*fct k≤((k+1:Nat):Int)*fct k:=Int.mul_le_mul_of_nonneg_right (by omega) (by omega)
     show fct j≤((k+1:Nat):Int)*fct k
     omega
theorem szP_bd {n:Nat} {l:List Sp} {b:List Int} {m:Int} (ht:tbIn b m) (h:runOK n l b m):1≤szP l b∧szP l b≤479001600:=by
 have h1:=szP_le ht h
 have hs:=ht.sm
 have hm:=ht.m
 have h2:=fct_mono (show (sumB b+12-m).toNat≤12 by omega)
 rw[fct12] at h2
 exact⟨szP_pos h,by omega⟩
section
variable {x:Sp} {r:List Sp} {B c:List Int} {w:Int}
theorem cntP_dn (h:x.2.1=true):cntP (x::r) [] B=bgSize B x.1.bag*cntP r [] (drawB B x.1.bag (pickW B x.1.bag 0)):=by
 show (if x.2.1=true then _ else _)=_
 rw[if_pos h]
def cntW (x:Sp) (r:List Sp) (B:List Int) (w:Int) (c:List Int) (v:Int):Int:=if x.2.2=true then (if v=w then bgAt B x.1.bag v*cntP r c (drawB B x.1.bag v) else 0) else bgAt B x.1.bag v*cntP r (w::c) (drawB B x.1.bag v)
theorem cntP_dc (h:x.2.1=true):cntP (x::r) (w::c) B=nSum 6 (cntW x r B w c):=by
 show (if x.2.1=true then _ else _)=_
 rw[if_pos h];rfl
theorem cntP_pn (h:¬x.2.1=true) (h2:x.2.2=true):cntP (x::r) [] B=cntP r [] (mixedB x.1 B):=by
 show (if x.2.1=true then _ else if x.2.2=true then _ else _)=_
 rw[if_neg h,if_pos h2]
theorem cntP_pc (h:¬x.2.1=true) (h2:x.2.2=true):cntP (x::r) (w::c) B=if w=x.1.wood then cntP r c (mixedB x.1 B) else 0:=by
 show (if x.2.1=true then _ else if x.2.2=true then _ else _)=_
 rw[if_neg h,if_pos h2]
theorem cntP_m (h:¬x.2.1=true) (h2:¬x.2.2=true):cntP (x::r) c B=cntP r c (mixedB x.1 B):=by
 show (if x.2.1=true then _ else if x.2.2=true then _ else _)=_
 rw[if_neg h,if_neg h2]
end
theorem cntP_bd {n:Nat} (hn:n≤6):∀{l:List Sp} {b:List Int} {m:Int} {B:List Int} (c:List Int),tbIn b m→runOK n l b m→bgT n b B→0≤cntP l c B∧cntP l c B≤szP l b
 | [],_,_,_,c,_,_,_=>by
   show 0≤(1:Int)∧(1:Int)≤1
   decide
 | x::r,b,m,B,c,ht,hr,hB=>by
   have hx:=hr.1
   have ht2:=(ht.step hx).1
   have hz:=szP_pos hr.2
   rw[szP]
   by_cases hd:x.2.1=true
   · obtain⟨hb,ha⟩:=hx.d hd
     have hs:=hB.size hb
     have e:spB x b=setI b x.1.bag (atI b x.1.bag+ -1):=by unfold spB;rw[if_pos hd]
     rw[if_pos hd]
     have hdr:∀(v:Int) (c:List Int),0≤v→v≤5→0≤bgAt B x.1.bag v*cntP r c (drawB B x.1.bag v)∧bgAt B x.1.bag v*cntP r c (drawB B x.1.bag v)≤bgAt B x.1.bag v*szP r (spB x b):=fun v c hv hv5=>by
      by_cases h0:bgAt B x.1.bag v=0
      · rw[h0,Int.zero_mul,Int.zero_mul];exact⟨Int.le_refl _,Int.le_refl _⟩
      · have hp:=bgAt_nn hB.nn x.1.bag v
        have hB2:=hB.draw ht.l hn hb (w:=v) ⟨hv,hv5⟩ (by omega)
        obtain⟨i1,i2⟩:=cntP_bd hn c ht2 hr.2 (by rw[e];exact hB2)
        exact⟨Int.mul_nonneg hp i1,Int.mul_le_mul_of_nonneg_left i2 hp⟩
     cases c with
     | nil=>
       rw[cntP_dn hd,hs]
       obtain⟨hp,hq⟩:=pickW_ok (B:=B) (i:=x.1.bag) (p:=0) (Int.le_refl _) (by rw[hs];omega)
       have hB2:=hB.draw ht.l hn hb hp hq
       obtain⟨i1,i2⟩:=cntP_bd hn [] ht2 hr.2 (by rw[e];exact hB2)
       exact⟨Int.mul_nonneg (by omega) i1,Int.mul_le_mul_of_nonneg_left i2 (by omega)⟩
     | cons w c=>
       rw[cntP_dc hd]
       have hF:∀k:Nat,k<6→0≤cntW x r B w c k∧cntW x r B w c k≤bgAt B x.1.bag k*szP r (spB x b):=fun k hk=>by
        unfold cntW
        have hbn:=bgAt_nn hB.nn x.1.bag k
        split
        · split
          · exact hdr k c (by omega) (by omega)
          · exact⟨Int.le_refl _,Int.mul_nonneg hbn (by omega)⟩
        · exact hdr k (w::c) (by omega) (by omega)
       refine⟨nSum_nn fun k hk=>(hF k hk).1,?_⟩
       have hle:∀j:Nat,j≤6→nSum j (cntW x r B w c)≤nSum j fun v=>bgAt B x.1.bag v*szP r (spB x b):=by
        intro j
        induction j with
        | zero=>intro _;exact Int.le_refl _
        | succ j ih=>
          intro hj
          have:=ih (by omega)
          have:=(hF j (by omega)).2
          rw[nSum,nSum];omega
       have h6:=hle 6 (Nat.le_refl _)
       rw[nSum_mulr,hB.s x.1.bag hb] at h6
       exact h6
   · have hdf:x.2.1=false:=by simpa using hd
     have hB2:=hB.mix ht.l hn hx hdf
     rw[if_neg hd,Int.one_mul]
     by_cases hc:x.2.2=true
     · cases c with
       | nil=>rw[cntP_pn hd hc];exact cntP_bd hn [] ht2 hr.2 hB2
       | cons w c=>
         rw[cntP_pc hd hc]
         split
         · exact cntP_bd hn c ht2 hr.2 hB2
         · exact⟨Int.le_refl _,by omega⟩
     · rw[cntP_m hd hc];exact cntP_bd hn c ht2 hr.2 hB2
theorem cntW_bd {n:Nat} (hn:n≤6) {x:Sp} {r:List Sp} {b:List Int} {m:Int} {B:List Int} (ht:tbIn b m) (hr:runOK n (x::r) b m) (hB:bgT n b B) (hd:x.2.1=true) (w:Int) (c:List Int):(∀k:Nat,k<6→0≤cntW x r B w c k)∧ ∀k:Nat,k≤6→0≤nSum k (cntW x r B w c)∧nSum k (cntW x r B w c)≤479001600:=by
 have hx:=hr.1
 obtain⟨hb,ha⟩:=hx.d hd
 have ht2:=(ht.step hx).1
 have e:spB x b=setI b x.1.bag (atI b x.1.bag+ -1):=by unfold spB;rw[if_pos hd]
 have hF:∀k:Nat,k<6→0≤cntW x r B w c k:=fun k hk=>by
  have hdr:∀(c:List Int),0≤bgAt B x.1.bag k*cntP r c (drawB B x.1.bag k):=fun c=>by
   by_cases h0:bgAt B x.1.bag k=0
   · rw[h0,Int.zero_mul];exact Int.le_refl _
   · have hp:=bgAt_nn hB.nn x.1.bag k
     have hB2:=hB.draw ht.l hn hb (w:=(k:Int)) (by omega) (by omega)
     exact Int.mul_nonneg hp (cntP_bd hn c ht2 hr.2 (by rw[e];exact hB2)).1
  unfold cntW
  split
  · split
    · exact hdr c
    · exact Int.le_refl _
  · exact hdr _
 refine⟨hF,fun k hk=>⟨nSum_nn fun j hj=>hF j (by omega),?_⟩⟩
 have h1:=nSum_mono (n:=6) hF hk
 have h2:=(cntP_bd hn (w::c) ht hr hB).2
 rw[cntP_dc hd] at h2
 have:=(szP_bd ht hr).2
 omega
def ir92:IFn:=
 ⟨123,[(6,none)],(.seq (.ops [oo 4 (.box 24 1),
 oo 6 (.mov (kI 0))])
 (.seq (.seq (.ops [oo 11 (.mov 0),
 oo 12 (.len false 11),
 oo 13 (.bin .eql 12 (kI 0))])
 (.cnd 13
 (.seq (.ops [oo 6 (.mov (kI 1))])
 .ret)
 .skip))
 (.seq (.ops [oo 14 (.mov 0),
 oo 15 (.ixA 5 14 (kI 0)),
 oo 16 (.ld 5 true 15),
 oo 7 (.new [(.int .i64 0),(.int .i64 0),(.int .i64 0),(.int .i64 0),(.int .i64 0)]),
 ⟨none,none,(.st 5 7 16)⟩])
 (.seq (.blk 0 (.seq (.ops [oo 18 (.ld 5 true 7),
 oo 19 (.callF 60 [18]),
 oo 20 (.not 19),
 oo 21 (.mov 20),
 ⟨(some 22),(some (21,true)),(.flA 0 7)⟩,
 ⟨(some 23),(some (21,true)),(.ld 1 false 22)⟩,
 ⟨(some 24),(some (21,true)),(.bin .neq 23 (kI 6))⟩,
 oo 25 (.pick 21 24 (kB false)),
 oo 17 (.mov 25)])
 (.cnd 17
 (.seq (.ops [oo 26 (.mov 0),
 oo 27 (.slS 5 26 (some (kI 1)) none none),
 oo 28 (.ld 24 true 4),
 oo 29 (.ld 5 true 7),
 oo 31 (.mov 2),
 oo 30 (.callF 64 [28,29]),
 oo 32 (.callF 92 [27,30,31]),
 oo 6 (.mov 32)])
 .ret)
 (.seq (.ops [oo 34 (.flA 0 7),
 oo 35 (.ld 1 false 34),
 oo 36 (.bin .eql 35 (kI 6)),
 oo 37 (.mov 36),
 ⟨(some 38),(some (37,true)),(.mov 2)⟩,
 ⟨(some 39),(some (37,true)),(.len false 38)⟩,
 ⟨(some 40),(some (37,true)),(.bin .eql 39 (kI 0))⟩,
 oo 41 (.pick 37 40 (kB false)),
 oo 33 (.mov 41)])
 (.cnd 33
 (.seq (.ops [oo 42 (.mov 0),
 oo 43 (.slS 5 42 (some (kI 1)) none none),
 oo 44 (.ld 24 true 4),
 oo 45 (.callF 92 [43,44,(.k .nsl)]),
 oo 6 (.mov 45)])
 .ret)
 (.seq (.ops [oo 47 (.flA 0 7),
 oo 48 (.ld 1 false 47),
 oo 49 (.bin .eql 48 (kI 6)),
 oo 46 (.mov 49)])
 (.cnd 46
 (.seq (.seq (.ops [oo 50 (.mov 2),
 oo 51 (.ixA 1 50 (kI 0)),
 oo 52 (.ld 1 false 51),
 oo 53 (.flA 3 7),
 oo 54 (.ld 1 false 53),
 oo 55 (.bin .neq 52 54)])
 (.cnd 55
 (.seq (.ops [oo 6 (.mov (kI 0))])
 .ret)
 .skip))
 (.seq (.ops [oo 56 (.mov 0),
 oo 57 (.slS 5 56 (some (kI 1)) none none),
 oo 58 (.ld 24 true 4),
 oo 59 (.mov 2),
 oo 60 (.slS 1 59 (some (kI 1)) none none),
 oo 61 (.callF 92 [57,58,60]),
 oo 6 (.mov 61)])
 .ret))
 (.seq (.ops [oo 63 (.mov 2),
 oo 64 (.len false 63),
 oo 65 (.bin .eql 64 (kI 0)),
 oo 62 (.mov 65)])
 (.cnd 62
 (.seq (.ops [oo 66 (.ld 24 true 4),
 oo 67 (.flA 1 7),
 oo 68 (.ld 1 false 67),
 oo 70 (.mov 0),
 oo 71 (.slS 5 70 (some (kI 1)) none none),
 oo 72 (.ld 24 true 4),
 oo 73 (.flA 1 7),
 oo 74 (.ld 1 false 73),
 oo 75 (.ld 24 true 4),
 oo 76 (.flA 1 7),
 oo 77 (.ld 1 false 76),
 oo 69 (.callF 61 [66,68]),
 ⟨none,none,(.chk 24 true 4 72)⟩,
 ⟨none,none,(.chk 1 false 73 74)⟩,
 ⟨none,none,(.chk 24 true 4 75)⟩,
 ⟨none,none,(.chk 1 false 76 77)⟩,
 oo 78 (.callF 63 [75,77,(kI 0)]),
 ⟨none,none,(.chk 24 true 4 72)⟩,
 ⟨none,none,(.chk 1 false 73 74)⟩,
 oo 79 (.callF 62 [72,74,78]),
 oo 80 (.callF 92 [71,79,(.k .nsl)]),
 oo 81 (.bin .mul 69 80),
 oo 6 (.mov 81)])
 .ret)
 .skip)))))))))
 (.seq (.ops [oo 8 (.mov (kI 0))])
 (.seq (.seq (.ops [oo 9 (.mov (kI 0))])
 (.blk 1 (.loop (.seq (.seq (.ops [oo 82 (.mov 9),
 oo 83 (.bin .lss 82 (kI 6))])
 (.cnd 83
 .skip
 (.exit 1)))
 (.seq (.blk 2 (.seq (.seq (.ops [oo 86 (.flA 1 7),
 oo 87 (.ld 1 false 86),
 oo 88 (.mov 9),
 oo 89 (.ixAr 4 6 4 87),
 oo 90 (.ixAr 6 1 89 88),
 oo 91 (.ld 1 false 90),
 oo 92 (.bin .eql 91 (kI 0))])
 (.cnd 92
 (.exit 2)
 .skip))
 (.seq (.ops [oo 93 (.mov 2),
 oo 10 (.mov 93)])
 (.seq (.seq (.ops [oo 94 (.flA 0 7),
 oo 95 (.ld 1 false 94),
 oo 96 (.bin .eql 95 (kI 5))])
 (.cnd 96
 (.seq (.seq (.ops [oo 97 (.mov 9),
 oo 98 (.mov 2),
 oo 99 (.ixA 1 98 (kI 0)),
 oo 100 (.ld 1 false 99),
 oo 101 (.bin .neq 97 100)])
 (.cnd 101
 (.exit 2)
 .skip))
 (.ops [oo 102 (.mov 2),
 oo 103 (.slS 1 102 (some (kI 1)) none none),
 oo 10 (.mov 103)]))
 .skip))
 (.ops [oo 104 (.mov 8),
 oo 105 (.flA 1 7),
 oo 106 (.ld 1 false 105),
 oo 107 (.mov 9),
 oo 108 (.ixAr 4 6 4 106),
 oo 109 (.ixAr 6 1 108 107),
 oo 110 (.ld 1 false 109),
 oo 111 (.mov 0),
 oo 112 (.slS 5 111 (some (kI 1)) none none),
 oo 113 (.ld 24 true 4),
 oo 114 (.flA 1 7),
 oo 115 (.ld 1 false 114),
 oo 116 (.mov 9),
 oo 118 (.mov 10),
 oo 117 (.callF 62 [113,115,116]),
 ⟨none,none,(.chk 1 false 105 106)⟩,
 ⟨none,none,(.chk 1 false 109 110)⟩,
 oo 119 (.callF 92 [112,117,118]),
 ⟨none,none,(.chk 1 false 105 106)⟩,
 ⟨none,none,(.chk 1 false 109 110)⟩,
 oo 120 (.bin .mul 110 119),
 oo 121 (.bin .add 104 120),
 oo 8 (.mov 121)])))))
 (.ops [oo 84 (.mov 9),
 oo 85 (.bin .add 84 (kI 1)),
 oo 9 (.mov 85)]))))))
 (.seq (.ops [oo 122 (.mov 8),
 oo 6 (.mov 122)])
 .ret)))))))⟩
def hint92 (P:Program):Hint:={}
def CV (a:AV) (c:List Int):Prop:=(a= .nsl∧c=[])∨a= .slc 1 (iR c) .non
section
variable {P:Program} {K:(Nat→AV)→Sig→Prop} {e:Nat→AV} {σ:Sig} {x h:IOpd} {r:List IStep}
theorem w_slT {α:Type} {f:α→List AV} {l:List α} {p:α} {d sz:Nat} {t:Tag} (hx:x.ev e= .slc sz ((p::l).map f) t) (hk:stepsW P r K (upd e d (.slc sz (l.map f) .non)) σ):stepsW P (⟨some d,none,.slS sz x (some (.k (.int .i64 1))) none none⟩::r) K e σ:=by
 refine w_slM (a:=1) (b:=((p::l).length:Int)) hx rfl rfl ⟨by decide,by rw[List.length_cons];omega,Int.le_refl _⟩ ?_
 have e1:((p::l).drop (1:Int).toNat).take (((p::l).length:Int)-1).toNat=l:=by
  show l.take _=l
  exact List.take_of_length_le (by rw[List.length_cons];omega)
 rw[e1];exact hk
theorem w_chkAt {i g off t:Nat} {cs:List AV} {a:AV} (hx:x.ev e= .ref i g off) (hσ:σ i=(g,.row cs)) (hc:cs[off]?=some a) (hf:forceA a=some a) (ht:e t=a)
  (hk:stepsW P r K e σ):stepsW P (⟨none,none,.chk 1 false x t⟩::r) K e σ:=by
 refine w_det0 (p:=(g=g∧True)∧a=e t) (v:= .junk) (σ':=σ) (fun _=>?_) ⟨⟨rfl,trivial⟩,ht.symm⟩ hk
 show (match ldO 1 false σ (x.ev e) with
  | some (p,v)=>some (p∧v=e t,AV.junk,σ)
  | none=>none)=_
 rw[hx]
 simp only[ldO,hσ,partO,hc,hf,liftV,okV]
theorem w_chkEl {i g off t p:Nat} {B:List Int} (hx:x.ev e= .ref i g off) (ho:off=p) (hσ:σ i=(g,.row (nI B))) (hp:p<B.length) (ht:e t= .int .i64 (B.getD p 0)) (hk:stepsW P r K e σ):stepsW P (⟨none,none,.chk 1 false x t⟩::r) K e σ:=
 w_chkAt hx hσ (by rw[ho];exact nI_get hp) rfl ht hk
end
theorem rcount_c (n:Nat) (hn:n≤6):∀(A:List Dl) (b:List Int) (m:Int) (B c:List Int) (a:AV),CV a c→tbIn b m→runOK n (A.map spOf) b m→bgT n b B→A.length<1000→c.length<1000→Fn0 Try.prog 92 [.slc 5 (dlR A) .non,bgV B,a] (fun v=>v= .int .i64 (cntP (A.map spOf) c B))
 | [],b,m,B,c,a,hc,ht,hr,hB,hA,hcl=>by
   have hz:([]:List Dl).length=0:=rfl
   have hl:=hB.l
   rcases hc with⟨rfl,rfl⟩ | rfl
   all_goals
    refine RawC.walk (H:=hint92 Try.prog) ir92 Try.func92 rfl rfl rfl ?_
    unfold ir92
    repeat' (first
     | with_reducible (first | refine Rd.p ?_ | refine w_alt ?_ ?_ | refine zE ?_ | refine zE0 ?_)
     | (first | (refine w_boxN rfl hl ?_;intro g2))
     | with_reducible (first | refine zI fun y hy=>?_ | refine zL ?_ | refine zS ?_ | refine zA fun _=>?_ | refine zV ?_ | refine zC ?_ | refine zG ?_ | refine zU ?_ | refine zG0 ?_ | refine zU0 ?_ | refine zF ?_)
     | with_reducible (first | refine zX ?_ | refine zD fun _=>?_ | refine zD0 ?_ | refine zN ?_ | refine zF0 ?_ | refine zX0 ?_ | refine z1 ?_ | refine z2 ?_ | refine z3 ?_ | refine z4 ?_ | refine z5 ?_ | refine z6 ?_ | refine z7 ?_ | refine z8 ?_ | refine y1 ?_ | refine y2 ?_ | refine y3 ?_ | refine y4 ?_ | refine y5 ?_ | refine y6 ?_ | refine y7 ?_ | refine y8 ?_ | refine Rt.p (fun _=>?_) fun _=>?_)
     | ((with_reducible apply w_ixM);(focus exact rfl);(focus exact rfl);case' hk=>intro y hy) | ((with_reducible (first | apply w_val | apply q_ends));(focus exact rfl)))
    all_goals first
     | (exfalso;omega)
     | rfl
 | d::A,b,m,B,c,a,hc,ht,hr,hB,hA,hcl=>by
   have hl:=hB.l
   have hin:=hB.bgin ht
   have hx:=hr.1
   have ht2:=(ht.step hx).1
   have hds:=rdraws_c d
   have hm:=ht.m
   have hbd:=cntP_bd hn c ht hr hB
   have hsb:=szP_bd ht hr
   have hsb2:=szP_bd ht2 hr.2
   have hcls:(d::A).length=A.length+1:=rfl
   have hmap:(d::A).map spOf=spOf d::A.map spOf:=rfl
   rw[hmap] at hbd hsb ⊢
   have hs1:(spOf d).2.1=drawsB d:=rfl
   have hs2:(spOf d).2.2=(decide (d.kind=5) || decide (d.kind=6)):=rfl
   cases hdb:drawsB d with
   | false=>
     have hk:¬(d.kind=4∨d.kind=5):=by simpa[drawsB] using hdb
     have hnd:¬(spOf d).2.1=true:=by rw[hs1,hdb];decide
     rw[hdb] at hds
     have hB2:=hB.mix ht.l hn hx (by rw[hs1,hdb])
     by_cases h6:d.kind=6
     · have hce:(spOf d).2.2=true:=by rw[hs2];simp[h6]
       have hmx:mixedB (spOf d).1 B=B:=by show mixedB d B=B;unfold mixedB;rw[if_neg (by omega),if_neg (by omega)]
       rw[hmx] at hB2
       cases c with
       | nil=>
         rw[cntP_pn hnd hce,hmx]
         have ih:=rcount_c n hn A _ _ B [] .nsl (.inl ⟨rfl,rfl⟩) ht2 hr.2 hB2 (by omega) hcl
         have hz:([]:List Int).length=0:=rfl
         rcases hc with⟨rfl,-⟩ | rfl
         all_goals
          refine RawC.walk (H:=hint92 Try.prog) ir92 Try.func92 rfl rfl rfl ?_
          unfold ir92
          repeat' (first
           | with_reducible (first | refine Rd.p ?_ | refine w_alt ?_ ?_ | refine zE ?_ | refine zE0 ?_)
           | (first | (refine w_boxN rfl hl ?_;intro g2) | refine w_ixP (f:=fun d:Dl=>[AV.int .i64 d.kind,.int .i64 d.bag,.int .i64 d.other,.int .i64 d.wood,.int .i64 d.count]) (l:=d::A) (pre:=[]) (y:=d) (post:=A) rfl rfl rfl ?_ | refine w_ldN rfl rfl hl ?_ | refine w_slT (f:=fun d:Dl=>[AV.int .i64 d.kind,.int .i64 d.bag,.int .i64 d.other,.int .i64 d.wood,.int .i64 d.count]) rfl ?_)
           | with_reducible (first | refine zI fun y hy=>?_ | refine zL ?_ | refine zS ?_ | refine zA fun _=>?_ | refine zV ?_ | refine zC ?_ | refine zG ?_ | refine zU ?_ | refine zG0 ?_ | refine zU0 ?_ | refine zF ?_)
           | ((with_reducible refine acall_id ?_);refine ACall.val hds rfl rfl ?_)
           | ((with_reducible refine acall_id ?_);refine ACall.cnt ih rfl rfl ?_)
           | with_reducible (first | refine zX ?_ | refine zD fun _=>?_ | refine zD0 ?_ | refine zN ?_ | refine zF0 ?_ | refine zX0 ?_ | refine z1 ?_ | refine z2 ?_ | refine z3 ?_ | refine z4 ?_ | refine z5 ?_ | refine z6 ?_ | refine z7 ?_ | refine z8 ?_ | refine y1 ?_ | refine y2 ?_ | refine y3 ?_ | refine y4 ?_ | refine y5 ?_ | refine y6 ?_ | refine y7 ?_ | refine y8 ?_ | refine Rt.p (fun _=>?_) fun _=>?_)
           | ((with_reducible apply w_ixM);(focus exact rfl);(focus exact rfl);case' hk=>intro y hy) | ((with_reducible (first | apply w_val | apply q_ends));(focus exact rfl)))
          all_goals first
           | (exfalso;omega)
           | rfl
       | cons w c=>
         rw[cntP_pc hnd hce,hmx]
         have ih:=rcount_c n hn A _ _ B c _ (.inr rfl) ht2 hr.2 hB2 (by omega) (by rw[List.length_cons] at hcl;omega)
         rcases hc with⟨-,h⟩ | rfl
         · cases h
         have hz:(iR (w::c)).length=c.length+1:=by rw[List.length_map];rfl
         have hz2:(w::c).length=c.length+1:=rfl
         by_cases hw:w=(spOf d).1.wood
         · rw[if_pos hw]
           change w=d.wood at hw
           refine RawC.walk (H:=hint92 Try.prog) ir92 Try.func92 rfl rfl rfl ?_
           unfold ir92
           repeat' (first
            | with_reducible (first | refine Rd.p ?_ | refine w_alt ?_ ?_ | refine zE ?_ | refine zE0 ?_)
            | (first | (refine w_boxN rfl hl ?_;intro g2) | refine w_ixP (f:=fun d:Dl=>[AV.int .i64 d.kind,.int .i64 d.bag,.int .i64 d.other,.int .i64 d.wood,.int .i64 d.count]) (l:=d::A) (pre:=[]) (y:=d) (post:=A) rfl rfl rfl ?_ | refine w_ixP (f:=fun x:Int=>[AV.int .i64 x]) (l:=w::c) (pre:=[]) (y:=w) (post:=c) rfl rfl rfl ?_ | refine w_ldN rfl rfl hl ?_ | refine w_slT (f:=fun d:Dl=>[AV.int .i64 d.kind,.int .i64 d.bag,.int .i64 d.other,.int .i64 d.wood,.int .i64 d.count]) rfl ?_ | refine w_sl1 rfl ?_)
            | with_reducible (first | refine zI fun y hy=>?_ | refine zL ?_ | refine zS ?_ | refine zA fun _=>?_ | refine zV ?_ | refine zC ?_ | refine zG ?_ | refine zU ?_ | refine zG0 ?_ | refine zU0 ?_ | refine zF ?_)
            | ((with_reducible refine acall_id ?_);refine ACall.val hds rfl rfl ?_)
            | ((with_reducible refine acall_id ?_);refine ACall.cnt ih rfl rfl ?_)
            | with_reducible (first | refine zX ?_ | refine zD fun _=>?_ | refine zD0 ?_ | refine zN ?_ | refine zF0 ?_ | refine zX0 ?_ | refine z1 ?_ | refine z2 ?_ | refine z3 ?_ | refine z4 ?_ | refine z5 ?_ | refine z6 ?_ | refine z7 ?_ | refine z8 ?_ | refine y1 ?_ | refine y2 ?_ | refine y3 ?_ | refine y4 ?_ | refine y5 ?_ | refine y6 ?_ | refine y7 ?_ | refine y8 ?_ | refine Rt.p (fun _=>?_) fun _=>?_)
            | ((with_reducible apply w_ixM);(focus exact rfl);(focus exact rfl);case' hk=>intro y hy) | ((with_reducible (first | apply w_val | apply q_ends));(focus exact rfl)))
           all_goals first
            | (exfalso;omega)
            | rfl
         · rw[if_neg hw]
           change ¬w=d.wood at hw
           refine RawC.walk (H:=hint92 Try.prog) ir92 Try.func92 rfl rfl rfl ?_
           unfold ir92
           repeat' (first
            | with_reducible (first | refine Rd.p ?_ | refine w_alt ?_ ?_ | refine zE ?_ | refine zE0 ?_)
            | (first | (refine w_boxN rfl hl ?_;intro g2) | refine w_ixP (f:=fun d:Dl=>[AV.int .i64 d.kind,.int .i64 d.bag,.int .i64 d.other,.int .i64 d.wood,.int .i64 d.count]) (l:=d::A) (pre:=[]) (y:=d) (post:=A) rfl rfl rfl ?_ | refine w_ixP (f:=fun x:Int=>[AV.int .i64 x]) (l:=w::c) (pre:=[]) (y:=w) (post:=c) rfl rfl rfl ?_ | refine w_ldN rfl rfl hl ?_)
            | with_reducible (first | refine zI fun y hy=>?_ | refine zL ?_ | refine zS ?_ | refine zA fun _=>?_ | refine zV ?_ | refine zC ?_ | refine zG ?_ | refine zU ?_ | refine zG0 ?_ | refine zU0 ?_ | refine zF ?_)
            | ((with_reducible refine acall_id ?_);refine ACall.val hds rfl rfl ?_)
            | with_reducible (first | refine zX ?_ | refine zD fun _=>?_ | refine zD0 ?_ | refine zN ?_ | refine zF0 ?_ | refine zX0 ?_ | refine z1 ?_ | refine z2 ?_ | refine z3 ?_ | refine z4 ?_ | refine z5 ?_ | refine z6 ?_ | refine z7 ?_ | refine z8 ?_ | refine y1 ?_ | refine y2 ?_ | refine y3 ?_ | refine y4 ?_ | refine y5 ?_ | refine y6 ?_ | refine y7 ?_ | refine y8 ?_ | refine Rt.p (fun _=>?_) fun _=>?_)
            | ((with_reducible apply w_ixM);(focus exact rfl);(focus exact rfl);case' hk=>intro y hy) | ((with_reducible (first | apply w_val | apply q_ends));(focus exact rfl)))
           all_goals first
            | (exfalso;omega)
            | rfl
     · have hce:¬(spOf d).2.2=true:=by rw[hs2];simp;omega
       rw[cntP_m hnd hce]
       have hrd:=rready_c d B hin (fun h2=>by obtain⟨q1,q2,q3,q4⟩:=hx.h2 (by rw[hs1,hdb]) h2;change 0≤d.wood∧d.wood<_ at q2;change 1≤d.count at q3;change m+d.count≤12 at q4;exact⟨q1,by omega,by omega⟩) (fun h3=>hx.h3 (by rw[hs1,hdb]) h3)
       have ih:=rcount_c n hn A _ _ (mixedB d B) c _ hc ht2 hr.2 hB2 (by omega) hcl
       have hml:=hB2.l
       change Fn0 Try.prog _ _ (fun v=>v= .int .i64 (cntP (A.map spOf) c (mixedB d B))) at ih
       rcases hc with⟨rfl,-⟩ | rfl
       all_goals
        refine RawC.walk (H:=hint92 Try.prog) ir92 Try.func92 rfl rfl rfl ?_
        unfold ir92
        repeat' (first
         | with_reducible (first | refine Rd.p ?_ | refine w_alt ?_ ?_ | refine zE ?_ | refine zE0 ?_)
         | (first | (refine w_boxN rfl hl ?_;intro g2) | refine w_ixP (f:=fun d:Dl=>[AV.int .i64 d.kind,.int .i64 d.bag,.int .i64 d.other,.int .i64 d.wood,.int .i64 d.count]) (l:=d::A) (pre:=[]) (y:=d) (post:=A) rfl rfl rfl ?_ | refine w_ldN rfl rfl hl ?_ | refine w_slT (f:=fun d:Dl=>[AV.int .i64 d.kind,.int .i64 d.bag,.int .i64 d.other,.int .i64 d.wood,.int .i64 d.count]) rfl ?_)
         | with_reducible (first | refine zI fun y hy=>?_ | refine zL ?_ | refine zS ?_ | refine zA fun _=>?_ | refine zV ?_ | refine zC ?_ | refine zG ?_ | refine zU ?_ | refine zG0 ?_ | refine zU0 ?_ | refine zF ?_)
         | ((with_reducible refine acall_id ?_);refine ACall.val hds rfl rfl ?_)
         | ((with_reducible refine acall_id ?_);refine ACall.bgbg hrd rfl ?_)
         | ((with_reducible refine acall_id ?_);refine ACall.cnt ih rfl rfl ?_)
         | with_reducible (first | refine zX ?_ | refine zD fun _=>?_ | refine zD0 ?_ | refine zN ?_ | refine zF0 ?_ | refine zX0 ?_ | refine z1 ?_ | refine z2 ?_ | refine z3 ?_ | refine z4 ?_ | refine z5 ?_ | refine z6 ?_ | refine z7 ?_ | refine z8 ?_ | refine y1 ?_ | refine y2 ?_ | refine y3 ?_ | refine y4 ?_ | refine y5 ?_ | refine y6 ?_ | refine y7 ?_ | refine y8 ?_ | refine Rt.p (fun _=>?_) fun _=>?_)
         | ((with_reducible apply w_ixM);(focus exact rfl);(focus exact rfl);case' hk=>intro y hy) | ((with_reducible (first | apply w_val | apply q_ends));(focus exact rfl)))
        all_goals first
         | (exfalso;omega)
         | rfl
   | true=>
     rw[hdb] at hds
     have hd:(spOf d).2.1=true:=by rw[hs1,hdb]
     have hk:d.kind=4∨d.kind=5:=by simpa[drawsB] using hdb
     obtain⟨hb,ha⟩:=hx.d hd
     have hsz1:=hB.size hb
     have hle:=ht.le hb
     have hsm:=ht.sm
     change 0≤d.bag∧d.bag≤3 at hb
     change 1≤atI b d.bag at ha
     change bgSize B d.bag=atI b d.bag at hsz1
     change atI b d.bag≤sumB b at hle
     have hbe:spB (spOf d) b=setI b d.bag (atI b d.bag+ -1):=by unfold spB;rw[if_pos hd];rfl
     cases c with
     | nil=>
       have hr1:=rsize_c B hin d.bag hb
       have hp0:0≤(0:Int)∧(0:Int)<bgSize B d.bag:=by omega
       obtain⟨hq,hq2⟩:=pickW_ok hp0.1 hp0.2
       have hr2:=rwood_c B hin d.bag 0 hb hp0 (by decide)
       have hr3:=rwithout_c B hin d.bag (pickW B d.bag 0) hb hq
       have hB2:=hB.draw ht.l hn hb hq hq2
       rw[←hbe] at hB2
       have ih:=rcount_c n hn A _ _ _ [] .nsl (.inl ⟨rfl,rfl⟩) ht2 hr.2 hB2 (by omega) hcl
       rw[cntP_dn hd] at hbd ⊢
       change 0≤bgSize B d.bag*cntP (A.map spOf) [] (drawB B d.bag (pickW B d.bag 0))∧bgSize B d.bag*cntP (A.map spOf) [] (drawB B d.bag (pickW B d.bag 0))≤_ at hbd
       have hz:([]:List Int).length=0:=rfl
       rcases hc with⟨rfl,-⟩ | rfl
       all_goals
        refine RawC.walk (H:=hint92 Try.prog) ir92 Try.func92 rfl rfl rfl ?_
        unfold ir92
        repeat' (first
         | with_reducible (first | refine Rd.p ?_ | refine w_alt ?_ ?_ | refine zE ?_ | refine zE0 ?_)
         | (first | (refine w_boxN rfl hl ?_;intro g2) | refine w_ixP (f:=fun d:Dl=>[AV.int .i64 d.kind,.int .i64 d.bag,.int .i64 d.other,.int .i64 d.wood,.int .i64 d.count]) (l:=d::A) (pre:=[]) (y:=d) (post:=A) rfl rfl rfl ?_ | refine w_ldN rfl rfl hl ?_ | refine w_chkN rfl rfl hl rfl ?_ | refine w_slT (f:=fun d:Dl=>[AV.int .i64 d.kind,.int .i64 d.bag,.int .i64 d.other,.int .i64 d.wood,.int .i64 d.count]) rfl ?_)
         | with_reducible (first | refine zI fun y hy=>?_ | refine zL ?_ | refine zS ?_ | refine zA fun _=>?_ | refine zV ?_ | refine zC ?_ | refine zG ?_ | refine zU ?_ | refine zG0 ?_ | refine zU0 ?_ | refine zF ?_)
         | ((with_reducible refine acall_id ?_);refine ACall.val hds rfl rfl ?_)
         | ((with_reducible refine acall_id ?_);refine ACall.bg2i hr1 rfl ?_)
         | ((with_reducible refine acall_id ?_);refine ACall.bg2i hr2 rfl ?_)
         | ((with_reducible refine acall_id ?_);refine ACall.bg2b hr3 rfl ?_)
         | ((with_reducible refine acall_id ?_);refine ACall.cnt ih rfl rfl ?_)
         | with_reducible (first | refine zX ?_ | refine zD fun _=>?_ | refine zD0 ?_ | refine zN ?_ | refine zF0 ?_ | refine zX0 ?_ | refine z1 ?_ | refine z2 ?_ | refine z3 ?_ | refine z4 ?_ | refine z5 ?_ | refine z6 ?_ | refine z7 ?_ | refine z8 ?_ | refine y1 ?_ | refine y2 ?_ | refine y3 ?_ | refine y4 ?_ | refine y5 ?_ | refine y6 ?_ | refine y7 ?_ | refine y8 ?_ | refine Rt.p (fun _=>?_) fun _=>?_)
         | ((with_reducible apply w_ixM);(focus exact rfl);(focus exact rfl);case' hk=>intro y hy) | ((with_reducible (first | apply w_val | apply q_ends));(focus exact rfl)))
        all_goals first
         | (exfalso;omega)
         | rfl
     | cons w c=>
       rcases hc with⟨-,h⟩ | rfl
       · cases h
       have hz2:(w::c).length=c.length+1:=rfl
       rw[cntP_dc hd]
       obtain⟨hF0,hFb⟩:=cntW_bd hn ht hr hB hd w c
       obtain⟨F,hF⟩:∃F,cntW (spOf d) (A.map spOf) B w c=F:=⟨_,rfl⟩
       rw[hF] at hF0 hFb ⊢
       have hFv:∀v:Nat,F v=if d.kind=5 then (if (v:Int)=w then bgAt B d.bag v*cntP (A.map spOf) c (drawB B d.bag v) else 0) else bgAt B d.bag v*cntP (A.map spOf) (w::c) (drawB B d.bag v):=fun v=>by
        rw[←hF]
        unfold cntW
        rw[hs2]
        by_cases h5:d.kind=5
        · rw[if_pos h5,if_pos (by simp[h5])];rfl
        · rw[if_neg h5,if_neg (by simp;omega)];rfl
       refine RawC.walk (H:=hint92 Try.prog) ir92 Try.func92 rfl rfl rfl ?_
       unfold ir92
       repeat' (first
        | with_reducible (first | refine Rd.p ?_ | refine w_alt ?_ ?_ | refine zE ?_ | refine zE0 ?_)
        | (first | (refine w_boxN rfl hl ?_;intro g2) | refine w_ixP (f:=fun d:Dl=>[AV.int .i64 d.kind,.int .i64 d.bag,.int .i64 d.other,.int .i64 d.wood,.int .i64 d.count]) (l:=d::A) (pre:=[]) (y:=d) (post:=A) rfl rfl rfl ?_ | refine w_ixP (f:=fun x:Int=>[AV.int .i64 x]) (l:=w::c) (pre:=[]) (y:=w) (post:=c) rfl rfl rfl ?_ | refine w_ldN rfl rfl hl ?_ | refine w_chkN rfl rfl hl rfl ?_ | refine w_slT (f:=fun d:Dl=>[AV.int .i64 d.kind,.int .i64 d.bag,.int .i64 d.other,.int .i64 d.wood,.int .i64 d.count]) rfl ?_ | refine w_sl1 rfl ?_)
        | with_reducible (first | refine zI fun y hy=>?_ | refine zL ?_ | refine zS ?_ | refine zA fun _=>?_ | refine zV ?_ | refine zC ?_ | refine zG ?_ | refine zU ?_ | refine zG0 ?_ | refine zU0 ?_ | refine zF ?_)
        | ((with_reducible refine acall_id ?_);refine ACall.val hds rfl rfl ?_)
        | with_reducible (first | refine zX ?_ | refine zD fun _=>?_ | refine zD0 ?_ | refine zN ?_ | refine zF0 ?_ | refine zX0 ?_ | refine z1 ?_ | refine z2 ?_ | refine z3 ?_ | refine z4 ?_ | refine z5 ?_ | refine z6 ?_ | refine z7 ?_ | refine z8 ?_ | refine y1 ?_ | refine y2 ?_ | refine y3 ?_ | refine y4 ?_ | refine y5 ?_ | refine y6 ?_ | refine y7 ?_ | refine y8 ?_ | refine Rt.p (fun _=>?_) fun _=>?_)
        | ((with_reducible apply w_ixM);(focus exact rfl);(focus exact rfl);case' hk=>intro y hy) | ((with_reducible (first | apply w_val | apply q_ends));(focus exact rfl)))
       all_goals try (exfalso;omega)
       refine w_loopK [0,2,4,7] [4,7] (fun v:Nat=>v≤6) (fun v=>6-v) (fun v=>[(9,.int .i64 (v:Int)),(8,.int .i64 (nSum v F))]) (fun _=>[]) 0 (Nat.zero_le _) ⟨rfl,rfl,trivial⟩ trivial ?_
       rintro v hv e σ
       try dsimp only at hv ⊢
       by_cases hv6:v=6
       · subst hv6
         repeat' (first
          | with_reducible (first | refine Rd.p ?_ | refine w_alt ?_ ?_ | refine zE ?_ | refine zE0 ?_)
          | with_reducible (first | refine zI fun y hy=>?_ | refine zL ?_ | refine zS ?_ | refine zA fun _=>?_ | refine zV ?_ | refine zC ?_ | refine zG ?_ | refine zU ?_ | refine zG0 ?_ | refine zU0 ?_ | refine zF ?_)
          | with_reducible (first | refine zX ?_ | refine zD fun _=>?_ | refine zD0 ?_ | refine zN ?_ | refine zF0 ?_ | refine zX0 ?_ | refine z1 ?_ | refine z2 ?_ | refine z3 ?_ | refine z4 ?_ | refine z5 ?_ | refine z6 ?_ | refine z7 ?_ | refine z8 ?_ | refine y1 ?_ | refine y2 ?_ | refine y3 ?_ | refine y4 ?_ | refine y5 ?_ | refine y6 ?_ | refine y7 ?_ | refine y8 ?_ | refine Rt.p (fun _=>?_) fun _=>?_)
          | ((with_reducible apply w_ixM);(focus exact rfl);(focus exact rfl);case' hk=>intro y hy) | ((with_reducible (first | apply w_val | apply q_ends));(focus exact rfl)))
         all_goals first
          | (exfalso;omega)
          | rfl
       have hfv:=hFv v
       have hb1:=hFb v (by omega)
       have hb2:=hFb (v+1) (by omega)
       have hb3:=hF0 v (by omega)
       have hsuc:nSum (v+1) F=nSum v F+F v:=rfl
       have hat:=hin.at (d.bag.toNat*6+v)
       have ho:0+d.bag.toNat*6+v*1=d.bag.toNat*6+v:=by omega
       have hpl2:d.bag.toNat*6+v<B.length:=by omega
       have hbv:bgAt B d.bag v=B.getD (d.bag.toNat*6+v) 0:=rfl
       rw[hbv] at hfv
       by_cases h0:B.getD (d.bag.toNat*6+v) 0=0
       · have hz0:F v=0:=by
          rw[hfv,h0]
          simp only[Int.zero_mul]
          split
          · split<;>rfl
          · rfl
         repeat' (first
          | with_reducible (first | refine Rd.p ?_ | refine w_alt ?_ ?_ | refine zE ?_ | refine zE0 ?_)
          | (first | (refine w_boxN rfl hl ?_;intro g2) | refine w_ixP (f:=fun d:Dl=>[AV.int .i64 d.kind,.int .i64 d.bag,.int .i64 d.other,.int .i64 d.wood,.int .i64 d.count]) (l:=d::A) (pre:=[]) (y:=d) (post:=A) rfl rfl rfl ?_ | refine w_ixP (f:=fun x:Int=>[AV.int .i64 x]) (l:=w::c) (pre:=[]) (y:=w) (post:=c) rfl rfl rfl ?_ | refine w_ldN rfl rfl hl ?_ | refine w_chkN rfl rfl hl rfl ?_ | refine w_slT (f:=fun d:Dl=>[AV.int .i64 d.kind,.int .i64 d.bag,.int .i64 d.other,.int .i64 d.wood,.int .i64 d.count]) rfl ?_ | refine w_sl1 rfl ?_ | refine w_ldEl rfl ho rfl hpl2 ?_ | refine w_chkEl rfl ho rfl hpl2 rfl ?_)
          | with_reducible (first | refine zI fun y hy=>?_ | refine zL ?_ | refine zS ?_ | refine zA fun _=>?_ | refine zV ?_ | refine zC ?_ | refine zG ?_ | refine zU ?_ | refine zG0 ?_ | refine zU0 ?_ | refine zF ?_)
          | with_reducible (first | refine zX ?_ | refine zD fun _=>?_ | refine zD0 ?_ | refine zN ?_ | refine zF0 ?_ | refine zX0 ?_ | refine z1 ?_ | refine z2 ?_ | refine z3 ?_ | refine z4 ?_ | refine z5 ?_ | refine z6 ?_ | refine z7 ?_ | refine z8 ?_ | refine y1 ?_ | refine y2 ?_ | refine y3 ?_ | refine y4 ?_ | refine y5 ?_ | refine y6 ?_ | refine y7 ?_ | refine y8 ?_ | refine Rt.p (fun _=>?_) fun _=>?_)
          | ((with_reducible apply w_ixM);(focus exact rfl);(focus exact rfl);case' hk=>intro y hy) | ((with_reducible (first | apply w_val | apply q_ends));(focus exact rfl)))
         all_goals first
          | (exfalso;omega)
          | exact q_loop (v+1) (by show v+1≤6;omega) (by show 6-(v+1)<6-v;omega) ⟨int_eq (by simp),by show AV.int .i64 _=AV.int .i64 _;exact int_eq (by rw[hsuc,hz0];omega),trivial⟩ (by repeat' (first | exact slots_nil | apply slots_cons | rfl | (rw[map_snoc];rfl) | (rw[len_snoc];rfl) | (rw[hS];rfl) | (rw[hS,map_snoc];rfl) | (refine int_eq ?_;(try dsimp only);omega) | (refine congrArg AV.bool ?_;simp_all;done))) (by repeat' (first | exact kept_nil | apply kept_cons | rfl)) (by repeat' (first | exact kept_nil | apply kept_cons | rfl))
       have hB2:=hB.draw ht.l hn hb (w:=(v:Int)) (by omega) (by omega)
       rw[←hbe] at hB2
       have hr3:=rwithout_c B hin d.bag v hb (by omega)
       by_cases h5:d.kind=5
       · rw[if_pos h5] at hfv
         by_cases hvw:(v:Int)=w
         · rw[if_pos hvw] at hfv
           have ih:=rcount_c n hn A _ _ _ c _ (.inr rfl) ht2 hr.2 hB2 (by omega) (by omega)
           rw[hfv] at hb3 hsuc
           repeat' (first
            | with_reducible (first | refine Rd.p ?_ | refine w_alt ?_ ?_ | refine zE ?_ | refine zE0 ?_)
            | (first | (refine w_boxN rfl hl ?_;intro g2) | refine w_ixP (f:=fun d:Dl=>[AV.int .i64 d.kind,.int .i64 d.bag,.int .i64 d.other,.int .i64 d.wood,.int .i64 d.count]) (l:=d::A) (pre:=[]) (y:=d) (post:=A) rfl rfl rfl ?_ | refine w_ixP (f:=fun x:Int=>[AV.int .i64 x]) (l:=w::c) (pre:=[]) (y:=w) (post:=c) rfl rfl rfl ?_ | refine w_ldN rfl rfl hl ?_ | refine w_chkN rfl rfl hl rfl ?_ | refine w_slT (f:=fun d:Dl=>[AV.int .i64 d.kind,.int .i64 d.bag,.int .i64 d.other,.int .i64 d.wood,.int .i64 d.count]) rfl ?_ | refine w_sl1 rfl ?_ | refine w_ldEl rfl ho rfl hpl2 ?_ | refine w_chkEl rfl ho rfl hpl2 rfl ?_)
            | with_reducible (first | refine zI fun y hy=>?_ | refine zL ?_ | refine zS ?_ | refine zA fun _=>?_ | refine zV ?_ | refine zC ?_ | refine zG ?_ | refine zU ?_ | refine zG0 ?_ | refine zU0 ?_ | refine zF ?_)
            | ((with_reducible refine acall_id ?_);refine ACall.bg2b hr3 rfl ?_)
            | ((with_reducible refine acall_id ?_);refine ACall.cnt ih rfl rfl ?_)
            | with_reducible (first | refine zX ?_ | refine zD fun _=>?_ | refine zD0 ?_ | refine zN ?_ | refine zF0 ?_ | refine zX0 ?_ | refine z1 ?_ | refine z2 ?_ | refine z3 ?_ | refine z4 ?_ | refine z5 ?_ | refine z6 ?_ | refine z7 ?_ | refine z8 ?_ | refine y1 ?_ | refine y2 ?_ | refine y3 ?_ | refine y4 ?_ | refine y5 ?_ | refine y6 ?_ | refine y7 ?_ | refine y8 ?_ | refine Rt.p (fun _=>?_) fun _=>?_)
            | ((with_reducible apply w_ixM);(focus exact rfl);(focus exact rfl);case' hk=>intro y hy) | ((with_reducible (first | apply w_val | apply q_ends));(focus exact rfl)))
           all_goals first
            | (exfalso;omega)
            | exact q_loop (v+1) (by show v+1≤6;omega) (by show 6-(v+1)<6-v;omega) ⟨int_eq (by simp),by show AV.int .i64 _=AV.int .i64 _;exact int_eq hsuc.symm,trivial⟩ (by repeat' (first | exact slots_nil | apply slots_cons | rfl | (rw[map_snoc];rfl) | (rw[len_snoc];rfl) | (rw[hS];rfl) | (rw[hS,map_snoc];rfl) | (refine int_eq ?_;(try dsimp only);omega) | (refine congrArg AV.bool ?_;simp_all;done))) (by repeat' (first | exact kept_nil | apply kept_cons | rfl)) (by repeat' (first | exact kept_nil | apply kept_cons | rfl))
         · rw[if_neg hvw] at hfv
           repeat' (first
            | with_reducible (first | refine Rd.p ?_ | refine w_alt ?_ ?_ | refine zE ?_ | refine zE0 ?_)
            | (first | (refine w_boxN rfl hl ?_;intro g2) | refine w_ixP (f:=fun d:Dl=>[AV.int .i64 d.kind,.int .i64 d.bag,.int .i64 d.other,.int .i64 d.wood,.int .i64 d.count]) (l:=d::A) (pre:=[]) (y:=d) (post:=A) rfl rfl rfl ?_ | refine w_ixP (f:=fun x:Int=>[AV.int .i64 x]) (l:=w::c) (pre:=[]) (y:=w) (post:=c) rfl rfl rfl ?_ | refine w_ldN rfl rfl hl ?_ | refine w_chkN rfl rfl hl rfl ?_ | refine w_slT (f:=fun d:Dl=>[AV.int .i64 d.kind,.int .i64 d.bag,.int .i64 d.other,.int .i64 d.wood,.int .i64 d.count]) rfl ?_ | refine w_sl1 rfl ?_ | refine w_ldEl rfl ho rfl hpl2 ?_ | refine w_chkEl rfl ho rfl hpl2 rfl ?_)
            | with_reducible (first | refine zI fun y hy=>?_ | refine zL ?_ | refine zS ?_ | refine zA fun _=>?_ | refine zV ?_ | refine zC ?_ | refine zG ?_ | refine zU ?_ | refine zG0 ?_ | refine zU0 ?_ | refine zF ?_)
            | with_reducible (first | refine zX ?_ | refine zD fun _=>?_ | refine zD0 ?_ | refine zN ?_ | refine zF0 ?_ | refine zX0 ?_ | refine z1 ?_ | refine z2 ?_ | refine z3 ?_ | refine z4 ?_ | refine z5 ?_ | refine z6 ?_ | refine z7 ?_ | refine z8 ?_ | refine y1 ?_ | refine y2 ?_ | refine y3 ?_ | refine y4 ?_ | refine y5 ?_ | refine y6 ?_ | refine y7 ?_ | refine y8 ?_ | refine Rt.p (fun _=>?_) fun _=>?_)
            | ((with_reducible apply w_ixM);(focus exact rfl);(focus exact rfl);case' hk=>intro y hy) | ((with_reducible (first | apply w_val | apply q_ends));(focus exact rfl)))
           all_goals first
            | (exfalso;omega)
            | exact q_loop (v+1) (by show v+1≤6;omega) (by show 6-(v+1)<6-v;omega) ⟨int_eq (by simp),by show AV.int .i64 _=AV.int .i64 _;exact int_eq (by rw[hsuc,hfv];omega),trivial⟩ (by repeat' (first | exact slots_nil | apply slots_cons | rfl | (rw[map_snoc];rfl) | (rw[len_snoc];rfl) | (rw[hS];rfl) | (rw[hS,map_snoc];rfl) | (refine int_eq ?_;(try dsimp only);omega) | (refine congrArg AV.bool ?_;simp_all;done))) (by repeat' (first | exact kept_nil | apply kept_cons | rfl)) (by repeat' (first | exact kept_nil | apply kept_cons | rfl))
       · rw[if_neg h5] at hfv
         have ih:=rcount_c n hn A _ _ _ (w::c) _ (.inr rfl) ht2 hr.2 hB2 (by omega) (by omega)
         rw[hfv] at hb3 hsuc
         repeat' (first
          | with_reducible (first | refine Rd.p ?_ | refine w_alt ?_ ?_ | refine zE ?_ | refine zE0 ?_)
          | (first | (refine w_boxN rfl hl ?_;intro g2) | refine w_ixP (f:=fun d:Dl=>[AV.int .i64 d.kind,.int .i64 d.bag,.int .i64 d.other,.int .i64 d.wood,.int .i64 d.count]) (l:=d::A) (pre:=[]) (y:=d) (post:=A) rfl rfl rfl ?_ | refine w_ixP (f:=fun x:Int=>[AV.int .i64 x]) (l:=w::c) (pre:=[]) (y:=w) (post:=c) rfl rfl rfl ?_ | refine w_ldN rfl rfl hl ?_ | refine w_chkN rfl rfl hl rfl ?_ | refine w_slT (f:=fun d:Dl=>[AV.int .i64 d.kind,.int .i64 d.bag,.int .i64 d.other,.int .i64 d.wood,.int .i64 d.count]) rfl ?_ | refine w_sl1 rfl ?_ | refine w_ldEl rfl ho rfl hpl2 ?_ | refine w_chkEl rfl ho rfl hpl2 rfl ?_)
          | with_reducible (first | refine zI fun y hy=>?_ | refine zL ?_ | refine zS ?_ | refine zA fun _=>?_ | refine zV ?_ | refine zC ?_ | refine zG ?_ | refine zU ?_ | refine zG0 ?_ | refine zU0 ?_ | refine zF ?_)
          | ((with_reducible refine acall_id ?_);refine ACall.bg2b hr3 rfl ?_)
          | ((with_reducible refine acall_id ?_);refine ACall.cnt ih rfl rfl ?_)
          | with_reducible (first | refine zX ?_ | refine zD fun _=>?_ | refine zD0 ?_ | refine zN ?_ | refine zF0 ?_ | refine zX0 ?_ | refine z1 ?_ | refine z2 ?_ | refine z3 ?_ | refine z4 ?_ | refine z5 ?_ | refine z6 ?_ | refine z7 ?_ | refine z8 ?_ | refine y1 ?_ | refine y2 ?_ | refine y3 ?_ | refine y4 ?_ | refine y5 ?_ | refine y6 ?_ | refine y7 ?_ | refine y8 ?_ | refine Rt.p (fun _=>?_) fun _=>?_)
          | ((with_reducible apply w_ixM);(focus exact rfl);(focus exact rfl);case' hk=>intro y hy) | ((with_reducible (first | apply w_val | apply q_ends));(focus exact rfl)))
         all_goals first
          | (exfalso;omega)
          | exact q_loop (v+1) (by show v+1≤6;omega) (by show 6-(v+1)<6-v;omega) ⟨int_eq (by simp),by show AV.int .i64 _=AV.int .i64 _;exact int_eq hsuc.symm,trivial⟩ (by repeat' (first | exact slots_nil | apply slots_cons | rfl | (rw[map_snoc];rfl) | (rw[len_snoc];rfl) | (rw[hS];rfl) | (rw[hS,map_snoc];rfl) | (refine int_eq ?_;(try dsimp only);omega) | (refine congrArg AV.bool ?_;simp_all;done))) (by repeat' (first | exact kept_nil | apply kept_cons | rfl)) (by repeat' (first | exact kept_nil | apply kept_cons | rfl))
theorem upd_comm {σ:Sig} {p q:Nat} {x y:Nat×Res} (h:p≠q):upd (upd σ p x) q y=upd (upd σ q y) p x:=by
 funext j
 simp only[upd_eq]
 by_cases h1:j=q
 · subst h1;rw[if_pos rfl,if_neg (fun e=>h e.symm),if_pos rfl]
 · rw[if_neg h1,if_neg h1]
theorem szL_288 {G:Gm} (h:GOK G):(szL (stepsG G.ds) tb0.bags).length≤288:=by
 have h1:=acts_len G.ds h.cnt
 have h2:=h.d24
 rw[←szL_nrm,←acts_sp,szL_len]
 have h3:drawN ((actsF G.ds).map spOf)≤((actsF G.ds).map spOf).length:=List.length_filter_le _ _
 rw[List.length_map] at h3
 omega
def ir36:IFn:=
 ⟨26,[(4,none)],(.seq (.ops [oo 3 (.box 2 1),
 oo 4 (.mov (.k .nsl))])
 (.seq (.ops [oo 8 (.ld 2 true 3),
 oo 9 (.callF 25 [8]),
 oo 5 (.mov 9)])
 (.seq (.ops [oo 6 (.nil 1 6)])
 (.seq (.seq (.ops [oo 7 (.mov (kI 0))])
 (.blk 0 (.loop (.seq (.seq (.ops [oo 10 (.mov 7),
 oo 11 (.mov 5),
 oo 12 (.len false 11),
 oo 13 (.bin .lss 10 12)])
 (.cnd 13
 .skip
 (.exit 0)))
 (.seq (.blk 1 (.ops [oo 16 (.mov 6),
 oo 17 (.mov 0),
 oo 18 (.mov 5),
 oo 19 (.mov 7),
 oo 20 (.ixA 1 18 19),
 oo 21 (.ld 1 false 20),
 oo 22 (.callF 31 [17,21]),
 oo 23 (.bsl 1 [[(.int .i64 0)]] [(0,22)]),
 oo 24 (.app 1 8 16 23 6),
 oo 6 (.mov 24)]))
 (.ops [oo 14 (.mov 7),
 oo 15 (.bin .add 14 (kI 1)),
 oo 7 (.mov 15)]))))))
 (.seq (.ops [oo 25 (.mov 6),
 oo 4 (.mov 25)])
 .ret)))))⟩
def hint36 (P:Program):Hint:={site:=[(24,6)],nils:=[(6,1)],frz:=[],mve:=[],wr:=[] }
section
variable {P:Program} {α:Type} {row:α→List AV} {sz:Nat}
theorem setL_get2 {β:Type}:∀(xs pre ys post:List β),xs.length=ys.length→setL (pre++ys++post) pre.length xs=pre++xs++post
 | [],pre,[],post,_=>rfl
 | [],pre,y::ys,post,h=>by simp at h
 | x::xs,pre,[],post,h=>by simp at h
 | x::xs,pre,y::ys,post,h=>by
   have e:(pre++(y::ys)++post).set pre.length x=(pre++[x])++ys++post:=by simp
   rw[setL,e,show pre.length+1=(pre++[x]).length by simp,setL_get2 xs (pre++[x]) ys post (by simpa using h)]
   simp
theorem FlatR.setRow (h:FlatR row sz) {pre post:List α} {y y':α}:setL ((pre++y::post).map row).flatten (pre.length*sz) (row y')=((pre++y'::post).map row).flatten:=by
 have e:∀z,((pre++z::post).map row).flatten=(pre.map row).flatten++row z++(post.map row).flatten:=fun z=>by simp
 rw[e,e,←h.flat_len pre];exact setL_get2 _ _ _ _ (by rw[h.len,h.len])
end
def goV (s:Nat) (l:List (List Int×Int)) (h:Nat):AV:=match l with
 | []=> .nsl
 | _::_=> .slc 1 (llR (l.map (·.1))) (.own s h)
def goW (s:Nat) (l:List (List Int×Int)) (h:Nat):AV:=match l with
 | []=> .nsl
 | _::_=> .slc 1 (iR (l.map (·.2))) (.own s h)
def goX (l:List (List Int×Int)) (h:Nat):Nat×Res:=match l with
 | []=>(0,.dead)
 | _::_=>(h,.row [])
abbrev soR (G:Gm) (A:List Dl) (m:Int) (x y:AV):List AV:=[.slc 2 (wR G.ws) .non,.slc 5 (dlR G.ds) .non,.slc 5 (dlR A) .non,.int .i64 m,x,y]
abbrev soS (s g:Nat) (G:Gm) (A:List Dl) (m:Int) (l:List (List Int×Int)) (h1 h2:Nat):List (Nat×(Nat×Res)):=[(1000,(g,.row (soR G A m (goV s l h1) (goW (s+1) l h2)))),(s,goX l h1),(s+1,goX l h2)]
theorem ren_goV {ρ:List (Nat×Nat)} {s q:Nat} (h:lk ρ s=some q) (l:List (List Int×Int)) (g:Nat):ren ρ (goV s l g)=goV q l g:=by
 cases l with
 | nil=>rfl
 | cons x r=>
   show AV.slc 1 (llR ((x::r).map (·.1))) (renT ρ (.own s g))=_
   simp only[renT,h];rfl
theorem ren_goW {ρ:List (Nat×Nat)} {s q:Nat} (h:lk ρ s=some q) (l:List (List Int×Int)) (g:Nat):ren ρ (goW s l g)=goW q l g:=by
 cases l with
 | nil=>rfl
 | cons x r=>
   show AV.slc 1 (iR ((x::r).map (·.2))) (renT ρ (.own s g))=_
   simp only[renT,h];rfl
theorem goX_ren {ρ:List (Nat×Nat)} (l:List (List Int×Int)) (h:Nat):((goX l h).1,renR ρ (goX l h).2)=goX l h:=by cases l<;>rfl
theorem ACall.so {P:Program} {f:Nat} {args0 args:List AV} {s0 p g h1 h2 d:Nat} {G:Gm} {A:List Dl} {m:Int} {l:List (List Int×Int)} {C:List (List Int×Int)→Prop} {σ:Sig} {Q:AV→Sig→Prop}
  (h:RawC P f args0 (sg (soS s0 g G A m l h1 h2)) (SR (fun (x:List (List Int×Int)×Nat×Nat) _=>C x.1) (fun x=>soS s0 g G A m x.1 x.2.1 x.2.2)))
  (hp1:p≠2001) (hp2:p≠2002) (hr1:renOK [(s0,2001),(s0+1,2002),(1000,p)]=true) (hr2:renOK [(1000,p),(s0,2001),(s0+1,2002)]=true)
  (l1:lk [(s0,2001),(s0+1,2002),(1000,p)] s0=some 2001) (l2:lk [(s0,2001),(s0+1,2002),(1000,p)] (s0+1)=some 2002) (l3:lk [(1000,p),(s0,2001),(s0+1,2002)] s0=some 2001) (l4:lk [(1000,p),(s0,2001),(s0+1,2002)] (s0+1)=some 2002)
  (l5:lk (flipL [(1000,p),(s0,2001),(s0+1,2002)]) 2001=some s0) (l6:lk (flipL [(1000,p),(s0,2001),(s0+1,2002)]) 2002=some (s0+1))
  (n1:Nat.beq 1000 s0=false) (n2:Nat.beq 1000 (s0+1)=false) (n3:Nat.beq s0 (s0+1)=false)
  (ha1:args0=renL (flipL [(1000,p)]) args) (ha2:args0=renL (flipL [(1000,p),(s0,2001),(s0+1,2002)]) args)
  (hp:σ p=(g,.row (soR G A m (goV 2001 l h1) (goW 2002 l h2)))) (hσ1:σ 2001=goX l h1) (hσ2:σ 2002=goX l h2)
  (hQ:∀(x:List (List Int×Int)) (k1 k2:Nat) av,C x→Q av (upd (upd (upd σ 2002 (goX x k2)) 2001 (goX x k1)) p (g,.row (soR G A m (goV 2001 x k1) (goW 2002 x k2))))):ACall P f args σ d Q:=by
 have y1:Nat.ble YS 2001=true:=rfl
 have y2:Nat.ble YS 2002=true:=rfl
 have hos:outsB d [(s0,2001),(s0+1,2002)]=true:=by simp[outsB,y1,y2]
 cases l with
 | nil=>
   have e0:sg (soS s0 g G A m [] h1 h2)=sg [(1000,(g,.row (soR G A m .nsl .nsl)))]:=by
    funext j
    show (match Nat.beq 1000 j with | true=>_ | false=>(match Nat.beq s0 j with | true=>((0,Res.dead):Nat×Res) | false=>(match Nat.beq (s0+1) j with | true=>(0,.dead) | false=>(0,.dead))))=(match Nat.beq 1000 j with | true=>_ | false=>_)
    split
    · rfl
    · split
      · rfl
      · split<;>rfl
   rw[e0] at h
   refine ACall.liftN h [(1000,p)] [(s0,2001),(s0+1,2002)] hos hr1 ha1 ?_ ⟨⟨_,by rw[hp]⟩,trivial⟩ fun av σ0' hR=>?_
   · show _=[(1000,((σ p).1,renR _ (σ p).2))]
     rw[hp]
     rfl
   · obtain⟨⟨x,a,b⟩,hv,hsl⟩:=hR
     obtain⟨k1,k2,k3,-⟩:=hsl
     show Q _ (upd (upd (upd σ p ((σ0' 1000).1,renR [(s0,2001),(s0+1,2002),(1000,p)] (σ0' 1000).2)) 2002 ((σ0' (s0+1)).1,renR [(s0,2001),(s0+1,2002),(1000,p)] (σ0' (s0+1)).2)) 2001 ((σ0' s0).1,renR [(s0,2001),(s0+1,2002),(1000,p)] (σ0' s0).2))
     rw[k1,k2,k3,goX_ren,goX_ren]
     have e1:renR [(s0,2001),(s0+1,2002),(1000,p)] (.row (soR G A m (goV s0 x a) (goW (s0+1) x b)))= .row (soR G A m (goV 2001 x a) (goW 2002 x b)):=by
      show Res.row [_,_,_,_,ren _ (goV s0 x a),ren _ (goW (s0+1) x b)]=_
      rw[ren_goV l1,ren_goW l2];rfl
     show Q _ (upd (upd (upd σ p (g,renR [(s0,2001),(s0+1,2002),(1000,p)] (.row (soR G A m (goV s0 x a) (goW (s0+1) x b))))) 2002 (goX x b)) 2001 (goX x a))
     rw[e1,upd_comm hp2,upd_comm hp1]
     exact hQ x a b _ hv
 | cons c cs=>
   refine ACall.liftN h [(1000,p),(s0,2001),(s0+1,2002)] [] rfl hr2 ha2 ?_ ⟨⟨_,by rw[hp]⟩,⟨[],by rw[hσ1];rfl⟩,⟨[],by rw[hσ2];rfl⟩,trivial⟩ fun av σ0' hR=>?_
   · show _=[(1000,((σ p).1,renR (flipL [(1000,p),(s0,2001),(s0+1,2002)]) (σ p).2)),(s0,((σ 2001).1,renR (flipL [(1000,p),(s0,2001),(s0+1,2002)]) (σ 2001).2)),(s0+1,((σ 2002).1,renR (flipL [(1000,p),(s0,2001),(s0+1,2002)]) (σ 2002).2))]
     rw[hp,hσ1,hσ2,goX_ren,goX_ren]
     have e1:renR (flipL [(1000,p),(s0,2001),(s0+1,2002)]) (.row (soR G A m (goV 2001 (c::cs) h1) (goW 2002 (c::cs) h2)))= .row (soR G A m (goV s0 (c::cs) h1) (goW (s0+1) (c::cs) h2)):=by
      show Res.row [_,_,_,_,ren _ (goV 2001 (c::cs) h1),ren _ (goW 2002 (c::cs) h2)]=_
      rw[ren_goV l5,ren_goW l6];rfl
     rw[e1]
   · obtain⟨⟨x,a,b⟩,hv,hsl⟩:=hR
     obtain⟨k1,k2,k3,-⟩:=hsl
     show Q _ (upd (upd (upd σ 2002 ((σ0' (s0+1)).1,renR [(1000,p),(s0,2001),(s0+1,2002)] (σ0' (s0+1)).2)) 2001 ((σ0' s0).1,renR [(1000,p),(s0,2001),(s0+1,2002)] (σ0' s0).2)) p ((σ0' 1000).1,renR [(1000,p),(s0,2001),(s0+1,2002)] (σ0' 1000).2))
     rw[k1,k2,k3,goX_ren,goX_ren]
     have e1:renR [(1000,p),(s0,2001),(s0+1,2002)] (.row (soR G A m (goV s0 x a) (goW (s0+1) x b)))= .row (soR G A m (goV 2001 x a) (goW 2002 x b)):=by
      show Res.row [_,_,_,_,ren _ (goV s0 x a),ren _ (goW (s0+1) x b)]=_
      rw[ren_goV l3,ren_goW l4];rfl
     show Q _ (upd (upd (upd σ 2002 (goX x b)) 2001 (goX x a)) p (g,renR [(1000,p),(s0,2001),(s0+1,2002)] (.row (soR G A m (goV s0 x a) (goW (s0+1) x b)))))
     rw[e1]
     exact hQ x a b _ hv
structure goH (G:Gm) (A:List Dl) (b:List Int) (m:Int):Prop where
 n6:G.ws.length≤6
 t:tbIn b m
 r:runOK G.ws.length (A.map spOf) b m
 B:bgT G.ws.length b bg0
 a:A.length<1000
theorem goH.cnt {G:Gm} {A:List Dl} {b:List Int} {m:Int} (h:goH G A b m) {a:AV} {c:List Int} (hc:CV a c) (hl:c.length<1000):Fn0 Try.prog 92 [.slc 5 (dlR A) .non,bgV bg0,a] (fun v=>v= .int .i64 (cntP (A.map spOf) c bg0)):=
 rcount_c _ h.n6 A b m bg0 c a hc h.t h.r h.B h.a hl
theorem szL_bd {n:Nat}:∀{l:List Sp} {b:List Int} {m:Int},tbIn b m→runOK n l b m→ ∀s∈szL l b,1≤s∧s≤12
 | [],_,_,_,_,s,hs=>by cases hs
 | x::r,b,m,ht,h,s,hs=>by
   obtain⟨ht2,_⟩:=ht.step h.1
   rw[szL] at hs
   by_cases hd:x.2.1=true
   · rw[if_pos hd] at hs
     obtain⟨hb,ha⟩:=h.1.d hd
     have hle:=ht.le hb
     have hsm:=ht.sm
     have hm:=ht.m
     rcases List.mem_cons.1 hs with rfl | hs
     · omega
     · exact szL_bd ht2 h.2 s hs
   · rw[if_neg hd] at hs
     exact szL_bd ht2 h.2 s hs
theorem oneIf_nn (p:Prop) [Decidable p]:0≤oneIf p:=by unfold oneIf;split<;>decide
theorem play_crs {G:Gm} (h0:gmErr G=0) {ps:List Int} (h:ps∈allP (szL (stepsG G.ds) tb0.bags)):∃c,playO G ps=(c,0)∧playT (stepsG G.ds) bg0 ps=some c∧(c,cwG G c)∈crsG G:=by
 have hG:=gm_ok h0
 obtain⟨c,h1,h2,h3⟩:=play_in hG.n6 tb0_in hG.ex hG.wd (bgT0 _) h
 refine⟨c,?_,h1,?_⟩
 · unfold playO
   rw[if_pos h0,if_pos (by rw[(allP_mem.1 h).1,szL_len]),playS_T,h1];rfl
 · refine (crsG_mem hG).2 ⟨⟨h2,h3⟩,?_,rfl⟩
   have hc:=pick_cnt hG.n6 c tb0_in hG.ex (bgT0 _) h3 h2
   have:=lsum_mem (f:=fun ps=>oneIf (playT (stepsG G.ds) bg0 ps=some c)) (fun s _=>oneIf_nn _) ps h
   have e:oneIf (playT (stepsG G.ds) bg0 ps=some c)=1:=by unfold oneIf;rw[if_pos h1]
   rw[e,hc] at this
   show 0<cntG G.ws.length (stepsG G.ds) c bg0
   omega
theorem picksOf_c (g:Nat) (w:Int) (G:Gm) (h0:gmErr G=0):RawC Try.prog 36 [.ref 1000 g 0,gmA G] (BoxS g w) (BoxR g fun av=>∃ps,av= .slc 1 (iR ps) .non∧ps∈allP (szL (stepsG G.ds) tb0.bags)):=by
 have hG:=gm_ok h0
 have hSz:=Sizes_c G hG
 have hsb:=szL_bd tb0_in hG.ex
 have hsl:=szL_288 hG
 obtain⟨S,hS⟩:∃S,szL (stepsG G.ds) tb0.bags=S:=⟨_,rfl⟩
 rw[hS] at hSz hsb hsl ⊢
 have hl3:(iR S).length=S.length:=List.length_map _
 refine RawC.walk (H:=hint36 Try.prog) ir36 Try.func36 rfl rfl rfl ?_
 unfold ir36
 repeat' (first
  | refine advE ?_ | with_reducible refine w_alt ?_ ?_
  | with_reducible refine zI fun y hy=>?_ | refine advL ?_
  | ((with_reducible refine acall_id ?_);refine ACall.val hSz rfl rfl ?_)
  | refine adv ?_ | with_reducible (first | intro _ | refine Rt.p (fun _=>?_) fun _=>?_)
  | ((with_reducible apply w_ixM);(focus exact rfl);(focus exact rfl);case' hk=>intro y hy) | ((with_reducible (first | apply w_val | apply q_ends));(focus exact rfl)))
 all_goals try (exfalso;omega)
 rename_i g6
 refine w_loopK [0,5] [] (fun x:List Int×List Int×List Int×Nat×Int=>S=x.1++x.2.1∧x.2.2.1.length=x.1.length∧ ∀i:Nat,i<x.1.length→0≤x.2.2.1.getD i 0∧x.2.2.1.getD i 0<x.1.getD i 0) (fun x=>x.2.1.length) (fun x=>[(6,.slc 1 (iR x.2.2.1) (.own 6 x.2.2.2.1)),(7,.int .i64 (x.1.length:Int))]) (fun x=>[(1000,(g,.row [.int .u64 x.2.2.2.2])),(6,(x.2.2.2.1,.row []))]) ([],S,[],g6,w) ⟨rfl,rfl,fun i hi=>by simp at hi⟩ ⟨rfl,rfl,trivial⟩ ⟨rfl,rfl,trivial⟩ ?_
 rintro⟨pre,post,ps,gp,w⟩ ⟨hl,hpl,hpb⟩ e σ
 dsimp only at hl hpl hpb ⊢
 have hlen:=congrArg List.length hl
 rw[List.length_append] at hlen
 have hl4:(iR ps).length=ps.length:=List.length_map _
 cases post with
 | nil=>
   simp only[List.length_nil] at hlen
   rw[List.append_nil] at hl
   repeat' (first
    | refine advE ?_ | with_reducible refine w_alt ?_ ?_
    | with_reducible refine zI fun y hy=>?_ | refine advL ?_
    | refine adv ?_ | with_reducible (first | intro _ | refine Rt.p (fun _=>?_) fun _=>?_)
    | ((with_reducible apply w_ixM);(focus exact rfl);(focus exact rfl);case' hk=>intro y hy) | ((with_reducible (first | apply w_val | apply q_ends));(focus exact rfl)))
   all_goals first
    | (exfalso;omega)
    | exact⟨_,⟨ps,rfl,allP_mem.2 ⟨by omega,by rw[hl];exact hpb⟩⟩,rfl⟩
 | cons s post=>
   simp only[List.length_cons] at hlen
   have hs:=hsb s (by rw[hl];simp)
   repeat' (first
    | refine advE ?_ | with_reducible refine w_alt ?_ ?_
    | (first | refine w_ixP (f:=fun x:Int=>[AV.int .i64 x]) hl rfl rfl ?_)
    | with_reducible refine zI fun y hy=>?_ | refine advL ?_
    | ((with_reducible refine acall_id ?_);refine ACall.box (upp_c _ _ _ (by omega) (by omega)) rfl rfl rfl ?_;rintro _ _ ⟨a,rfl,ha1,ha2⟩)
    | refine adv ?_ | with_reducible (first | intro _ | refine Rt.p (fun _=>?_) fun _=>?_)
    | ((with_reducible apply w_ixM);(focus exact rfl);(focus exact rfl);case' hk=>intro y hy) | ((with_reducible (first | apply w_val | apply q_ends));(focus exact rfl)))
   all_goals try (exfalso;omega)
   all_goals
    rename_i gp2
    exact q_loop (pre++[s],post,ps++[a],gp2,_) ⟨by show S=_;rw[hl];simp,by dsimp only;rw[len_snoc,len_snoc,hpl],fun i hi=>by
     dsimp only at hi ⊢
     rw[len_snoc] at hi
     by_cases e:i<pre.length
     · have:=hpb i e
       rw[List.getD_eq_getElem?_getD,List.getD_eq_getElem?_getD,List.getElem?_append_left (by omega),List.getElem?_append_left e,←List.getD_eq_getElem?_getD,←List.getD_eq_getElem?_getD]
       exact this
     · have e2:i=pre.length:=by omega
       subst e2
       rw[List.getD_eq_getElem?_getD,List.getD_eq_getElem?_getD,List.getElem?_append_right (by omega),List.getElem?_append_right (Nat.le_refl _),Nat.sub_self,hpl,Nat.sub_self]
       exact⟨ha1,ha2⟩⟩  (Nat.lt_succ_self _) ⟨rfl,by rw[len_snoc];rfl,trivial⟩ ⟨rfl,rfl,trivial⟩ (by repeat' (first | exact kept_nil | apply kept_cons | rfl)) (by repeat' (first | exact kept_nil | apply kept_cons | rfl))
end Go.Abs
