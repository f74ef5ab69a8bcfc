/- A part of the proofs of the laws of this seat: contracts of the functions that they reach, each proved of the program's form in Lean. No condition beyond those that each contract names. -/
import Derived.Test.YtecogfpnfhkibaaProg
import Derived.Test.YtecogfpnfhkibaaSnd3
import Derived.Test.YtecogfpnfhkibaaA0
import Derived.Test.YtecogfpnfhkibaaN1a
import Derived.Test.YtecogfpnfhkibaaN1b
import Derived.Test.YtecogfpnfhkibaaN1c
import Derived.Test.YtecogfpnfhkibaaN1d
import Derived.Test.YtecogfpnfhkibaaN1e
import Derived.Test.YtecogfpnfhkibaaN1f
import Derived.Test.YtecogfpnfhkibaaN1g
import Derived.Test.YtecogfpnfhkibaaN1h
import Derived.Test.YtecogfpnfhkibaaQ1a
import Derived.Test.YtecogfpnfhkibaaQ1b
set_option linter.unusedVariables false
set_option linter.unusedSimpArgs false
set_option maxRecDepth 20000
set_option maxHeartbeats 4000000
namespace Go.Abs
open Go.Proofs
def prodI:List Int→Int
 | []=>1
 | s::r=>s*prodI r
theorem szP_prod:∀(l:List Sp) (b:List Int),szP l b=prodI (szL l b)
 | [],_=>rfl
 | x::r,b=>by
   rw[szP,szL,szP_prod r]
   split
   · rfl
   · rw[Int.one_mul]
theorem mid_get (q0:List Int) (p:Int) (r:List Int):(q0++p::r).getD q0.length 0=p:=by
 rw[List.getD_eq_getElem?_getD,List.getElem?_append_right (Nat.le_refl _),Nat.sub_self];rfl
theorem allL_len (n:Nat):∀k:Nat,(allL n k).length=n^k
 | 0=>rfl
 | k+1=>by
   rw[allL,List.length_flatMap]
   have:(List.range n).map (fun (w:Nat)=>((allL n k).map fun l=>(w:Int)::l).length)=(List.range n).map fun _=>n^k:=by
    refine List.map_congr_left fun w _=>?_
    rw[List.length_map,allL_len n k]
   rw[this,List.map_const',List.length_range,List.sum_replicate_nat,Nat.pow_succ,Nat.mul_comm]
theorem crsO_ok {X:Gm} (hX:gmErr X=0) {a b:Nat} (hn:X.ws.length≤a) (hc:censG (stepsG X.ds)≤b) (h:a^b≤5000):crsO X=(crsG X,0):=by
 have h1:=gm_ok hX
 have hl:(crsG X).length≤X.ws.length^censG (stepsG X.ds):=by
  rw[crsG_list h1,List.length_map]
  refine Nat.le_trans (List.length_filter_le _ _) ?_
  rw[allL_len];exact Nat.le_refl _
 have h2:X.ws.length^censG (stepsG X.ds)≤a^censG (stepsG X.ds):=Nat.pow_le_pow_left hn _
 have h3:a^censG (stepsG X.ds)≤a^b:=Nat.pow_le_pow_right (by have:=h1.n1;omega) hc
 unfold crsO
 rw[if_pos hX,if_pos (by omega)]
def ir26:IFn:=
 ⟨22,[(4,none)],(.seq (.ops [oo 4 (.mov (kI 0))])
 (.seq (.ops [oo 5 (.mov (kI 1))])
 (.seq (.seq (.ops [oo 6 (.mov (kI 0))])
 (.blk 0 (.loop (.seq (.seq (.ops [oo 7 (.mov 6),
 oo 8 (.mov 0),
 oo 9 (.len false 8),
 oo 10 (.bin .lss 7 9)])
 (.cnd 10
 .skip
 (.exit 0)))
 (.seq (.blk 1 (.ops [oo 13 (.mov 1),
 oo 14 (.mov 5),
 oo 15 (.mov 0),
 oo 16 (.mov 6),
 oo 17 (.ixA 1 15 16),
 oo 18 (.ld 1 false 17),
 oo 19 (.bin .mul 14 18),
 oo 20 (.mxi false 13 19),
 oo 5 (.mov 20)]))
 (.ops [oo 11 (.mov 6),
 oo 12 (.bin .add 11 (kI 1)),
 oo 6 (.mov 12)]))))))
 (.seq (.ops [oo 21 (.mov 5),
 oo 4 (.mov 21)])
 .ret))))⟩
def hint26 (P:Program):Hint:={}
def ir38:IFn:=
 ⟨18,[(2,none)],(.seq (.ops [oo 2 (.mov (kI 0))])
 (.seq (.ops [oo 3 (.mov (kI 0))])
 (.seq (.seq (.ops [oo 4 (.mov (kI 0))])
 (.blk 0 (.loop (.seq (.seq (.ops [oo 5 (.mov 4),
 oo 6 (.mov 0),
 oo 7 (.len false 6),
 oo 8 (.bin .lss 5 7)])
 (.cnd 8
 .skip
 (.exit 0)))
 (.seq (.blk 1 (.ops [oo 11 (.mov 3),
 oo 12 (.mov 0),
 oo 13 (.mov 4),
 oo 14 (.ixA 1 12 13),
 oo 15 (.ld 1 false 14),
 oo 16 (.bin .add 11 15),
 oo 3 (.mov 16)]))
 (.ops [oo 9 (.mov 4),
 oo 10 (.bin .add 9 (kI 1)),
 oo 4 (.mov 10)]))))))
 (.seq (.ops [oo 17 (.mov 3),
 oo 2 (.mov 17)])
 .ret))))⟩
def hint38 (P:Program):Hint:={}
def ir29:IFn:=
 ⟨19,[(4,none)],(.seq (.ops [oo 4 (.mov (kI 0))])
 (.seq (.seq (.ops [oo 5 (.mov (kI 0))])
 (.blk 0 (.loop (.seq (.seq (.ops [oo 6 (.mov 5),
 oo 7 (.mov 0),
 oo 8 (.len false 7),
 oo 9 (.bin .lss 6 8)])
 (.cnd 9
 .skip
 (.exit 0)))
 (.seq (.blk 1 (.seq (.ops [oo 12 (.mov 0),
 oo 13 (.mov 5),
 oo 14 (.ixA 1 12 13),
 oo 15 (.ld 1 false 14),
 oo 16 (.mov 1),
 oo 17 (.callF 24 [15,16])])
 (.cnd 17
 (.seq (.ops [oo 18 (.mov 5),
 oo 4 (.mov 18)])
 .ret)
 .skip)))
 (.ops [oo 10 (.mov 5),
 oo 11 (.bin .add 10 (kI 1)),
 oo 5 (.mov 11)]))))))
 (.seq (.ops [oo 4 (.mov (.k (.int .i64 (-1))))])
 .ret)))⟩
def hint29 (P:Program):Hint:={}
def ir39:IFn:=
 ⟨40,[(4,none)],(.seq (.ops [oo 4 (.mov (kI 0))])
 (.seq (.seq (.ops [oo 6 (.mov 0),
 oo 7 (.len false 6),
 oo 8 (.mov 1),
 oo 9 (.len false 8),
 oo 10 (.bin .neq 7 9)])
 (.cnd 10
 (.seq (.ops [oo 11 (.mov 0),
 oo 12 (.len false 11),
 oo 13 (.mov 1),
 oo 14 (.len false 13),
 oo 15 (.bin .sub 12 14),
 oo 4 (.mov 15)])
 .ret)
 .skip))
 (.seq (.seq (.ops [oo 5 (.mov (kI 0))])
 (.blk 0 (.loop (.seq (.seq (.ops [oo 16 (.mov 5),
 oo 17 (.mov 0),
 oo 18 (.len false 17),
 oo 19 (.bin .lss 16 18)])
 (.cnd 19
 .skip
 (.exit 0)))
 (.seq (.blk 1 (.seq (.seq (.ops [oo 22 (.mov 0),
 oo 23 (.mov 5),
 oo 24 (.ixA 1 22 23),
 oo 25 (.ld 1 false 24),
 oo 26 (.mov 1),
 oo 27 (.mov 5),
 oo 28 (.ixA 1 26 27),
 oo 29 (.ld 1 false 28),
 oo 30 (.bin .lss 25 29)])
 (.cnd 30
 (.seq (.ops [oo 4 (.mov (.k (.int .i64 (-1))))])
 .ret)
 .skip))
 (.seq (.ops [oo 31 (.mov 0),
 oo 32 (.mov 5),
 oo 33 (.ixA 1 31 32),
 oo 34 (.ld 1 false 33),
 oo 35 (.mov 1),
 oo 36 (.mov 5),
 oo 37 (.ixA 1 35 36),
 oo 38 (.ld 1 false 37),
 oo 39 (.bin .gtr 34 38)])
 (.cnd 39
 (.seq (.ops [oo 4 (.mov (kI 1))])
 .ret)
 .skip))))
 (.ops [oo 20 (.mov 5),
 oo 21 (.bin .add 20 (kI 1)),
 oo 5 (.mov 21)]))))))
 (.seq (.ops [oo 4 (.mov (kI 0))])
 .ret))))⟩
def hint39 (P:Program):Hint:={}
def timF (most:Int):Int→List Int→Int
 | n,[]=>n
 | n,s::r=>timF most (min most (n*s)) r
theorem times_c (L:List Int) (most:Int) (hl:L.length<1000000) (hm:1≤most∧most≤1125899906842624) (hs:∀s∈L,0≤s∧s≤1000):Fn0 Try.prog 26 [.slc 1 (iR L) .non,.int .i64 most] (fun v=>v= .int .i64 (timF most 1 L)):=by
 have hL:(iR L).length=L.length:=List.length_map _
 refine RawC.walk (H:=hint26 Try.prog) ir26 Try.func26 rfl rfl rfl ?_
 unfold ir26
 repeat' (first
  | refine advE ?_ | with_reducible refine w_alt ?_ ?_
  | with_reducible refine zI fun y hy=>?_ | refine advL ?_
  | refine adv ?_ | with_reducible (first | intro _ | refine Rt.p (fun _=>?_) fun _=>?_)
  | ((with_reducible apply w_ixM);(focus exact rfl);(focus exact rfl);case' hk=>intro y hy) | ((with_reducible (first | apply w_val | apply q_ends));(focus exact rfl)))
 all_goals try (exfalso;omega)
 refine w_loopK [0,1] [] (fun x:List Int×List Int×Int=>L=x.1++x.2.1∧(0≤x.2.2∧x.2.2≤most)∧timF most x.2.2 x.2.1=timF most 1 L) (fun x=>x.2.1.length) (fun x=>[(5,.int .i64 x.2.2),(6,.int .i64 (x.1.length:Int))]) (fun _=>[]) ([],L,1) ⟨rfl,by dsimp only;omega,rfl⟩ ⟨rfl,rfl,trivial⟩ trivial ?_
 rintro⟨pre,post,n⟩ ⟨hl2,hn,ht⟩ e σ
 dsimp only at hl2 hn ht ⊢
 have hlen:=congrArg List.length hl2
 rw[List.length_append] at hlen
 cases post with
 | nil=>
   simp only[List.length_nil] at hlen
   rw[←ht]
   repeat' (first
    | refine advE ?_ | with_reducible refine w_alt ?_ ?_
    | with_reducible refine zI fun y hy=>?_ | refine advL ?_
    | refine adv ?_ | with_reducible (first | intro _ | refine Rt.p (fun _=>?_) fun _=>?_)
    | ((with_reducible apply w_ixM);(focus exact rfl);(focus exact rfl);case' hk=>intro y hy) | ((with_reducible (first | apply w_val | apply q_ends));(focus exact rfl)))
   all_goals first
    | (exfalso;omega)
    | rfl
 | cons s post=>
   simp only[List.length_cons] at hlen
   have h0:=hs s (by rw[hl2];simp)
   have hm0:0≤n*s:=Int.mul_nonneg hn.1 h0.1
   have hm1:n*s≤1125899906842624*1000:=Int.mul_le_mul (by omega) h0.2 h0.1 (by decide)
   repeat' (first
    | refine advE ?_ | with_reducible refine w_alt ?_ ?_
    | (first | refine w_ixP (f:=fun x:Int=>[AV.int .i64 x]) hl2 rfl rfl ?_)
    | with_reducible refine zI fun y hy=>?_ | refine advL ?_
    | refine adv ?_ | with_reducible (first | intro _ | refine Rt.p (fun _=>?_) fun _=>?_)
    | ((with_reducible apply w_ixM);(focus exact rfl);(focus exact rfl);case' hk=>intro y hy) | ((with_reducible (first | apply w_val | apply q_ends));(focus exact rfl)))
   all_goals first
    | (exfalso;omega)
    | exact q_loop (pre++[s],post,min most (n*s)) ⟨by show L=_;rw[hl2];simp,by dsimp only;omega,by show timF most _ post=_;rw[←ht];rfl⟩ (Nat.lt_succ_self _) ⟨rfl,by rw[len_snoc];rfl,trivial⟩ (by repeat' (first | exact slots_nil | apply slots_cons | rfl | (rw[map_snoc];rfl) | (rw[len_snoc];rfl) | (rw[hS];rfl) | (rw[hS,map_snoc];rfl) | (refine int_eq ?_;(try dsimp only);omega) | (refine congrArg AV.bool ?_;simp_all;done))) (by repeat' (first | exact kept_nil | apply kept_cons | rfl)) (by repeat' (first | exact kept_nil | apply kept_cons | rfl))
theorem sumI_bd:∀{L:List Int},(∀s∈L,0≤s)→0≤L.sum
 | [],_=>Int.le_refl _
 | s::r,h=>by rw[List.sum_cons];have:=h s (by simp);have:=sumI_bd (L:=r) fun x hx=>h x (by simp[hx]);omega
theorem sumL_c (L:List Int) (hl:L.length<1000000) (hs:∀s∈L,0≤s) (hb:L.sum<2^60):Fn0 Try.prog 38 [.slc 1 (iR L) .non] (fun v=>v= .int .i64 L.sum):=by
 have hL:(iR L).length=L.length:=List.length_map _
 refine RawC.walk (H:=hint38 Try.prog) ir38 Try.func38 rfl rfl rfl ?_
 unfold ir38
 repeat' (first
  | refine advE ?_ | with_reducible refine w_alt ?_ ?_
  | with_reducible refine zI fun y hy=>?_ | refine advL ?_
  | refine adv ?_ | with_reducible (first | intro _ | refine Rt.p (fun _=>?_) fun _=>?_)
  | ((with_reducible apply w_ixM);(focus exact rfl);(focus exact rfl);case' hk=>intro y hy) | ((with_reducible (first | apply w_val | apply q_ends));(focus exact rfl)))
 all_goals try (exfalso;omega)
 refine w_loopK [0] [] (fun x:List Int×List Int=>L=x.1++x.2) (fun x=>x.2.length) (fun x=>[(3,.int .i64 x.1.sum),(4,.int .i64 (x.1.length:Int))]) (fun _=>[]) ([],L) rfl ⟨rfl,rfl,trivial⟩ trivial ?_
 rintro⟨pre,post⟩ hl2 e σ
 dsimp only at hl2 ⊢
 have hlen:=congrArg List.length hl2
 rw[List.length_append] at hlen
 cases post with
 | nil=>
   simp only[List.length_nil] at hlen
   rw[List.append_nil] at hl2
   subst hl2
   repeat' (first
    | refine advE ?_ | with_reducible refine w_alt ?_ ?_
    | with_reducible refine zI fun y hy=>?_ | refine advL ?_
    | refine adv ?_ | with_reducible (first | intro _ | refine Rt.p (fun _=>?_) fun _=>?_)
    | ((with_reducible apply w_ixM);(focus exact rfl);(focus exact rfl);case' hk=>intro y hy) | ((with_reducible (first | apply w_val | apply q_ends));(focus exact rfl)))
   all_goals first
    | (exfalso;omega)
    | rfl
 | cons s post=>
   simp only[List.length_cons] at hlen
   have h0:=hs s (by rw[hl2];simp)
   have h1:=sumI_bd (L:=pre) fun x hx=>hs x (by rw[hl2];simp[hx])
   have h2:=sumI_bd (L:=post) fun x hx=>hs x (by rw[hl2];simp[hx])
   have h3:L.sum=pre.sum+(s+post.sum):=by rw[hl2,List.sum_append,List.sum_cons]
   repeat' (first
    | refine advE ?_ | with_reducible refine w_alt ?_ ?_
    | (first | refine w_ixP (f:=fun x:Int=>[AV.int .i64 x]) hl2 rfl rfl ?_)
    | with_reducible refine zI fun y hy=>?_ | refine advL ?_
    | refine adv ?_ | with_reducible (first | intro _ | refine Rt.p (fun _=>?_) fun _=>?_)
    | ((with_reducible apply w_ixM);(focus exact rfl);(focus exact rfl);case' hk=>intro y hy) | ((with_reducible (first | apply w_val | apply q_ends));(focus exact rfl)))
   all_goals first
    | (exfalso;omega)
    | exact q_loop (pre++[s],post) (by show L=_;rw[hl2];simp) (Nat.lt_succ_self _) ⟨by rw[List.sum_append];exact int_eq (by simp),by rw[len_snoc];rfl,trivial⟩ (by repeat' (first | exact slots_nil | apply slots_cons | rfl | (rw[map_snoc];rfl) | (rw[len_snoc];rfl) | (rw[hS];rfl) | (rw[hS,map_snoc];rfl) | (refine int_eq ?_;(try dsimp only);omega) | (refine congrArg AV.bool ?_;simp_all;done))) (by repeat' (first | exact kept_nil | apply kept_cons | rfl)) (by repeat' (first | exact kept_nil | apply kept_cons | rfl))
def plcI (x:List Int):List (List Int)→Int→Int
 | [],_=> -1
 | y::r,k=>if y=x then k else plcI x r (k+1)
theorem plcI_mem {x:List Int}:∀{l:List (List Int)} {k:Int},x∈l→ ∃i:Nat,l[i]?=some x∧plcI x l k=k+i
 | y::r,k,h=>by
   rw[plcI]
   by_cases e:y=x
   · rw[if_pos e];exact⟨0,by rw[e];rfl,by omega⟩
   · rw[if_neg e]
     obtain⟨i,h1,h2⟩:=plcI_mem (k:=k+1) ((List.mem_cons.1 h).resolve_left fun h=>e h.symm)
     exact⟨i+1,by simpa using h1,by rw[h2];omega⟩
theorem place_c (l:List (List Int)) (x:List Int) (hl:l.length<1000000) (hx:∀y∈l,y.length<1000000):Fn0 Try.prog 29 [.slc 1 (llR l) .non,.slc 1 (iR x) .non] (fun v=>v= .int .i64 (plcI x l 0)):=by
 have hL:(llR l).length=l.length:=List.length_map _
 refine RawC.walk (H:=hint29 Try.prog) ir29 Try.func29 rfl rfl rfl ?_
 unfold ir29
 repeat' (first
  | refine advE ?_ | with_reducible refine w_alt ?_ ?_
  | with_reducible refine zI fun y hy=>?_ | refine advL ?_
  | refine adv ?_ | with_reducible (first | intro _ | refine Rt.p (fun _=>?_) fun _=>?_)
  | ((with_reducible apply w_ixM);(focus exact rfl);(focus exact rfl);case' hk=>intro y hy) | ((with_reducible (first | apply w_val | apply q_ends));(focus exact rfl)))
 all_goals try (exfalso;omega)
 refine w_loopK [0,1] [] (fun q:List (List Int)×List (List Int)=>l=q.1++q.2∧plcI x q.2 (q.1.length:Int)=plcI x l 0) (fun q=>q.2.length) (fun q=>[(5,.int .i64 (q.1.length:Int))]) (fun _=>[]) ([],l) ⟨rfl,rfl⟩ ⟨rfl,trivial⟩ trivial ?_
 rintro⟨pre,post⟩ ⟨hl2,hp⟩ e σ
 dsimp only at hl2 hp ⊢
 have hlen:=congrArg List.length hl2
 rw[List.length_append] at hlen
 cases post with
 | nil=>
   simp only[List.length_nil] at hlen
   rw[←hp]
   repeat' (first
    | refine advE ?_ | with_reducible refine w_alt ?_ ?_
    | with_reducible refine zI fun y hy=>?_ | refine advL ?_
    | refine adv ?_ | with_reducible (first | intro _ | refine Rt.p (fun _=>?_) fun _=>?_)
    | ((with_reducible apply w_ixM);(focus exact rfl);(focus exact rfl);case' hk=>intro y hy) | ((with_reducible (first | apply w_val | apply q_ends));(focus exact rfl)))
   all_goals first
    | (exfalso;omega)
    | rfl
 | cons y post=>
   simp only[List.length_cons] at hlen
   have hy:=hx y (by rw[hl2];simp)
   have hE:=eq_c y x (by omega)
   rw[plcI] at hp
   by_cases hyx:y=x
   · rw[if_pos hyx] at hp
     rw[decide_eq_true hyx] at hE
     rw[←hp]
     repeat' (first
      | refine advE ?_ | with_reducible refine w_alt ?_ ?_
      | (first | refine w_ixP hl2 rfl rfl ?_)
      | with_reducible refine zI fun y hy=>?_ | refine advL ?_
      | ((with_reducible refine acall_id ?_);refine ACall.val hE rfl rfl ?_)
      | refine adv ?_ | with_reducible (first | intro _ | refine Rt.p (fun _=>?_) fun _=>?_)
      | ((with_reducible apply w_ixM);(focus exact rfl);(focus exact rfl);case' hk=>intro y hy) | ((with_reducible (first | apply w_val | apply q_ends));(focus exact rfl)))
     all_goals first
      | (exfalso;omega)
      | rfl
   · rw[if_neg hyx] at hp
     rw[decide_eq_false hyx] at hE
     repeat' (first
      | refine advE ?_ | with_reducible refine w_alt ?_ ?_
      | (first | refine w_ixP hl2 rfl rfl ?_)
      | with_reducible refine zI fun y hy=>?_ | refine advL ?_
      | ((with_reducible refine acall_id ?_);refine ACall.val hE rfl rfl ?_)
      | refine adv ?_ | with_reducible (first | intro _ | refine Rt.p (fun _=>?_) fun _=>?_)
      | ((with_reducible apply w_ixM);(focus exact rfl);(focus exact rfl);case' hk=>intro y hy) | ((with_reducible (first | apply w_val | apply q_ends));(focus exact rfl)))
     all_goals first
      | (exfalso;omega)
      | exact q_loop (pre++[y],post) ⟨by show l=_;rw[hl2];simp,by dsimp only;rw[len_snoc,←hp];simp⟩ (Nat.lt_succ_self _) ⟨by rw[len_snoc];rfl,trivial⟩ (by repeat' (first | exact slots_nil | apply slots_cons | rfl | (rw[map_snoc];rfl) | (rw[len_snoc];rfl) | (rw[hS];rfl) | (rw[hS,map_snoc];rfl) | (refine int_eq ?_;(try dsimp only);omega) | (refine congrArg AV.bool ?_;simp_all;done))) (by repeat' (first | exact kept_nil | apply kept_cons | rfl)) (by repeat' (first | exact kept_nil | apply kept_cons | rfl))
theorem mid_of {α:Type} {l:List α} {k:Nat} {v:α} (h:l[k]?=some v):l=l.take k++v::l.drop (k+1)∧(l.take k).length=k:=by
 obtain⟨h1,h2⟩:=List.getElem?_eq_some_iff.1 h
 exact⟨by rw[←h2,List.getElem_cons_drop,List.take_append_drop],by rw[List.length_take];omega⟩
theorem made_crs {G:Gm} {woods drawn cens:Int} {a b:Nat} (hm:madeO G woods drawn cens) (ha:woods≤a) (hb:cens≤b) (h:a^b≤5000):crsO G=(crsG G,0):=by
 have hr:=(deals_run G.ds tb0 tb0_ok (gm_ok hm.e).ds).2.2
 have e:tb0.cens=0:=rfl
 have h1:=hm.c
 have h2:=hm.n2
 exact crsO_ok hm.e (a:=a) (b:=b) (by omega) (by omega) h
def befF (a b:List Int):Int:=if (a.length:Int)=b.length then lexI a b else (a.length:Int)-b.length
theorem befr_c (a b:List Int) (ha:a.length<1000000) (hb:b.length<1000000):Fn0 Try.prog 39 [.slc 1 (iR a) .non,.slc 1 (iR b) .non] (fun v=>v= .int .i64 (befF a b)):=by
 have hal:(iR a).length=a.length:=List.length_map _
 have hbl:(iR b).length=b.length:=List.length_map _
 obtain⟨R,hR⟩:∃R,befF a b=R:=⟨_,rfl⟩
 rw[hR]
 unfold befF at hR
 by_cases hl:(a.length:Int)=b.length
 rotate_left
 · rw[if_neg hl] at hR
   subst hR
   refine RawC.walk (H:=hint39 Try.prog) ir39 Try.func39 rfl rfl rfl ?_
   unfold ir39
   repeat' (first
    | refine advE ?_ | with_reducible refine w_alt ?_ ?_
    | with_reducible refine zI fun y hy=>?_ | refine advL ?_
    | refine adv ?_ | with_reducible (first | intro _ | refine Rt.p (fun _=>?_) fun _=>?_)
    | ((with_reducible apply w_ixM);(focus exact rfl);(focus exact rfl);case' hk=>intro y hy) | ((with_reducible (first | apply w_val | apply q_ends));(focus exact rfl)))
   all_goals first
    | (exfalso;omega)
    | rfl
 rw[if_pos hl] at hR
 refine RawC.walk (H:=hint39 Try.prog) ir39 Try.func39 rfl rfl rfl ?_
 unfold ir39
 repeat' (first
  | refine advE ?_ | with_reducible refine w_alt ?_ ?_
  | with_reducible refine zI fun y hy=>?_ | refine advL ?_
  | refine adv ?_ | with_reducible (first | intro _ | refine Rt.p (fun _=>?_) fun _=>?_)
  | ((with_reducible apply w_ixM);(focus exact rfl);(focus exact rfl);case' hk=>intro y hy) | ((with_reducible (first | apply w_val | apply q_ends));(focus exact rfl)))
 all_goals try (exfalso;omega)
 refine w_loopK [0,1] [] (fun x:List Int×List Int×List Int×List Int=>a=x.1++x.2.1∧b=x.2.2.1++x.2.2.2∧x.1.length=x.2.2.1.length∧lexI x.2.1 x.2.2.2=R) (fun x=>x.2.1.length) (fun x=>[(5,.int .i64 (x.1.length:Int))]) (fun _=>[]) ([],a,[],b) ⟨rfl,rfl,rfl,hR⟩ ⟨rfl,trivial⟩ trivial ?_
 rintro⟨pa,ra,pb,rb⟩ ⟨h1,h2,h3,h4⟩ e σ
 dsimp only at h1 h2 h3 h4 ⊢
 have hn1:=congrArg List.length h1
 have hn2:=congrArg List.length h2
 rw[List.length_append] at hn1 hn2
 cases ra with
 | nil=>
   simp only[List.length_nil] at hn1
   have hrb:rb=[]:=List.eq_nil_of_length_eq_zero (by omega)
   subst hrb
   rw[←h4]
   repeat' (first
    | refine advE ?_ | with_reducible refine w_alt ?_ ?_
    | with_reducible refine zI fun y hy=>?_ | refine advL ?_
    | refine adv ?_ | with_reducible (first | intro _ | refine Rt.p (fun _=>?_) fun _=>?_)
    | ((with_reducible apply w_ixM);(focus exact rfl);(focus exact rfl);case' hk=>intro y hy) | ((with_reducible (first | apply w_val | apply q_ends));(focus exact rfl)))
   all_goals first
    | (exfalso;omega)
    | rfl
 | cons x ra=>
   cases rb with
   | nil=>exfalso;simp only[List.length_cons,List.length_nil] at hn1 hn2;omega
   | cons y rb=>
     simp only[List.length_cons] at hn1 hn2
     have h2':b=pb++y::rb:=h2
     rw[lexI] at h4
     unfold cmpI at h4
     repeat' (first
      | refine advE ?_ | with_reducible refine w_alt ?_ ?_
      | (first | refine w_ixP (f:=fun x:Int=>[AV.int .i64 x]) h1 rfl rfl ?_ | refine w_ixP (f:=fun x:Int=>[AV.int .i64 x]) h2' rfl (by rw[←h3];rfl) ?_)
      | with_reducible refine zI fun y hy=>?_ | refine advL ?_
      | refine adv ?_ | with_reducible (first | intro _ | refine Rt.p (fun _=>?_) fun _=>?_)
      | ((with_reducible apply w_ixM);(focus exact rfl);(focus exact rfl);case' hk=>intro y hy) | ((with_reducible (first | apply w_val | apply q_ends));(focus exact rfl)))
     all_goals first
      | (exfalso;omega)
      | exact int_eq (by rw[←h4,if_pos ‹x<y›];rfl)
      | exact int_eq (by rw[←h4,if_neg ‹¬x<y›,if_pos ‹y<x›];rfl)
      | exact q_loop (pa++[x],ra,pb++[y],rb) ⟨by show a=_;rw[h1];simp,by show b=_;rw[h2'];simp,by dsimp only;rw[len_snoc,len_snoc,h3],by dsimp only;rw[←h4,if_neg ‹¬x<y›,if_neg ‹¬y<x›];rfl⟩ (Nat.lt_succ_self _) ⟨by rw[len_snoc];rfl,trivial⟩ (by repeat' (first | exact slots_nil | apply slots_cons | rfl | (rw[map_snoc];rfl) | (rw[len_snoc];rfl) | (rw[hS];rfl) | (rw[hS,map_snoc];rfl) | (refine int_eq ?_;(try dsimp only);omega) | (refine congrArg AV.bool ?_;simp_all;done))) (by repeat' (first | exact kept_nil | apply kept_cons | rfl)) (by repeat' (first | exact kept_nil | apply kept_cons | rfl))
theorem timF_prod {most:Int}:∀{L:List Int} {n:Int},(∀s∈L,1≤s)→1≤n→n*prodI L≤most→timF most n L=n*prodI L
 | [],n,_,_,_=>by show n=n*1;omega
 | s::r,n,h,hn,hb=>by
   have hs:=h s (by simp)
   have hr:1≤prodI r:=by
    have key:∀l:List Int,(∀s∈l,1≤s)→1≤prodI l:=by
     intro l
     induction l with
     | nil=>intro _;exact Int.le_refl _
     | cons a l ih=>
       intro hl
       have h1:=hl a (by simp)
       have h2:=ih fun x hx=>hl x (by simp[hx])
       have:=Int.mul_le_mul h1 h2 (by decide) (by omega)
       show 1≤a*prodI l
       omega
    exact key r fun x hx=>h x (by simp[hx])
   have e:n*prodI (s::r)=(n*s)*prodI r:=by show n*(s*prodI r)=_;rw[Int.mul_assoc]
   rw[e] at hb ⊢
   have hns:1≤n*s:=by have:=Int.mul_le_mul hn hs (by decide) (by omega);omega
   have hle:n*s≤(n*s)*prodI r:=by
    have:=Int.mul_le_mul_of_nonneg_left hr (by omega:0≤n*s)
    rw[Int.mul_one] at this;exact this
   rw[timF,show min most (n*s)=n*s by omega]
   exact timF_prod (fun x hx=>h x (by simp[hx])) hns hb
theorem sumA_sum:∀L:List (List Int×Int),(L.map (·.2)).sum=sumA L
 | []=>rfl
 | y::r=>by rw[List.map_cons,List.sum_cons,sumA_sum r];rfl
def ir9:IFn:=
 ⟨114,[(2,none)],(.seq (.ops [oo 2 (.mov (kB false))])
 (.seq (.ops [oo 15 (.mov 0),
 oo 16 (.callF 15 [15]),
 oo 3 (.mov 16)])
 (.seq (.ops [oo 17 (.mov 3),
 oo 18 (.callF 14 [17,(kI 4),(kI 6),(kI 6)]),
 oo 4 (.new [.nsl,.nsl]),
 ⟨none,none,(.st 2 4 18)⟩])
 (.seq (.ops [oo 20 (.ld 2 true 4),
 oo 21 (.mov 3),
 oo 22 (.ld 2 true 4),
 oo 23 (.callF 36 [21,22]),
 ⟨none,none,(.chk 2 true 4 20)⟩,
 oo 24 (.callF 28 [20,23]),
 oo 19 (.mov 24),
 oo 25 (.ext 0 19),
 oo 26 (.ext 1 19),
 oo 5 (.mov 25),
 oo 6 (.mov 26)])
 (.seq (.ops [oo 28 (.ld 2 true 4),
 oo 29 (.callF 21 [28]),
 oo 27 (.mov 29),
 oo 30 (.ext 0 27),
 oo 31 (.ext 1 27),
 oo 32 (.ext 2 27),
 oo 7 (.mov 30),
 oo 8 (.mov 31),
 oo 9 (.mov 32)])
 (.seq (.ops [oo 34 (.ld 2 true 4),
 oo 35 (.mov 5),
 oo 36 (.callF 37 [34,35]),
 oo 33 (.mov 36),
 oo 37 (.ext 0 33),
 oo 38 (.ext 1 33),
 oo 39 (.ext 2 33),
 oo 10 (.mov 37),
 oo 11 (.mov 38),
 oo 12 (.mov 39)])
 (.seq (.ops [oo 40 (.mov 7),
 oo 41 (.mov 5),
 oo 42 (.callF 29 [40,41]),
 oo 13 (.mov 42)])
 (.seq (.seq (.ops [oo 43 (.mov 6),
 oo 44 (.bin .neq 43 (kI 0)),
 oo 45 (.mov 44),
 ⟨(some 46),(some (45,false)),(.mov 9)⟩,
 ⟨(some 47),(some (45,false)),(.bin .neq 46 (kI 0))⟩,
 oo 48 (.pick 45 (kB true) 47),
 oo 49 (.mov 48),
 ⟨(some 50),(some (49,false)),(.mov 12)⟩,
 ⟨(some 51),(some (49,false)),(.bin .neq 50 (kI 0))⟩,
 oo 52 (.pick 49 (kB true) 51),
 oo 53 (.mov 52),
 ⟨(some 54),(some (53,false)),(.mov 8)⟩,
 ⟨(some 55),(some (53,false)),(.len false 54)⟩,
 ⟨(some 56),(some (53,false)),(.mov 7)⟩,
 ⟨(some 57),(some (53,false)),(.len false 56)⟩,
 ⟨(some 58),(some (53,false)),(.bin .neq 55 57)⟩,
 oo 59 (.pick 53 (kB true) 58),
 oo 60 (.mov 59),
 ⟨(some 61),(some (60,false)),(.mov 13)⟩,
 ⟨(some 62),(some (60,false)),(.bin .lss 61 (kI 0))⟩,
 oo 63 (.pick 60 (kB true) 62),
 oo 64 (.mov 63),
 ⟨(some 65),(some (64,false)),(.mov 8)⟩,
 ⟨(some 66),(some (64,false)),(.mov 13)⟩,
 ⟨(some 67),(some (64,false)),(.ixA 1 65 66)⟩,
 ⟨(some 68),(some (64,false)),(.ld 1 false 67)⟩,
 ⟨(some 69),(some (64,false)),(.mov 10)⟩,
 ⟨(some 70),(some (64,false)),(.bin .neq 68 69)⟩,
 oo 71 (.pick 64 (kB true) 70),
 oo 72 (.mov 71),
 ⟨(some 73),(some (72,false)),(.mov 11)⟩,
 ⟨(some 74),(some (72,false)),(.ld 2 true 4)⟩,
 ⟨(some 75),(some (72,false)),(.callF 25 [74])⟩,
 ⟨(some 76),(some (72,false)),(.callF 26 [75,(kI 1125899906842624)])⟩,
 ⟨(some 77),(some (72,false)),(.bin .neq 73 76)⟩,
 oo 78 (.pick 72 (kB true) 77),
 oo 79 (.mov 78),
 ⟨(some 80),(some (79,false)),(.mov 8)⟩,
 ⟨(some 81),(some (79,false)),(.callF 38 [80])⟩,
 ⟨(some 82),(some (79,false)),(.mov 11)⟩,
 ⟨(some 83),(some (79,false)),(.bin .neq 81 82)⟩,
 oo 84 (.pick 79 (kB true) 83)])
 (.cnd 84
 (.seq (.ops [oo 2 (.mov (kB false))])
 .ret)
 .skip))
 (.seq (.seq (.ops [oo 14 (.mov (kI 0))])
 (.blk 0 (.loop (.seq (.seq (.ops [oo 85 (.mov 14),
 oo 86 (.mov 7),
 oo 87 (.len false 86),
 oo 88 (.bin .lss 85 87)])
 (.cnd 88
 .skip
 (.exit 0)))
 (.seq (.blk 1 (.seq (.ops [oo 91 (.mov 8),
 oo 92 (.mov 14),
 oo 93 (.ixA 1 91 92),
 oo 94 (.ld 1 false 93),
 oo 95 (.bin .lss 94 (kI 1)),
 oo 96 (.mov 95),
 ⟨(some 97),(some (96,false)),(.mov 14)⟩,
 ⟨(some 98),(some (96,false)),(.bin .gtr 97 (kI 0))⟩,
 ⟨(some 99),(some (96,false)),(.mov 98)⟩,
 ⟨(some 100),(some (99,true)),(.mov 7)⟩,
 ⟨(some 101),(some (99,true)),(.mov 14)⟩,
 ⟨(some 102),(some (99,true)),(.bin .sub 101 (kI 1))⟩,
 ⟨(some 103),(some (99,true)),(.ixA 1 100 102)⟩,
 ⟨(some 104),(some (99,true)),(.ld 1 false 103)⟩,
 ⟨(some 105),(some (99,true)),(.mov 7)⟩,
 ⟨(some 106),(some (99,true)),(.mov 14)⟩,
 ⟨(some 107),(some (99,true)),(.ixA 1 105 106)⟩,
 ⟨(some 108),(some (99,true)),(.ld 1 false 107)⟩,
 ⟨(some 109),(some (99,true)),(.callF 39 [104,108])⟩,
 ⟨(some 110),(some (99,true)),(.bin .geq 109 (kI 0))⟩,
 ⟨(some 111),(some (96,false)),(.pick 99 110 (kB false))⟩,
 oo 112 (.pick 96 (kB true) 111)])
 (.cnd 112
 (.seq (.ops [oo 2 (.mov (kB false))])
 .ret)
 .skip)))
 (.ops [oo 89 (.mov 14),
 oo 90 (.bin .add 89 (kI 1)),
 oo 14 (.mov 90)]))))))
 (.seq (.ops [oo 113 (.callF 13 []),
 oo 2 (.mov 113)])
 .ret))))))))))⟩
def hint9 (P:Program):Hint:={}
theorem allL_srt (n:Nat):∀k:Nat,(allL n k).Pairwise fun a b=>lexI a b<0
 | 0=>List.pairwise_singleton _ _
 | k+1=>by
   rw[allL,List.pairwise_flatMap]
   constructor
   · intro w _
     rw[List.pairwise_map]
     refine (allL_srt n k).imp fun h=>?_
     rw[lexI,if_pos (cmpI_eq.2 rfl)];exact h
   · refine List.pairwise_lt_range.imp fun {a b} h x hx y hy=>?_
     obtain⟨x',_,rfl⟩:=List.mem_map.1 hx
     obtain⟨y',_,rfl⟩:=List.mem_map.1 hy
     have:cmpI (a:Int) (b:Int)<0:=cmpI_lt.2 (by omega)
     rw[lexI,if_neg (by omega)];exact this
theorem crsG_srt {G:Gm} (h:GOK G):((crsG G).map (·.1)).Pairwise fun a b=>lexI a b<0:=by
 rw[crsG_list h,List.map_map]
 show (List.map (fun s=>s) _).Pairwise _
 rw[List.map_id']
 exact (allL_srt _ _).sublist List.filter_sublist
theorem gameTruth_c (nums:List Int) (hn:nums.length<2^62):Fn0 Try.prog 9 [.slc 1 (iR nums) .non] (fun v=>v= .bool true):=by
 refine RawC.walk (H:=hint9 Try.prog) ir9 Try.func9 rfl rfl rfl ?_
 unfold ir9
 repeat' (first
  | refine advE ?_ | with_reducible refine w_alt ?_ ?_
  | with_reducible refine zI fun y hy=>?_ | refine advL ?_
  | ((with_reducible refine acall_id ?_);refine ACall.liftS (boxOf_s nums hn) [] (some 6) rfl rfl rfl trivial (fun _=>rfl) ?_;rintro⟨gb,w⟩ _ rfl)
  | ((with_reducible refine acall_id ?_);refine ACall.box (gameOf_c _ _ 4 6 6 (by decide) (by decide) (by decide)) rfl rfl rfl ?_;rintro _ _ ⟨G,rfl,hm⟩)
  | ((with_reducible refine acall_id ?_);refine ACall.box (picksOf_c _ _ G hm.e) rfl rfl rfl ?_;rintro _ _ ⟨ps,rfl,hps⟩)
  | refine adv ?_ | with_reducible (first | intro _ | refine Rt.p (fun _=>?_) fun _=>?_)
  | ((with_reducible apply w_ixM);(focus exact rfl);(focus exact rfl);case' hk=>intro y hy) | ((with_reducible (first | apply w_val | apply q_ends));(focus exact rfl)))
 have h0:=hm.e
 have hG:=gm_ok h0
 have hn4:(G.ws.length:Int)≤4:=hm.n2
 have hd24:=hm.d
 have hcn:=hG.cen
 have hws:∀w∈G.ws,w.name.size≤1000:=fun w hw=>by have:=(madeW_ok hm.w).2 w hw;omega
 have hcr:=made_crs (a:=4) (b:=6) hm (by decide) (by decide) (by decide)
 have hSz:=Sizes_c G hG
 have hsb:=szL_bd tb0_in hG.ex
 have hsl:=szL_288 hG
 have hsum:=crsG_sum hG
 have hall:=allW_bd hG
 have hszp:allW G=prodI (szL (stepsG G.ds) tb0.bags):=szP_prod _ _
 have hmem:=fun c=>crsG_mem hG (c:=c)
 have hsrt:=crsG_srt hG
 have hC:=subV2 (courses_f G (invW G.ws.length) (by omega) (by omega) hws gmOK) (sub_crsA _ _)
 obtain⟨b1,b2⟩:=crsO_bd G
 rw[hcr] at hC b1
 dsimp only at hC b1
 obtain⟨x,hx1,_,hx3⟩:=play_crs h0 hps
 have hPx:=Play_c G ps (by omega) (by omega) hws (by rw[(allP_mem.1 hps).1];omega)
 rw[hx1,show plA (x,0)=AV.tup [.slc 1 (iR x) .non,.int .i64 0] from rfl] at hPx
 obtain⟨⟨g1,g2⟩,g3,_⟩:=(hmem _).1 hx3
 dsimp only at g1 g2 g3
 have hWy:=waysP_c G x h0 hws g1 g2 g3
 obtain⟨A,hAe⟩:∃A,crsG G=A:=⟨_,rfl⟩
 rw[hAe] at hC b1 hsum hsrt hx3
 simp only[hAe] at hmem
 have hq2:∀y∈A,0<y.2:=fun y hy=>by obtain⟨_,h3,h4⟩:=(hmem y).1 hy;omega
 have hmA:∀y∈A.map (·.1),y.length<1000000:=fun y hy=>by
  obtain⟨z,hz,rfl⟩:=List.mem_map.1 hy
  have:=((hmem z).1 hz).1.1;omega
 have hLA:(A.map (·.1)).length=A.length:=List.length_map _
 have hLW:(A.map (·.2)).length=A.length:=List.length_map _
 obtain⟨S,hS⟩:∃S,szL (stepsG G.ds) tb0.bags=S:=⟨_,rfl⟩
 have hT:=times_c S 1125899906842624 (by rw[←hS];omega) (by decide) fun s hs=>by have:=hsb s (by rw[hS];exact hs);omega
 have hTp:timF 1125899906842624 1 S=allW G:=by
  rw[hszp,hS,timF_prod (fun s hs=>(hsb s (by rw[hS];exact hs)).1) (by decide) (by rw[←hS,←hszp];omega)];omega
 rw[hTp] at hT
 rw[hS] at hSz
 have hsm:=sumL_c (A.map (·.2)) (by omega) (fun s hs=>by obtain⟨z,hz,rfl⟩:=List.mem_map.1 hs;have:=hq2 z hz;omega) (by rw[sumA_sum,hsum];omega)
 rw[sumA_sum,hsum] at hsm
 obtain⟨k,hk1,hk2⟩:=plcI_mem (k:=0) (List.mem_map.2 ⟨_,hx3,rfl⟩:x∈A.map (·.1))
 have hPl:=place_c (A.map (·.1)) x (by omega) hmA
 rw[hk2] at hPl
 have hkv:(A.map (·.2))[k]?=some (cwG G x):=by
  rw[List.getElem?_map] at hk1 ⊢
  obtain⟨y,hy1,hy2⟩:=Option.map_eq_some_iff.1 hk1
  have hy3:=((hmem y).1 (List.mem_of_getElem? hy1)).2.2
  rw[hy1]
  show some y.2=some _
  rw[hy3,hy2]
 obtain⟨hV1,hV2⟩:=mid_of hkv
 have hi3:(0:Int)+(k:Nat)=(((A.map (·.2)).take k).length:Int):=by rw[hV2];omega
 repeat' (first
  | refine advE ?_ | with_reducible refine w_alt ?_ ?_
  | (first | refine w_ixP (f:=fun x:Int=>[AV.int .i64 x]) hV1 rfl (congrArg (AV.int .i64) hi3) ?_)
  | with_reducible refine zI fun y hy=>?_ | refine advL ?_
  | ((with_reducible refine acall_id ?_);refine ACall.val hPx rfl rfl ?_)
  | ((with_reducible refine acall_id ?_);refine ACall.val hC rfl rfl ?_)
  | ((with_reducible refine acall_id ?_);refine ACall.val hWy rfl rfl ?_)
  | ((with_reducible refine acall_id ?_);refine ACall.val hPl rfl rfl ?_)
  | ((with_reducible refine acall_id ?_);refine ACall.val hsm rfl rfl ?_)
  | ((with_reducible refine acall_id ?_);refine ACall.val hSz rfl rfl ?_)
  | ((with_reducible refine acall_id ?_);refine ACall.val hT rfl rfl ?_)
  | refine adv ?_ | with_reducible (first | intro _ | refine Rt.p (fun _=>?_) fun _=>?_)
  | ((with_reducible apply w_ixM);(focus exact rfl);(focus exact rfl);case' hk=>intro y hy) | ((with_reducible (first | apply w_val | apply q_ends));(focus exact rfl)))
 all_goals try (exfalso;omega)
 refine w_loopK [7,8] [] (fun z:List (List Int×Int)×List (List Int×Int)=>A=z.1++z.2) (fun z=>z.2.length) (fun z=>[(14,.int .i64 (z.1.length:Int))]) (fun _=>[]) ([],A) rfl ⟨rfl,trivial⟩ trivial ?_
 rintro⟨pre,post⟩ hl e σ
 dsimp only at hl ⊢
 have hlen:=congrArg List.length hl
 rw[List.length_append] at hlen
 cases post with
 | nil=>
   simp only[List.length_nil] at hlen
   repeat' (first
    | refine advE ?_ | with_reducible refine w_alt ?_ ?_
    | with_reducible refine zI fun y hy=>?_ | refine advL ?_
    | ((with_reducible refine acall_id ?_);refine ACall.val awake_c rfl rfl ?_)
    | refine adv ?_ | with_reducible (first | intro _ | refine Rt.p (fun _=>?_) fun _=>?_)
    | ((with_reducible apply w_ixM);(focus exact rfl);(focus exact rfl);case' hk=>intro y hy) | ((with_reducible (first | apply w_val | apply q_ends));(focus exact rfl)))
   all_goals first
    | (exfalso;omega)
    | rfl
 | cons z post=>
   simp only[List.length_cons] at hlen
   have hz2:=hq2 z (by rw[hl];simp)
   have hzl:=((hmem z).1 (by rw[hl];simp)).1.1
   have hzb:=sumA_mem hq2 pre.length
   have hzg:(A.map (·.2)).getD pre.length 0=z.2:=by
    rw[hl,List.map_append,List.map_cons]
    have:=mid_get (pre.map (·.2)) z.2 (post.map (·.2))
    rw[List.length_map] at this;exact this
   rw[hzg,hsum] at hzb
   have hW:A.map (·.2)=pre.map (·.2)++z.2::post.map (·.2):=by rw[hl,List.map_append,List.map_cons]
   have hL:A.map (·.1)=pre.map (·.1)++z.1::post.map (·.1):=by rw[hl,List.map_append,List.map_cons]
   rcases List.eq_nil_or_concat pre with rfl | ⟨pre',u,rfl⟩
   · have hz:([]:List (List Int×Int)).length=0:=rfl
     repeat' (first
      | refine advE ?_ | with_reducible refine w_alt ?_ ?_
      | (first | refine w_ixP (f:=fun x:Int=>[AV.int .i64 x]) hW rfl rfl ?_ | refine w_ixP hL rfl rfl ?_)
      | with_reducible refine zI fun y hy=>?_ | refine advL ?_
      | refine adv ?_ | with_reducible (first | intro _ | refine Rt.p (fun _=>?_) fun _=>?_)
      | ((with_reducible apply w_ixM);(focus exact rfl);(focus exact rfl);case' hk=>intro y hy) | ((with_reducible (first | apply w_val | apply q_ends));(focus exact rfl)))
     all_goals first
      | (exfalso;omega)
      | exact q_loop ([z],post) hl (Nat.lt_succ_self _) ⟨rfl,trivial⟩ (by repeat' (first | exact slots_nil | apply slots_cons | rfl | (rw[map_snoc];rfl) | (rw[len_snoc];rfl) | (rw[hS];rfl) | (rw[hS,map_snoc];rfl) | (refine int_eq ?_;(try dsimp only);omega) | (refine congrArg AV.bool ?_;simp_all;done))) (by repeat' (first | exact kept_nil | apply kept_cons | rfl)) (by repeat' (first | exact kept_nil | apply kept_cons | rfl))
   · simp only[List.concat_eq_append] at hl hW hL hlen ⊢
     rw[len_snoc] at hlen ⊢
     have hul:=((hmem u).1 (by rw[hl];simp)).1.1
     have hL':A.map (·.1)=pre'.map (·.1)++u.1::z.1::post.map (·.1):=by rw[hl];simp
     have hi1:((pre'.length+1:Nat):Int)=((pre'++[u]).map (·.2)).length:=by rw[List.length_map,len_snoc]
     have hi2:((pre'.length+1:Nat):Int)=((pre'++[u]).map (·.1)).length:=by rw[List.length_map,len_snoc]
     have hi4:((pre'.length+1:Nat):Int)-1=(pre'.map (·.1)).length:=by rw[List.length_map];omega
     have hB:=befr_c u.1 z.1 (by omega) (by omega)
     have hBn:befF u.1 z.1<0:=by
      unfold befF
      rw[if_pos (by omega)]
      have h1:=hsrt
      rw[hL',List.pairwise_append] at h1
      exact (List.pairwise_cons.1 h1.2.1).1 z.1 (by simp)
     repeat' (first
      | refine advE ?_ | with_reducible refine w_alt ?_ ?_
      | (first | refine w_ixP (f:=fun x:Int=>[AV.int .i64 x]) hW rfl (congrArg (AV.int .i64) hi1) ?_ | refine w_ixP hL rfl (congrArg (AV.int .i64) hi2) ?_ | refine w_ixP hL' rfl (congrArg (AV.int .i64) hi4) ?_)
      | with_reducible refine zI fun y hy=>?_ | refine advL ?_
      | ((with_reducible refine acall_id ?_);refine ACall.val hB rfl rfl ?_)
      | refine adv ?_ | with_reducible (first | intro _ | refine Rt.p (fun _=>?_) fun _=>?_)
      | ((with_reducible apply w_ixM);(focus exact rfl);(focus exact rfl);case' hk=>intro y hy) | ((with_reducible (first | apply w_val | apply q_ends));(focus exact rfl)))
     all_goals first
      | (exfalso;omega)
      | exact q_loop (pre'++[u]++[z],post) (by show A=_;rw[hl];simp) (Nat.lt_succ_self _) ⟨by rw[len_snoc,len_snoc];rfl,trivial⟩ (by repeat' (first | exact slots_nil | apply slots_cons | rfl | (rw[map_snoc];rfl) | (rw[len_snoc];rfl) | (rw[hS];rfl) | (rw[hS,map_snoc];rfl) | (refine int_eq ?_;(try dsimp only);omega) | (refine congrArg AV.bool ?_;simp_all;done))) (by repeat' (first | exact kept_nil | apply kept_cons | rfl)) (by repeat' (first | exact kept_nil | apply kept_cons | rfl))
end Go.Abs
