/- A part of the proofs of the laws of this seat: contracts of the functions that they reach, each proved of the program's form in Lean. No condition beyond those that each contract names. -/
import Derived.Test.YtecogfpnfhkibaaProg
import Derived.Test.YtecogfpnfhkibaaSnd3
import Derived.Test.YtecogfpnfhkibaaA0
import Derived.Test.YtecogfpnfhkibaaN1a
import Derived.Test.YtecogfpnfhkibaaN1b
import Derived.Test.YtecogfpnfhkibaaN1c
import Derived.Test.YtecogfpnfhkibaaN1d
import Derived.Test.YtecogfpnfhkibaaN1e
import Derived.Test.YtecogfpnfhkibaaN1f
set_option linter.unusedVariables false
set_option linter.unusedSimpArgs false
set_option maxRecDepth 20000
set_option maxHeartbeats 4000000
namespace Go.Abs
open Go.Proofs
theorem Play_c (G:Gm) (ps:List Int) (hw:G.ws.length<1000) (hd:G.ds.length<1000) (hs:∀w∈G.ws,w.name.size≤1000) (hps:ps.length<1000000):Fn0 Try.prog 28 [gmA G,.slc 1 (iR ps) .non] (fun v=>v=plA (playO G ps)):=by
 have hck:=gCheck_c G hw hd hs
 obtain⟨R,hR⟩:∃R,playO G ps=R:=⟨_,rfl⟩
 rw[hR]
 unfold playO at hR
 by_cases h0:gmErr G=0
 rotate_left
 · rw[if_neg h0] at hR
   subst hR
   unfold plA
   rw[if_neg h0]
   refine RawC.walk (H:=hint28 Try.prog) ir28 Try.func28 rfl rfl rfl ?_
   unfold ir28
   repeat' (first
    | refine advE ?_ | with_reducible refine w_alt ?_ ?_
    | with_reducible refine zI fun y hy=>?_ | refine advL ?_
    | ((with_reducible refine acall_id ?_);refine ACall.val hck rfl rfl ?_)
    | refine adv ?_ | with_reducible (first | intro _ | refine Rt.p (fun _=>?_) fun _=>?_)
    | ((with_reducible apply w_ixM);(focus exact rfl);(focus exact rfl);case' hk=>intro y hy) | ((with_reducible (first | apply w_val | apply q_ends));(focus exact rfl)))
   all_goals first
    | (exfalso;omega)
    | rfl
 rw[if_pos h0] at hR
 rw[h0] at hck
 have hG:=gm_ok h0
 have hd24:=hG.d24
 have hcnt:=hG.cnt
 have hdl:=drawN_le hcnt
 refine RawC.walk (H:=hint28 Try.prog) ir28 Try.func28 rfl rfl rfl ?_
 unfold ir28
 repeat' (first
  | refine advE ?_ | with_reducible refine w_alt ?_ ?_
  | with_reducible refine zI fun y hy=>?_ | refine advL ?_
  | ((with_reducible refine acall_id ?_);refine ACall.val hck rfl rfl ?_)
  | refine adv ?_ | with_reducible (first | intro _ | refine Rt.p (fun _=>?_) fun _=>?_)
  | ((with_reducible apply w_ixM);(focus exact rfl);(focus exact rfl);case' hk=>intro y hy) | ((with_reducible (first | apply w_val | apply q_ends));(focus exact rfl)))
 all_goals try (exfalso;omega)
 refine w_loopK [1,2,26,27] [2] (fun x:List Dl×List Dl=>G.ds=x.1++x.2) (fun x=>x.2.length) (fun x=>[(7,.int .i64 (drawN (stepsG x.1):Nat)),(28,.int .i64 (x.1.length:Int))]) (fun _=>[]) ([],G.ds) rfl ⟨rfl,rfl,trivial⟩ trivial ?_
 rintro⟨pre,post⟩ hl e σ
 dsimp only at hl ⊢
 have hlen:=congrArg List.length hl
 rw[List.length_append] at hlen
 have hdp:=drawN_le (l:=pre) fun d hd=>hcnt d (by rw[hl];simp[hd])
 cases post with
 | cons d post=>
   simp only[List.length_cons] at hlen
   have hdc:=hcnt d (by rw[hl];simp)
   have hdr:=draws_c d
   have hsn:drawN (stepsG (pre++[d]))=drawN (stepsG pre)+(if drawsB d=true then d.count.toNat else 0):=by
    show drawN ((pre++[d]).flatMap stp1)=_
    rw[List.flatMap_append,drawN_app,List.flatMap_cons,List.flatMap_nil,List.append_nil,drawN_stp];rfl
   cases hdb:drawsB d with
   | true=>
     rw[hdb] at hdr hsn
     rw[if_pos rfl] at hdr hsn
     have:=hdc hdb
     repeat' (first
      | refine advE ?_ | with_reducible refine w_alt ?_ ?_
      | (refine w_ixP (f:=fun d:Dl=>[AV.int .i64 d.kind,.int .i64 d.bag,.int .i64 d.other,.int .i64 d.wood,.int .i64 d.count]) hl rfl rfl ?_)
      | with_reducible refine zI fun y hy=>?_ | refine advL ?_
      | ((with_reducible refine acall_id ?_);refine ACall.val hdr rfl rfl ?_)
      | refine adv ?_ | with_reducible (first | intro _ | refine Rt.p (fun _=>?_) fun _=>?_)
      | ((with_reducible apply w_ixM);(focus exact rfl);(focus exact rfl);case' hk=>intro y hy) | ((with_reducible (first | apply w_val | apply q_ends));(focus exact rfl)))
     all_goals first
      | (exfalso;omega)
      | exact q_loop (pre++[d],post) (by show G.ds=_;rw[hl];simp) (Nat.lt_succ_self _) ⟨by show AV.int .i64 _=AV.int .i64 _;rw[hsn];exact int_eq (by omega),by rw[len_snoc];rfl,trivial⟩ (by repeat' (first | exact slots_nil | apply slots_cons | rfl | (rw[map_snoc];rfl) | (rw[len_snoc];rfl) | (rw[hS];rfl) | (rw[hS,map_snoc];rfl) | (refine int_eq ?_;(try dsimp only);omega) | (refine congrArg AV.bool ?_;simp_all;done))) (by repeat' (first | exact kept_nil | apply kept_cons | rfl)) (by repeat' (first | exact kept_nil | apply kept_cons | rfl))
   | false=>
     rw[hdb] at hdr hsn
     rw[if_neg Bool.false_ne_true] at hdr hsn
     repeat' (first
      | refine advE ?_ | with_reducible refine w_alt ?_ ?_
      | (refine w_ixP (f:=fun d:Dl=>[AV.int .i64 d.kind,.int .i64 d.bag,.int .i64 d.other,.int .i64 d.wood,.int .i64 d.count]) hl rfl rfl ?_)
      | with_reducible refine zI fun y hy=>?_ | refine advL ?_
      | ((with_reducible refine acall_id ?_);refine ACall.val hdr rfl rfl ?_)
      | refine adv ?_ | with_reducible (first | intro _ | refine Rt.p (fun _=>?_) fun _=>?_)
      | ((with_reducible apply w_ixM);(focus exact rfl);(focus exact rfl);case' hk=>intro y hy) | ((with_reducible (first | apply w_val | apply q_ends));(focus exact rfl)))
     all_goals first
      | (exfalso;omega)
      | exact q_loop (pre++[d],post) (by show G.ds=_;rw[hl];simp) (Nat.lt_succ_self _) ⟨by show AV.int .i64 _=AV.int .i64 _;rw[hsn];exact int_eq (by omega),by rw[len_snoc];rfl,trivial⟩ (by repeat' (first | exact slots_nil | apply slots_cons | rfl | (rw[map_snoc];rfl) | (rw[len_snoc];rfl) | (rw[hS];rfl) | (rw[hS,map_snoc];rfl) | (refine int_eq ?_;(try dsimp only);omega) | (refine congrArg AV.bool ?_;simp_all;done))) (by repeat' (first | exact kept_nil | apply kept_cons | rfl)) (by repeat' (first | exact kept_nil | apply kept_cons | rfl))
 | nil=>
 simp only[List.length_nil] at hlen
 rw[List.append_nil] at hl
 subst hl
 by_cases hln:ps.length=drawN (stepsG G.ds)
 rotate_left
 · rw[if_neg hln] at hR
   subst hR
   repeat' (first
    | refine advE ?_ | with_reducible refine w_alt ?_ ?_
    | with_reducible refine zI fun y hy=>?_ | refine advL ?_
    | refine adv ?_ | with_reducible (first | intro _ | refine Rt.p (fun _=>?_) fun _=>?_)
    | ((with_reducible apply w_ixM);(focus exact rfl);(focus exact rfl);case' hk=>intro y hy) | ((with_reducible (first | apply w_val | apply q_ends));(focus exact rfl)))
   all_goals first
    | (exfalso;omega)
    | rfl
 rw[if_pos hln] at hR
 repeat' (first
  | refine advE ?_ | with_reducible refine w_alt ?_ ?_
  | with_reducible refine zI fun y hy=>?_ | refine advL ?_
  | refine adv ?_ | with_reducible (first | intro _ | refine Rt.p (fun _=>?_) fun _=>?_)
  | ((with_reducible apply w_ixM);(focus exact rfl);(focus exact rfl);case' hk=>intro y hy) | ((with_reducible (first | apply w_val | apply q_ends));(focus exact rfl)))
 all_goals try (exfalso;omega)
 rename_i g12 g13
 refine w_loopK [12,46,47] [] (fun x:List Dl×List Dl×List Int×List Int×List Int×Nat×List Int×Int=>G.ds=x.1++x.2.1∧playS (stepsG x.2.1) x.2.2.1 x.2.2.2.1 x.2.2.2.2.1=playS (stepsG G.ds) bg0 ps []∧x.2.2.2.1.length=drawN (stepsG x.2.1)∧x.2.2.2.2.1.length≤12*x.1.length∧tbIn x.2.2.2.2.2.2.1 x.2.2.2.2.2.2.2∧runOK G.ws.length (stepsG x.2.1) x.2.2.2.2.2.2.1 x.2.2.2.2.2.2.2∧bgT G.ws.length x.2.2.2.2.2.2.1 x.2.2.1) (fun x=>x.2.1.length)
  (fun x=>[(48,.int .i64 (x.1.length:Int)),(1,.slc 1 (iR x.2.2.2.1) .non),(13,.slc 1 (iR x.2.2.2.2.1) (.own 13 x.2.2.2.2.2.1))]) (fun x=>[(12,(g12,.row (nI x.2.2.1))),(13,(x.2.2.2.2.2.1,.row []))]) ([],G.ds,bg0,ps,[],g13,tb0.bags,tb0.mixed) ⟨rfl,rfl,hln,Nat.le_refl _,tb0_in,hG.ex,bgT0 _⟩ ⟨rfl,rfl,rfl,trivial⟩ ⟨rfl,rfl,trivial⟩ ?_
 rintro⟨pre,post,B,qs,c,gc,b,m⟩ ⟨hl,hpl,hq,hcl,ht,hr,hB⟩ e1 σ1
 dsimp only at hl hpl hq hcl ht hr hB ⊢
 have hlen:=congrArg List.length hl
 rw[List.length_append] at hlen
 have hBl:=hB.l
 have hin:=hB.bgin ht
 have hcl2:(iR c).length=c.length:=List.length_map _
 cases post with
 | nil=>
   simp only[List.length_nil] at hlen
   rw[show playS (stepsG []) B qs c=some c from rfl] at hpl
   rw[←hpl] at hR
   subst hR
   repeat' (first
    | refine advE ?_ | with_reducible refine w_alt ?_ ?_
    | with_reducible refine zI fun y hy=>?_ | refine advL ?_
    | refine adv ?_ | with_reducible (first | intro _ | refine Rt.p (fun _=>?_) fun _=>?_)
    | ((with_reducible apply w_ixM);(focus exact rfl);(focus exact rfl);case' hk=>intro y hy) | ((with_reducible (first | apply w_val | apply q_ends));(focus exact rfl)))
   all_goals first
    | (exfalso;omega)
    | rfl
 | cons d post=>
   simp only[List.length_cons] at hlen
   have hdc:=hcnt d (by rw[hl];simp)
   have hdr:=draws_c d
   have hst:stepsG (d::post)=stp1 d++stepsG post:=rfl
   rw[hst] at hpl hq hr
   cases hdb:drawsB d with
   | false=>
     have e1:stp1 d=[(d,false,decide (d.kind=6))]:=by unfold stp1;rw[hdb];rfl
     rw[hdb] at hdr
     rw[if_neg Bool.false_ne_true,Bool.false_and] at hdr
     rw[e1] at hpl hq hr
     have hx:=hr.1
     have hmix:=mixed_c d B hin (fun h2=>by obtain⟨q1,q2,q3,q4⟩:=hx.h2 rfl h2;have hm2:=ht.m;have hn6:=hG.n6;dsimp only at q1 q2 q3 q4;exact⟨q1,by omega,by omega⟩) (fun h3=>hx.h3 rfl h3)
     have hml:(mixedB d B).length=24:=(hB.mix ht.l hG.n6 hx rfl).l
     have hgo:∀c':List Int,c'=(if d.kind=6 then c++[d.wood] else c)→(G.ds=(pre++[d])++post∧playS (stepsG post) (mixedB d B) qs c'=playS (stepsG G.ds) bg0 ps []∧qs.length=drawN (stepsG post)∧c'.length≤12*(pre++[d]).length∧tbIn (spB (d,false,decide (d.kind=6)) b) (spM (d,false,decide (d.kind=6)) m)∧runOK G.ws.length (stepsG post) (spB (d,false,decide (d.kind=6)) b) (spM (d,false,decide (d.kind=6)) m)∧bgT G.ws.length (spB (d,false,decide (d.kind=6)) b) (mixedB d B)):=fun c' hc'=>by
      refine⟨by rw[hl];simp,?_,?_,?_,(ht.step hx).1,hr.2,hB.mix ht.l hG.n6 hx rfl⟩
      · rw[←hpl,hc']
        show _=playS ((d,false,decide (d.kind=6))::stepsG post) B qs c
        rw[playS_f Bool.false_ne_true]
        by_cases h6:d.kind=6
        · rw[if_pos h6,if_pos (decide_eq_true h6)]
        · rw[if_neg h6,if_neg (by simpa using h6)]
      · rw[hq];rfl
      · rw[len_snoc,hc']
        split
        · rw[len_snoc];omega
        · omega
     by_cases h6:d.kind=6
     · repeat' (first
        | refine advE ?_ | with_reducible refine w_alt ?_ ?_
        | (first | refine w_ixP (f:=fun d:Dl=>[AV.int .i64 d.kind,.int .i64 d.bag,.int .i64 d.other,.int .i64 d.wood,.int .i64 d.count]) hl rfl rfl ?_ | refine w_ldN rfl rfl hBl ?_ | refine w_stN rfl rfl (by rw[List.length_map];exact hBl) rfl hml ?_)
        | with_reducible refine zI fun y hy=>?_ | refine advL ?_
        | ((with_reducible refine acall_id ?_);refine ACall.bgbg hmix rfl ?_)
        | ((with_reducible refine acall_id ?_);refine ACall.val hdr rfl rfl ?_)
        | refine adv ?_ | with_reducible (first | intro _ | refine Rt.p (fun _=>?_) fun _=>?_)
        | ((with_reducible apply w_ixM);(focus exact rfl);(focus exact rfl);case' hk=>intro y hy) | ((with_reducible (first | apply w_val | apply q_ends));(focus exact rfl)))
       all_goals try (exfalso;omega)
       rename_i gc'
       refine w_loopK [1,12,13,15,17,46,47,48] [12,13,15] (fun _:Unit=>True) (fun _=>0) (fun _=>[(16,.int .i64 0)]) (fun _=>[]) () trivial ⟨rfl,trivial⟩ trivial ?_
       rintro⟨⟩ _ e2 σ2
       repeat' (first
        | refine advE ?_ | with_reducible refine w_alt ?_ ?_
        | with_reducible refine zI fun y hy=>?_ | refine advL ?_
        | refine adv ?_ | with_reducible (first | intro _ | refine Rt.p (fun _=>?_) fun _=>?_)
        | ((with_reducible apply w_ixM);(focus exact rfl);(focus exact rfl);case' hk=>intro y hy) | ((with_reducible (first | apply w_val | apply q_ends));(focus exact rfl)))
       all_goals first
        | (exfalso;omega)
        | exact q_loop (pre++[d],post,mixedB d B,qs,c++[d.wood],gc',_,_) (hgo _ (by rw[if_pos h6])) (by show post.length<post.length+1;omega) ⟨by rw[len_snoc];rfl,rfl,rfl,trivial⟩ (by repeat' (first | exact slots_nil | apply slots_cons | rfl | (rw[map_snoc];rfl) | (rw[len_snoc];rfl) | (rw[hS];rfl) | (rw[hS,map_snoc];rfl) | (refine int_eq ?_;(try dsimp only);omega) | (refine congrArg AV.bool ?_;simp_all;done))) (by repeat' (first | exact kept_nil | apply kept_cons | rfl)) (by repeat' (first | exact kept_nil | apply kept_cons | rfl))
     · repeat' (first
        | refine advE ?_ | with_reducible refine w_alt ?_ ?_
        | (first | refine w_ixP (f:=fun d:Dl=>[AV.int .i64 d.kind,.int .i64 d.bag,.int .i64 d.other,.int .i64 d.wood,.int .i64 d.count]) hl rfl rfl ?_ | refine w_ldN rfl rfl hBl ?_ | refine w_stN rfl rfl (by rw[List.length_map];exact hBl) rfl hml ?_)
        | with_reducible refine zI fun y hy=>?_ | refine advL ?_
        | ((with_reducible refine acall_id ?_);refine ACall.bgbg hmix rfl ?_)
        | ((with_reducible refine acall_id ?_);refine ACall.val hdr rfl rfl ?_)
        | refine adv ?_ | with_reducible (first | intro _ | refine Rt.p (fun _=>?_) fun _=>?_)
        | ((with_reducible apply w_ixM);(focus exact rfl);(focus exact rfl);case' hk=>intro y hy) | ((with_reducible (first | apply w_val | apply q_ends));(focus exact rfl)))
       all_goals try (exfalso;omega)
       refine w_loopK [1,12,13,15,17,46,47,48] [12,13,15] (fun _:Unit=>True) (fun _=>0) (fun _=>[(16,.int .i64 0)]) (fun _=>[]) () trivial ⟨rfl,trivial⟩ trivial ?_
       rintro⟨⟩ _ e2 σ2
       repeat' (first
        | refine advE ?_ | with_reducible refine w_alt ?_ ?_
        | with_reducible refine zI fun y hy=>?_ | refine advL ?_
        | refine adv ?_ | with_reducible (first | intro _ | refine Rt.p (fun _=>?_) fun _=>?_)
        | ((with_reducible apply w_ixM);(focus exact rfl);(focus exact rfl);case' hk=>intro y hy) | ((with_reducible (first | apply w_val | apply q_ends));(focus exact rfl)))
       all_goals first
        | (exfalso;omega)
        | exact q_loop (pre++[d],post,mixedB d B,qs,c,gc,_,_) (hgo _ (by rw[if_neg h6])) (by show post.length<post.length+1;omega) ⟨by rw[len_snoc];rfl,rfl,rfl,trivial⟩ (by repeat' (first | exact slots_nil | apply slots_cons | rfl | (rw[map_snoc];rfl) | (rw[len_snoc];rfl) | (rw[hS];rfl) | (rw[hS,map_snoc];rfl) | (refine int_eq ?_;(try dsimp only);omega) | (refine congrArg AV.bool ?_;simp_all;done))) (by repeat' (first | exact kept_nil | apply kept_cons | rfl)) (by repeat' (first | exact kept_nil | apply kept_cons | rfl))
   | true=>
     have hdn:=hdc hdb
     have e1:stp1 d=List.replicate d.count.toNat (d,true,decide (d.kind=5)):=by unfold stp1;rw[hdb];rfl
     rw[hdb] at hdr
     rw[if_pos rfl,Bool.true_and] at hdr
     rw[e1] at hpl hq hr
     have hk45:d.kind=4∨d.kind=5:=by simpa[drawsB] using hdb
     have hmb:mixedB d B=B:=by unfold mixedB;rw[if_neg (by omega),if_neg (by omega)]
     have hmix:=mixed_c d B hin (fun h2=>by omega) (fun h3=>by omega)
     rw[hmb] at hmix
     repeat' (first
      | refine advE ?_ | with_reducible refine w_alt ?_ ?_
      | (first | refine w_ixP (f:=fun d:Dl=>[AV.int .i64 d.kind,.int .i64 d.bag,.int .i64 d.other,.int .i64 d.wood,.int .i64 d.count]) hl rfl rfl ?_ | refine w_ldN rfl rfl hBl ?_ | refine w_stN rfl rfl (by rw[List.length_map];exact hBl) rfl hBl ?_)
      | with_reducible refine zI fun y hy=>?_ | refine advL ?_
      | ((with_reducible refine acall_id ?_);refine ACall.bgbg hmix rfl ?_)
      | ((with_reducible refine acall_id ?_);refine ACall.val hdr rfl rfl ?_)
      | refine adv ?_ | with_reducible (first | intro _ | refine Rt.p (fun _=>?_) fun _=>?_)
      | ((with_reducible apply w_ixM);(focus exact rfl);(focus exact rfl);case' hk=>intro y hy) | ((with_reducible (first | apply w_val | apply q_ends));(focus exact rfl)))
     all_goals try (exfalso;omega)
     refine w_loopK [12,15,17,46,47,48] [15] (fun x:Nat×List Int×List Int×List Int×Nat×List Int×Int=>playS (List.replicate x.1 (d,true,decide (d.kind=5))++stepsG post) x.2.1 x.2.2.1 x.2.2.2.1=playS (stepsG G.ds) bg0 ps []∧x.2.2.1.length=x.1+drawN (stepsG post)∧x.2.2.2.1.length+x.1≤12*(pre.length+1)∧tbIn x.2.2.2.2.2.1 x.2.2.2.2.2.2∧runOK G.ws.length (List.replicate x.1 (d,true,decide (d.kind=5))++stepsG post) x.2.2.2.2.2.1 x.2.2.2.2.2.2∧bgT G.ws.length x.2.2.2.2.2.1 x.2.1) (fun x=>x.1)
      (fun x=>[(1,.slc 1 (iR x.2.2.1) .non),(13,.slc 1 (iR x.2.2.2.1) (.own 13 x.2.2.2.2.1)),(16,.int .i64 (x.1:Int))]) (fun x=>[(12,(g12,.row (nI x.2.1))),(13,(x.2.2.2.2.1,.row []))]) (d.count.toNat,B,qs,c,gc,b,m) ⟨hpl,by rw[hq,drawN_app,drawN_rep],by show c.length+d.count.toNat≤_;omega,ht,hr,hB⟩ ⟨rfl,rfl,int_eq (by show d.count=((d.count.toNat:Nat):Int);omega),trivial⟩ ⟨rfl,rfl,trivial⟩ ?_
     rintro⟨j,B1,qs1,c1,gc1,b1,m1⟩ ⟨ipl,iq,ic,it,ir,iB⟩ e2 σ2
     dsimp only at ipl iq ic it ir iB ⊢
     clear hB hin ht hr hmix hBl hpl hcl2
     have hBl:=iB.l
     have hin:=iB.bgin it
     have hcl2:(iR c1).length=c1.length:=List.length_map _
     cases j with
     | zero=>
       repeat' (first
        | refine advE ?_ | with_reducible refine w_alt ?_ ?_
        | with_reducible refine zI fun y hy=>?_ | refine advL ?_
        | refine adv ?_ | with_reducible (first | intro _ | refine Rt.p (fun _=>?_) fun _=>?_)
        | ((with_reducible apply w_ixM);(focus exact rfl);(focus exact rfl);case' hk=>intro y hy) | ((with_reducible (first | apply w_val | apply q_ends));(focus exact rfl)))
       all_goals try (exfalso;omega)
       all_goals
        exact q_loop (pre++[d],post,B1,qs1,c1,gc1,b1,m1) ⟨by rw[hl];simp,ipl,by rw[Nat.zero_add] at iq;exact iq,by show c1.length≤_;rw[len_snoc];exact ic,it,ir,iB⟩ (by show post.length<post.length+1;omega) ⟨by rw[len_snoc];rfl,rfl,rfl,trivial⟩ (by repeat' (first | exact slots_nil | apply slots_cons | rfl | (rw[map_snoc];rfl) | (rw[len_snoc];rfl) | (rw[hS];rfl) | (rw[hS,map_snoc];rfl) | (refine int_eq ?_;(try dsimp only);omega) | (refine congrArg AV.bool ?_;simp_all;done))) (by repeat' (first | exact kept_nil | apply kept_cons | rfl)) (by repeat' (first | exact kept_nil | apply kept_cons | rfl))
     | succ j=>
       cases qs1 with
       | nil=>exfalso;rw[List.length_nil] at iq;omega
       | cons p qs1=>
       have hx:=ir.1
       obtain⟨hb,ha⟩:=hx.d rfl
       have hsz:=iB.size hb
       have hbs:=bgsize_c B1 hin d.bag hb
       have h12:=it.le hb
       have hsm:=it.sm
       have htm:=it.m
       dsimp only at ha hb hsz h12
       rw[List.replicate_succ,List.cons_append,playS_t rfl] at ipl
       dsimp only at ipl
       have hgi:=gin_c p 0 (bgSize B1 d.bag-1)
       by_cases hp:0≤p∧p<bgSize B1 d.bag
       · rw[if_pos hp] at ipl
         rw[show inB p 0 (bgSize B1 d.bag-1)=true from inB_t.2 (by omega)] at hgi
         repeat' (first
          | refine advE ?_ | with_reducible refine w_alt ?_ ?_
          | (first | refine w_ldN rfl rfl hBl ?_ | refine w_ixP (l:=p::qs1) (pre:=[]) (y:=p) (post:=qs1) rfl rfl rfl ?_)
          | with_reducible refine zI fun y hy=>?_ | refine advL ?_
          | ((with_reducible refine acall_id ?_);refine ACall.bgint hbs rfl ?_)
          | ((with_reducible refine acall_id ?_);refine ACall.val hgi rfl rfl ?_)
          | refine adv ?_ | with_reducible (first | intro _ | refine Rt.p (fun _=>?_) fun _=>?_)
          | ((with_reducible apply w_ixM);(focus exact rfl);(focus exact rfl);case' hk=>intro y hy) | ((with_reducible (first | apply w_val | apply q_ends));(focus exact rfl)))
         all_goals try (exfalso;omega)
         all_goals
          obtain⟨R6,hR6⟩:∃R6,rowB B1 d.bag=R6:=⟨_,rfl⟩
          have hRl:R6.length=6:=by rw[←hR6];exact rowB_len _ _
          have hRn:∀v∈R6,0≤v:=by rw[←hR6];exact rowB_nn iB.nn d.bag
          have hRs:R6.sum=bgSize B1 d.bag:=by rw[←hR6];rfl
          have hpw:pickW B1 d.bag p=(pickF R6 p:Nat):=by unfold pickW;rw[hR6]
          have hRg:∀w,w<6→R6.getD w 0=B1.getD (d.bag.toNat*6+w) 0:=fun w hw=>by rw[←hR6,rowB_get _ _ hw];rfl
          refine w_loopK [1,12,13,15,16,17,46,47,48] [12,13,15] (fun x:Nat×Int=>(0≤x.2∧x.2<(R6.drop x.1).sum)∧x.2≤12∧x.1+pickF (R6.drop x.1) x.2=pickF R6 p∧x.1≤6) (fun x=>6-x.1) (fun x=>[(18,.int .i64 (x.1:Int)),(19,.int .i64 x.2)]) (fun _=>[]) (0,p) ⟨⟨hp.1,by show p<R6.sum;omega⟩,by show p≤12;omega,Nat.zero_add _,Nat.zero_le 6⟩ ⟨rfl,rfl,trivial⟩ trivial ?_
          rintro⟨w,k⟩ ⟨hk,hk12,hpk,hw6⟩ e3 σ3
          dsimp only at hk hk12 hpk hw6 ⊢
          have hw5:w<6:=by
           apply Classical.byContradiction
           intro h
           have:R6.drop w=[]:=List.drop_of_length_le (by omega)
           rw[this] at hk;simp at hk;omega
          have hdw:R6.drop w=R6.getD w 0::R6.drop (w+1):=by
           rw[List.drop_eq_getElem_cons (by omega),List.getD_eq_getElem?_getD,List.getElem?_eq_getElem (by omega)];rfl
          have hRw:=hRg w hw5
          have hin2:=hin.at (d.bag.toNat*6+w)
          have ho:0+d.bag.toNat*6+w*1=d.bag.toNat*6+w:=by omega
          have hpl2:d.bag.toNat*6+w<B1.length:=by omega
          rw[hdw,pickF] at hpk
          rw[hdw,List.sum_cons] at hk
          rw[hRw] at hpk hk
          by_cases hkw:k<B1.getD (d.bag.toNat*6+w) 0
          · rw[if_pos hkw] at hpk
            have hpw2:pickW B1 d.bag p=(w:Int):=by rw[hpw,←hpk];rfl
            rw[hpw2] at ipl
            have hdb2:=drawB_set B1 d.bag w
            rw[Int.toNat_natCast] at hdb2
            have hdl2:(drawB B1 d.bag w).length=24:=drawB_len hBl _ _
            have hB2:=iB.draw it.l hG.n6 hb (w:=(w:Int)) (by omega) (by show 0<B1.getD (d.bag.toNat*6+w) 0;omega)
            have hiq:qs1.length=j+drawN (stepsG post):=by rw[List.length_cons] at iq;omega
            have hts:=(it.step hx).1
            have hrs:=ir.2
            have hbe:spB (d,true,decide (d.kind=5)) b1=setI b1 d.bag (atI b1 d.bag+ -1):=by unfold spB;rw[if_pos rfl]
            rw[←hbe] at hB2
            by_cases h5:d.kind=5
            · rw[if_pos (decide_eq_true h5)] at ipl
              repeat' (first
               | refine advE ?_ | with_reducible refine w_alt ?_ ?_
               | (first | refine w_ldEl rfl ho rfl hpl2 ?_ | refine w_stElC rfl ho rfl hpl2 rfl hdb2 ?_ | refine w_sl1 rfl ?_)
               | with_reducible refine zI fun y hy=>?_ | refine advL ?_
               | refine adv ?_ | with_reducible (first | intro _ | refine Rt.p (fun _=>?_) fun _=>?_)
               | ((with_reducible apply w_ixM);(focus exact rfl);(focus exact rfl);case' hk=>intro y hy) | ((with_reducible (first | apply w_val | apply q_ends));(focus exact rfl)))
              all_goals try (exfalso;omega)
              all_goals
               rename_i gc2
               exact q_loop (j,drawB B1 d.bag w,qs1,c1++[(w:Int)],gc2,_,_) ⟨ipl,hiq,by show (c1++[(w:Int)]).length+j≤_;rw[len_snoc];omega,hts,hrs,hB2⟩ (Nat.lt_succ_self _) ⟨rfl,rfl,int_eq (by simp),trivial⟩ (by repeat' (first | exact slots_nil | apply slots_cons | rfl | (rw[map_snoc];rfl) | (rw[len_snoc];rfl) | (rw[hS];rfl) | (rw[hS,map_snoc];rfl) | (refine int_eq ?_;(try dsimp only);omega) | (refine congrArg AV.bool ?_;simp_all;done))) (by repeat' (first | exact kept_nil | apply kept_cons | rfl)) (by repeat' (first | exact kept_nil | apply kept_cons | rfl))
            · rw[if_neg (by simpa using h5)] at ipl
              repeat' (first
               | refine advE ?_ | with_reducible refine w_alt ?_ ?_
               | (first | refine w_ldEl rfl ho rfl hpl2 ?_ | refine w_stElC rfl ho rfl hpl2 rfl hdb2 ?_ | refine w_sl1 rfl ?_)
               | with_reducible refine zI fun y hy=>?_ | refine advL ?_
               | refine adv ?_ | with_reducible (first | intro _ | refine Rt.p (fun _=>?_) fun _=>?_)
               | ((with_reducible apply w_ixM);(focus exact rfl);(focus exact rfl);case' hk=>intro y hy) | ((with_reducible (first | apply w_val | apply q_ends));(focus exact rfl)))
              all_goals first
               | (exfalso;omega)
               | exact q_loop (j,drawB B1 d.bag w,qs1,c1,gc1,_,_) ⟨ipl,hiq,by show c1.length+j≤_;omega,hts,hrs,hB2⟩ (Nat.lt_succ_self _) ⟨rfl,rfl,int_eq (by simp),trivial⟩ (by repeat' (first | exact slots_nil | apply slots_cons | rfl | (rw[map_snoc];rfl) | (rw[len_snoc];rfl) | (rw[hS];rfl) | (rw[hS,map_snoc];rfl) | (refine int_eq ?_;(try dsimp only);omega) | (refine congrArg AV.bool ?_;simp_all;done))) (by repeat' (first | exact kept_nil | apply kept_cons | rfl)) (by repeat' (first | exact kept_nil | apply kept_cons | rfl))
          · rw[if_neg hkw] at hpk
            repeat' (first
             | refine advE ?_ | with_reducible refine w_alt ?_ ?_
             | (first | refine w_ldEl rfl ho rfl hpl2 ?_)
             | with_reducible refine zI fun y hy=>?_ | refine advL ?_
             | refine adv ?_ | with_reducible (first | intro _ | refine Rt.p (fun _=>?_) fun _=>?_)
             | ((with_reducible apply w_ixM);(focus exact rfl);(focus exact rfl);case' hk=>intro y hy) | ((with_reducible (first | apply w_val | apply q_ends));(focus exact rfl)))
            all_goals first
             | (exfalso;omega)
             | exact q_loop (w+1,k-B1.getD (d.bag.toNat*6+w) 0) ⟨by dsimp only;omega,by dsimp only;omega,by dsimp only;omega,hw5⟩ (by show 6-(w+1)<6-w;omega) ⟨by show AV.int .i64 _=AV.int .i64 _;exact int_eq (by simp),rfl,trivial⟩ (by repeat' (first | exact slots_nil | apply slots_cons | rfl | (rw[map_snoc];rfl) | (rw[len_snoc];rfl) | (rw[hS];rfl) | (rw[hS,map_snoc];rfl) | (refine int_eq ?_;(try dsimp only);omega) | (refine congrArg AV.bool ?_;simp_all;done))) (by repeat' (first | exact kept_nil | apply kept_cons | rfl)) (by repeat' (first | exact kept_nil | apply kept_cons | rfl))
       · rw[if_neg hp] at ipl
         rw[←ipl] at hR
         subst hR
         rw[show inB p 0 (bgSize B1 d.bag-1)=false from inB_f.2 (by omega)] at hgi
         repeat' (first
          | refine advE ?_ | with_reducible refine w_alt ?_ ?_
          | (first | refine w_ldN rfl rfl hBl ?_ | refine w_ixP (l:=p::qs1) (pre:=[]) (y:=p) (post:=qs1) rfl rfl rfl ?_)
          | with_reducible refine zI fun y hy=>?_ | refine advL ?_
          | ((with_reducible refine acall_id ?_);refine ACall.bgint hbs rfl ?_)
          | ((with_reducible refine acall_id ?_);refine ACall.val hgi rfl rfl ?_)
          | refine adv ?_ | with_reducible (first | intro _ | refine Rt.p (fun _=>?_) fun _=>?_)
          | ((with_reducible apply w_ixM);(focus exact rfl);(focus exact rfl);case' hk=>intro y hy) | ((with_reducible (first | apply w_val | apply q_ends));(focus exact rfl)))
         all_goals first
          | (exfalso;omega)
          | rfl
theorem ACall.cnt {P:Program} {f:Nat} {B:List Int} {a0 a0' a1 a1':AV} {r:Int} {σ:Sig} {d:Nat} {Q:AV→Sig→Prop} (h:Fn0 P f [a0,bgV B,a1] (fun a=>a= .int .i64 r)) (ha:a0=ren [] a0') (hb:a1=ren [] a1') (hQ:Q (.int .i64 r) σ):ACall P f [a0',bgV B,a1'] σ d Q:=
 ACall.val h (by show[a0,bgV B,a1]=[ren [] a0',ren [] (bgV B),ren [] a1'];rw[ren_bg,ha,hb]) rfl hQ
def ir48:IFn:=
 ⟨30,[(2,none)],(.seq (.ops [oo 2 (.mov (.k (.int .u64 0)))])
 (.seq (.ops [oo 4 (.mov 0),
 oo 5 (.mov 0),
 oo 6 (.nck 5),
 oo 7 (.flA 0 6),
 oo 8 (.ld 1 false 7),
 oo 9 (.bin .add 8 (.k (.int .u64 11507291218515648293))),
 oo 10 (.nck 4),
 oo 11 (.flA 0 10),
 ⟨none,none,(.st 1 11 9)⟩])
 (.seq (.ops [oo 12 (.mov 0),
 oo 13 (.nck 12),
 oo 14 (.flA 0 13),
 oo 15 (.ld 1 false 14),
 oo 3 (.mov 15)])
 (.seq (.ops [oo 16 (.mov 3),
 oo 17 (.mov 3),
 oo 18 (.bin .shr 17 (.k (.int .u64 32))),
 oo 19 (.bin .xor 16 18),
 oo 20 (.bin .mul 19 (.k (.int .u64 15485907386658061715))),
 oo 3 (.mov 20)])
 (.seq (.ops [oo 21 (.mov 3),
 oo 22 (.mov 3),
 oo 23 (.bin .shr 22 (.k (.int .u64 29))),
 oo 24 (.bin .xor 21 23),
 oo 25 (.bin .mul 24 (.k (.int .u64 14029467366897019727))),
 oo 3 (.mov 25)])
 (.seq (.ops [oo 26 (.mov 3),
 oo 27 (.mov 3),
 oo 28 (.bin .shr 27 (.k (.int .u64 32))),
 oo 29 (.bin .xor 26 28),
 oo 2 (.mov 29)])
 .ret))))))⟩
def hint48 (P:Program):Hint:={}
def ir15:IFn:=
 ⟨30,[(2,none)],(.seq (.ops [oo 2 (.mov (.k .npt))])
 (.seq (.ops [oo 5 (.bld [(.int .u64 0)] [(0,1,(.k (.int .u64 2685821657736338717)))]),
 oo 6 (.box 1 5),
 oo 3 (.mov 6)])
 (.seq (.seq (.ops [oo 4 (.mov (kI 0))])
 (.blk 0 (.loop (.seq (.seq (.ops [oo 7 (.mov 4),
 oo 8 (.mov 0),
 oo 9 (.len false 8),
 oo 10 (.bin .lss 7 9)])
 (.cnd 10
 .skip
 (.exit 0)))
 (.seq (.blk 1 (.seq (.ops [oo 13 (.mov 3),
 oo 14 (.mov 3),
 oo 15 (.nck 14),
 oo 16 (.flA 0 15),
 oo 17 (.ld 1 false 16),
 oo 18 (.mov 0),
 oo 19 (.mov 4),
 oo 20 (.ixA 1 18 19),
 oo 21 (.ld 1 false 20),
 oo 22 (.cvI .u64 21),
 oo 23 (.bin .xor 17 22),
 oo 24 (.bin .mul 23 (.k (.int .u64 15485907386658061715))),
 oo 25 (.nck 13),
 oo 26 (.flA 0 25),
 ⟨none,none,(.st 1 26 24)⟩])
 (.ops [oo 27 (.mov 3),
 oo 28 (.callF 48 [27])])))
 (.ops [oo 11 (.mov 4),
 oo 12 (.bin .add 11 (kI 1)),
 oo 4 (.mov 12)]))))))
 (.seq (.ops [oo 29 (.mov 3),
 oo 2 (.mov 29)])
 .ret))))⟩
def hint15 (P:Program):Hint:={}
def ir31:IFn:=
 ⟨14,[(4,none)],(.seq (.ops [oo 4 (.mov (kI 0))])
 (.seq (.seq (.ops [oo 5 (.mov 1),
 oo 6 (.bin .lss 5 (kI 2))])
 (.cnd 6
 (.seq (.ops [oo 4 (.mov (kI 0))])
 .ret)
 .skip))
 (.seq (.ops [oo 7 (.mov 0),
 oo 8 (.callF 48 [7]),
 oo 9 (.bin .shr 8 (.k (.int .u64 1))),
 oo 10 (.mov 1),
 oo 11 (.cvI .u64 10),
 oo 12 (.bin .rem 9 11),
 oo 13 (.cvI .i64 12),
 oo 4 (.mov 13)])
 .ret)))⟩
def hint31 (P:Program):Hint:={}
def ir30:IFn:=
 ⟨15,[(6,none)],(.seq (.ops [oo 6 (.mov (kI 0))])
 (.seq (.ops [oo 7 (.mov 1),
 oo 8 (.mov 0),
 oo 9 (.mov 2),
 oo 10 (.mov 1),
 oo 11 (.bin .sub 9 10),
 oo 12 (.bin .add 11 (kI 1)),
 oo 13 (.callF 31 [8,12]),
 oo 14 (.bin .add 7 13),
 oo 6 (.mov 14)])
 .ret))⟩
def hint30 (P:Program):Hint:={}
theorem turn_c (g:Nat) (w:Int):RawC Try.prog 48 [.ref 1000 g 0] (BoxS g w) (BoxR g fun av=>∃n,av= .int .u64 n∧0≤n∧n<18446744073709551616):=by
 refine RawC.walk (H:=hint48 Try.prog) ir48 Try.func48 rfl rfl rfl ?_
 unfold ir48
 repeat' (first
  | refine advE ?_ | with_reducible refine w_alt ?_ ?_
  | with_reducible refine zI fun y hy=>?_ | refine advL ?_
  | refine adv ?_ | with_reducible (first | intro _ | refine Rt.p (fun _=>?_) fun _=>?_)
  | ((with_reducible apply w_ixM);(focus exact rfl);(focus exact rfl);case' hk=>intro y hy) | ((with_reducible (first | apply w_val | apply q_ends));(focus exact rfl)))
 exact⟨_,⟨_,rfl,(wrap_u64 _).1,(wrap_u64 _).2⟩,rfl⟩
theorem up_mod {a n:Int} (ha:0≤a) (hn:2≤n) (hw:IntKind.u64.wrap n=n):0≤(a.fdiv (2^min (Int.toNat 1) IntKind.u64.bits)).tmod (IntKind.u64.wrap n)∧(a.fdiv (2^min (Int.toNat 1) IntKind.u64.bits)).tmod (IntKind.u64.wrap n)<n:=by
 rw[hw]
 have h0:0≤a.fdiv (2^min (Int.toNat 1) IntKind.u64.bits):=Int.fdiv_nonneg ha (by decide)
 exact⟨Int.tmod_nonneg _ h0,Int.tmod_lt_of_pos _ (by omega)⟩
theorem up_c (g:Nat) (w n:Int) (hn:n<2^62):RawC Try.prog 31 [.ref 1000 g 0,.int .i64 n] (BoxS g w) (BoxR g fun av=>∃k,av= .int .i64 k∧0≤k∧(k<n∨k=0)):=by
 by_cases h2:n<2
 · refine RawC.walk (H:=hint31 Try.prog) ir31 Try.func31 rfl rfl rfl ?_
   unfold ir31
   repeat' (first
    | refine advE ?_ | with_reducible refine w_alt ?_ ?_
    | with_reducible refine zI fun y hy=>?_ | refine advL ?_
    | refine adv ?_ | with_reducible (first | intro _ | refine Rt.p (fun _=>?_) fun _=>?_)
    | ((with_reducible apply w_ixM);(focus exact rfl);(focus exact rfl);case' hk=>intro y hy) | ((with_reducible (first | apply w_val | apply q_ends));(focus exact rfl)))
   exact⟨_,⟨_,rfl,by omega⟩,rfl⟩
 have hw:=wrap_u64_id n (by omega) (by omega)
 refine RawC.walk (H:=hint31 Try.prog) ir31 Try.func31 rfl rfl rfl ?_
 unfold ir31
 repeat' (first
  | refine advE ?_ | with_reducible refine w_alt ?_ ?_
  | with_reducible refine zI fun y hy=>?_ | refine advL ?_
  | ((with_reducible apply w_ixM);(focus exact rfl);(focus exact rfl);(focus ((repeat' (with_reducible (first | exact trivial | apply And.intro)))<;>(first | (have:=up_mod ha (by omega:2≤n) hw;unfold inI;omega) | exact sd)));case' hk=>intro y hy) | ((with_reducible apply w_slM);(focus exact rfl);(focus exact rfl);(focus exact rfl);(focus ((repeat' (with_reducible (first | exact trivial | apply And.intro)))<;>(first | (have:=up_mod ha (by omega:2≤n) hw;unfold inI;omega) | exact sd)))) | ((with_reducible apply w_val);(focus exact rfl);(focus ((repeat' (with_reducible (first | exact trivial | apply And.intro)))<;>(first | (have:=up_mod ha (by omega:2≤n) hw;unfold inI;omega) | exact sd)))) | ((with_reducible apply w_det);(focus exact fun _=>rfl);(focus ((repeat' (with_reducible (first | exact trivial | apply And.intro)))<;>(first | (have:=up_mod ha (by omega:2≤n) hw;unfold inI;omega) | exact sd)));case' hk=>intro _) | ((with_reducible apply w_det0);(focus exact fun _=>rfl);(focus ((repeat' (with_reducible (first | exact trivial | apply And.intro)))<;>(first | (have:=up_mod ha (by omega:2≤n) hw;unfold inI;omega) | exact sd)))) | ((with_reducible apply q_ends);(focus exact rfl);(focus ((repeat' (with_reducible (first | exact trivial | apply And.intro)))<;>(first | (have:=up_mod ha (by omega:2≤n) hw;unfold inI;omega) | exact sd))))
  | with_reducible refine zI fun y hy=>?_ | refine advL ?_
  | ((with_reducible refine acall_id ?_);refine ACall.box (turn_c _ _) rfl rfl rfl ?_;rintro _ _ ⟨_,rfl,ha,_⟩)
  | refine adv ?_ | with_reducible (first | intro _ | refine Rt.p (fun _=>?_) fun _=>?_)
  | ((with_reducible apply w_ixM);(focus exact rfl);(focus exact rfl);case' hk=>intro y hy) | ((with_reducible (first | apply w_val | apply q_ends));(focus exact rfl)))
 have:=up_mod ha (by omega:2≤n) hw
 exact⟨_,⟨_,rfl,by omega⟩,rfl⟩
abbrev ltV (n:Int) (av:AV):Prop:=∃k,av= .int .i64 k∧0≤k∧k<n
theorem upp_c (g:Nat) (w n:Int) (h0:0<n) (hn:n<2^62):RawC Try.prog 31 [.ref 1000 g 0,.int .i64 n] (BoxS g w) (BoxR g (ltV n)):=
 (up_c g w n hn).mono fun _ _ ⟨w',⟨k,h1,h2,h3⟩,h4⟩=>⟨w',⟨k,h1,h2,by omega⟩,h4⟩
theorem any_c (g:Nat) (w a b:Int) (h0: -1000000<a) (h1:a<1000000) (h2: -1000000<b) (h3:b<1000000):RawC Try.prog 30 [.ref 1000 g 0,.int .i64 a,.int .i64 b] (BoxS g w) (BoxR g fun av=>∃k,av= .int .i64 k∧a≤k∧(k≤b∨k=a)):=by
 refine RawC.walk (H:=hint30 Try.prog) ir30 Try.func30 rfl rfl rfl ?_
 unfold ir30
 repeat' (first
  | refine advE ?_ | with_reducible refine w_alt ?_ ?_
  | with_reducible refine zI fun y hy=>?_ | refine advL ?_
  | ((with_reducible refine acall_id ?_);refine ACall.box (up_c _ _ _ (by omega)) rfl rfl rfl ?_;rintro _ _ ⟨_,rfl,_,_⟩)
  | refine adv ?_ | with_reducible (first | intro _ | refine Rt.p (fun _=>?_) fun _=>?_)
  | ((with_reducible apply w_ixM);(focus exact rfl);(focus exact rfl);case' hk=>intro y hy) | ((with_reducible (first | apply w_val | apply q_ends));(focus exact rfl)))
 exact⟨_,⟨_,rfl,by omega⟩,rfl⟩
theorem boxOf_c (l:List Int) (hl:l.length<2^62):RawC Try.prog 15 [.slc 1 (iR l) .non] (sg []) (fun av σ'=>∃g w,av= .ref 6 g 0∧σ' 6=(g,.row [.int .u64 w])):=by
 have hL:(iR l).length=l.length:=by simp
 refine RawC.walk (H:=hint15 Try.prog) ir15 Try.func15 rfl rfl rfl ?_
 unfold ir15
 repeat' (first
  | refine advE ?_ | with_reducible refine w_alt ?_ ?_
  | with_reducible refine zI fun y hy=>?_ | refine advL ?_
  | refine adv ?_ | with_reducible (first | intro _ | refine Rt.p (fun _=>?_) fun _=>?_)
  | ((with_reducible apply w_ixM);(focus exact rfl);(focus exact rfl);case' hk=>intro y hy) | ((with_reducible (first | apply w_val | apply q_ends));(focus exact rfl)))
 refine w_loopK [0,3] [] (fun x:Nat×Int=>x.1≤l.length) (fun x=>l.length-x.1) (fun x=>[(4,.int .i64 x.1)]) (fun x=>[(6,(_,.row [.int .u64 x.2]))]) (0,_) (Nat.zero_le _) ⟨rfl,trivial⟩ ⟨rfl,trivial⟩ ?_
 rintro⟨k,w⟩ hk e σ
 dsimp only at hk ⊢
 repeat' (first
  | refine advE ?_ | with_reducible refine w_alt ?_ ?_
  | with_reducible refine zI fun y hy=>?_ | refine advL ?_
  | ((with_reducible refine acall_id ?_);refine ACall.box (turn_c _ _) rfl rfl rfl ?_;rintro _ _ ⟨_,rfl,_,_⟩)
  | refine adv ?_ | with_reducible (first | intro _ | refine Rt.p (fun _=>?_) fun _=>?_)
  | ((with_reducible apply w_ixM);(focus exact rfl);(focus exact rfl);case' hk=>intro y hy) | ((with_reducible (first | apply w_val | apply q_ends));(focus exact rfl)))
 · simp at*
   exact q_loop (k+1,_) (by dsimp only;omega) (by dsimp only;omega) ⟨rfl,trivial⟩ ⟨rfl,trivial⟩ ⟨rfl,rfl,trivial⟩ trivial
 · exact⟨_,_,rfl,rfl⟩
def ir68:IFn:=
 ⟨2,[(0,none)],(.seq (.ops [oo 0 (.mov (.k .nsl))])
 (.seq (.ops [oo 1 (.bsl 1 [[(.str ByteArray.empty)],[(.str ByteArray.empty)],[(.str ByteArray.empty)],[(.str ByteArray.empty)],[(.str ByteArray.empty)],[(.str ByteArray.empty)]] [(0,(.k (.str ⟨#[107,121,97,114,97]⟩))),(1,(.k (.str ⟨#[114,97,107,111,107,117]⟩))),(2,(.k (.str ⟨#[109,97,110,97,98,97,110]⟩))),(3,(.k (.str ⟨#[115,111,114,97]⟩))),(4,(.k (.str ⟨#[98]⟩))),(5,(.k (.str ⟨#[97,98,99,100,101,102,103,104]⟩)))]),
 oo 0 (.mov 1)])
 .ret))⟩
def hint68 (P:Program):Hint:={}
def ir32:IFn:=
 ⟨26,[(4,none)],(.seq (.ops [oo 4 (.mov (.k .nsl))])
 (.seq (.ops [oo 5 (.nil 2 5)])
 (.seq (.seq (.ops [oo 7 (.mov 0),
 oo 8 (.mov 1),
 oo 9 (.callF 30 [7,(kI 1),8]),
 oo 6 (.mov 9)])
 (.blk 0 (.loop (.seq (.seq (.ops [oo 10 (.mov 6),
 oo 11 (.bin .gtr 10 (kI 0))])
 (.cnd 11
 .skip
 (.exit 0)))
 (.seq (.blk 1 (.ops [oo 14 (.mov 5),
 oo 16 (.mov 5),
 oo 17 (.len false 16),
 oo 20 (.mov 0),
 oo 15 (.callF 68 []),
 oo 18 (.ixA 1 15 17),
 oo 19 (.ld 1 false 18),
 oo 21 (.callF 31 [20,(kI 10)]),
 ⟨none,none,(.chk 1 false 18 19)⟩,
 oo 22 (.bld [(.str ByteArray.empty),(.int .i64 0)] [(0,1,19),(1,1,21)]),
 oo 23 (.bsl 2 [[(.str ByteArray.empty),(.int .i64 0)]] [(0,22)]),
 oo 24 (.app 2 24 14 23 5),
 oo 5 (.mov 24)]))
 (.ops [oo 12 (.mov 6),
 oo 13 (.bin .sub 12 (kI 1)),
 oo 6 (.mov 13)]))))))
 (.seq (.ops [oo 25 (.mov 5),
 oo 4 (.mov 25)])
 .ret))))⟩
def hint32 (P:Program):Hint:={site:=[(24,5)],nils:=[(5,2)],frz:=[],mve:=[],wr:=[] }
def ir17:IFn:=
 ⟨12,[(2,some (2,true))],(.seq (.ops [oo 1 (.box 2 0),
 oo 2 (.new [.nsl,.nsl])])
 (.seq (.ops [oo 3 (.bsl 2 [] []),
 oo 4 (.flA 0 1),
 oo 5 (.ld 1 false 4),
 oo 7 (.bsl 5 [] []),
 oo 8 (.flA 1 1),
 oo 9 (.ld 1 false 8),
 oo 6 (.app 2 24 3 5 6),
 ⟨none,none,(.chk 1 false 8 9)⟩,
 oo 10 (.app 5 40 7 9 10),
 oo 11 (.bld [.nsl,.nsl] [(0,1,6),(1,1,10)]),
 ⟨none,none,(.st 2 2 11)⟩])
 .ret))⟩
def hint17 (P:Program):Hint:={}
abbrev nmR (l:List ByteArray):List (List AV):=l.map fun s=>[.str s]
def woodNs:List ByteArray:=[⟨#[107,121,97,114,97]⟩,⟨#[114,97,107,111,107,117]⟩,⟨#[109,97,110,97,98,97,110]⟩,⟨#[115,111,114,97]⟩,⟨#[98]⟩,⟨#[97,98,99,100,101,102,103,104]⟩]
theorem woodNames_c:Fn0 Try.prog 68 [] (fun v=>v= .slc 1 (nmR woodNs) .non):=by
 refine RawC.walk (H:=hint68 Try.prog) ir68 Try.func68 rfl rfl rfl ?_
 unfold ir68
 repeat' (first
  | refine advE ?_ | with_reducible refine w_alt ?_ ?_
  | with_reducible refine zI fun y hy=>?_ | refine advL ?_
  | refine adv ?_ | with_reducible (first | intro _ | refine Rt.p (fun _=>?_) fun _=>?_)
  | ((with_reducible apply w_ixM);(focus exact rfl);(focus exact rfl);case' hk=>intro y hy) | ((with_reducible (first | apply w_val | apply q_ends));(focus exact rfl)))
 rfl
theorem woodNs_ok:woodNs.Nodup∧ ∀s∈woodNs,namedB s=true∧s.size≤8:=by decide
theorem wsErr_zero:∀{post pre:List Wd},(∀w∈post,namedB w.name=true∧inB w.fam 0 9=true)→((pre++post).map (·.name)).Nodup→wsErr pre post=0
 | [],_,_,_=>rfl
 | w::post,pre,h,hn=>by
   have h1:pre.any (fun x=>decide (x.name=w.name))=false:=by
    rw[List.any_eq_false]
    intro x hx
    simp only[decide_eq_true_eq]
    intro he
    rw[List.map_append,List.nodup_append] at hn
    exact hn.2.2 _ (List.mem_map.2 ⟨x,hx,rfl⟩) _ (List.mem_map.2 ⟨w,by simp,rfl⟩) he
   obtain⟨h2,h3⟩:=h w (by simp)
   rw[wsErr,if_pos h2,if_neg (by rw[h1];simp),if_pos h3]
   exact wsErr_zero (fun x hx=>h x (by simp[hx])) (by simpa using hn)
def madeW (ws:List Wd):Prop:=ws.map (·.name)=woodNs.take ws.length∧ ∀w∈ws,inB w.fam 0 9=true
theorem madeW_ok {ws:List Wd} (h:madeW ws):wsErr [] ws=0∧ ∀w∈ws,w.name.size≤8:=by
 have hm:∀w∈ws,w.name∈woodNs:=fun w hw=>List.mem_of_mem_take (h.1▸List.mem_map.2 ⟨w,hw,rfl⟩)
 refine⟨wsErr_zero (fun w hw=>⟨(woodNs_ok.2 _ (hm w hw)).1,h.2 w hw⟩) ?_,fun w hw=>(woodNs_ok.2 _ (hm w hw)).2⟩
 rw[List.nil_append,h.1]
 exact (List.take_sublist _ _).nodup woodNs_ok.1
theorem madeW_snoc {ws:List Wd} {w:Wd} (h:madeW ws) (hn:woodNs[ws.length]?=some w.name) (hf:inB w.fam 0 9=true):madeW (ws++[w]):=by
 refine⟨?_,fun x hx=>?_⟩
 · rw[List.map_append,h.1,len_snoc,List.take_add_one,hn];rfl
 · rcases List.mem_append.1 hx with hx | hx
   · exact h.2 x hx
   · simp at hx;subst hx;exact hf
theorem woodsOf_c (g:Nat) (w most:Int) (hm:1≤most∧most≤6):RawC Try.prog 32 [.ref 1000 g 0,.int .i64 most] (BoxS g w) (BoxR g fun av=>∃ws,av= .slc 2 (wR ws) .non∧madeW ws∧1≤ws.length∧(ws.length:Int)≤most):=by
 refine RawC.walk (H:=hint32 Try.prog) ir32 Try.func32 rfl rfl rfl ?_
 unfold ir32
 repeat' (first
  | refine advE ?_ | with_reducible refine w_alt ?_ ?_
  | with_reducible refine zI fun y hy=>?_ | refine advL ?_
  | ((with_reducible refine acall_id ?_);refine ACall.box (any_c _ _ _ _ (by omega) (by omega) (by omega) (by omega)) rfl rfl rfl ?_;rintro _ _ ⟨k,rfl,hk1,hk2⟩)
  | refine adv ?_ | with_reducible (first | intro _ | refine Rt.p (fun _=>?_) fun _=>?_)
  | ((with_reducible apply w_ixM);(focus exact rfl);(focus exact rfl);case' hk=>intro y hy) | ((with_reducible (first | apply w_val | apply q_ends));(focus exact rfl)))
 rename_i g0 w0
 refine w_loopK [0] [] (fun x:List Wd×Nat×Int×Nat=>madeW x.1∧(x.1.length:Int)+x.2.2.2=k) (fun x=>x.2.2.2) (fun x=>[(6,.int .i64 (x.2.2.2:Int)),(5,.slc 2 (wR x.1) (.own 5 x.2.1))])
  (fun x=>[(5,(x.2.1,.row [])),(1000,(g,.row [.int .u64 x.2.2.1]))]) ([],g0,w0,k.toNat) ⟨⟨rfl,by simp⟩,by show ((0:Nat):Int)+(k.toNat:Nat)=k;omega⟩ ⟨int_eq (by show k=((k.toNat:Nat):Int);omega),rfl,trivial⟩ ⟨rfl,rfl,trivial⟩ ?_
 rintro⟨ws,g5,w,j⟩ ⟨hg,hl⟩ e σ
 dsimp only at hg hl ⊢
 have hnl:woodNs.length=6:=rfl
 cases j with
 | zero=>
   repeat' (first
    | refine advE ?_ | with_reducible refine w_alt ?_ ?_
    | with_reducible refine zI fun y hy=>?_ | refine advL ?_
    | refine adv ?_ | with_reducible (first | intro _ | refine Rt.p (fun _=>?_) fun _=>?_)
    | ((with_reducible apply w_ixM);(focus exact rfl);(focus exact rfl);case' hk=>intro y hy) | ((with_reducible (first | apply w_val | apply q_ends));(focus exact rfl)))
   all_goals first
    | (exfalso;omega)
    | exact⟨_,⟨ws,rfl,hg,by omega,by omega⟩,rfl⟩
 | succ j=>
   repeat' (first
    | refine advE ?_ | with_reducible refine w_alt ?_ ?_
    | with_reducible refine zI fun y hy=>?_ | refine advL ?_
    | ((with_reducible refine acall_id ?_);refine ACall.val woodNames_c rfl rfl ?_)
    | ((with_reducible refine acall_id ?_);refine ACall.box (upp_c _ _ _ (by omega) (by omega)) rfl rfl rfl ?_;rintro _ _ ⟨a,rfl,ha1,ha2⟩)
    | refine adv ?_ | with_reducible (first | intro _ | refine Rt.p (fun _=>?_) fun _=>?_)
    | ((with_reducible apply w_ixM);(focus exact rfl);(focus exact rfl);case' hk=>intro y hy) | ((with_reducible (first | apply w_val | apply q_ends));(focus exact rfl)))
   all_goals try (exfalso;omega)
   rename_i w2 g6
   refine q_loop (ws++[⟨y,a⟩],g6,w2,j) ?_ ?_ ⟨int_eq (by simp),congrArg (fun z=>AV.slc 2 z (.own 5 g6)) (map_snoc (f:=fun w:Wd=>[AV.str w.name,AV.int .i64 w.fam]) (x:=⟨y,a⟩)).symm,trivial⟩ ⟨rfl,rfl,trivial⟩ (by repeat' (first | exact kept_nil | apply kept_cons | rfl)) (by repeat' (first | exact kept_nil | apply kept_cons | rfl))
   · exact⟨madeW_snoc hg (by simpa using hy) (inB_t.2 (by dsimp only;omega)),by dsimp only;rw[len_snoc];omega⟩
   · exact Nat.lt_succ_self j
def drwN:List Dl→Int
 | []=>0
 | d::r=>(if drawsB d=true then d.count else 0)+drwN r
theorem drwN_snoc (d:Dl):∀l:List Dl,drwN (l++[d])=drwN l+(if drawsB d=true then d.count else 0)
 | []=>by show _+(0:Int)=0+_;omega
 | a::r=>by
   show _+drwN (r++[d])=_+drwN r+_
   rw[drwN_snoc d r];omega
theorem dsErr_snoc {n:Nat} {d:Dl}:∀{l:List Dl} {t:Tb},dsErr n t l=0→dlErr n d (dsTab t l)=0→dsErr n t (l++[d])=0
 | [],t,_,h=>by
   show dsErr n t (d::[])=0
   rw[dsErr,if_pos (show dlErr n d t=0 from h)];rfl
 | a::r,t,h0,h=>by
   rw[dsErr] at h0
   by_cases ha:dlErr n a t=0
   · rw[if_pos ha] at h0
     show dsErr n t (a::(r++[d]))=0
     rw[dsErr,if_pos ha]
     exact dsErr_snoc h0 h
   · rw[if_neg ha] at h0;exact absurd h0 ha
theorem dsTab_snoc {d:Dl}:∀{l:List Dl} {t:Tb},dsTab t (l++[d])=dealT d (dsTab t l)
 | [],_=>rfl
 | _::r,_=>dsTab_snoc (l:=r)
structure mkG (n:Nat) (D:List Dl) (T:Tb) (had:Int):Prop where
 e:dsErr n tb0 D=0
 t:dsTab tb0 D=T
 h:drwN D=had
theorem mkG.nil (n:Nat):mkG n [] tb0 0:=⟨rfl,rfl,rfl⟩
theorem mkG.ok {n:Nat} {D:List Dl} {T:Tb} {had:Int} (h:mkG n D T had):tbOK T:=by
 rw[←h.t];exact deals_tab D tb0 tb0_ok h.e
theorem mkG.snoc {n:Nat} {D:List Dl} {T:Tb} {had:Int} {d:Dl} (h:mkG n D T had) (hk:inB d.kind 1 6=true) (hf:formD d=true) (h0:dealE n d T=0):mkG n (D++[d]) (dealT d T) (had+if drawsB d=true then d.count else 0):=by
 refine⟨dsErr_snoc h.e ?_,?_,?_⟩
 · rw[h.t];unfold dlErr;rw[if_pos hk,if_pos hf];exact h0
 · rw[dsTab_snoc,h.t]
 · rw[drwN_snoc,h.h]
section
variable {n:Nat} {D:List Dl} {T:Tb} {had b o w c:Int} (h:mkG n D T had)
include h
theorem mkG.trial (hw:0≤w∧w<n) (ht:T.tried.getD w.toNat false=false):mkG n (D++[⟨1,0,0,w,0⟩]) {T with tried:=T.tried.set w.toNat true } had:=by
 have:=h.snoc (d:=⟨1,0,0,w,0⟩) rfl rfl (by
  show trialE n _ T=0
  unfold trialE
  rw[if_pos (inB_t.2 (by dsimp only;omega)),if_neg (by dsimp only;rw[ht];decide)])
 have e:had+(if drawsB ⟨1,0,0,w,0⟩=true then (0:Int) else 0)=had:=by show had+0=had;omega
 rw[e] at this;exact this
theorem mkG.mix (hb:0≤b∧b≤3) (hw:0≤w∧w<n) (hc:1≤c∧c≤12) (hm:T.mixed+c≤12):mkG n (D++[⟨2,b,0,w,c⟩]) {T with mixed:=T.mixed+c,bags:=setI T.bags b (atI T.bags b+c) } had:=by
 have:=h.snoc (d:=⟨2,b,0,w,c⟩) rfl rfl (by
  show mixE n _ T=0
  unfold mixE
  rw[if_pos (inB_t.2 (by dsimp only;omega)),if_pos (inB_t.2 (by dsimp only;omega)),if_pos (inB_t.2 (by dsimp only;omega)),if_neg (by dsimp only;omega)])
 have e:had+(if drawsB ⟨2,b,0,w,c⟩=true then c else 0)=had:=by show had+0=had;omega
 rw[e] at this;exact this
theorem mkG.pour (hb:0≤b∧b≤3) (ho:0≤o∧o≤3) (hne:b≠o):mkG n (D++[⟨3,b,o,0,0⟩]) {T with bags:=setI (setI T.bags o (atI T.bags o+atI T.bags b)) b 0 } had:=by
 have:=h.snoc (d:=⟨3,b,o,0,0⟩) rfl rfl (by
  show pourE _=0
  unfold pourE
  rw[if_pos ⟨inB_t.2 (by dsimp only;omega),inB_t.2 (by dsimp only;omega)⟩,if_neg hne])
 have e:had+(if drawsB ⟨3,b,o,0,0⟩=true then (0:Int) else 0)=had:=by show had+0=had;omega
 rw[e] at this;exact this
theorem mkG.asideE (hb:0≤b∧b≤3) (hc:1≤c∧c≤atI T.bags b) {k:Int}:Go.Abs.asideE ⟨k,b,0,0,c⟩ T=0:=by
 have:=h.ok.at (b:=b) (by omega)
 unfold Go.Abs.asideE
 rw[if_pos ⟨inB_t.2 (by dsimp only;omega),inB_t.2 (by dsimp only;omega)⟩,if_neg (by dsimp only;omega)]
theorem mkG.aside (hb:0≤b∧b≤3) (hc:1≤c∧c≤atI T.bags b):mkG n (D++[⟨4,b,0,0,c⟩]) {T with bags:=setI T.bags b (atI T.bags b-c) } (had+c):=
 h.snoc (d:=⟨4,b,0,0,c⟩) rfl rfl (h.asideE hb hc)
theorem mkG.pass (hb:0≤b∧b≤3) (hc:1≤c∧c≤atI T.bags b) (h9:T.cens+c≤9):mkG n (D++[⟨5,b,0,0,c⟩]) {T with bags:=setI T.bags b (atI T.bags b-c),cens:=T.cens+c } (had+c):=
 h.snoc (d:=⟨5,b,0,0,c⟩) rfl rfl (by
  show passE _ T=0
  unfold passE
  rw[if_pos (h.asideE hb hc),if_neg (by dsimp only;omega)])
theorem mkG.place (hw:0≤w∧w<n) (h9:T.cens+1≤9):mkG n (D++[⟨6,0,0,w,0⟩]) {T with cens:=T.cens+1 } had:=by
 have:=h.snoc (d:=⟨6,0,0,w,0⟩) rfl rfl (by
  show placeE n _ T=0
  unfold placeE
  rw[if_pos (inB_t.2 (by dsimp only;omega)),if_neg (by omega)])
 have e:had+(if drawsB ⟨6,0,0,w,0⟩=true then (0:Int) else 0)=had:=by show had+0=had;omega
 rw[e] at this;exact this
end
structure madeO (G:Gm) (woods drawn cens:Int):Prop where
 w:madeW G.ws
 n1:1≤G.ws.length
 n2:(G.ws.length:Int)≤woods
 d:G.ds.length≤24
 e:gmErr G=0
 h:drwN G.ds≤drawn
 c:(dsTab tb0 G.ds).cens≤cens
theorem mkG.made {G:Gm} {T:Tb} {had woods drawn cens:Int} (h:mkG G.ws.length G.ds T had) (hw:madeW G.ws) (n1:1≤G.ws.length) (n2:(G.ws.length:Int)≤woods) (h6:woods≤6) (hd:G.ds.length≤24) (hh:had≤drawn) (hc:1≤T.cens∧T.cens≤cens):madeO G woods drawn cens:=by
 refine⟨hw,n1,n2,hd,?_,by rw[h.h];exact hh,by rw[h.t];exact hc.2⟩
 unfold gmErr
 rw[if_neg (by intro e;rw[e] at n1;simp at n1),if_neg (by omega),if_pos (madeW_ok hw).1,if_neg (by omega),if_pos h.e,h.t,if_neg (by omega)]
def ir23:IFn:=
 ⟨27,[(4,none)],(.seq (.ops [oo 4 (.mov (kB false))])
 (.seq (.seq (.ops [oo 6 (.mov 0),
 oo 7 (.len false 6),
 oo 8 (.mov 1),
 oo 9 (.len false 8),
 oo 10 (.bin .neq 7 9)])
 (.cnd 10
 (.seq (.ops [oo 4 (.mov (kB false))])
 .ret)
 .skip))
 (.seq (.seq (.ops [oo 5 (.mov (kI 0))])
 (.blk 0 (.loop (.seq (.seq (.ops [oo 11 (.mov 5),
 oo 12 (.mov 0),
 oo 13 (.len false 12),
 oo 14 (.bin .lss 11 13)])
 (.cnd 14
 .skip
 (.exit 0)))
 (.seq (.blk 1 (.seq (.ops [oo 17 (.mov 0),
 oo 18 (.mov 5),
 oo 19 (.ixA 1 17 18),
 oo 20 (.ld 1 false 19),
 oo 21 (.mov 1),
 oo 22 (.mov 5),
 oo 23 (.ixA 1 21 22),
 oo 24 (.ld 1 false 23),
 oo 25 (.callF 24 [20,24]),
 oo 26 (.not 25)])
 (.cnd 26
 (.seq (.ops [oo 4 (.mov (kB false))])
 .ret)
 .skip)))
 (.ops [oo 15 (.mov 5),
 oo 16 (.bin .add 15 (kI 1)),
 oo 5 (.mov 16)]))))))
 (.seq (.ops [oo 4 (.mov (kB true))])
 .ret))))⟩
def hint23 (P:Program):Hint:={}
def ir46:IFn:=
 ⟨13,[(0,some (2,true))],(.seq (.ops [oo 0 (.new [.nsl,.nsl])])
 (.seq (.ops [oo 1 (.bld [(.str ByteArray.empty),(.int .i64 0)] [(0,1,(.k (.str ⟨#[97]⟩))),(1,1,(kI 1))]),
 oo 2 (.bld [(.str ByteArray.empty),(.int .i64 0)] [(0,1,(.k (.str ⟨#[98]⟩))),(1,1,(kI 2))]),
 oo 3 (.bld [(.str ByteArray.empty),(.int .i64 0)] [(0,1,(.k (.str ⟨#[99]⟩))),(1,1,(kI 3))]),
 oo 4 (.bsl 2 [[(.str ByteArray.empty),(.int .i64 0)],[(.str ByteArray.empty),(.int .i64 0)],[(.str ByteArray.empty),(.int .i64 0)]] [(0,1),(1,2),(2,3)]),
 oo 5 (.bld [(.int .i64 0),(.int .i64 0),(.int .i64 0),(.int .i64 0),(.int .i64 0)] [(0,1,(kI 1))]),
 oo 6 (.bld [(.int .i64 0),(.int .i64 0),(.int .i64 0),(.int .i64 0),(.int .i64 0)] [(0,1,(kI 1)),(3,1,(kI 1))]),
 oo 7 (.bld [(.int .i64 0),(.int .i64 0),(.int .i64 0),(.int .i64 0),(.int .i64 0)] [(0,1,(kI 2)),(4,1,(kI 2))]),
 oo 8 (.bld [(.int .i64 0),(.int .i64 0),(.int .i64 0),(.int .i64 0),(.int .i64 0)] [(0,1,(kI 2)),(3,1,(kI 1)),(4,1,(kI 1))]),
 oo 9 (.bld [(.int .i64 0),(.int .i64 0),(.int .i64 0),(.int .i64 0),(.int .i64 0)] [(0,1,(kI 2)),(3,1,(kI 2)),(4,1,(kI 1))]),
 oo 10 (.bld [(.int .i64 0),(.int .i64 0),(.int .i64 0),(.int .i64 0),(.int .i64 0)] [(0,1,(kI 5)),(4,1,(kI 3))]),
 oo 11 (.bsl 5 [[(.int .i64 0),(.int .i64 0),(.int .i64 0),(.int .i64 0),(.int .i64 0)],[(.int .i64 0),(.int .i64 0),(.int .i64 0),(.int .i64 0),(.int .i64 0)],[(.int .i64 0),(.int .i64 0),(.int .i64 0),(.int .i64 0),(.int .i64 0)],[(.int .i64 0),(.int .i64 0),(.int .i64 0),(.int .i64 0),(.int .i64 0)],[(.int .i64 0),(.int .i64 0),(.int .i64 0),(.int .i64 0),(.int .i64 0)],[(.int .i64 0),(.int .i64 0),(.int .i64 0),(.int .i64 0),(.int .i64 0)]] [(0,5),(1,6),(2,7),(3,8),(4,9),(5,10)]),
 oo 12 (.bld [.nsl,.nsl] [(0,1,4),(1,1,11)]),
 ⟨none,none,(.st 2 0 12)⟩])
 .ret))⟩
def hint46 (P:Program):Hint:={}
def ir13:IFn:=
 ⟨44,[(0,none)],(.seq (.ops [oo 0 (.mov (kB false))])
 (.seq (.ops [oo 7 (.callF 46 []),
 oo 8 (.bld [(.int .i64 0),(.int .i64 0)] [(0,1,(kI 1))]),
 oo 9 (.callF 44 [7,8]),
 oo 6 (.mov 9),
 oo 10 (.ext 0 6),
 oo 11 (.ext 1 6),
 oo 12 (.ext 2 6),
 oo 1 (.mov 10),
 oo 2 (.mov 11),
 oo 3 (.mov 12)])
 (.seq (.ops [oo 14 (.callF 46 []),
 oo 15 (.bsl 1 [[(.int .i64 0)],[(.int .i64 0)],[(.int .i64 0)]] [(0,(kI 0)),(1,(kI 2)),(2,(kI 1))]),
 oo 16 (.callF 28 [14,15]),
 oo 13 (.mov 16),
 oo 17 (.ext 0 13),
 oo 18 (.ext 1 13),
 oo 4 (.mov 17),
 oo 5 (.mov 18)])
 (.seq (.ops [oo 19 (.mov 3),
 oo 20 (.bin .eql 19 (kI 0)),
 oo 21 (.mov 20),
 ⟨(some 22),(some (21,true)),(.mov 5)⟩,
 ⟨(some 23),(some (21,true)),(.bin .eql 22 (kI 0))⟩,
 oo 24 (.pick 21 23 (kB false)),
 oo 25 (.mov 24),
 ⟨(some 26),(some (25,true)),(.mov 4)⟩,
 ⟨(some 27),(some (25,true)),(.bsl 1 [[(.int .i64 0)],[(.int .i64 0)],[(.int .i64 0)]] [(0,(kI 0)),(1,(kI 2)),(2,(kI 1))])⟩,
 ⟨(some 28),(some (25,true)),(.callF 24 [26,27])⟩,
 oo 29 (.pick 25 28 (kB false)),
 oo 30 (.mov 29),
 ⟨(some 31),(some (30,true)),(.mov 1)⟩,
 ⟨(some 32),(some (30,true)),(.bsl 1 [[(.int .i64 0)],[(.int .i64 0)],[(.int .i64 0)]] [(0,(kI 0)),(1,(kI 0)),(2,(kI 1))])⟩,
 ⟨(some 33),(some (30,true)),(.bsl 1 [[(.int .i64 0)],[(.int .i64 0)],[(.int .i64 0)]] [(0,(kI 0)),(1,(kI 1)),(2,(kI 0))])⟩,
 ⟨(some 34),(some (30,true)),(.bsl 1 [[(.int .i64 0)],[(.int .i64 0)],[(.int .i64 0)]] [(0,(kI 0)),(1,(kI 1)),(2,(kI 1))])⟩,
 ⟨(some 35),(some (30,true)),(.bsl 1 [[(.int .i64 0)],[(.int .i64 0)],[(.int .i64 0)]] [(0,(kI 0)),(1,(kI 1)),(2,(kI 2))])⟩,
 ⟨(some 36),(some (30,true)),(.bsl 1 [[.nsl],[.nsl],[.nsl],[.nsl]] [(0,32),(1,33),(2,34),(3,35)])⟩,
 ⟨(some 37),(some (30,true)),(.callF 23 [31,36])⟩,
 oo 38 (.pick 30 37 (kB false)),
 oo 39 (.mov 38),
 ⟨(some 40),(some (39,true)),(.mov 2)⟩,
 ⟨(some 41),(some (39,true)),(.bsl 1 [[(.int .i64 0)],[(.int .i64 0)],[(.int .i64 0)],[(.int .i64 0)]] [(0,(kI 4)),(1,(kI 4)),(2,(kI 4)),(3,(kI 12))])⟩,
 ⟨(some 42),(some (39,true)),(.callF 24 [40,41])⟩,
 oo 43 (.pick 39 42 (kB false)),
 oo 0 (.mov 43)])
 .ret))))⟩
def hint13 (P:Program):Hint:={}
theorem eqLists_c (a b:List (List Int)) (h:a.length<2^62) (hs:∀l∈a,l.length<2^62):Fn0 Try.prog 23 [.slc 1 (llR a) .non,.slc 1 (llR b) .non] (fun v=>v= .bool (decide (a=b))):=by
 refine RawC.walk (H:=hint23 Try.prog) ir23 Try.func23 rfl rfl rfl ?_
 unfold ir23
 repeat' (first
  | refine advE ?_ | with_reducible refine w_alt ?_ ?_
  | with_reducible refine zI fun y hy=>?_ | refine advL ?_
  | refine adv ?_ | with_reducible (first | intro _ | refine Rt.p (fun _=>?_) fun _=>?_)
  | ((with_reducible apply w_ixM);(focus exact rfl);(focus exact rfl);case' hk=>intro y hy) | ((with_reducible (first | apply w_val | apply q_ends));(focus exact rfl)))
 · rename_i h;refine congrArg AV.bool ?_;symm;rw[decide_eq_false_iff_not];intro e;subst e;exact h rfl
 rename_i hlen
 have hab:a.length=b.length:=by omega
 refine w_loopK [0,1] [] (fun x:List (List Int)×List (List Int)×List (List Int)=>a=x.1++x.2.1∧b=x.1++x.2.2) (fun x=>x.2.1.length) (fun x=>[(5,.int .i64 x.1.length)]) (fun _=>[]) ([],a,b) ⟨rfl,rfl⟩ ⟨rfl,trivial⟩ trivial ?_
 rintro⟨pre,pa,pb⟩ ⟨ha,hb⟩ e σ
 dsimp only at ha hb ⊢
 have hla:=congrArg List.length ha
 have hlb:=congrArg List.length hb
 simp only[List.length_append] at hla hlb
 cases pa with
 | nil=>
   simp only[List.length_nil] at hla
   repeat' (first
    | refine advE ?_ | with_reducible refine w_alt ?_ ?_
    | with_reducible refine zI fun y hy=>?_ | refine advL ?_
    | refine adv ?_ | with_reducible (first | intro _ | refine Rt.p (fun _=>?_) fun _=>?_)
    | ((with_reducible apply w_ixM);(focus exact rfl);(focus exact rfl);case' hk=>intro y hy) | ((with_reducible (first | apply w_val | apply q_ends));(focus exact rfl)))
   have:pb=[]:=List.length_eq_zero_iff.1 (by omega)
   subst this
   refine congrArg AV.bool ?_;symm;rw[decide_eq_true_eq,ha,hb]
 | cons x pa=>
   cases pb with
   | nil=>exfalso;simp only[List.length_nil,List.length_cons] at hla hlb;omega
   | cons y pb=>
     simp only[List.length_cons] at hla hlb
     have hE:=eq_c x y (hs x (by rw[ha];simp))
     repeat' (first
      | refine advE ?_ | with_reducible refine w_alt ?_ ?_
      | (first | refine w_ixP ha rfl rfl ?_ | refine w_ixP hb rfl rfl ?_)
      | with_reducible refine zI fun y hy=>?_ | refine advL ?_
      | ((with_reducible refine acall_id ?_);refine ACall.val hE rfl rfl ?_)
      | refine adv ?_ | with_reducible (first | intro _ | refine Rt.p (fun _=>?_) fun _=>?_)
      | ((with_reducible apply w_ixM);(focus exact rfl);(focus exact rfl);case' hk=>intro y hy) | ((with_reducible (first | apply w_val | apply q_ends));(focus exact rfl)))
     · rename_i h
       refine congrArg AV.bool ?_;symm
       rw[decide_eq_false_iff_not];intro e
       rw[ha,hb] at e
       have:=List.append_cancel_left e
       simp at this
       exact h this.1
     · rename_i h
       subst h
       refine zQ (pre++[x],pa,pb) ?_ ?_
       · exact⟨by rw[ha];simp,by rw[hb];simp⟩
       · simp
def g3:Gm:=⟨[⟨⟨#[97]⟩,1⟩,⟨⟨#[98]⟩,2⟩,⟨⟨#[99]⟩,3⟩],[⟨1,0,0,0,0⟩,⟨1,0,0,1,0⟩,⟨2,0,0,0,2⟩,⟨2,0,0,1,1⟩,⟨2,0,0,2,1⟩,⟨5,0,0,0,3⟩]⟩
theorem three_c:Fn0 Try.prog 46 [] (fun v=>v=gmA g3):=by
 refine RawC.walk (H:=hint46 Try.prog) ir46 Try.func46 rfl rfl rfl ?_
 unfold ir46
 repeat' (first
  | refine advE ?_ | with_reducible refine w_alt ?_ ?_
  | with_reducible refine zI fun y hy=>?_ | refine advL ?_
  | refine adv ?_ | with_reducible (first | intro _ | refine Rt.p (fun _=>?_) fun _=>?_)
  | ((with_reducible apply w_ixM);(focus exact rfl);(focus exact rfl);case' hk=>intro y hy) | ((with_reducible (first | apply w_val | apply q_ends));(focus exact rfl)))
 rfl
theorem g3_ans:ansO g3 ⟨1,0⟩=([([0,0,1],4),([0,1,0],4),([0,1,1],4),([0,1,2],12)],0):=by decide+kernel
theorem g3_play:playO g3 [0,2,1]=([0,2,1],0):=by decide+kernel
theorem awake_c:Fn0 Try.prog 13 [] (fun v=>v= .bool true):=by
 have h1:=Answers_c g3 ⟨1,0⟩ (by decide) (by decide) (by decide)
 have h2:=Play_c g3 [0,2,1] (by decide) (by decide) (by decide) (by decide)
 rw[g3_ans] at h1
 rw[g3_play] at h2
 have e1:=eq_c [0,2,1] [0,2,1] (by decide)
 have e2:=eqLists_c [[0,0,1],[0,1,0],[0,1,1],[0,1,2]] [[0,0,1],[0,1,0],[0,1,1],[0,1,2]] (by decide) (by decide)
 have e3:=eq_c [4,4,4,12] [4,4,4,12] (by decide)
 refine RawC.walk (H:=hint13 Try.prog) ir13 Try.func13 rfl rfl rfl ?_
 unfold ir13
 repeat' (first
  | refine advE ?_ | with_reducible refine w_alt ?_ ?_
  | with_reducible refine zI fun y hy=>?_ | refine advL ?_
  | ((with_reducible refine acall_id ?_);refine ACall.val three_c rfl rfl ?_)
  | ((with_reducible refine acall_id ?_);refine ACall.val h1 rfl rfl ?_)
  | ((with_reducible refine acall_id ?_);refine ACall.val h2 rfl rfl ?_)
  | ((with_reducible refine acall_id ?_);refine ACall.val e1 rfl rfl ?_)
  | ((with_reducible refine acall_id ?_);refine ACall.val e2 rfl rfl ?_)
  | ((with_reducible refine acall_id ?_);refine ACall.val e3 rfl rfl ?_)
  | refine adv ?_ | with_reducible (first | intro _ | refine Rt.p (fun _=>?_) fun _=>?_)
  | ((with_reducible apply w_ixM);(focus exact rfl);(focus exact rfl);case' hk=>intro y hy) | ((with_reducible (first | apply w_val | apply q_ends));(focus exact rfl)))
 all_goals first
  | rfl
theorem boxOf_s (l:List Int) (hl:l.length<2^62):RawC Try.prog 15 [.slc 1 (iR l) .non] (sg []) (SR (fun (x:Nat×Int) v=>v= .ref 6 x.1 0) (fun x=>[(6,(x.1,.row [.int .u64 x.2]))])):=
 (boxOf_c l hl).mono fun _ _ ⟨g,w,h1,h2⟩=>⟨(g,w),h1,h2,trivial⟩
end Go.Abs
