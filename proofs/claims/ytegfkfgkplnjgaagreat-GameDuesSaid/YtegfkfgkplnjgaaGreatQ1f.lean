/- A part of the proofs of the laws of this seat: contracts of the functions that they reach, each proved of the program's form in Lean. No condition beyond those that each contract names. -/
import Derived.Test.YtegfkfgkplnjgaaGreatProg
import Derived.Test.YtegfkfgkplnjgaaGreatSnd3
import Derived.Lib.Overlaps
import Derived.Lib.AppendZerosOnto
import Derived.Deep.RegionLaw
import Derived.Laws.Externs
import Derived.Test.YtegfkfgkplnjgaaGreatA0
import Derived.Test.YtegfkfgkplnjgaaGreatQ1a
import Derived.Test.YtegfkfgkplnjgaaGreatQ1b
import Derived.Test.YtegfkfgkplnjgaaGreatQ1c
import Derived.Test.YtegfkfgkplnjgaaGreatQ1d
import Derived.Test.YtegfkfgkplnjgaaGreatQ1e
set_option linter.unusedVariables false
set_option linter.unusedSimpArgs false
set_option maxRecDepth 20000
set_option maxHeartbeats 4000000
namespace Go.Abs
open Go.Proofs
theorem Play_c (G:Gm) (ps:List Int) (hw:G.ws.length<1000) (hd:G.ds.length<1000) (hs:∀w∈G.ws,w.name.size≤1000) (hps:ps.length<1000000):Fn0 Tryz.prog 23 [gmA G,.slc 1 (iR ps) .non] (fun v=>v=plA (playO G ps)):=by
 have hck:=gCheck_c G hw hd hs
 obtain⟨R,hR⟩:∃R,playO G ps=R:=⟨_,rfl⟩
 rw[hR]
 unfold playO at hR
 by_cases h0:gmErr G=0
 rotate_left
 · rw[if_neg h0] at hR
   subst hR
   unfold plA
   rw[if_neg h0]
   refine RawC.walk (H:=hint23 Tryz.prog) ir23 Tryz.func23 rfl rfl rfl ?_
   unfold ir23
   repeat' (first
    | with_reducible refine Rd.p ?_
    | with_reducible (first|refine zI fun y hy=>?_|refine zL ?_|refine zS ?_|refine zV ?_|refine zC ?_)
    | ((with_reducible refine aC ?_);first|(refine ACall.val hck rfl rfl ?_))
    | refine aX ?_|with_reducible intro _
    | with_reducible refine zJ ?_ fun y hy=>?_|refine aP ?_ ?_)
   all_goals first
    | (exfalso;omega)
    | rfl
 rw[if_pos h0] at hR
 rw[h0] at hck
 have hG:=gm_ok h0
 have hd24:=hG.d24
 have hcnt:=hG.cnt
 have hdl:=drawN_le hcnt
 refine RawC.walk (H:=hint23 Tryz.prog) ir23 Tryz.func23 rfl rfl rfl ?_
 unfold ir23
 repeat' (first
  | with_reducible refine Rd.p ?_
  | with_reducible (first|refine zI fun y hy=>?_|refine zL ?_|refine zS ?_|refine zV ?_|refine zC ?_)
  | ((with_reducible refine aC ?_);first|(refine ACall.val hck rfl rfl ?_))
  | refine aX ?_|with_reducible intro _
  | with_reducible refine zJ ?_ fun y hy=>?_|refine aP ?_ ?_)
 all_goals try (exfalso;omega)
 refine w_loopK [1,2,26,27] [2] (fun x:List Dl×List Dl=>G.ds=x.1++x.2) (fun x=>x.2.length) (fun x=>[(7,.int .i64 (drawN (stepsG x.1):Nat)),(28,.int .i64 (x.1.length:Int))]) (fun _=>[]) ([],G.ds) rfl ⟨rfl,rfl,trivial⟩ trivial ?_
 rintro⟨pre,post⟩ hl e σ
 dsimp only at hl ⊢
 have hlen:=congrArg List.length hl
 rw[List.length_append] at hlen
 have hdp:=drawN_le (l:=pre) fun d hd=>hcnt d (by rw[hl];simp[hd])
 cases post with
 | cons d post=>
   simp only[List.length_cons] at hlen
   have hdc:=hcnt d (by rw[hl];simp)
   have hdr:=draws_c d
   have hsn:drawN (stepsG (pre++[d]))=drawN (stepsG pre)+(if drawsB d=true then d.count.toNat else 0):=by
    show drawN ((pre++[d]).flatMap stp1)=_
    rw[List.flatMap_append,drawN_app,List.flatMap_cons,List.flatMap_nil,List.append_nil,drawN_stp];rfl
   cases hdb:drawsB d with
   | true=>
     rw[hdb] at hdr hsn
     rw[if_pos rfl] at hdr hsn
     have:=hdc hdb
     repeat' (first
      | with_reducible refine Rd.p ?_
      | (refine w_ixP (f:=fun d:Dl=>[AV.int .i64 d.kind,.int .i64 d.bag,.int .i64 d.other,.int .i64 d.wood,.int .i64 d.count]) hl rfl rfl ?_)
      | with_reducible (first|refine zI fun y hy=>?_|refine zL ?_|refine zS ?_|refine zV ?_|refine zC ?_)
      | ((with_reducible refine aC ?_);first|(refine ACall.val hdr rfl rfl ?_))
      | refine aX ?_|with_reducible intro _
      | with_reducible refine zJ ?_ fun y hy=>?_|refine aP ?_ ?_)
     all_goals first
      | (exfalso;omega)
      | exact q_loop (pre++[d],post) (by show G.ds=_;rw[hl];simp) (Nat.lt_succ_self _) ⟨by show AV.int .i64 _=AV.int .i64 _;rw[hsn];exact int_eq (by omega),by rw[len_snoc];rfl,trivial⟩ aS aK aK
   | false=>
     rw[hdb] at hdr hsn
     rw[if_neg Bool.false_ne_true] at hdr hsn
     repeat' (first
      | with_reducible refine Rd.p ?_
      | (refine w_ixP (f:=fun d:Dl=>[AV.int .i64 d.kind,.int .i64 d.bag,.int .i64 d.other,.int .i64 d.wood,.int .i64 d.count]) hl rfl rfl ?_)
      | with_reducible (first|refine zI fun y hy=>?_|refine zL ?_|refine zS ?_|refine zV ?_|refine zC ?_)
      | ((with_reducible refine aC ?_);first|(refine ACall.val hdr rfl rfl ?_))
      | refine aX ?_|with_reducible intro _
      | with_reducible refine zJ ?_ fun y hy=>?_|refine aP ?_ ?_)
     all_goals first
      | (exfalso;omega)
      | exact q_loop (pre++[d],post) (by show G.ds=_;rw[hl];simp) (Nat.lt_succ_self _) ⟨by show AV.int .i64 _=AV.int .i64 _;rw[hsn];exact int_eq (by omega),by rw[len_snoc];rfl,trivial⟩ aS aK aK
 | nil=>
 simp only[List.length_nil] at hlen
 rw[List.append_nil] at hl
 subst hl
 by_cases hln:ps.length=drawN (stepsG G.ds)
 rotate_left
 · rw[if_neg hln] at hR
   subst hR
   repeat' (first
    | with_reducible refine Rd.p ?_
    | with_reducible (first|refine zI fun y hy=>?_|refine zL ?_|refine zS ?_|refine zV ?_|refine zC ?_)
    | refine aX ?_|with_reducible intro _
    | with_reducible refine zJ ?_ fun y hy=>?_|refine aP ?_ ?_)
   all_goals first
    | (exfalso;omega)
    | rfl
 rw[if_pos hln] at hR
 repeat' (first
  | with_reducible refine Rd.p ?_
  | with_reducible (first|refine zI fun y hy=>?_|refine zL ?_|refine zS ?_|refine zV ?_|refine zC ?_)
  | refine aX ?_|with_reducible intro _
  | with_reducible refine zJ ?_ fun y hy=>?_|refine aP ?_ ?_)
 all_goals try (exfalso;omega)
 rename_i g12 g13
 refine w_loopK [12,46,47] [] (fun x:List Dl×List Dl×List Int×List Int×List Int×Nat×List Int×Int=>G.ds=x.1++x.2.1∧playS (stepsG x.2.1) x.2.2.1 x.2.2.2.1 x.2.2.2.2.1=playS (stepsG G.ds) bg0 ps []∧x.2.2.2.1.length=drawN (stepsG x.2.1)∧x.2.2.2.2.1.length≤12*x.1.length∧tbIn x.2.2.2.2.2.2.1 x.2.2.2.2.2.2.2∧runOK G.ws.length (stepsG x.2.1) x.2.2.2.2.2.2.1 x.2.2.2.2.2.2.2∧bgT G.ws.length x.2.2.2.2.2.2.1 x.2.2.1) (fun x=>x.2.1.length)
  (fun x=>[(48,.int .i64 (x.1.length:Int)),(1,.slc 1 (iR x.2.2.2.1) .non),(13,.slc 1 (iR x.2.2.2.2.1) (.own 13 x.2.2.2.2.2.1))]) (fun x=>[(12,(g12,.row (nI x.2.2.1))),(13,(x.2.2.2.2.2.1,.row []))]) ([],G.ds,bg0,ps,[],g13,tb0.bags,tb0.mixed) ⟨rfl,rfl,hln,Nat.le_refl _,tb0_in,hG.ex,bgT0 _⟩ ⟨rfl,rfl,rfl,trivial⟩ ⟨rfl,rfl,trivial⟩ ?_
 rintro⟨pre,post,B,qs,c,gc,b,m⟩ ⟨hl,hpl,hq,hcl,ht,hr,hB⟩ e1 σ1
 dsimp only at hl hpl hq hcl ht hr hB ⊢
 have hlen:=congrArg List.length hl
 rw[List.length_append] at hlen
 have hBl:=hB.l
 have hin:=hB.bgin ht
 have hcl2:(iR c).length=c.length:=List.length_map _
 cases post with
 | nil=>
   simp only[List.length_nil] at hlen
   rw[show playS (stepsG []) B qs c=some c from rfl] at hpl
   rw[←hpl] at hR
   subst hR
   repeat' (first
    | with_reducible refine Rd.p ?_
    | with_reducible (first|refine zI fun y hy=>?_|refine zL ?_|refine zS ?_|refine zV ?_|refine zC ?_)
    | refine aX ?_|with_reducible intro _
    | with_reducible refine zJ ?_ fun y hy=>?_|refine aP ?_ ?_)
   all_goals first
    | (exfalso;omega)
    | rfl
 | cons d post=>
   simp only[List.length_cons] at hlen
   have hdc:=hcnt d (by rw[hl];simp)
   have hdr:=draws_c d
   have hst:stepsG (d::post)=stp1 d++stepsG post:=rfl
   rw[hst] at hpl hq hr
   cases hdb:drawsB d with
   | false=>
     have e1:stp1 d=[(d,false,decide (d.kind=6))]:=by unfold stp1;rw[hdb];rfl
     rw[hdb] at hdr
     rw[if_neg Bool.false_ne_true,Bool.false_and] at hdr
     rw[e1] at hpl hq hr
     have hx:=hr.1
     have hmix:=mixed_c d B hin (fun h2=>by obtain⟨q1,q2,q3,q4⟩:=hx.h2 rfl h2;have hm2:=ht.m;have hn6:=hG.n6;dsimp only at q1 q2 q3 q4;exact⟨q1,by omega,by omega⟩) (fun h3=>hx.h3 rfl h3)
     have hml:(mixedB d B).length=24:=(hB.mix ht.l hG.n6 hx rfl).l
     have hgo:∀c':List Int,c'=(if d.kind=6 then c++[d.wood] else c)→(G.ds=(pre++[d])++post∧playS (stepsG post) (mixedB d B) qs c'=playS (stepsG G.ds) bg0 ps []∧qs.length=drawN (stepsG post)∧c'.length≤12*(pre++[d]).length∧tbIn (spB (d,false,decide (d.kind=6)) b) (spM (d,false,decide (d.kind=6)) m)∧runOK G.ws.length (stepsG post) (spB (d,false,decide (d.kind=6)) b) (spM (d,false,decide (d.kind=6)) m)∧bgT G.ws.length (spB (d,false,decide (d.kind=6)) b) (mixedB d B)):=fun c' hc'=>by
      refine⟨by rw[hl];simp,?_,?_,?_,(ht.step hx).1,hr.2,hB.mix ht.l hG.n6 hx rfl⟩
      · rw[←hpl,hc']
        show _=playS ((d,false,decide (d.kind=6))::stepsG post) B qs c
        rw[playS_f Bool.false_ne_true]
        by_cases h6:d.kind=6
        · rw[if_pos h6,if_pos (decide_eq_true h6)]
        · rw[if_neg h6,if_neg (by simpa using h6)]
      · rw[hq];rfl
      · rw[len_snoc,hc']
        split
        · rw[len_snoc];omega
        · omega
     by_cases h6:d.kind=6
     · repeat' (first
        | with_reducible refine Rd.p ?_
        | (first|refine w_ixP (f:=fun d:Dl=>[AV.int .i64 d.kind,.int .i64 d.bag,.int .i64 d.other,.int .i64 d.wood,.int .i64 d.count]) hl rfl rfl ?_|refine w_ldN rfl rfl hBl ?_|refine w_stN rfl rfl (by rw[List.length_map];exact hBl) rfl hml ?_)
        | with_reducible (first|refine zI fun y hy=>?_|refine zL ?_|refine zS ?_|refine zV ?_|refine zC ?_)
        | ((with_reducible refine aC ?_);first|(refine ACall.bgbg hmix rfl ?_)|(refine ACall.val hdr rfl rfl ?_))
        | refine aX ?_|with_reducible intro _
        | with_reducible refine zJ ?_ fun y hy=>?_|refine aP ?_ ?_)
       all_goals try (exfalso;omega)
       rename_i gc'
       refine w_loopK [1,12,13,15,17,46,47,48] [12,13,15] (fun _:Unit=>True) (fun _=>0) (fun _=>[(16,.int .i64 0)]) (fun _=>[]) () trivial ⟨rfl,trivial⟩ trivial ?_
       rintro⟨⟩ _ e2 σ2
       repeat' (first
        | with_reducible refine Rd.p ?_
        | with_reducible (first|refine zI fun y hy=>?_|refine zL ?_|refine zS ?_|refine zV ?_|refine zC ?_)
        | refine aX ?_|with_reducible intro _
        | with_reducible refine zJ ?_ fun y hy=>?_|refine aP ?_ ?_)
       all_goals first
        | (exfalso;omega)
        | exact q_loop (pre++[d],post,mixedB d B,qs,c++[d.wood],gc',_,_) (hgo _ (by rw[if_pos h6])) (by show post.length<post.length+1;omega) ⟨by rw[len_snoc];rfl,rfl,rfl,trivial⟩ aS aK aK
     · repeat' (first
        | with_reducible refine Rd.p ?_
        | (first|refine w_ixP (f:=fun d:Dl=>[AV.int .i64 d.kind,.int .i64 d.bag,.int .i64 d.other,.int .i64 d.wood,.int .i64 d.count]) hl rfl rfl ?_|refine w_ldN rfl rfl hBl ?_|refine w_stN rfl rfl (by rw[List.length_map];exact hBl) rfl hml ?_)
        | with_reducible (first|refine zI fun y hy=>?_|refine zL ?_|refine zS ?_|refine zV ?_|refine zC ?_)
        | ((with_reducible refine aC ?_);first|(refine ACall.bgbg hmix rfl ?_)|(refine ACall.val hdr rfl rfl ?_))
        | refine aX ?_|with_reducible intro _
        | with_reducible refine zJ ?_ fun y hy=>?_|refine aP ?_ ?_)
       all_goals try (exfalso;omega)
       refine w_loopK [1,12,13,15,17,46,47,48] [12,13,15] (fun _:Unit=>True) (fun _=>0) (fun _=>[(16,.int .i64 0)]) (fun _=>[]) () trivial ⟨rfl,trivial⟩ trivial ?_
       rintro⟨⟩ _ e2 σ2
       repeat' (first
        | with_reducible refine Rd.p ?_
        | with_reducible (first|refine zI fun y hy=>?_|refine zL ?_|refine zS ?_|refine zV ?_|refine zC ?_)
        | refine aX ?_|with_reducible intro _
        | with_reducible refine zJ ?_ fun y hy=>?_|refine aP ?_ ?_)
       all_goals first
        | (exfalso;omega)
        | exact q_loop (pre++[d],post,mixedB d B,qs,c,gc,_,_) (hgo _ (by rw[if_neg h6])) (by show post.length<post.length+1;omega) ⟨by rw[len_snoc];rfl,rfl,rfl,trivial⟩ aS aK aK
   | true=>
     have hdn:=hdc hdb
     have e1:stp1 d=List.replicate d.count.toNat (d,true,decide (d.kind=5)):=by unfold stp1;rw[hdb];rfl
     rw[hdb] at hdr
     rw[if_pos rfl,Bool.true_and] at hdr
     rw[e1] at hpl hq hr
     have hk45:d.kind=4∨d.kind=5:=by simpa[drawsB] using hdb
     have hmb:mixedB d B=B:=by unfold mixedB;rw[if_neg (by omega),if_neg (by omega)]
     have hmix:=mixed_c d B hin (fun h2=>by omega) (fun h3=>by omega)
     rw[hmb] at hmix
     repeat' (first
      | with_reducible refine Rd.p ?_
      | (first|refine w_ixP (f:=fun d:Dl=>[AV.int .i64 d.kind,.int .i64 d.bag,.int .i64 d.other,.int .i64 d.wood,.int .i64 d.count]) hl rfl rfl ?_|refine w_ldN rfl rfl hBl ?_|refine w_stN rfl rfl (by rw[List.length_map];exact hBl) rfl hBl ?_)
      | with_reducible (first|refine zI fun y hy=>?_|refine zL ?_|refine zS ?_|refine zV ?_|refine zC ?_)
      | ((with_reducible refine aC ?_);first|(refine ACall.bgbg hmix rfl ?_)|(refine ACall.val hdr rfl rfl ?_))
      | refine aX ?_|with_reducible intro _
      | with_reducible refine zJ ?_ fun y hy=>?_|refine aP ?_ ?_)
     all_goals try (exfalso;omega)
     refine w_loopK [12,15,17,46,47,48] [15] (fun x:Nat×List Int×List Int×List Int×Nat×List Int×Int=>playS (List.replicate x.1 (d,true,decide (d.kind=5))++stepsG post) x.2.1 x.2.2.1 x.2.2.2.1=playS (stepsG G.ds) bg0 ps []∧x.2.2.1.length=x.1+drawN (stepsG post)∧x.2.2.2.1.length+x.1≤12*(pre.length+1)∧tbIn x.2.2.2.2.2.1 x.2.2.2.2.2.2∧runOK G.ws.length (List.replicate x.1 (d,true,decide (d.kind=5))++stepsG post) x.2.2.2.2.2.1 x.2.2.2.2.2.2∧bgT G.ws.length x.2.2.2.2.2.1 x.2.1) (fun x=>x.1)
      (fun x=>[(1,.slc 1 (iR x.2.2.1) .non),(13,.slc 1 (iR x.2.2.2.1) (.own 13 x.2.2.2.2.1)),(16,.int .i64 (x.1:Int))]) (fun x=>[(12,(g12,.row (nI x.2.1))),(13,(x.2.2.2.2.1,.row []))]) (d.count.toNat,B,qs,c,gc,b,m) ⟨hpl,by rw[hq,drawN_app,drawN_rep],by show c.length+d.count.toNat≤_;omega,ht,hr,hB⟩ ⟨rfl,rfl,int_eq (by show d.count=((d.count.toNat:Nat):Int);omega),trivial⟩ ⟨rfl,rfl,trivial⟩ ?_
     rintro⟨j,B1,qs1,c1,gc1,b1,m1⟩ ⟨ipl,iq,ic,it,ir,iB⟩ e2 σ2
     dsimp only at ipl iq ic it ir iB ⊢
     clear hB hin ht hr hmix hBl hpl hcl2
     have hBl:=iB.l
     have hin:=iB.bgin it
     have hcl2:(iR c1).length=c1.length:=List.length_map _
     cases j with
     | zero=>
       repeat' (first
        | with_reducible refine Rd.p ?_
        | with_reducible (first|refine zI fun y hy=>?_|refine zL ?_|refine zS ?_|refine zV ?_|refine zC ?_)
        | refine aX ?_|with_reducible intro _
        | with_reducible refine zJ ?_ fun y hy=>?_|refine aP ?_ ?_)
       all_goals try (exfalso;omega)
       all_goals
        exact q_loop (pre++[d],post,B1,qs1,c1,gc1,b1,m1) ⟨by rw[hl];simp,ipl,by rw[Nat.zero_add] at iq;exact iq,by show c1.length≤_;rw[len_snoc];exact ic,it,ir,iB⟩ (by show post.length<post.length+1;omega) ⟨by rw[len_snoc];rfl,rfl,rfl,trivial⟩ aS aK aK
     | succ j=>
       cases qs1 with
       | nil=>exfalso;rw[List.length_nil] at iq;omega
       | cons p qs1=>
       have hx:=ir.1
       obtain⟨hb,ha⟩:=hx.d rfl
       have hsz:=iB.size hb
       have hbs:=bgsize_c B1 hin d.bag hb
       have h12:=it.le hb
       have hsm:=it.sm
       have htm:=it.m
       dsimp only at ha hb hsz h12
       rw[List.replicate_succ,List.cons_append,playS_t rfl] at ipl
       dsimp only at ipl
       have hgi:=gin_c p 0 (bgSize B1 d.bag-1)
       by_cases hp:0≤p∧p<bgSize B1 d.bag
       · rw[if_pos hp] at ipl
         rw[show inB p 0 (bgSize B1 d.bag-1)=true from inB_t.2 (by omega)] at hgi
         repeat' (first
          | with_reducible refine Rd.p ?_
          | (first|refine w_ldN rfl rfl hBl ?_|refine w_ixP (l:=p::qs1) (pre:=[]) (y:=p) (post:=qs1) rfl rfl rfl ?_)
          | with_reducible (first|refine zI fun y hy=>?_|refine zL ?_|refine zS ?_|refine zV ?_|refine zC ?_)
          | ((with_reducible refine aC ?_);first|(refine ACall.bgint hbs rfl ?_)|(refine ACall.val hgi rfl rfl ?_))
          | refine aX ?_|with_reducible intro _
          | with_reducible refine zJ ?_ fun y hy=>?_|refine aP ?_ ?_)
         all_goals try (exfalso;omega)
         all_goals
          obtain⟨R6,hR6⟩:∃R6,rowB B1 d.bag=R6:=⟨_,rfl⟩
          have hRl:R6.length=6:=by rw[←hR6];exact rowB_len _ _
          have hRn:∀v∈R6,0≤v:=by rw[←hR6];exact rowB_nn iB.nn d.bag
          have hRs:R6.sum=bgSize B1 d.bag:=by rw[←hR6];rfl
          have hpw:pickW B1 d.bag p=(pickF R6 p:Nat):=by unfold pickW;rw[hR6]
          have hRg:∀w,w<6→R6.getD w 0=B1.getD (d.bag.toNat*6+w) 0:=fun w hw=>by rw[←hR6,rowB_get _ _ hw];rfl
          refine w_loopK [1,12,13,15,16,17,46,47,48] [12,13,15] (fun x:Nat×Int=>(0≤x.2∧x.2<(R6.drop x.1).sum)∧x.2≤12∧x.1+pickF (R6.drop x.1) x.2=pickF R6 p∧x.1≤6) (fun x=>6-x.1) (fun x=>[(18,.int .i64 (x.1:Int)),(19,.int .i64 x.2)]) (fun _=>[]) (0,p) ⟨⟨hp.1,by show p<R6.sum;omega⟩,by show p≤12;omega,Nat.zero_add _,Nat.zero_le 6⟩ ⟨rfl,rfl,trivial⟩ trivial ?_
          rintro⟨w,k⟩ ⟨hk,hk12,hpk,hw6⟩ e3 σ3
          dsimp only at hk hk12 hpk hw6 ⊢
          have hw5:w<6:=by
           apply Classical.byContradiction
           intro h
           have:R6.drop w=[]:=List.drop_of_length_le (by omega)
           rw[this] at hk;simp at hk;omega
          have hdw:R6.drop w=R6.getD w 0::R6.drop (w+1):=by
           rw[List.drop_eq_getElem_cons (by omega),List.getD_eq_getElem?_getD,List.getElem?_eq_getElem (by omega)];rfl
          have hRw:=hRg w hw5
          have hin2:=hin.at (d.bag.toNat*6+w)
          have ho:0+d.bag.toNat*6+w*1=d.bag.toNat*6+w:=by omega
          have hpl2:d.bag.toNat*6+w<B1.length:=by omega
          rw[hdw,pickF] at hpk
          rw[hdw,List.sum_cons] at hk
          rw[hRw] at hpk hk
          by_cases hkw:k<B1.getD (d.bag.toNat*6+w) 0
          · rw[if_pos hkw] at hpk
            have hpw2:pickW B1 d.bag p=(w:Int):=by rw[hpw,←hpk];rfl
            rw[hpw2] at ipl
            have hdb2:=drawB_set B1 d.bag w
            rw[Int.toNat_natCast] at hdb2
            have hdl2:(drawB B1 d.bag w).length=24:=drawB_len hBl _ _
            have hB2:=iB.draw it.l hG.n6 hb (w:=(w:Int)) (by omega) (by show 0<B1.getD (d.bag.toNat*6+w) 0;omega)
            have hiq:qs1.length=j+drawN (stepsG post):=by rw[List.length_cons] at iq;omega
            have hts:=(it.step hx).1
            have hrs:=ir.2
            have hbe:spB (d,true,decide (d.kind=5)) b1=setI b1 d.bag (atI b1 d.bag+ -1):=by unfold spB;rw[if_pos rfl]
            rw[←hbe] at hB2
            by_cases h5:d.kind=5
            · rw[if_pos (decide_eq_true h5)] at ipl
              repeat' (first
               | with_reducible refine Rd.p ?_
               | (first|refine w_ldEl rfl ho rfl hpl2 ?_|refine w_stElC rfl ho rfl hpl2 rfl hdb2 ?_|refine w_sl1 rfl ?_)
               | with_reducible (first|refine zI fun y hy=>?_|refine zL ?_|refine zS ?_|refine zV ?_|refine zC ?_)
               | refine aX ?_|with_reducible intro _
               | with_reducible refine zJ ?_ fun y hy=>?_|refine aP ?_ ?_)
              all_goals try (exfalso;omega)
              all_goals
               rename_i gc2
               exact q_loop (j,drawB B1 d.bag w,qs1,c1++[(w:Int)],gc2,_,_) ⟨ipl,hiq,by show (c1++[(w:Int)]).length+j≤_;rw[len_snoc];omega,hts,hrs,hB2⟩ (Nat.lt_succ_self _) ⟨rfl,rfl,int_eq (by simp),trivial⟩ aS aK aK
            · rw[if_neg (by simpa using h5)] at ipl
              repeat' (first
               | with_reducible refine Rd.p ?_
               | (first|refine w_ldEl rfl ho rfl hpl2 ?_|refine w_stElC rfl ho rfl hpl2 rfl hdb2 ?_|refine w_sl1 rfl ?_)
               | with_reducible (first|refine zI fun y hy=>?_|refine zL ?_|refine zS ?_|refine zV ?_|refine zC ?_)
               | refine aX ?_|with_reducible intro _
               | with_reducible refine zJ ?_ fun y hy=>?_|refine aP ?_ ?_)
              all_goals first
               | (exfalso;omega)
               | exact q_loop (j,drawB B1 d.bag w,qs1,c1,gc1,_,_) ⟨ipl,hiq,by show c1.length+j≤_;omega,hts,hrs,hB2⟩ (Nat.lt_succ_self _) ⟨rfl,rfl,int_eq (by simp),trivial⟩ aS aK aK
          · rw[if_neg hkw] at hpk
            repeat' (first
             | with_reducible refine Rd.p ?_
             | (first|refine w_ldEl rfl ho rfl hpl2 ?_)
             | with_reducible (first|refine zI fun y hy=>?_|refine zL ?_|refine zS ?_|refine zV ?_|refine zC ?_)
             | refine aX ?_|with_reducible intro _
             | with_reducible refine zJ ?_ fun y hy=>?_|refine aP ?_ ?_)
            all_goals first
             | (exfalso;omega)
             | exact q_loop (w+1,k-B1.getD (d.bag.toNat*6+w) 0) ⟨by dsimp only;omega,by dsimp only;omega,by dsimp only;omega,hw5⟩ (by show 6-(w+1)<6-w;omega) ⟨by show AV.int .i64 _=AV.int .i64 _;exact int_eq (by simp),rfl,trivial⟩ aS aK aK
       · rw[if_neg hp] at ipl
         rw[←ipl] at hR
         subst hR
         rw[show inB p 0 (bgSize B1 d.bag-1)=false from inB_f.2 (by omega)] at hgi
         repeat' (first
          | with_reducible refine Rd.p ?_
          | (first|refine w_ldN rfl rfl hBl ?_|refine w_ixP (l:=p::qs1) (pre:=[]) (y:=p) (post:=qs1) rfl rfl rfl ?_)
          | with_reducible (first|refine zI fun y hy=>?_|refine zL ?_|refine zS ?_|refine zV ?_|refine zC ?_)
          | ((with_reducible refine aC ?_);first|(refine ACall.bgint hbs rfl ?_)|(refine ACall.val hgi rfl rfl ?_))
          | refine aX ?_|with_reducible intro _
          | with_reducible refine zJ ?_ fun y hy=>?_|refine aP ?_ ?_)
         all_goals first
          | (exfalso;omega)
          | rfl
end Go.Abs
namespace Go.Abs
open Go.Proofs Go.RowKit Go.Lib
theorem wp_cpI (w:World) {o:Oper} {a:Act} {K:Act→World→Prop} {Q:Exit→Act→World→Prop} (d s:Operand) (t t':TypeId)
  (ho:o.op= .call {callee:= .builtin .copy,args:= #[d,s],argTypes:= #[t,t'] }) (v u:Value) (hd:a.eval d=v) (hs:a.eval s=u) {P:Program} {v':Value} {w':World}
  (hr:(Builtin.copy_ #[t,t'] o.type #[v,u]).run P w= .ok v' w') (h:K (a.put o.dst v') w'):o.wp P a w K Q:=by
 unfold Oper.wp execOp
 simp only[ho,resolve,invoke,builtin,Sem.run_bind,Sem.run_pure,Result.andThen_ok,List.map_toArray,List.map_cons,List.map_nil,hd,hs,hr]
 exact h
theorem wpL_cpI (w:World) {ops:Array Oper} {rest:List Oper} {o:Oper} {a:Act} {Q:Exit→Act→World→Prop} {P:Program} (hgd:o.guard=none) (d s:Operand) (t t':TypeId)
  (ho:o.op= .call {callee:= .builtin .copy,args:= #[d,s],argTypes:= #[t,t'] }) (v u:Value) (hd:a.eval d=v) (hs:a.eval s=u) {v':Value} {w':World}
  (hr:(Builtin.copy_ #[t,t'] o.type #[v,u]).run P w= .ok v' w') (h:wpList P ops Q rest (a.put o.dst v') w'):wpList P ops Q (o::rest) a w:=
 wpList_plain hgd fun _ hK=>wp_cpI w d s t t' ho v u hd hs hr (hK _ _ h)
theorem st_cpI {ops:Array Oper} {o:Oper} {a:Act} {w:World} {K:Act→World→Prop} {Q:Exit→Act→World→Prop} {E:Prop} {P:Program}
  (hg:o.guard=none) (d x:Operand) (t t':TypeId) (hop:o.op=Op.call {callee:=Callee.builtin Builtin.copy,args:= #[d,x],argTypes:= #[t,t'] })
  (v u:Value) (hd:a.eval d=v) (hx:a.eval x=u) {v':Value} {w':World} (hr:(Builtin.copy_ #[t,t'] o.type #[v,u]).run P w= .ok v' w') (hK:K (a.put o.dst v') w'):
  if Region.wanted o (yielded ops a.tmps)=true then Oper.wp P o a w K Q else E:=by
 have hw:Region.wanted o (yielded ops a.tmps)=true:=by simp[Region.wanted,hg]
 rw[if_pos hw]
 exact wp_cpI w d x t t' hop v u hd hx hr hK
set_option maxRecDepth 100000 in
theorem insA (v':Value) (n:Nat) (w w':World) (b:Option Addr) (c:Nat) (hb:b=none→n=0∧c=0) (vl:Addr) (vc:Nat)
  (hrun:∀ty,(Builtin.append_ #[41,41] ty #[.slice b n c,.slice (some vl) 1 vc]).run Tryz.prog w= .ok v' w'):
  Calls Tryz.prog 48 #[.slice b n c,.int .i64 n,.slice (some vl) 1 vc] w fun e W=>e= .returned v'∧W=w':=by
 go_enter Tryz.func48,Tryz.ntmps48
 cases b with
 | none=>
   obtain⟨rfl,rfl⟩:=hb rfl
   go_wp2_with (at_builtin;refine Lib.wpList_append_run _ rfl _ _ _ _ rfl _ _ rfl rfl _ _ (hrun _) ?_)
   go_ret
   exact⟨rfl,rfl⟩
 | some a=>
   go_wp2_with (at_builtin;refine Lib.wpList_append_run _ rfl _ _ _ _ rfl _ _ rfl rfl _ _ (hrun _) ?_)
   all_goals (go_ret;exact⟨rfl,rfl⟩)
set_option maxRecDepth 100000 in
theorem insB (n c i:Nat) (hi:i<n) (hroom:n+1≤c) (hn63:n≤4000000000000000000) (b vb vc:Nat) (w W1 W2:World)
  (hov:∀lb cb,(callFunc 89 #[.slice (some ⟨vb,0,none⟩) 1 vc,.slice (some ⟨b,i+1,none⟩) lb cb]).run Tryz.prog w= .ok (.value (.bool false)) w)
  (hcp1:∀ty dc sc,(Builtin.copy_ #[41,41] ty #[.slice (some ⟨b,i+1,none⟩) (n-i) dc,.slice (some ⟨b,i,none⟩) (n+1-i) sc]).run Tryz.prog w.drew= .ok (goInt (n-i:Nat)) W1)
  (hcp2:∀ty dc,(Builtin.copy_ #[41,41] ty #[.slice (some ⟨b,i,none⟩) (n+1-i) dc,.slice (some ⟨vb,0,none⟩) 1 vc]).run Tryz.prog W1= .ok (goInt 1) W2):
  Calls Tryz.prog 48 #[.slice (some ⟨b,0,none⟩) n c,.int .i64 i,.slice (some ⟨vb,0,none⟩) 1 vc] w fun e W=>e= .returned (.slice (some ⟨b,0,none⟩) (n+1) c)∧W=W2:=by
 have hz2:¬((i:Int)=(n:Int)):=by omega
 have hw1:IntKind.i64.wrap ((i:Int)+(1:Int))=(i:Int)+(1:Int):=by rw[IntKind.wrap_i64];omega
 have hb1:(0:Int)≤(i:Int)+(1:Int):=by omega
 have hin:i≤n:=by omega
 have htn:((i:Int)+(1:Int)).toNat=i+1:=by omega
 have hb2:¬(c=i+1):=by omega
 have hb3:(i:Int)≤(n:Int)+(1:Int):=by omega
 have hb4:¬(c=i):=by omega
 go_enter Tryz.func48,Tryz.ntmps48
 go_wp2_with (simp only[hov])
 go_region_law (refine st_cpI rfl _ _ 41 41 rfl _ _ (by simp[Act.eval,Act.put]) (by simp[Act.eval,Act.put]) (hcp1 _ _ _) ?_)
 go_wp2_with (at_builtin;refine wpL_cpI _ rfl _ _ 41 41 rfl _ _ rfl rfl (hcp2 _ _) ?_)
 go_ret
 exact⟨rfl,rfl⟩
set_option maxRecDepth 100000 in
theorem insC (n c i G:Nat) (hi:i<n) (hnc:n≤c) (hroom:¬n+1≤c) (hc63:c≤4000000000000000000) (hG:n+1≤G) (hG63:G≤9223372036854775807) (b vb vc nb:Nat) (w W0 W1 W2:World)
  (hap:∀ty,(Builtin.append_ #[41,3] ty #[.slice (some ⟨b,0,none⟩) i c,.int .i64 ((n:Int)+1-(i:Int))]).run Tryz.prog w= .ok (.slice (some ⟨nb,0,none⟩) (n+1) G) W0)
  (hcp1:∀ty dc,(Builtin.copy_ #[41,41] ty #[.slice (some ⟨nb,i,none⟩) (n+1-i) dc,.slice (some ⟨vb,0,none⟩) 1 vc]).run Tryz.prog W0= .ok (goInt 1) W1)
  (hcp2:∀ty dc sc,(Builtin.copy_ #[41,41] ty #[.slice (some ⟨nb,i+1,none⟩) (n+1-(i+1)) dc,.slice (some ⟨b,i,none⟩) (n-i) sc]).run Tryz.prog W1.drew= .ok (goInt (n-i:Nat)) W2):
  Calls Tryz.prog 48 #[.slice (some ⟨b,0,none⟩) n c,.int .i64 i,.slice (some ⟨vb,0,none⟩) 1 vc] w fun e W=>e= .returned (.slice (some ⟨nb,0,none⟩) (n+1) G)∧W=W2:=by
 have hz2:¬((i:Int)=(n:Int)):=by omega
 have hz3:(c:Int)<(n:Int)+(1:Int):=by omega
 have hw1:IntKind.i64.wrap ((i:Int)+(1:Int))=(i:Int)+(1:Int):=by rw[IntKind.wrap_i64];omega
 have hb1:(0:Int)≤(i:Int)+(1:Int):=by omega
 have hin:i≤n:=by omega
 have htn:((i:Int)+(1:Int)).toNat=i+1:=by omega
 have hb3:(i:Int)≤(n:Int):=by omega
 have hb4:¬(c=i):=by omega
 have hGi:¬(G=i):=by omega
 have hGim:¬(G=i+1):=by omega
 go_enter Tryz.func48,Tryz.ntmps48
 go_wp2_with (first
  | (at_builtin;refine Lib.wpList_append_run _ rfl _ _ _ _ rfl _ _ rfl rfl _ _ (hap _) ?_)
  | (at_builtin;refine wpL_cpI _ rfl _ _ 41 41 rfl _ _ rfl rfl (hcp1 _ _) ?_))
 go_region_law (refine st_cpI rfl _ _ 41 41 rfl (.slice (some ⟨nb,i+1,none⟩) (n+1-(i+1)) (G-(i+1))) (.slice (some ⟨b,i,none⟩) (n-i) (c-i)) (by simp[Act.eval,Act.put]) (by simp[Act.eval,Act.put]) (hcp2 _ _ _) ?_)
 go_wp2
 go_ret
 exact⟨rfl,rfl⟩
set_option maxRecDepth 100000 in
theorem insA_i (v':Value) (n:Nat) (w w':World) (b:Option Addr) (c:Nat) (hb:b=none→n=0∧c=0) (vl:Addr) (vc:Nat)
  (hrun:∀ty,(Builtin.append_ #[28,28] ty #[.slice b n c,.slice (some vl) 1 vc]).run Tryz.prog w= .ok v' w'):
  Calls Tryz.prog 49 #[.slice b n c,.int .i64 n,.slice (some vl) 1 vc] w fun e W=>e= .returned v'∧W=w':=by
 go_enter Tryz.func49,Tryz.ntmps49
 cases b with
 | none=>
   obtain⟨rfl,rfl⟩:=hb rfl
   go_wp2_with (at_builtin;refine Lib.wpList_append_run _ rfl _ _ _ _ rfl _ _ rfl rfl _ _ (hrun _) ?_)
   go_ret
   exact⟨rfl,rfl⟩
 | some a=>
   go_wp2_with (at_builtin;refine Lib.wpList_append_run _ rfl _ _ _ _ rfl _ _ rfl rfl _ _ (hrun _) ?_)
   all_goals (go_ret;exact⟨rfl,rfl⟩)
set_option maxRecDepth 100000 in
theorem insB_i (n c i:Nat) (hi:i<n) (hroom:n+1≤c) (hn63:n≤4000000000000000000) (b vb vc:Nat) (w W1 W2:World)
  (hov:∀lb cb,(callFunc 91 #[.slice (some ⟨vb,0,none⟩) 1 vc,.slice (some ⟨b,i+1,none⟩) lb cb]).run Tryz.prog w= .ok (.value (.bool false)) w)
  (hcp1:∀ty dc sc,(Builtin.copy_ #[28,28] ty #[.slice (some ⟨b,i+1,none⟩) (n-i) dc,.slice (some ⟨b,i,none⟩) (n+1-i) sc]).run Tryz.prog w.drew= .ok (goInt (n-i:Nat)) W1)
  (hcp2:∀ty dc,(Builtin.copy_ #[28,28] ty #[.slice (some ⟨b,i,none⟩) (n+1-i) dc,.slice (some ⟨vb,0,none⟩) 1 vc]).run Tryz.prog W1= .ok (goInt 1) W2):
  Calls Tryz.prog 49 #[.slice (some ⟨b,0,none⟩) n c,.int .i64 i,.slice (some ⟨vb,0,none⟩) 1 vc] w fun e W=>e= .returned (.slice (some ⟨b,0,none⟩) (n+1) c)∧W=W2:=by
 have hz2:¬((i:Int)=(n:Int)):=by omega
 have hw1:IntKind.i64.wrap ((i:Int)+(1:Int))=(i:Int)+(1:Int):=by rw[IntKind.wrap_i64];omega
 have hb1:(0:Int)≤(i:Int)+(1:Int):=by omega
 have hin:i≤n:=by omega
 have htn:((i:Int)+(1:Int)).toNat=i+1:=by omega
 have hb2:¬(c=i+1):=by omega
 have hb3:(i:Int)≤(n:Int)+(1:Int):=by omega
 have hb4:¬(c=i):=by omega
 go_enter Tryz.func49,Tryz.ntmps49
 go_wp2_with (simp only[hov])
 go_region_law (refine st_cpI rfl _ _ 28 28 rfl _ _ (by simp[Act.eval,Act.put]) (by simp[Act.eval,Act.put]) (hcp1 _ _ _) ?_)
 go_wp2_with (at_builtin;refine wpL_cpI _ rfl _ _ 28 28 rfl _ _ rfl rfl (hcp2 _ _) ?_)
 go_ret
 exact⟨rfl,rfl⟩
set_option maxRecDepth 100000 in
theorem insC_i (n c i G:Nat) (hi:i<n) (hnc:n≤c) (hroom:¬n+1≤c) (hc63:c≤4000000000000000000) (hG:n+1≤G) (hG63:G≤9223372036854775807) (b vb vc nb:Nat) (w W0 W1 W2:World)
  (hap:∀ty,(Builtin.append_ #[28,3] ty #[.slice (some ⟨b,0,none⟩) i c,.int .i64 ((n:Int)+1-(i:Int))]).run Tryz.prog w= .ok (.slice (some ⟨nb,0,none⟩) (n+1) G) W0)
  (hcp1:∀ty dc,(Builtin.copy_ #[28,28] ty #[.slice (some ⟨nb,i,none⟩) (n+1-i) dc,.slice (some ⟨vb,0,none⟩) 1 vc]).run Tryz.prog W0= .ok (goInt 1) W1)
  (hcp2:∀ty dc sc,(Builtin.copy_ #[28,28] ty #[.slice (some ⟨nb,i+1,none⟩) (n+1-(i+1)) dc,.slice (some ⟨b,i,none⟩) (n-i) sc]).run Tryz.prog W1.drew= .ok (goInt (n-i:Nat)) W2):
  Calls Tryz.prog 49 #[.slice (some ⟨b,0,none⟩) n c,.int .i64 i,.slice (some ⟨vb,0,none⟩) 1 vc] w fun e W=>e= .returned (.slice (some ⟨nb,0,none⟩) (n+1) G)∧W=W2:=by
 have hz2:¬((i:Int)=(n:Int)):=by omega
 have hz3:(c:Int)<(n:Int)+(1:Int):=by omega
 have hw1:IntKind.i64.wrap ((i:Int)+(1:Int))=(i:Int)+(1:Int):=by rw[IntKind.wrap_i64];omega
 have hb1:(0:Int)≤(i:Int)+(1:Int):=by omega
 have hin:i≤n:=by omega
 have htn:((i:Int)+(1:Int)).toNat=i+1:=by omega
 have hb3:(i:Int)≤(n:Int):=by omega
 have hb4:¬(c=i):=by omega
 have hGi:¬(G=i):=by omega
 have hGim:¬(G=i+1):=by omega
 go_enter Tryz.func49,Tryz.ntmps49
 go_wp2_with (first
  | (at_builtin;refine Lib.wpList_append_run _ rfl _ _ _ _ rfl _ _ rfl rfl _ _ (hap _) ?_)
  | (at_builtin;refine wpL_cpI _ rfl _ _ 28 28 rfl _ _ rfl rfl (hcp1 _ _) ?_))
 go_region_law (refine st_cpI rfl _ _ 28 28 rfl (.slice (some ⟨nb,i+1,none⟩) (n+1-(i+1)) (G-(i+1))) (.slice (some ⟨b,i,none⟩) (n-i) (c-i)) (by simp[Act.eval,Act.put]) (by simp[Act.eval,Act.put]) (hcp2 _ _ _) ?_)
 go_wp2
 go_ret
 exact⟨rfl,rfl⟩
end Go.Abs
namespace Go.Abs
open Go.Proofs Go.RowKit Go.Lib
section
variable {P:Program} {G:GS} {w:World} {σ:Sig}
theorem ROut.of_step {Y:Option (YC P)} {T:Nat→Prop} {G':GS} {σ':Sig} {w':World} {R:AV→Sig→Prop} {v:Value} {av:AV} (hy:YI Y T σ G.K w) (hd:∀b,Foot G σ b→ ¬T b) (hs:StepOK G σ w G' σ' w') (hys:σ' YS=σ YS) (hr:Rel G' av v) (hR:R av σ'):ROut Y T G σ w R (.returned v) w':=
 ⟨v,av,σ',G',T,rfl,hs.inv,hr,hR,hs.le,hs.ext.weak fun b _ h=> .inl h,hs.own,hy.step hd hs hys,fun b hb ht=>(hs.own b hb).elim (fun h=>hd b h ht) fun h=>by have:=hy.lt ht;omega,fun b hb=> .inl hb⟩
theorem run_cp {t u e ty:TypeId} (ht:P.underlying t=some (.slice e)) (hs:szOf P e=some 1) {B o n cap m k:Nat} {vals:Array Value} {T:TypeId} {vb:Value} (hobj:w.heap[B]?=some (.cells vals T (0,0))) (vs:List Value)
  (hlen:(Builtin.lenOf vb).run P w= .ok m w) (hk:Nat.min m n=k) (hfirst:(Builtin.firstCells 1 k vb).run P w= .ok vs.toArray w) (hfit:o+vs.length≤vals.size) (hone:∀v∈vs,v.oneCell'=true):
  (Builtin.copy_ #[t,u] ty #[.slice (some ⟨B,o,none⟩) n cap,vb]).run P w= .ok (goInt (k:Nat)) (w.setRow B (setL vals.toList o vs).toArray):=by
 have hfit':o+0+vs.length≤vals.size:=by omega
 have hst:=run_storeCells_at P B o T vs 0 vals w hobj hfit' hone
 simp only[Nat.add_zero] at hst
 rw[over_eq _ _ _ (by simpa using hfit')] at hst
 have hf:(Builtin.firstCells 1 (Nat.min m n) vb).run P w= .ok vs.toArray w:=by rw[hk];exact hfirst
 subst hk
 simp[Builtin.copy_,run_underlying ht,hlen,run_szOf hs,hf,hst]
end
structure InsF (P:Program) (f T E ov:Nat) (by1:Nat) (zv:Value):Prop where
 ok:okFn P f=true
 ut:P.underlying T=some (.slice E)
 u3:P.underlying 3=some (.int .i64)
 info:∃i,P.info? E=some i∧i.zero=some zv∧i.size=1∧i.bytes=by1
 by1:0<by1∧by1≤1000
 zc:zv.cells.size=1
 sz:szOf P E=some 1
 ovl:∀(w:World) (a b:Addr) (la ca lb cb:Nat) (tA tB:TypeId) (kA kB:Nat),a.block≠b.block→w.shape? a.block=some (tA,kA)→w.shape? b.block=some (tB,kB)→kB≠0→w.frozen? a=false→w.frozen? {block:=a.block,off:=kA }=false→(callFunc ov #[.slice (some a) la ca,.slice (some b) lb cb]).run P w= .ok (.value (.bool false)) w
 A:∀(v':Value) (n:Nat) (w w':World) (b:Option Addr) (c:Nat),(b=none→n=0∧c=0)→ ∀(vl:Addr) (vc:Nat),(∀ty,(Builtin.append_ #[T,T] ty #[.slice b n c,.slice (some vl) 1 vc]).run P w= .ok v' w')→
  Calls P f #[.slice b n c,.int .i64 n,.slice (some vl) 1 vc] w fun e W=>e= .returned v'∧W=w'
 B:∀(n c i:Nat),i<n→n+1≤c→n≤4000000000000000000→ ∀(b vb vc:Nat) (w W1 W2:World),(∀lb cb,(callFunc ov #[.slice (some ⟨vb,0,none⟩) 1 vc,.slice (some ⟨b,i+1,none⟩) lb cb]).run P w= .ok (.value (.bool false)) w)→
  (∀ty dc sc,(Builtin.copy_ #[T,T] ty #[.slice (some ⟨b,i+1,none⟩) (n-i) dc,.slice (some ⟨b,i,none⟩) (n+1-i) sc]).run P w.drew= .ok (goInt (n-i:Nat)) W1)→
  (∀ty dc,(Builtin.copy_ #[T,T] ty #[.slice (some ⟨b,i,none⟩) (n+1-i) dc,.slice (some ⟨vb,0,none⟩) 1 vc]).run P W1= .ok (goInt 1) W2)→
  Calls P f #[.slice (some ⟨b,0,none⟩) n c,.int .i64 i,.slice (some ⟨vb,0,none⟩) 1 vc] w fun e W=>e= .returned (.slice (some ⟨b,0,none⟩) (n+1) c)∧W=W2
 C:∀(n c i G:Nat),i<n→n≤c→ ¬n+1≤c→c≤4000000000000000000→n+1≤G→G≤9223372036854775807→ ∀(b vb vc nb:Nat) (w W0 W1 W2:World),
  (∀ty,(Builtin.append_ #[T,3] ty #[.slice (some ⟨b,0,none⟩) i c,.int .i64 ((n:Int)+1-(i:Int))]).run P w= .ok (.slice (some ⟨nb,0,none⟩) (n+1) G) W0)→
  (∀ty dc,(Builtin.copy_ #[T,T] ty #[.slice (some ⟨nb,i,none⟩) (n+1-i) dc,.slice (some ⟨vb,0,none⟩) 1 vc]).run P W0= .ok (goInt 1) W1)→
  (∀ty dc sc,(Builtin.copy_ #[T,T] ty #[.slice (some ⟨nb,i+1,none⟩) (n+1-(i+1)) dc,.slice (some ⟨b,i,none⟩) (n-i) sc]).run P W1.drew= .ok (goInt (n-i:Nat)) W2)→
  Calls P f #[.slice (some ⟨b,0,none⟩) n c,.int .i64 i,.slice (some ⟨vb,0,none⟩) 1 vc] w fun e W=>e= .returned (.slice (some ⟨nb,0,none⟩) (n+1) G)∧W=W2
theorem insL_f:InsF Tryz.prog 48 41 28 89 24 (.slice none 0 0) where
 ok:=by kernel_rfl
 ut:=Tryz.underlying41
 u3:=Tryz.underlying3
 info:=⟨_,rfl,by kernel_rfl,by kernel_rfl,by kernel_rfl⟩
 by1:=⟨by decide,by decide⟩
 zc:=rfl
 sz:=by kernel_rfl
 ovl w a b la ca lb cb tA tB kA kB h1 h2 h3 h4 h5 h6:=by
  rw[run_callFunc_extern Tryz.func89 (by kernel_rfl) (by kernel_rfl) (by kernel_rfl) (e:=Extern.SlicesOverlaps.overlaps #[41,41] #[4]) (by kernel_rfl),
   Lib.run_overlaps_apart w 41 4 28 Tryz.underlying41 1 (fun w=>by rfl) a b la ca lb cb h1 tA tB kA kB h2 h3 h4 h5 h6]
  rfl
 A:=insA
 B:=insB
 C:=insC
theorem insI_f:InsF Tryz.prog 49 28 3 91 8 (.int .i64 0) where
 ok:=by kernel_rfl
 ut:=Tryz.underlying28
 u3:=Tryz.underlying3
 info:=⟨_,rfl,by kernel_rfl,by kernel_rfl,by kernel_rfl⟩
 by1:=⟨by decide,by decide⟩
 zc:=rfl
 sz:=by kernel_rfl
 ovl w a b la ca lb cb tA tB kA kB h1 h2 h3 h4 h5 h6:=by
  rw[run_callFunc_extern Tryz.func91 (by kernel_rfl) (by kernel_rfl) (by kernel_rfl) (e:=Extern.SlicesOverlaps.overlaps #[28,28] #[4]) (by kernel_rfl),
   Lib.run_overlaps_apart w 28 4 3 Tryz.underlying28 1 (fun w=>by rfl) a b la ca lb cb h1 tA tB kA kB h2 h3 h4 h5 h6]
  rfl
 A:=insA_i
 B:=insB_i
 C:=insC_i
end Go.Abs
namespace Go.Abs
open Go.Proofs Go.RowKit Go.Lib
section
variable {P:Program}
theorem insNil {f T E ov by1:Nat} {zv:Value} (F:InsF P f T E ov by1 zv) {x:AV} (hx:x.scal=true) (h:Nat):
  RawC P f [.nsl,.int .i64 0,.msl 1001 h 1 1] (sg [(1001,(h,.row [x]))]) (SR (fun g' v=>v= .msl 1000 g' 1 1) (fun g'=>[(1000,(g',.row [x])),(1001,(h,.row [x]))])):=by
 refine⟨F.ok,fun Y T0 G w vals hI hy hd hr=>?_⟩
 obtain⟨v0,_,rfl,r0,v1,_,rfl,r1,v2,_,rfl,r2,rfl⟩:=hr
 obtain rfl:v0= .slice none 0 0:=r0
 obtain rfl:v1= .int .i64 0:=r1
 obtain⟨B2,cap2,rfl,hc2,hm2⟩:=r2
 obtain⟨i,hi,hz,hs,hby⟩:=F.info
 obtain⟨γ,hγ⟩:=hI.fresh 1000
 have hb1:=F.by1
 obtain⟨v',w',G',hrun,hrel,hst⟩:=e_apmM (P:=P) (ty:=0) (d:=1000) (γ:=γ) (a:= .nsl) (b:= .msl 1001 h 1 1) (va:= .slice none 0 0) (vb:= .slice (some ⟨B2,0,none⟩) 1 cap2) (n:=0) (m:=1) (cs:=[]) (ys:=[x]) (σ':=sg [(1001,(h,.row [x]))]) hI (hγ γ (Nat.le_refl _)) F.ut F.ut hi hz (by rw[hs];exact F.zc) (by omega) (by omega) rfl ⟨B2,cap2,rfl,hc2,hm2⟩ (p:=True) rfl trivial (q:=h=h∧1=i.size∧1*i.size≤[x].length∧[x].length=1*i.size∧[x].all AV.scal=true∧0<1) rfl (by rw[hs];simp[hx]) (by rw[hby];omega)
 refine (F.A v' 0 w w' none 0 (fun _=>⟨rfl,rfl⟩) ⟨B2,0,none⟩ cap2 fun ty=>hrun).mono ?_
 rintro e W ⟨rfl,rfl⟩
 rw[hs] at hrel
 exact ROut.of_step hy hd hst rfl hrel ⟨γ,rfl,rfl,rfl,trivial⟩
def layL (xs:List AV) (k:Nat) (x:AV):List AV:=xs.take k++x::xs.drop k
theorem layL_len {xs:List AV} {k:Nat} {x:AV} (h:k≤xs.length):(layL xs k x).length=xs.length+1:=by unfold layL;simp;omega
theorem layL_get {xs:List AV} {k:Nat} {x:AV} (h:k≤xs.length) (j:Nat):(layL xs k x)[j]?=if j<k then xs[j]? else if j=k then some x else xs[j-1]?:=by
 unfold layL
 have hl:(xs.take k).length=k:=by rw[List.length_take];omega
 by_cases h1:j<k
 · rw[if_pos h1,List.getElem?_append_left (by omega),List.getElem?_take_of_lt h1]
 · rw[if_neg h1,List.getElem?_append_right (by omega),hl]
   by_cases h2:j=k
   · subst h2;rw[if_pos rfl,Nat.sub_self];rfl
   · rw[if_neg h2,show j-k=(j-1-k)+1 by omega,List.getElem?_cons_succ,List.getElem?_drop]
     congr 1;omega
theorem shape_of {w:World} {b:Nat} {vals:Array Value} {T:TypeId} (h:w.heap[b]?=some (.cells vals T (0,0))):w.shape? b=some (T,vals.size):=by simp[World.shape?,h]
theorem frozen_of {w:World} {b:Nat} {vals:Array Value} {T:TypeId} (h:w.heap[b]?=some (.cells vals T (0,0))) (o:Nat):w.frozen? ⟨b,o,none⟩=false:=by simp[World.frozen?,h]
theorem cell_of {w:World} {b:Nat} {vals:Array Value} {T:TypeId} (h:w.heap[b]?=some (.cells vals T (0,0))) (o:Nat):w.cell? ⟨b,o,none⟩=vals[o]?:=by simp[World.cell?,h]
theorem insM {f T E ov by1:Nat} {zv:Value} (F:InsF P f T E ov by1 zv) {x:AV} (hx:x.scal=true) {xs:List AV} (hxs:xs.all AV.scal=true) (g h k:Nat) (hk:k≤xs.length) (hn:xs.length≤1000000):
  RawC P f [.msl 1000 g xs.length 1,.int .i64 k,.msl 1001 h 1 1] (sg [(1000,(g,.row xs)),(1001,(h,.row [x]))]) (SR (fun g' v=>v= .msl 1000 g' (xs.length+1) 1) (fun g'=>[(1000,(g',.row (layL xs k x))),(1001,(h,.row [x]))])):=by
 refine⟨F.ok,fun Y T0 G w vals hI hy hd hr=>?_⟩
 obtain⟨v0,_,rfl,r0,v1,_,rfl,r1,v2,_,rfl,r2,rfl⟩:=hr
 obtain⟨B,cap,rfl,hc,hm⟩:=r0
 obtain rfl:v1= .int .i64 k:=r1
 obtain⟨B2,cap2,rfl,hc2,hm2⟩:=r2
 obtain⟨i,hi,hz,hs,hby⟩:=F.info
 obtain⟨γ,hγ⟩:=hI.fresh 1000
 have hγ:=hγ γ (Nat.le_refl _)
 have hb1:=F.by1
 obtain⟨σ,hσ⟩:∃σ,sg [(1000,(g,Res.row xs)),(1001,(h,Res.row [x]))]=σ:=⟨_,rfl⟩
 have hσ0:σ 1000=(g,.row xs):=by rw[←hσ];rfl
 have hσ1:σ 1001=(h,.row [x]):=by rw[←hσ];rfl
 have hσY:∀c',upd σ 1000 c' YS=σ YS:=fun c'=>by rw[upd_eq,if_neg (by decide)]
 rw[hσ] at hI hy hd ⊢
 by_cases hkn:k=xs.length
 · subst hkn
   obtain⟨v',w',G',hrun,hrel,hst⟩:=e_apmM (P:=P) (ty:=0) (d:=1000) (γ:=γ) (a:= .msl 1000 g xs.length 1) (b:= .msl 1001 h 1 1) (va:= .slice (some ⟨B,0,none⟩) xs.length cap) (vb:= .slice (some ⟨B2,0,none⟩) 1 cap2) (n:=xs.length) (m:=1) (cs:=xs) (ys:=[x]) (σ':=upd σ 1000 (g,.dead)) hI hγ F.ut F.ut hi hz (by rw[hs];exact F.zc) (by omega) (by omega) ⟨B,cap,rfl,hc,hm⟩ ⟨B2,cap2,rfl,hc2,hm2⟩ (p:=g=g∧1=i.size∧xs.length=xs.length*i.size) (by simp only[baseM,hσ0]) (by rw[hs];simp) (q:=h=h∧1=i.size∧1*i.size≤[x].length∧[x].length=1*i.size∧[x].all AV.scal=true∧0<1) (by simp only[rowsM,hσ1]) (by rw[hs];simp[hx]) (by
    rw[hby]
    have:(xs.length+1)*by1≤1000001*1000:=Nat.mul_le_mul (by omega) (by omega)
    omega)
   refine (F.A v' xs.length w w' (some ⟨B,0,none⟩) cap (fun h=>by cases h) ⟨B2,0,none⟩ cap2 fun ty=>hrun).mono ?_
   rintro e W ⟨rfl,rfl⟩
   rw[hs] at hrel
   have e1:layL xs xs.length x=xs++[x]:=by simp[layL]
   have e2:∀c',newS (upd σ 1000 (g,.dead)) 1000 γ c'=upd σ 1000 (γ,.row c'):=fun c'=>by rw[newS,upd_upd]
   rw[e2] at hst
   refine ROut.of_step hy hd hst (hσY _) hrel ⟨γ,rfl,?_,?_,trivial⟩
   · rw[upd_eq,if_pos rfl,e1]
   · rw[upd_eq,if_neg (by decide),hσ1]
 have hk1:k<xs.length:=by omega
 rcases hI.res 1000 xs (by rw[hσ0]) with⟨_,h0⟩ | ⟨b',e0,lim',vals,TT,hR⟩ | ⟨b',hO⟩
 · rw[hσ0,hm] at h0;cases h0
 rotate_left
 · have hm':=hO.m;rw[hσ0,hm] at hm';cases hm'
 rcases hI.res 1001 [x] (by rw[hσ1]) with⟨_,h0⟩ | ⟨b',e0,lim',vals2,TT2,hR2⟩ | ⟨b',hO⟩
 · rw[hσ1,hm2] at h0;cases h0
 rotate_left
 · have hm':=hO.m;rw[hσ1,hm2] at hm';cases hm'
 rw[hσ0] at hR
 rw[hσ1] at hR2
 have:=hR.m;rw[hm] at this;cases this
 have:=hR2.m;rw[hm2] at this;cases this
 have hBB:B2≠B:=fun e=>hI.dist 1001 1000 B _ _ (by decide) ⟨_,by rw[hσ1]⟩ ⟨_,by rw[hσ0]⟩ (by rw[hσ1,hm2,e]) (by rw[hσ0];exact hm)
 obtain⟨xv,hxv,hxr⟩:=hR2.rel 0 x rfl
 have hxo:xv.oneCell'=true:=scal_one hxr hx
 have hobj:=hR.obj
 have hvl:vals.toList.length=vals.size:=by simp
 have hobj2:=hR2.obj
 have hlim:=hR.lim
 have hfit:=hR.fit
 have hlt:B<w.heap.size:=(Array.getElem?_eq_some_iff.1 hobj).1
 have hlt2:B2<w.heap.size:=(Array.getElem?_eq_some_iff.1 hobj2).1
 have hcellv:∀j v,(List.take (xs.length-k) (List.drop k vals.toList))[j]?=some v→vals[k+j]?=some v∧j<xs.length-k:=fun j v hj=>by
  rw[List.getElem?_take] at hj
  split at hj
  · rw[List.getElem?_drop] at hj
    exact⟨by simpa using hj,by assumption⟩
  · cases hj
 obtain⟨s1,hs1⟩:∃s1,List.take (xs.length-k) (List.drop k vals.toList)=s1:=⟨_,rfl⟩
 rw[hs1] at hcellv
 have hs1l:s1.length=xs.length-k:=by rw[←hs1,List.length_take,List.length_drop,hvl];omega
 have hs1g:∀j,j<xs.length-k→s1[j]?=vals[k+j]?:=fun j hj=>by
  rw[←hs1,List.getElem?_take_of_lt hj,List.getElem?_drop];simp
 have hone1:∀v∈s1,v.oneCell'=true:=fun v hv=>by
  obtain⟨j,hj⟩:=List.getElem?_of_mem hv
  obtain⟨h1,h2⟩:=hcellv j v hj
  obtain⟨v',h3,h4⟩:=hR.rel (k+j) _ (List.getElem?_eq_getElem (by omega))
  rw[Nat.zero_add,h1] at h3;cases h3
  rw[List.all_eq_true] at hxs
  exact scal_one h4 (hxs _ (List.getElem_mem _))
 have hcell2:∀(j:Nat) (v:Value),[xv][j]?=some v→vals2[0+j]?=some v:=fun j v hj=>by
  cases j with
  | zero=>simpa using (by simpa using hj:xv=v)▸hxv
  | succ j=>simp at hj
 have hrel:=hR.rel
 by_cases hroom:xs.length+1≤cap
 · obtain⟨W1,hW1⟩:∃W1,w.drew.setRow B (setL vals.toList (k+1) s1).toArray=W1:=⟨_,rfl⟩
   have hdobj:w.drew.heap[B]?=some (.cells vals TT (0,0)):=hobj
   have ho1:W1.heap[B]?=some (.cells (setL vals.toList (k+1) s1).toArray TT (0,0)):=by rw[←hW1];exact setRow_heap _ _ _ _ _ _ hdobj
   have ho2:W1.heap[B2]?=some (.cells vals2 TT2 (0,0)):=by rw[←hW1,setRow_other _ _ _ _ hBB];exact hobj2
   have hsz1:(setL vals.toList (k+1) s1).toArray.size=vals.size:=by simp[length_setL]
   have hB:=F.B xs.length cap k hk1 hroom (by omega) B B2 cap2 w W1 (W1.setRow B (setL (setL vals.toList (k+1) s1) k [xv]).toArray)
    (fun lb cb=>F.ovl w ⟨B2,0,none⟩ ⟨B,k+1,none⟩ 1 cap2 lb cb TT2 TT _ _ hBB (shape_of hobj2) (shape_of hobj) (by omega) (frozen_of hobj2 _) (frozen_of hobj2 _))
    (fun ty dc sc=>by
      rw[←hW1]
      exact run_cp (P:=P) F.ut F.sz (m:=xs.length+1-k) (k:=xs.length-k) hdobj s1 rfl (by show min _ _=_;omega) (run_firstCells_some (P:=P) w.drew _ _ _ _ _ s1 (by omega) fun j v hj=>by
       rw[Addr.add_lit,cell_of hdobj];exact (hcellv j v hj).1) (by omega) hone1)
    (fun ty dc=>by
      have:=run_cp (P:=P) (t:=T) (u:=T) (ty:=ty) (cap:=dc) F.ut F.sz (o:=k) (n:=xs.length+1-k) (m:=1) (k:=1) (vb:= .slice (some ⟨B2,0,none⟩) 1 cap2) ho1 [xv] rfl (by show min _ _=_;omega) (run_firstCells_some (P:=P) W1 _ _ _ _ _ [xv] rfl fun j v hj=>by
       rw[Addr.add_lit,cell_of ho2];exact hcell2 j v hj) (by rw[hsz1];simp;omega) (fun v hv=>by rw[List.mem_singleton.1 hv];exact hxo)
      simpa using this)
   refine hB.mono ?_
   rintro e W ⟨rfl,rfl⟩
   have hsd:StepOK G σ w G σ w.drew:=StepOK.drew hI rfl rfl rfl rfl
   have hR0:ResOK G w.drew 1000 g xs B 0 (cap*1) vals TT:=⟨hR.m,hdobj,hR.fit,hR.lim,hR.K,hR.rel⟩
   have hw1:=write_ok hsd.inv hσ0 hR0 (c':=[]) (vals':=(setL vals.toList (k+1) s1).toArray) hsz1 (fun o ho=>by omega) (by simp) fun j a hj=>by simp at hj
   rw[hW1] at hw1
   have hR1:ResOK G W1 1000 g [] B 0 (cap*1) (setL vals.toList (k+1) s1).toArray TT:=⟨hR.m,ho1,by simp,by rw[hsz1];exact hlim,hR.K,fun j a hj=>by simp at hj⟩
   have hw2:=write_ok hw1.inv (i:=1000) (g:=g) (c:=[]) (by rw[upd_eq,if_pos rfl]) hR1 (c':=layL xs k x) (vals':=(setL (setL vals.toList (k+1) s1) k [xv]).toArray) (by simp[length_setL]) (fun o ho=>by omega) (by rw[layL_len hk];omega) fun j a hj=>by
    have hjl:=(List.getElem?_eq_some_iff.1 hj).1
    rw[layL_len hk] at hjl
    rw[layL_get hk] at hj
    rw[Nat.zero_add,List.getElem?_toArray,setL_get _ _ _ _ (by rw[length_setL,hvl];simp;omega),setL_get _ _ _ _ (by rw[hvl];omega)]
    by_cases h1:j<k
    · rw[if_pos h1] at hj
      rw[if_neg (by omega),if_neg (by omega)]
      simpa using hrel j a hj
    · rw[if_neg h1] at hj
      by_cases h2:j=k
      · rw[if_pos h2] at hj
        rw[if_pos (by simp;omega)]
        cases hj
        exact⟨xv,by simp[h2],hxr⟩
      · rw[if_neg h2] at hj
        rw[if_neg (by simp;omega),if_pos (by omega),hs1g _ (by omega),show k+(j-(k+1))=j-1 by omega]
        simpa using hrel (j-1) a hj
   rw[upd_upd] at hw2
   refine ROut.of_step hy hd (hsd.trans (hw1.trans hw2)) (hσY _) (av:= .msl 1000 g (xs.length+1) 1) ⟨B,cap,rfl,hroom,hm⟩ ⟨g,rfl,?_,?_,trivial⟩
   · rw[upd_eq,if_pos rfl]
   · rw[upd_eq,if_neg (by decide),hσ1]
 · have hcap:cap=xs.length:=by omega
   subst hcap
   obtain⟨os,hos⟩:∃os,List.take k vals.toList=os:=⟨_,rfl⟩
   have hosl:os.length=k:=by rw[←hos,List.length_take,hvl];omega
   have hosg:∀j,j<k→os[j]?=vals[j]?:=fun j hj=>by rw[←hos,List.getElem?_take_of_lt hj];simp
   have hkk:(xs.length:Int)+1-(k:Int)=((xs.length+1-k:Nat):Int):=by omega
   have hb2:(xs.length+1)*by1≤1000001*1000:=Nat.mul_le_mul (by omega) (by omega)
   have hb3:(xs.length+1-k)*by1≤(xs.length+1)*by1:=Nat.mul_le_mul_right _ (by omega)
   have hold:(Builtin.firstCells i.size k (.slice (some ⟨B,0,none⟩) k xs.length)).run P w.drew= .ok os.toArray w.drew:=by
    rw[hs]
    exact run_firstCells_some (P:=P) w.drew _ _ _ _ _ os (by omega) fun j v hj=>by
     have hjl:=(List.getElem?_eq_some_iff.1 hj).1
     rw[Addr.add_lit,Nat.zero_add]
     rw[hosg j (by omega)] at hj
     exact (cell_of (w:=w.drew) hobj j).trans hj
   have hnew:k+(xs.length+1-k)=xs.length+1:=by omega
   obtain⟨GC,hGC⟩:∃GC,grownCap w (xs.length+1) xs.length E=GC:=⟨_,rfl⟩
   have hGC1:xs.length+1≤GC:=by rw[←hGC];exact grownCap_ge _ _ _ _
   have hGC2:GC≤9223372036854775807:=by
    have:=grownCap_le_maxLen w (xs.length+1) xs.length E (by unfold maxLen;omega)
    rw[hGC] at this;unfold maxLen at this;omega
   obtain⟨row,hrow⟩:∃row:Array Value,row=os.toArray++Builtin.zeroCells zv.cells (xs.length+1-k)++Builtin.zeroCells zv.cells (GC-(xs.length+1)):=⟨_,rfl⟩
   have hrsz:row.size=GC:=by
    rw[hrow]
    simp only[Array.size_append,List.size_toArray,size_zeroCells,F.zc,hosl]
    omega
   have hrl:row.toList.length=row.size:=by simp
   have hrg:∀j,j<k→row[j]?=vals[j]?:=fun j hj=>by
    rw[←hosg j hj,hrow,Array.append_assoc,Array.getElem?_append_left (by simp;omega)];simp
   have hap:∀ty,(Builtin.append_ #[T,3] ty #[.slice (some ⟨B,0,none⟩) k xs.length,.int .i64 ((xs.length:Int)+1-(k:Int))]).run P w= .ok (.slice (some ⟨w.heap.size,0,none⟩) (xs.length+1) GC) (w.drew.alloc (.cells row E)):=fun ty=>by
    have:=Lib.run_append_grow_zeros (P:=P) w T 3 ty E i zv .i64 .i64 F.ut F.u3 hi hz (some ⟨B,0,none⟩) k xs.length os hold (xs.length+1-k) (by omega) (by omega) (by omega) (by omega) (by rw[hby];omega) (by rw[hnew,hby];exact growslice_fits (by omega) (by omega))
    rw[hnew,hGC,←hrow] at this
    rw[hkk];exact this
   obtain⟨W0,hW0⟩:∃W0,w.drew.alloc (.cells row E)=W0:=⟨_,rfl⟩
   rw[hW0] at hap
   have hsd:StepOK G σ w G σ w.drew:=StepOK.drew hI rfl rfl rfl rfl
   have hal:=alloc_ok hsd.inv row E 0 1000 γ hγ [] (by simp) (fun o v ho=>by omega) fun j a hj=>by simp at hj
   rw[hW0] at hal
   have e2:newS σ 1000 γ []=upd σ 1000 (γ,.row []):=rfl
   rw[e2] at hal
   obtain⟨G',hG'⟩:∃G',G.grow w.drew.heap.size row 0 1000 γ=G':=⟨_,rfl⟩
   have hgm:G'.m 1000 γ=some (w.heap.size,0,row.size):=by rw[←hG',show w.heap.size=w.drew.heap.size from rfl];exact grow_m ..
   rw[hG'] at hal
   have ho0:W0.heap[w.heap.size]?=some (.cells row E (0,0)):=by rw[←hW0];exact Array.getElem?_push_size
   have hoB:W0.heap[B]?=some (.cells vals TT (0,0)):=by
    rw[←hW0]
    simp only[World.alloc,World.drew]
    rw[Array.getElem?_push_lt (by exact hlt)]
    have:=hobj
    rw[Array.getElem?_eq_getElem hlt] at this
    exact this
   have hoB2:W0.heap[B2]?=some (.cells vals2 TT2 (0,0)):=by
    rw[←hW0]
    simp only[World.alloc,World.drew]
    rw[Array.getElem?_push_lt (by exact hlt2)]
    have:=hobj2
    rw[Array.getElem?_eq_getElem hlt2] at this
    exact this
   have hneB:B≠w.heap.size:=by omega
   have hneB2:B2≠w.heap.size:=by omega
   obtain⟨W1,hW1⟩:∃W1,W0.setRow w.heap.size (setL row.toList k [xv]).toArray=W1:=⟨_,rfl⟩
   have ho1:W1.heap[w.heap.size]?=some (.cells (setL row.toList k [xv]).toArray E (0,0)):=by rw[←hW1];exact setRow_heap _ _ _ _ _ _ ho0
   have hsz1:(setL row.toList k [xv]).toArray.size=row.size:=by simp[length_setL]
   have ho1B:W1.heap[B]?=some (.cells vals TT (0,0)):=by rw[←hW1,setRow_other _ _ _ _ hneB];exact hoB
   have hd1:W1.drew.heap[w.heap.size]?=some (.cells (setL row.toList k [xv]).toArray E (0,0)):=ho1
   have hC:=F.C xs.length xs.length k GC hk1 (Nat.le_refl _) (by omega) (by omega) hGC1 hGC2 B B2 cap2 w.heap.size w W0 W1 (W1.drew.setRow w.heap.size (setL (setL row.toList k [xv]) (k+1) s1).toArray) hap
    (fun ty dc=>by
      have:=run_cp (P:=P) (t:=T) (u:=T) (ty:=ty) (cap:=dc) F.ut F.sz (o:=k) (n:=xs.length+1-k) (m:=1) (k:=1) (vb:= .slice (some ⟨B2,0,none⟩) 1 cap2) ho0 [xv] rfl (by show min _ _=_;omega) (run_firstCells_some (P:=P) W0 _ _ _ _ _ [xv] rfl fun j v hj=>by
       rw[Addr.add_lit,cell_of hoB2];exact hcell2 j v hj) (by rw[hrsz];simp;omega) (fun v hv=>by rw[List.mem_singleton.1 hv];exact hxo)
      rw[hW1] at this
      simpa using this)
    (fun ty dc sc=>run_cp (P:=P) F.ut F.sz (m:=xs.length-k) (k:=xs.length-k) hd1 s1 rfl (by show min _ _=_;omega) (run_firstCells_some (P:=P) W1.drew _ _ _ _ _ s1 (by omega) fun j v hj=>by
      rw[Addr.add_lit,cell_of (w:=W1.drew) ho1B];exact (hcellv j v hj).1) (by rw[hsz1,hrsz];omega) hone1)
   refine hC.mono ?_
   rintro e W ⟨rfl,rfl⟩
   have hRa:ResOK G' W0 1000 γ [] w.heap.size 0 row.size row E:=⟨hgm,ho0,by simp,Nat.le_refl _,fun o _=>by
    have hh:ResOK G' W0 1000 γ [] w.heap.size 0 row.size row E∨True:= .inr trivial
    rcases hal.inv.res 1000 [] (by rw[upd_eq,if_pos rfl]) with⟨_,h0⟩ | ⟨b',e0,lim',vs',TT',hRR⟩ | ⟨b',hO⟩
    · rw[upd_eq,if_pos rfl,hgm] at h0;cases h0
    · have:=hRR.m;rw[upd_eq,if_pos rfl,hgm] at this;cases this;exact hRR.K o (Nat.zero_le _)
    · have:=hO.m;rw[upd_eq,if_pos rfl,hgm] at this
      simp at this,fun j a hj=>by simp at hj⟩
   have hw1:=write_ok hal.inv (i:=1000) (g:=γ) (c:=[]) (by rw[upd_eq,if_pos rfl]) hRa (c':=[]) (vals':=(setL row.toList k [xv]).toArray) hsz1 (fun o ho=>by omega) (by simp) fun j a hj=>by simp at hj
   rw[hW1,upd_upd] at hw1
   have hsd2:StepOK G' (upd σ 1000 (γ,.row [])) W1 G' (upd σ 1000 (γ,.row [])) W1.drew:=StepOK.drew hw1.inv rfl rfl rfl rfl
   have hR1:ResOK G' W1.drew 1000 γ [] w.heap.size 0 row.size (setL row.toList k [xv]).toArray E:=⟨hgm,hd1,by simp,by rw[hsz1];exact Nat.le_refl _,hRa.K,fun j a hj=>by simp at hj⟩
   have hw2:=write_ok hsd2.inv (i:=1000) (g:=γ) (c:=[]) (by rw[upd_eq,if_pos rfl]) hR1 (c':=layL xs k x) (vals':=(setL (setL row.toList k [xv]) (k+1) s1).toArray) (by simp[length_setL]) (fun o ho=>by omega) (by rw[layL_len hk,hrsz];omega) fun j a hj=>by
    have hjl:=(List.getElem?_eq_some_iff.1 hj).1
    rw[layL_len hk] at hjl
    rw[layL_get hk] at hj
    rw[Nat.zero_add,List.getElem?_toArray,setL_get _ _ _ _ (by rw[length_setL,hrl];omega),setL_get _ _ _ _ (by rw[hrl];simp;omega)]
    by_cases h1:j<k
    · rw[if_pos h1] at hj
      rw[if_neg (by omega),if_neg (by omega)]
      obtain⟨v,h3,h4⟩:=hrel j a hj
      refine⟨v,?_,h4.mono hal.le⟩
      rw[Array.getElem?_toList,hrg j h1];simpa using h3
    · rw[if_neg h1] at hj
      by_cases h2:j=k
      · rw[if_pos h2] at hj
        rw[if_neg (by omega),if_pos (by simp;omega)]
        cases hj
        exact⟨xv,by simp[h2],hxr.mono hal.le⟩
      · rw[if_neg h2] at hj
        rw[if_pos (by omega),hs1g _ (by omega),show k+(j-(k+1))=j-1 by omega]
        obtain⟨v,h3,h4⟩:=hrel (j-1) a hj
        exact⟨v,by simpa using h3,h4.mono hal.le⟩
   rw[upd_upd] at hw2
   refine ROut.of_step hy hd (hsd.trans (hal.trans (hw1.trans (hsd2.trans hw2)))) (hσY _) (av:= .msl 1000 γ (xs.length+1) 1) ⟨w.heap.size,GC,rfl,hGC1,by rw[Nat.mul_one,←hrsz];exact hgm⟩ ⟨γ,rfl,?_,?_,trivial⟩
   · rw[upd_eq,if_pos rfl]
   · rw[upd_eq,if_neg (by decide),hσ1]
end
end Go.Abs
namespace Go.Abs
open Go.Proofs
def ir105:IFn:=
 ⟨19,[(4,none)],(.seq (.ops [oo 4 (.mov (kI 0))])
 (.seq (.seq (.ops [oo 6 (.mov 0),oo 7 (.len false 6),oo 8 (.mov (kI 0))])
 (.blk 0 (.loop (.seq (.ops [oo 9 (.bin .lss 8 7)])
 (.seq (.cnd 9
 .skip
 (.exit 0))
 (.seq (.blk 1 (.seq (.ops [oo 10 (.mov 8),oo 5 (.mov 10)])
 (.seq (.ops [oo 11 (.mov 1),oo 12 (.mov 0),oo 13 (.mov 5),oo 14 (.ixA 1 12 13),oo 15 (.ld 1 false 14),oo 16 (.callV 11 [15])])
 (.cnd 16
 (.seq (.ops [oo 17 (.mov 5),oo 4 (.mov 17)])
 .ret)
 .skip))))
 (.ops [oo 18 (.bin .add 8 (kI 1)),oo 8 (.mov 18)])))))))
 (.seq (.ops [oo 4 (.mov (.k (.int .i64 (-1))))])
 .ret)))⟩
def hint105 (P:Program):Hint:={}
def ir71:IFn:=
 ⟨9,[(4,none)],(.seq (.ops [oo 4 (.mov (kB false))])
 (.seq (.ops [oo 5 (.mov 0),oo 6 (.mov 1),oo 7 (.callF 105 [5,6]),oo 8 (.bin .geq 7 (kI 0)),oo 4 (.mov 8)])
 .ret))⟩
def hint71 (P:Program):Hint:={}
def ir72:IFn:=
 ⟨11,[(3,none)],(.seq (.ops [oo 3 (.mov (kB false))])
 (.seq (.ops [oo 4 (.mov 0),oo 5 (.flA 0 1),oo 6 (.ld 1 false 5),oo 7 (.len false 6),oo 8 (.bin .sub 7 (kI 1)),oo 9 (.callF 54 [4,(kI 0),8]),oo 10 (.not 9),oo 3 (.mov 10)])
 .ret))⟩
def hint72 (P:Program):Hint:={}
def ir40:IFn:=
 ⟨13,[(4,none)],(.seq (.ops [oo 2 (.box 2 0),oo 4 (.mov (kI 0))])
 (.seq (.seq (.ops [oo 5 (.mov 1),oo 6 (.len false 5),oo 7 (.ld 2 true 2),oo 8 (.callF 70 [7]),oo 9 (.bin .neq 6 8)])
 (.cnd 9
 (.seq (.ops [oo 4 (.mov (kI 3))])
 .ret)
 .skip))
 (.seq (.seq (.seq (.frz 2)
 (.ops [oo 10 (.mov 1),oo 11 (.mkf (.func 72) [] [2]),oo 12 (.callF 71 [10,11])]))
 (.cnd 12
 (.seq (.ops [oo 4 (.mov (kI 7))])
 .ret)
 .skip))
 (.seq (.ops [oo 4 (.mov (kI 0))])
 .ret))))⟩
def hint40 (P:Program):Hint:={site:=[],nils:=[],frz:=[(11,2)],mve:=[],wr:=[] }
theorem idxF_c (k:Nat) (cs:List AV) (p:Int→Bool) (l:List Int) (hl:l.length<1000000) (hf:∀x∈l,Fn0 Tryz.prog k [.int .i64 x,.pin cs] (fun v=>v= .bool (p x))):Fn0 Tryz.prog 105 [.slc 1 (iR l) .non,.clo (.func k) [] [.pin cs]] (fun v=>∃i:Int,v= .int .i64 i∧(0≤i↔l.any p=true)):=by
 refine RawC.walk (H:=hint105 Tryz.prog) ir105 Tryz.func105 rfl rfl rfl ?_
 unfold ir105
 repeat' (first
  | with_reducible refine Rd.p ?_
  | with_reducible (first|refine zL ?_|refine zS ?_|refine zV ?_|refine zC ?_)
  | refine aX ?_|with_reducible intro _
  | refine aP ?_ ?_)
 refine w_loopK [0,1,7] [] (fun x:List Int×List Int=>l=x.1++x.2∧x.1.any p=false) (fun x=>x.2.length) (fun x=>[(8,.int .i64 x.1.length)]) (fun _=>[]) ([],l) ⟨rfl,rfl⟩ ⟨rfl,trivial⟩ trivial ?_
 rintro⟨pre,post⟩ ⟨hll,hb⟩ e σ
 dsimp only at hll hb ⊢
 have hlen:=congrArg List.length hll
 cases post with
 | nil=>
   simp only[List.append_nil,List.length_append,List.length_nil] at hlen
   repeat' (first
    | with_reducible refine Rd.p ?_
    | with_reducible (first|refine zL ?_|refine zS ?_|refine zV ?_|refine zC ?_)
    | refine aX ?_|with_reducible intro _
    | refine aP ?_ ?_)
   all_goals first
    | (exfalso;omega)
    | exact⟨-1,rfl,by rw[hll,List.append_nil,hb];simp⟩
 | cons c post=>
   simp only[List.length_append,List.length_cons] at hlen
   have hfc:=hf c (by rw[hll];simp)
   cases hpc:p c with
   | false=>
     rw[hpc] at hfc
     repeat' (first
      | with_reducible refine Rd.p ?_
      | (refine w_ixP hll rfl rfl ?_)
      | with_reducible (first|refine zL ?_|refine zS ?_|refine zV ?_|refine zC ?_)
      | ((with_reducible refine aC ?_);first|(refine ACall.val hfc rfl rfl ?_))
      | refine aX ?_|with_reducible intro _
      | refine aP ?_ ?_)
     all_goals first
      | (exfalso;omega)
      | exact q_loop (pre++[c],post) ⟨by dsimp only;rw[hll];simp,by rw[List.any_append,hb];simp[hpc]⟩ (Nat.lt_succ_self _) ⟨by rw[len_snoc];rfl,trivial⟩ aS aK aK
   | true=>
     rw[hpc] at hfc
     repeat' (first
      | with_reducible refine Rd.p ?_
      | (refine w_ixP hll rfl rfl ?_)
      | with_reducible (first|refine zL ?_|refine zS ?_|refine zV ?_|refine zC ?_)
      | ((with_reducible refine aC ?_);first|(refine ACall.val hfc rfl rfl ?_))
      | refine aX ?_|with_reducible intro _
      | refine aP ?_ ?_)
     all_goals first
      | (exfalso;omega)
      | exact⟨pre.length,rfl,by rw[hll];simp[hpc]⟩
theorem conF_c (k:Nat) (cs:List AV) (p:Int→Bool) (l:List Int) (hl:l.length<1000000) (hf:∀x∈l,Fn0 Tryz.prog k [.int .i64 x,.pin cs] (fun v=>v= .bool (p x))):Fn0 Tryz.prog 71 [.slc 1 (iR l) .non,.clo (.func k) [] [.pin cs]] (fun v=>v= .bool (l.any p)):=by
 have hi:=idxF_c k cs p l hl hf
 refine RawC.walk (H:=hint71 Tryz.prog) ir71 Tryz.func71 rfl rfl rfl ?_
 unfold ir71
 repeat' (first
  | with_reducible refine Rd.p ?_
  | with_reducible (first|refine zL ?_|refine zS ?_|refine zV ?_|refine zC ?_)
  | ((with_reducible refine aC ?_);first|(refine ACall.fn0 hi rfl ?_;rintro _ ⟨i,rfl,hk⟩))
  | refine aX ?_|with_reducible intro _
  | refine aP ?_ ?_)
 exact congrArg AV.bool (by rw[Bool.eq_iff_iff];simpa using hk)
theorem checkCourse1_c (G:Gm) (x:Int) (hn:G.ws.length<1000):Fn0 Tryz.prog 72 [.int .i64 x,gmP G] (fun v=>v= .bool (!inB x 0 (G.ws.length-1))):=by
 refine RawC.walk (H:=hint72 Tryz.prog) ir72 Tryz.func72 rfl rfl rfl ?_
 unfold ir72
 repeat' (first
  | with_reducible refine Rd.p ?_
  | with_reducible (first|refine zL ?_|refine zS ?_|refine zV ?_|refine zC ?_)
  | ((with_reducible refine aC ?_);first|(refine ACall.val (gin_c x 0 (G.ws.length-1)) rfl rfl ?_))
  | refine aX ?_|with_reducible intro _
  | refine aP ?_ ?_)
 all_goals first
  | (exfalso;omega)
  | rfl
def courseErr (G:Gm) (c:List Int):Int:=if (c.length:Int)=(censG (stepsG G.ds):Nat) then (if c.any (fun x=>!inB x 0 (G.ws.length-1))=true then 7 else 0) else 3
theorem checkCourse_c (G:Gm) (I:List Sp→Wt→Prop) (h:GmIn G I) (c:List Int) (hc:c.length<1000):Fn0 Tryz.prog 40 [gmA G,.slc 1 (iR c) .non] (fun v=>v= .int .i64 (courseErr G c)):=by
 obtain⟨B,hB⟩:∃B,courseErr G c=B:=⟨_,rfl⟩
 rw[hB]
 unfold courseErr at hB
 have h6:=h.n6
 have hce:=censers_c G h.d24 h.cnt
 have hcf:=conF_c 72 [.slc 2 (wR G.ws) .non,.slc 5 (dlR G.ds) .non] (fun x=>!inB x 0 (G.ws.length-1)) c (by omega) fun x _=>checkCourse1_c G x (by omega)
 by_cases h1:(c.length:Int)=(censG (stepsG G.ds):Nat)
 · rw[if_pos h1] at hB
   cases hany:c.any (fun x=>!inB x 0 (G.ws.length-1)) with
   | true=>
     rw[hany] at hB hcf
     rw[if_pos rfl] at hB
     subst hB
     refine RawC.walk (H:=hint40 Tryz.prog) ir40 Tryz.func40 rfl rfl rfl ?_
     unfold ir40
     repeat' (first
      | with_reducible refine Rd.p ?_
      | with_reducible (first|refine zL ?_|refine zS ?_|refine zV ?_|refine zC ?_)
      | ((with_reducible refine aC ?_);first|(refine ACall.val hce rfl rfl ?_))
      | (refine w_frzR rfl rfl rfl ?_)
      | ((with_reducible refine aC ?_);first|(refine ACall.val hcf rfl rfl ?_))
      | refine aX ?_|with_reducible intro _
      | refine aP ?_ ?_)
     all_goals first
      | (exfalso;omega)
      | rfl
   | false=>
     rw[hany] at hB hcf
     rw[if_neg Bool.false_ne_true] at hB
     subst hB
     refine RawC.walk (H:=hint40 Tryz.prog) ir40 Tryz.func40 rfl rfl rfl ?_
     unfold ir40
     repeat' (first
      | with_reducible refine Rd.p ?_
      | with_reducible (first|refine zL ?_|refine zS ?_|refine zV ?_|refine zC ?_)
      | ((with_reducible refine aC ?_);first|(refine ACall.val hce rfl rfl ?_))
      | (refine w_frzR rfl rfl rfl ?_)
      | ((with_reducible refine aC ?_);first|(refine ACall.val hcf rfl rfl ?_))
      | refine aX ?_|with_reducible intro _
      | refine aP ?_ ?_)
     all_goals first
      | (exfalso;omega)
      | rfl
 · rw[if_neg h1] at hB
   subst hB
   refine RawC.walk (H:=hint40 Tryz.prog) ir40 Tryz.func40 rfl rfl rfl ?_
   unfold ir40
   repeat' (first
    | with_reducible refine Rd.p ?_
    | with_reducible (first|refine zL ?_|refine zS ?_|refine zV ?_|refine zC ?_)
    | ((with_reducible refine aC ?_);first|(refine ACall.val hce rfl rfl ?_))
    | refine aX ?_|with_reducible intro _
    | refine aP ?_ ?_)
   all_goals first
    | (exfalso;omega)
    | rfl
def ir107:IFn:=
 ⟨19,[(4,none)],(.seq (.ops [oo 4 (.mov (kI 0))])
 (.seq (.seq (.ops [oo 6 (.mov 0),oo 7 (.len false 6),oo 8 (.mov (kI 0))])
 (.blk 0 (.loop (.seq (.ops [oo 9 (.bin .lss 8 7)])
 (.seq (.cnd 9
 .skip
 (.exit 0))
 (.seq (.blk 1 (.seq (.ops [oo 10 (.mov 8),oo 5 (.mov 10)])
 (.seq (.ops [oo 11 (.mov 1),oo 12 (.mov 0),oo 13 (.mov 5),oo 14 (.ixA 5 12 13),oo 15 (.ld 5 true 14),oo 16 (.callV 11 [15])])
 (.cnd 16
 (.seq (.ops [oo 17 (.mov 5),oo 4 (.mov 17)])
 .ret)
 .skip))))
 (.ops [oo 18 (.bin .add 8 (kI 1)),oo 8 (.mov 18)])))))))
 (.seq (.ops [oo 4 (.mov (.k (.int .i64 (-1))))])
 .ret)))⟩
def hint107 (P:Program):Hint:={}
def ir76:IFn:=
 ⟨9,[(4,none)],(.seq (.ops [oo 4 (.mov (kB false))])
 (.seq (.ops [oo 5 (.mov 0),oo 6 (.mov 1),oo 7 (.callF 107 [5,6]),oo 8 (.bin .geq 7 (kI 0)),oo 4 (.mov 8)])
 .ret))⟩
def hint76 (P:Program):Hint:={}
def ir74:IFn:=
 ⟨24,[(4,none)],(.seq (.ops [oo 4 (.mov (.k .nsl))])
 (.seq (.ops [oo 5 (.nil 1 5)])
 (.seq (.seq (.ops [oo 8 (.mov 0),oo 9 (.len false 8),oo 10 (.mov (kI 0))])
 (.blk 0 (.loop (.seq (.ops [oo 11 (.bin .lss 10 9)])
 (.seq (.cnd 11
 .skip
 (.exit 0))
 (.seq (.blk 1 (.seq (.ops [oo 12 (.mov 10),oo 13 (.ixA 1 8 10),oo 14 (.ld 1 false 13),oo 6 (.mov 12),oo 7 (.mov 14)])
 (.seq (.ops [oo 15 (.mov 1),oo 16 (.mov 7),oo 17 (.callV 15 [16])])
 (.cnd 17
 (.ops [oo 18 (.mov 5),oo 19 (.mov 6),oo 20 (.bsl 1 [[(.int .i64 0)]] [(0,19)]),oo 21 (.app 1 8 18 20 5),oo 5 (.mov 21)])
 .skip))))
 (.ops [oo 22 (.bin .add 10 (kI 1)),oo 10 (.mov 22)])))))))
 (.seq (.ops [oo 23 (.mov 5),oo 4 (.mov 23)])
 .ret))))⟩
def hint74 (P:Program):Hint:={site:=[(21,5)],nils:=[(5,1)],frz:=[],mve:=[],wr:=[] }
def ir75:IFn:=
 ⟨9,[(3,none)],(.seq (.ops [oo 2 (.box 1 0),oo 3 (.mov (kB false))])
 (.seq (.seq (.frz 2)
 (.ops [oo 4 (.flA 1 1),oo 5 (.ld 1 false 4),oo 6 (.mkf (.func 77) [] [2]),oo 7 (.callF 76 [5,6]),oo 8 (.not 7),oo 3 (.mov 8)]))
 .ret))⟩
def hint75 (P:Program):Hint:={site:=[],nils:=[],frz:=[(6,2)],mve:=[],wr:=[] }
def ir78:IFn:=
 ⟨8,[(3,none)],(.seq (.ops [oo 3 (.mov (kB false))])
 (.seq (.ops [oo 4 (.mov 0),oo 5 (.flA 1 1),oo 6 (.ld 1 false 5),oo 7 (.bin .eql 4 6),oo 3 (.mov 7)])
 .ret))⟩
def hint78 (P:Program):Hint:={}
def ir77:IFn:=
 ⟨13,[(3,none)],(.seq (.ops [oo 2 (.box 5 0),oo 3 (.mov (kB false))])
 (.seq (.ops [oo 4 (.flA 0 2),oo 5 (.ld 1 false 4),oo 6 (.bin .eql 5 (kI 1)),oo 7 (.mov 6),
 ⟨(some 8),(some (7,true)),(.flA 3 2)⟩,
 ⟨(some 9),(some (7,true)),(.ld 1 false 8)⟩,
 ⟨(some 10),(some (7,true)),(.ld 1 false 1)⟩,
 ⟨(some 11),(some (7,true)),(.bin .eql 9 10)⟩,oo 12 (.pick 7 11 (kB false)),oo 3 (.mov 12)])
 .ret))⟩
def hint77 (P:Program):Hint:={}
def whF (p:Int→Bool):Nat→List Int→List Int
 | _,[]=>[]
 | s,x::r=>if p x=true then (s:Int)::whF p (s+1) r else whF p (s+1) r
theorem whF_len (p:Int→Bool):∀(s:Nat) (l:List Int),(whF p s l).length≤l.length
 | _,[]=>Nat.le_refl _
 | s,x::r=>by
   have:=whF_len p (s+1) r
   rw[whF]
   split
   · simp only[List.length_cons];omega
   · simp only[List.length_cons];omega
theorem where_c (k:Nat) (cs:List AV) (p:Int→Bool) (l:List Int) (hl:l.length<1000000) (hf:∀x∈l,Fn0 Tryz.prog k [.int .i64 x,.pin cs] (fun v=>v= .bool (p x))):Fn0 Tryz.prog 74 [.slc 1 (iR l) .non,.clo (.func k) [] [.pin cs]] (fun v=>v= .slc 1 (iR (whF p 0 l)) .non):=by
 refine RawC.walk (H:=hint74 Tryz.prog) ir74 Tryz.func74 rfl rfl rfl ?_
 unfold ir74
 repeat' (first
  | with_reducible refine Rd.p ?_
  | with_reducible (first|refine zI fun y hy=>?_|refine zL ?_|refine zS ?_|refine zV ?_|refine zC ?_)
  | refine aX ?_|with_reducible intro _
  | with_reducible refine zJ ?_ fun y hy=>?_|refine aP ?_ ?_)
 rename_i g5
 refine w_loopK [1,8,9] [] (fun x:List Int×List Int×List Int×Nat=>l=x.1++x.2.1∧x.2.2.1++whF p x.1.length x.2.1=whF p 0 l∧x.2.2.1.length≤x.1.length) (fun x=>x.2.1.length) (fun x=>[(10,.int .i64 x.1.length),(5,.slc 1 (iR x.2.2.1) (.own 5 x.2.2.2))]) (fun x=>[(5,(x.2.2.2,.row []))]) ([],l,[],g5) ⟨rfl,rfl,Nat.le_refl _⟩ ⟨rfl,rfl,trivial⟩ ⟨rfl,trivial⟩ ?_
 rintro⟨pre,post,out,g⟩ ⟨hll,hb,ho⟩ e σ
 dsimp only at hll hb ho ⊢
 have hlen:=congrArg List.length hll
 have hol:(iR out).length=out.length:=List.length_map _
 cases post with
 | nil=>
   simp only[List.append_nil,List.length_append,List.length_nil] at hlen
   rw[show whF p pre.length []=[] from rfl,List.append_nil] at hb
   rw[←hb]
   repeat' (first
    | with_reducible refine Rd.p ?_
    | with_reducible (first|refine zI fun y hy=>?_|refine zL ?_|refine zS ?_|refine zV ?_|refine zC ?_)
    | refine aX ?_|with_reducible intro _
    | with_reducible refine zJ ?_ fun y hy=>?_|refine aP ?_ ?_)
   all_goals first
    | (exfalso;omega)
    | rfl
 | cons c post=>
   simp only[List.length_append,List.length_cons] at hlen
   have hfc:=hf c (by rw[hll];simp)
   rw[whF] at hb
   have hpl:(pre++[c]).length=pre.length+1:=len_snoc
   cases hpc:p c with
   | false=>
     rw[hpc] at hfc
     rw[if_neg (by rw[hpc];exact Bool.false_ne_true)] at hb
     repeat' (first
      | with_reducible refine Rd.p ?_
      | (refine w_ixP hll rfl rfl ?_)
      | with_reducible (first|refine zI fun y hy=>?_|refine zL ?_|refine zS ?_|refine zV ?_|refine zC ?_)
      | ((with_reducible refine aC ?_);first|(refine ACall.val hfc rfl rfl ?_))
      | refine aX ?_|with_reducible intro _
      | with_reducible refine zJ ?_ fun y hy=>?_|refine aP ?_ ?_)
     all_goals first
      | (exfalso;omega)
      | exact q_loop (pre++[c],post,out,g) ⟨by dsimp only;rw[hll];simp,by dsimp only;rw[hpl];exact hb,by dsimp only;omega⟩ (Nat.lt_succ_self _) ⟨by rw[len_snoc];rfl,rfl,trivial⟩ aS aK aK
   | true=>
     rw[hpc] at hfc
     rw[if_pos hpc] at hb
     repeat' (first
      | with_reducible refine Rd.p ?_
      | (refine w_ixP hll rfl rfl ?_)
      | with_reducible (first|refine zI fun y hy=>?_|refine zL ?_|refine zS ?_|refine zV ?_|refine zC ?_)
      | ((with_reducible refine aC ?_);first|(refine ACall.val hfc rfl rfl ?_))
      | refine aX ?_|with_reducible intro _
      | with_reducible refine zJ ?_ fun y hy=>?_|refine aP ?_ ?_)
     all_goals try (exfalso;omega)
     all_goals
      rename_i g4
      exact q_loop (pre++[c],post,out++[(pre.length:Int)],g4) ⟨by dsimp only;rw[hll];simp,by dsimp only;rw[hpl,List.append_assoc];exact hb,by dsimp only;rw[len_snoc];omega⟩ (Nat.lt_succ_self _) ⟨by rw[len_snoc];rfl,rfl,trivial⟩ aS aK aK
theorem due2_c (a:Aq) (x:Int):Fn0 Tryz.prog 78 [.int .i64 x,.pin [.int .i64 a.kind,.int .i64 a.wood]] (fun v=>v= .bool (decide (x=a.wood))):=by
 refine RawC.walk (H:=hint78 Tryz.prog) ir78 Tryz.func78 rfl rfl rfl ?_
 unfold ir78
 repeat' (first
  | with_reducible refine Rd.p ?_
  | with_reducible (first|refine zL ?_|refine zS ?_|refine zV ?_|refine zC ?_)
  | refine aX ?_|with_reducible intro _
  | refine aP ?_ ?_)
 all_goals rfl
def triedB (ds:List Dl) (x:Int):Bool:=ds.any fun d=>decide (d.kind=1) && decide (d.wood=x)
theorem due11_c (d:Dl) (g:Nat) (x:Int):RawC Tryz.prog 77 [dlA d,.pin [.int .i64 x]] (sg []) (fun v _=>v= .bool (decide (d.kind=1) && decide (d.wood=x))):=by
 by_cases h:d.kind=1
 · rw[decide_eq_true h]
   refine RawC.walk (H:=hint77 Tryz.prog) ir77 Tryz.func77 rfl rfl rfl ?_
   unfold ir77
   repeat' (first
    | with_reducible refine Rd.p ?_
    | with_reducible (first|refine zL ?_|refine zS ?_|refine zV ?_|refine zC ?_)
    | refine aX ?_|with_reducible intro _
    | refine aP ?_ ?_)
   all_goals first
    | (exfalso;omega)
    | rfl
 · rw[decide_eq_false h]
   refine RawC.walk (H:=hint77 Tryz.prog) ir77 Tryz.func77 rfl rfl rfl ?_
   unfold ir77
   repeat' (first
    | with_reducible refine Rd.p ?_
    | with_reducible (first|refine zL ?_|refine zS ?_|refine zV ?_|refine zC ?_)
    | refine aX ?_|with_reducible intro _
    | refine aP ?_ ?_)
   all_goals first
    | (exfalso;omega)
    | rfl
end Go.Abs
