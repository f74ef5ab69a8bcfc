/- A part of the proofs of the laws of this seat: contracts of the functions that they reach, each proved of the program's form in Lean. No condition beyond those that each contract names. -/
import Derived.Test.YtegfkfgkplnjgaaGreatProg
import Derived.Test.YtegfkfgkplnjgaaGreatSnd3
import Derived.Test.YtegfkfgkplnjgaaGreatA0
import Derived.Test.YtegfkfgkplnjgaaGreatQ1a
import Derived.Test.YtegfkfgkplnjgaaGreatQ1b
import Derived.Test.YtegfkfgkplnjgaaGreatQ1c
import Derived.Test.YtegfkfgkplnjgaaGreatQ1d
import Derived.Test.YtegfkfgkplnjgaaGreatQ1e
import Derived.Test.YtegfkfgkplnjgaaGreatQ1f
import Derived.Test.YtegfkfgkplnjgaaGreatQ1g
set_option linter.unusedVariables false
set_option linter.unusedSimpArgs false
set_option maxRecDepth 20000
set_option maxHeartbeats 4000000
namespace Go.Abs
open Go.Proofs
theorem set_same {α:Type} {l:List α} {p:Nat} {d:α} (h:p<l.length):l.set p (l.getD p d)=l:=by
 apply List.ext_getElem?
 intro j
 rw[List.getElem?_set]
 by_cases e:p=j
 · subst e
   rw[if_pos rfl,if_pos h,List.getD_eq_getElem?_getD,List.getElem?_eq_getElem h];rfl
 · rw[if_neg e]
theorem anA_old {x:List Int} {n:Int} {L:List (List Int×Int)} (h:posI x L<L.length∧(L.map (·.1)).getD (posI x L) []=x):(ansI x n L).map (·.1)=L.map (·.1)∧(ansI x n L).map (·.2)=(L.map (·.2)).set (posI x L) ((L.map (·.2)).getD (posI x L) 0+n)∧(ansI x n L).length=L.length:=by
 rw[ansI_old h]
 refine⟨?_,?_,List.length_set⟩
 · rw[List.map_set]
   show (L.map (·.1)).set (posI x L) x=_
   have:=set_same (l:=L.map (·.1)) (p:=posI x L) (d:=[]) (by rw[List.length_map];exact h.1)
   rw[h.2] at this
   exact this
 · rw[List.map_set]
theorem anA_new {x:List Int} {n:Int} {L:List (List Int×Int)} (h:¬(posI x L<L.length∧(L.map (·.1)).getD (posI x L) []=x)):(ansI x n L).map (·.1)=(L.map (·.1)).take (posI x L)++x::(L.map (·.1)).drop (posI x L)∧(ansI x n L).map (·.2)=((L.map (·.2)).take (posI x L)++0::(L.map (·.2)).drop (posI x L)).set (posI x L) (0+n)∧(ansI x n L).length=L.length+1:=by
 have hp:=posI_le x L
 rw[ansI_new h]
 refine⟨by rw[List.map_append,List.map_take,List.map_cons,List.map_drop],?_,?_⟩
 · rw[List.map_append,List.map_take,List.map_cons,List.map_drop]
   have hl:((L.map (·.2)).take (posI x L)).length=posI x L:=by rw[List.length_take,List.length_map];omega
   rw[List.set_append_right _ _ (by rw[hl];exact Nat.le_refl _),hl,Nat.sub_self,List.set_cons_zero,Int.zero_add]
 · rw[List.length_append,List.length_cons,List.length_take,List.length_drop];omega
theorem getD_new {V:List Int} {p:Nat} (h:p≤V.length):(V.take p++0::V.drop p).getD p 0=0:=by
 have hl:(V.take p).length=p:=by rw[List.length_take];omega
 rw[List.getD_eq_getElem?_getD,List.getElem?_append_right (by omega),hl,Nat.sub_self];rfl
def anA (r:List (List Int×Int)×Int):AV:=if r.2=0 then .tup [.slc 1 (llR (r.1.map (·.1))) .non,.slc 1 (iR (r.1.map (·.2))) .non,.int .i64 r.2] else .tup [.nsl,.nsl,.int .i64 r.2]
theorem Answers_c (G:Gm) (a:Aq) (hw:G.ws.length<1000) (hd:G.ds.length<1000) (hs:∀w∈G.ws,w.name.size≤1000):Fn0 Tryz.prog 16 [gmA G,aqA a] (fun v=>v=anA (ansO G a)):=by
 have hck:=gCheck_c G hw hd hs
 have hca:=checkAsk_c G a hw
 have hcr:=courses_f G (invW G.ws.length) hw hd hs gmOK
 obtain⟨R,hR⟩:∃R,ansO G a=R:=⟨_,rfl⟩
 rw[hR]
 unfold ansO at hR
 by_cases h0:gmErr G=0
 rotate_left
 · rw[if_neg h0] at hR
   subst hR
   unfold anA
   rw[if_neg h0]
   refine RawC.walk (H:=hint16 Tryz.prog) ir16 Tryz.func16 rfl rfl rfl ?_
   unfold ir16
   repeat' (first
    | with_reducible refine Rd.p ?_
    | with_reducible (first|refine zI fun y hy=>?_|refine zL ?_|refine zS ?_|refine zV ?_|refine zC ?_)
    | ((with_reducible refine aC ?_);first|(refine ACall.val hck rfl rfl ?_))
    | refine aX ?_|with_reducible intro _
    | with_reducible refine zJ ?_ fun y hy=>?_|refine aP ?_ ?_)
   all_goals first
    | (exfalso;omega)
    | rfl
 rw[if_pos h0] at hR
 rw[h0] at hck
 by_cases h1:askErr G.ws.length a=0
 rotate_left
 · rw[if_neg h1] at hR
   subst hR
   unfold anA
   rw[if_neg h1]
   refine RawC.walk (H:=hint16 Tryz.prog) ir16 Tryz.func16 rfl rfl rfl ?_
   unfold ir16
   repeat' (first
    | with_reducible refine Rd.p ?_
    | with_reducible (first|refine zI fun y hy=>?_|refine zL ?_|refine zS ?_|refine zV ?_|refine zC ?_)
    | ((with_reducible refine aC ?_);first|(refine ACall.val hck rfl rfl ?_)|(refine ACall.val hca rfl rfl ?_))
    | refine aX ?_|with_reducible intro _
    | with_reducible refine zJ ?_ fun y hy=>?_|refine aP ?_ ?_)
   all_goals first
    | (exfalso;omega)
    | rfl
 rw[if_pos h1] at hR
 rw[h1] at hca
 by_cases h2:(crsO G).2=0
 rotate_left
 · rw[if_neg h2] at hR
   subst hR
   have e1:(crsO G).1=[]:=by
    unfold crsO at h2 ⊢
    rw[if_pos h0] at h2 ⊢
    split
    · rename_i h;rw[if_pos h] at h2;exact absurd rfl h2
    · rfl
   rw[e1] at hcr
   unfold anA
   rw[if_neg h2]
   refine RawC.walk (H:=hint16 Tryz.prog) ir16 Tryz.func16 rfl rfl rfl ?_
   unfold ir16
   repeat' (first
    | with_reducible refine Rd.p ?_
    | with_reducible (first|refine zI fun y hy=>?_|refine zL ?_|refine zS ?_|refine zV ?_|refine zC ?_)
    | ((with_reducible refine aC ?_);first|(refine ACall.val hck rfl rfl ?_)|(refine ACall.val hca rfl rfl ?_)|(refine ACall.val hcr rfl rfl ?_))
    | refine aX ?_|with_reducible intro _
    | with_reducible refine zJ ?_ fun y hy=>?_|refine aP ?_ ?_)
   all_goals first
    | (exfalso;omega)
    | rfl
 rw[if_pos h2] at hR
 rw[h2] at hcr
 have hG:=gm_ok h0
 have hn6:=hG.n6
 have hcen:=hG.cen
 obtain⟨C,hC⟩:∃C,crsG G=C:=⟨_,rfl⟩
 have hCO:(crsO G).1=C:=by
  unfold crsO at h2 ⊢
  rw[if_pos h0] at h2 ⊢
  split
  · exact hC
  · rename_i h;rw[if_neg h] at h2;exact absurd h2 (by decide)
 have hC5:C.length≤5000:=by
  unfold crsO at h2
  rw[if_pos h0] at h2
  split at h2
  · rename_i h;rw[←hC];exact h
  · exact absurd h2 (by decide)
 have hCn:C≠[]:=by rw[←hC];exact crsG_ne hG
 have hmem:∀c∈C,(1≤c.1.length∧c.1.length≤9)∧(∀w∈c.1,0≤w∧w<(G.ws.length:Int))∧0<c.2:=fun c hc=>by
  rw[←hC] at hc
  obtain⟨⟨q1,q2⟩,q3,q4⟩:=(crsG_mem hG).1 hc
  exact⟨by omega,q2,by omega⟩
 rw[hCO] at hcr hR
 have hcr2:crsA C 0= .tup [.slc 1 (llR (C.map (·.1))) .non,.slc 1 (iR (C.map (·.2))) .non,.int .i64 0]:=by
  cases C with
  | nil=>exact absurd rfl hCn
  | cons x r=>rfl
 rw[hcr2] at hcr
 have hl0:(C.map (·.1)).length=C.length:=List.length_map _
 have hsb:sumA C≤479001600:=by rw[←hC,crsG_sum hG];exact (allW_bd hG).2
 refine RawC.walk (H:=hint16 Tryz.prog) ir16 Tryz.func16 rfl rfl rfl ?_
 unfold ir16
 repeat' (first
  | with_reducible refine Rd.p ?_
  | with_reducible (first|refine zI fun y hy=>?_|refine zL ?_|refine zS ?_|refine zV ?_|refine zC ?_)
  | ((with_reducible refine aC ?_);first|(refine ACall.val hck rfl rfl ?_)|(refine ACall.val hca rfl rfl ?_)|(refine ACall.val hcr rfl rfl ?_))
  | refine aX ?_|with_reducible intro _
  | with_reducible refine zJ ?_ fun y hy=>?_|refine aP ?_ ?_)
 all_goals try (exfalso;omega)
 refine w_loopK [2,3,10,36,37] [2,3] (fun x:List (List Int×Int)×List (List Int×Int)×List (List Int×Int)×Nat×Nat=>C=x.1++x.2.1∧x.2.1.foldl (fun A c=>ansI (dueF G a c.1) c.2 A) x.2.2.1=ansL (dueF G a) C∧srtA x.2.2.1∧(∀y∈x.2.2.1,0<y.2)∧(x.2.2.1.length≤x.1.length∧(x.1≠[]→x.2.2.1≠[]))∧(∀y∈x.2.2.1,y.1.length≤20)∧sumA x.2.2.1+sumA x.2.1=sumA C) (fun x=>x.2.1.length)
  (fun x=>[(38,.int .i64 (x.1.length:Int)),(4,ansV 59 x.2.2.1 x.2.2.2.1),(5,ansV 63 x.2.2.1 x.2.2.2.2)]) (fun x=>[(59,ansX x.2.2.1 x.2.2.2.1),(63,ansY x.2.2.1 x.2.2.2.2)]) ([],C,[],0,0) ⟨rfl,rfl,List.Pairwise.nil,(fun y hy=>by cases hy),⟨Nat.le_refl _,fun h=>absurd rfl h⟩,(fun y hy=>by cases hy),Int.zero_add _⟩ ⟨rfl,rfl,rfl,trivial⟩ ⟨rfl,rfl,trivial⟩ ?_
 rintro⟨pre,post,L,ga,gb⟩ ⟨hl,hf,hsr,hps,⟨hll,hln⟩,hl20,hsm⟩ e σ
 dsimp only at hl hf hsr hps hll hln hl20 hsm ⊢
 have hlen:=congrArg List.length hl
 rw[List.length_append] at hlen
 cases post with
 | nil=>
   simp only[List.length_nil] at hlen
   rw[List.foldl_nil] at hf
   rw[←hf] at hR
   subst hR
   cases L with
   | nil=>exact absurd rfl (hln fun h=>by rw[h] at hl;exact hCn (by rw[hl];rfl))
   | cons y0 r0=>
     have hA:frzA 59 ga (liC ((y0::r0).map (·.1))) (.msl 59 ga (y0::r0).length 1)= .slc 1 (llR ((y0::r0).map (·.1))) .non:=by
      have:=chunkLi ((y0::r0).map (·.1))
      rw[List.length_map] at this
      simp only[frzA]
      rw[if_pos ⟨trivial,trivial,by rw[List.length_map,List.length_map,Nat.mul_one]⟩,this]
     have hV:frzA 63 gb (((y0::r0).map (·.2)).map (AV.int .i64)) (.msl 63 gb (y0::r0).length 1)= .slc 1 (iR ((y0::r0).map (·.2))) .non:=by
      have:=chunk1 ((y0::r0).map (·.2))
      rw[List.length_map] at this
      simp only[frzA]
      rw[if_pos ⟨trivial,trivial,by rw[List.length_map,List.length_map,Nat.mul_one]⟩,this]
     repeat' (first
      | with_reducible refine Rd.p ?_
      | with_reducible (first|refine zI fun y hy=>?_|refine zL ?_|refine zS ?_|refine zV ?_|refine zC ?_)
      | refine aX ?_|with_reducible intro _
      | with_reducible refine zJ ?_ fun y hy=>?_|refine aP ?_ ?_)
     all_goals try (exfalso;omega)
     refine w_frzLi (A:=anF (y0::r0)) [(4,.slc 1 (llR (anF (y0::r0))) .non),(5,.msl 63 gb (y0::r0).length 1)] [(63,(gb,.row ((anS (y0::r0)).map (AV.int .i64))))] rfl rfl (List.length_map _) ⟨hA,rfl,trivial⟩ ⟨congrArg (fun z=>(gb,Res.row z)) (frzL_nI _ _ _ _),trivial⟩ ?_
     intro e2 σ2
     repeat' (first
      | with_reducible refine Rd.p ?_
      | with_reducible (first|refine zI fun y hy=>?_|refine zL ?_|refine zS ?_|refine zV ?_|refine zC ?_)
      | refine aX ?_|with_reducible intro _
      | with_reducible refine zJ ?_ fun y hy=>?_|refine aP ?_ ?_)
     refine w_frzIG (xs:=anS (y0::r0)) [(4,.slc 1 (llR (anF (y0::r0))) .non),(5,.slc 1 (iR (anS (y0::r0))) .non)] [] rfl rfl (List.length_map _) ⟨rfl,hV,trivial⟩ trivial ?_
     intro e3 σ3
     repeat' (first
      | with_reducible refine Rd.p ?_
      | with_reducible (first|refine zI fun y hy=>?_|refine zL ?_|refine zS ?_|refine zV ?_|refine zC ?_)
      | refine aX ?_|with_reducible intro _
      | with_reducible refine zJ ?_ fun y hy=>?_|refine aP ?_ ?_)
     all_goals first
      | rfl
 | cons c post=>
   simp only[List.length_cons] at hlen
   obtain⟨⟨m1,m9⟩,m2,m3⟩:=hmem c (by rw[hl];simp)
   have hdu:=due_c G a c.1 hn6 hG.d24 m1 m9 m2
   have hdl:=dueF_len G a c.1
   obtain⟨x,hx⟩:∃x,dueF G a c.1=x:=⟨_,rfl⟩
   rw[hx] at hdu hdl
   have h1':C.map (·.1)=pre.map (·.1)++c.1::post.map (·.1):=by rw[hl,List.map_append,List.map_cons]
   have h2':C.map (·.2)=pre.map (·.2)++c.2::post.map (·.2):=by rw[hl,List.map_append,List.map_cons]
   have hi1:AV.int .i64 (pre.length:Int)= .int .i64 ((pre.map (·.1)).length:Int):=by rw[List.length_map]
   have hi2:AV.int .i64 (pre.length:Int)= .int .i64 ((pre.map (·.2)).length:Int):=by rw[List.length_map]
   rw[List.foldl_cons,hx] at hf
   rw[sumA] at hsm
   have hpn:=sumA_nn (L:=post) fun z hz=>(hmem z (by rw[hl];simp[hz])).2.2
   have hsn:=ansI_sum x c.2 L
   have hLn:=sumA_nn hps
   have hcb:c.2≤479001600:=by omega
   have hls:=ansI_len x c.2 L
   have hgo:C=(pre++[c])++post∧List.foldl (fun A c=>ansI (dueF G a c.1) c.2 A) (ansI x c.2 L) post=ansL (dueF G a) C∧srtA (ansI x c.2 L)∧(∀y∈ansI x c.2 L,0<y.2)∧((ansI x c.2 L).length≤(pre++[c]).length∧(pre++[c]≠[]→ansI x c.2 L≠[]))∧(∀y∈ansI x c.2 L,y.1.length≤20)∧sumA (ansI x c.2 L)+sumA post=sumA C:=by
    refine⟨by rw[hl];simp,hf,ansI_srt hsr,ansI_pos m3 hps,⟨by rw[len_snoc];omega,fun _ h=>by rw[h] at hls;simp at hls⟩,fun z hz=>?_,by omega⟩
    rcases ansI_mem hz with e1 | hz
    · rw[e1];omega
    · exact hl20 z hz
   have hne:ansI x c.2 L≠[]:=fun h=>by rw[h] at hls;simp at hls
   cases L with
   | nil=>
     repeat' (first
      | with_reducible refine Rd.p ?_
      | (first|refine w_ixP h1' rfl hi1 ?_|refine w_ixP h2' rfl hi2 ?_|refine w_ldV (B:=[0]) (p:=0) (v:=0) rfl rfl rfl (by decide) rfl ?_|refine w_stEl (B:=[0]) (p:=0) rfl rfl rfl (by decide) rfl ?_)
      | with_reducible (first|refine zI fun y hy=>?_|refine zL ?_|refine zS ?_|refine zV ?_|refine zC ?_)
      | ((with_reducible refine aC ?_);first|(refine ACall.val hdu rfl rfl ?_)|(refine ACall.val (bsf_nil x) rfl rfl ?_)|(refine ACall.liftS (insNil insL_f (x:= .slc 1 (iR x) .non) rfl _) [(1001,58)] (some 1000) rfl rfl rfl ⟨⟨_,rfl⟩,trivial⟩ (fun _=>rfl) ?_;rintro g59 _ rfl)|(refine ACall.liftS (insNil insI_f (x:= .int .i64 0) rfl _) [(1001,62)] (some 1000) rfl rfl rfl ⟨⟨_,rfl⟩,trivial⟩ (fun _=>rfl) ?_;rintro g63 _ rfl))
      | refine aX ?_|with_reducible intro _
      | with_reducible refine zJ ?_ fun y hy=>?_|refine aP ?_ ?_)
     all_goals first
      | (exfalso;omega)
      | exact q_loop (pre++[c],post,ansI x c.2 [],g59,g63) hgo (by show post.length<post.length+1;omega) ⟨by rw[len_snoc];rfl,rfl,rfl,trivial⟩ ⟨rfl,(by show (g63,Res.row [AV.int .i64 (0+c.2)])=(g63,Res.row [AV.int .i64 c.2]);rw[Int.zero_add]),trivial⟩ aK aK
   | cons y0 r0=>
     obtain⟨p,hp⟩:∃p,posI x (y0::r0)=p:=⟨_,rfl⟩
     have hpl:=posI_le x (y0::r0)
     have hpi:=posI_iff (x:=x) hsr
     have hold:=@anA_old x c.2 (y0::r0)
     have hnew:=@anA_new x c.2 (y0::r0)
     rw[hp] at hpl hpi hold hnew
     have hAl:(anF (y0::r0)).length=(y0::r0).length:=List.length_map _
     have hVl:(anS (y0::r0)).length=(y0::r0).length:=List.length_map _
     have hbs:=fun g=>bsf_c (anF (y0::r0)) x p g (by rw[hAl];omega) (by rw[hAl];exact hpl) (by omega) (fun l hl=>by
      obtain⟨z,hz,rfl⟩:=List.mem_map.1 hl
      have:=hl20 z hz;omega) (fun q hq=>hpi q (by rwa [hAl] at hq))
     rw[hAl] at hbs
     have hsp:=sumA_mem hps p
     by_cases his:p<(y0::r0).length∧(anF (y0::r0)).getD p []=x
     · obtain⟨o1,o2,o3⟩:=hold his
       rw[decide_eq_true his] at hbs
       have hpv:p<(anS (y0::r0)).length:=by rw[hVl];exact his.1
       repeat' (first
        | with_reducible refine Rd.p ?_
        | (first|refine w_ixP h1' rfl hi1 ?_|refine w_ixP h2' rfl hi2 ?_|refine w_ldEl (p:=p) rfl (by omega) rfl hpv ?_|refine w_stEl (p:=p) rfl (by omega) rfl hpv rfl ?_)
        | with_reducible (first|refine zI fun y hy=>?_|refine zL ?_|refine zS ?_|refine zV ?_|refine zC ?_)
        | ((with_reducible refine aC ?_);first|(refine ACall.val hdu rfl rfl ?_)|((refine ACall.look (s:=59) (hbs _) rfl rfl rfl (fun ρ=>renL_liC ρ _) rfl ?_)))
        | refine aX ?_|with_reducible intro _
        | with_reducible refine zJ ?_ fun y hy=>?_|refine aP ?_ ?_)
       all_goals first
        | (exfalso;omega)
        | exact q_loop (pre++[c],post,ansI x c.2 (y0::r0),ga,gb) hgo (by show post.length<post.length+1;omega) ⟨by rw[len_snoc];rfl,(by show _=ansV _ _ _;rw[ansV_of hne,o3];rfl),(by show _=ansV _ _ _;rw[ansV_of hne,o3];rfl),trivial⟩ ⟨(by show _=ansX _ _;rw[ansX_of hne,o1];rfl),(by show _=ansY _ _;rw[ansY_of hne,o2];rfl),trivial⟩ aK aK
     · obtain⟨o1,o2,o3⟩:=hnew his
       rw[decide_eq_false his] at hbs
       have hVt:p≤(anS (y0::r0)).length:=by rw[hVl];exact hpl
       have hg0:=getD_new hVt
       have hpv:p<((anS (y0::r0)).take p++0::(anS (y0::r0)).drop p).length:=by
        rw[List.length_append,List.length_take,List.length_cons];omega
       repeat' (first
        | with_reducible refine Rd.p ?_
        | (first|refine w_ixP h1' rfl hi1 ?_|refine w_ixP h2' rfl hi2 ?_|refine w_ldV (p:=p) rfl (by omega) rfl hpv hg0 ?_|refine w_stEl (p:=p) rfl (by omega) rfl hpv rfl ?_)
        | with_reducible (first|refine zI fun y hy=>?_|refine zL ?_|refine zS ?_|refine zV ?_|refine zC ?_)
        | ((with_reducible refine aC ?_);first|(refine ACall.val hdu rfl rfl ?_)|((refine ACall.look (s:=59) (hbs _) rfl rfl rfl (fun ρ=>renL_liC ρ _) rfl ?_))|((refine ACall.two (s:=59) (t:=58) (insA_c (anF (y0::r0)) x _ _ p (y0::r0).length hAl hpl (by omega)) rfl rfl rfl rfl (fun ρ=>renL_liC ρ _) (fun _=>rfl) (fun ρ=>renL_liC ρ _) ?_;intro g59))|((refine ACall.two (s:=63) (t:=62) (insV_c (anS (y0::r0)) 0 _ _ p (y0::r0).length hVl hpl (by omega)) rfl rfl rfl rfl (fun ρ=>renL_nI ρ _) (fun _=>rfl) (fun ρ=>renL_nI ρ _) ?_;intro g63)))
        | refine aX ?_|with_reducible intro _
        | with_reducible refine zJ ?_ fun y hy=>?_|refine aP ?_ ?_)
       all_goals first
        | (exfalso;omega)
        | exact q_loop (pre++[c],post,ansI x c.2 (y0::r0),g59,g63) hgo (by show post.length<post.length+1;omega) ⟨by rw[len_snoc];rfl,(by show _=ansV _ _ _;rw[ansV_of hne,o3];rfl),(by show _=ansV _ _ _;rw[ansV_of hne,o3];rfl),trivial⟩ ⟨(by show _=ansX _ _;rw[ansX_of hne,o1];rfl),(by show _=ansY _ _;rw[ansY_of hne,o2];rfl),trivial⟩ aK aK
def ir34:IFn:=
 ⟨11,[(2,none)],(.seq (.ops [oo 1 (.box 5 0),oo 2 (.mov (kB false))])
 (.seq (.ops [oo 3 (.flA 0 1),oo 4 (.ld 1 false 3),oo 5 (.bin .eql 4 (kI 4)),oo 6 (.mov 5),
 ⟨(some 7),(some (6,false)),(.flA 0 1)⟩,
 ⟨(some 8),(some (6,false)),(.ld 1 false 7)⟩,
 ⟨(some 9),(some (6,false)),(.bin .eql 8 (kI 5))⟩,oo 10 (.pick 6 (kB true) 9),oo 2 (.mov 10)])
 .ret))⟩
def hint34 (P:Program):Hint:={}
def ir65:IFn:=
 ⟨19,[(4,none)],(.seq (.ops [oo 2 (.box 24 0),oo 4 (.mov (kI 0))])
 (.seq (.ops [oo 5 (.mov (kI 0))])
 (.seq (.seq (.ops [oo 6 (.mov (kI 0))])
 (.blk 0 (.loop (.seq (.seq (.ops [oo 7 (.mov 6),oo 8 (.bin .lss 7 (kI 6))])
 (.cnd 8
 .skip
 (.exit 0)))
 (.seq (.blk 1 (.ops [oo 11 (.mov 5),oo 12 (.mov 1),oo 13 (.mov 6),oo 14 (.ixAr 4 6 2 12),oo 15 (.ixAr 6 1 14 13),oo 16 (.ld 1 false 15),oo 17 (.bin .add 11 16),oo 5 (.mov 17)]))
 (.ops [oo 9 (.mov 6),oo 10 (.bin .add 9 (kI 1)),oo 6 (.mov 10)]))))))
 (.seq (.ops [oo 18 (.mov 5),oo 4 (.mov 18)])
 .ret))))⟩
def hint65 (P:Program):Hint:={}
def ir36:IFn:=
 ⟨16,[(6,some (24,true))],(.seq (.ops [oo 3 (.box 24 0),oo 6 (.new [z0,z0,z0,z0,z0,z0,z0,z0,z0,z0,z0,z0,z0,z0,z0,z0,z0,z0,z0,z0,z0,z0,z0,z0])])
 (.seq (.ops [oo 7 (.mov 1),oo 8 (.mov 2),oo 9 (.ixAr 4 6 3 7),oo 10 (.ixAr 6 1 9 8),oo 11 (.ld 1 false 10),oo 12 (.bin .sub 11 (kI 1)),oo 13 (.ixAr 4 6 3 7),oo 14 (.ixAr 6 1 13 8),
 ⟨none,none,(.st 1 14 12)⟩])
 (.seq (.ops [oo 15 (.ld 24 true 3),
 ⟨none,none,(.st 24 6 15)⟩])
 .ret)))⟩
def hint36 (P:Program):Hint:={}
def ir35:IFn:=
 ⟨27,[(6,none)],(.seq (.ops [oo 3 (.box 24 0),oo 6 (.mov (kI 0))])
 (.seq (.seq (.ops [oo 7 (.mov (kI 0))])
 (.blk 0 (.loop (.seq (.seq (.ops [oo 8 (.mov 7),oo 9 (.bin .lss 8 (kI 6))])
 (.cnd 9
 .skip
 (.exit 0)))
 (.seq (.blk 1 (.seq (.seq (.ops [oo 12 (.mov 2),oo 13 (.mov 1),oo 14 (.mov 7),oo 15 (.ixAr 4 6 3 13),oo 16 (.ixAr 6 1 15 14),oo 17 (.ld 1 false 16),oo 18 (.bin .lss 12 17)])
 (.cnd 18
 (.seq (.ops [oo 19 (.mov 7),oo 6 (.mov 19)])
 .ret)
 .skip))
 (.ops [oo 20 (.mov 2),oo 21 (.mov 1),oo 22 (.mov 7),oo 23 (.ixAr 4 6 3 21),oo 24 (.ixAr 6 1 23 22),oo 25 (.ld 1 false 24),oo 26 (.bin .sub 20 25),oo 2 (.mov 26)])))
 (.ops [oo 10 (.mov 7),oo 11 (.bin .add 10 (kI 1)),oo 7 (.mov 11)]))))))
 (.seq (.ops [oo 6 (.mov (kI 0))])
 .ret)))⟩
def hint35 (P:Program):Hint:={}
def ir37:IFn:=
 ⟨56,[(4,some (24,true))],(.seq (.ops [oo 2 (.box 24 0),oo 3 (.box 5 1),oo 4 (.new [z0,z0,z0,z0,z0,z0,z0,z0,z0,z0,z0,z0,z0,z0,z0,z0,z0,z0,z0,z0,z0,z0,z0,z0])])
 (.seq (.seq (.ops [oo 6 (.flA 0 3),oo 7 (.ld 1 false 6)])
 (.blk 0 (.seq (.ops [oo 9 (.bin .eql 7 (kI 2)),oo 8 (.mov 9)])
 (.cnd 8
 (.ops [oo 10 (.flA 1 3),oo 11 (.ld 1 false 10),oo 12 (.flA 3 3),oo 13 (.ld 1 false 12),oo 14 (.flA 1 3),oo 15 (.ld 1 false 14),oo 16 (.flA 3 3),oo 17 (.ld 1 false 16),oo 18 (.ixAr 4 6 2 15),oo 19 (.ixAr 6 1 18 17),oo 20 (.ld 1 false 19),oo 21 (.flA 4 3),oo 22 (.ld 1 false 21),oo 23 (.bin .add 20 22),oo 24 (.ixAr 4 6 2 11),oo 25 (.ixAr 6 1 24 13),
 ⟨none,none,(.st 1 25 23)⟩])
 (.seq (.ops [oo 27 (.bin .eql 7 (kI 3)),oo 26 (.mov 27)])
 (.cnd 26
 (.seq (.ops [oo 5 (.mov (kI 0))])
 (.blk 1 (.loop (.seq (.seq (.ops [oo 28 (.mov 5),oo 29 (.bin .lss 28 (kI 6))])
 (.cnd 29
 .skip
 (.exit 1)))
 (.seq (.blk 2 (.ops [oo 32 (.flA 2 3),oo 33 (.ld 1 false 32),oo 34 (.mov 5),oo 35 (.flA 1 3),oo 36 (.ld 1 false 35),oo 37 (.mov 5),oo 38 (.flA 2 3),oo 39 (.ld 1 false 38),oo 40 (.mov 5),oo 41 (.ixAr 4 6 2 39),oo 42 (.ixAr 6 1 41 40),oo 43 (.ld 1 false 42),oo 44 (.flA 1 3),oo 45 (.ld 1 false 44),oo 46 (.mov 5),oo 47 (.ixAr 4 6 2 45),oo 48 (.ixAr 6 1 47 46),oo 49 (.ld 1 false 48),oo 50 (.bin .add 43 49),oo 51 (.ixAr 4 6 2 33),oo 52 (.ixAr 6 1 51 34),oo 53 (.ixAr 4 6 2 36),
 ⟨none,none,(.st 1 52 50)⟩,
 ⟨none,none,(.chk 1 false 35 36)⟩,oo 54 (.ixAr 6 1 53 37),
 ⟨none,none,(.st 1 54 (kI 0))⟩]))
 (.ops [oo 30 (.mov 5),oo 31 (.bin .add 30 (kI 1)),oo 5 (.mov 31)]))))))
 .skip))))))
 (.seq (.ops [oo 55 (.ld 24 true 2),
 ⟨none,none,(.st 24 4 55)⟩])
 .ret)))⟩
def hint37 (P:Program):Hint:={}
theorem rdraws_c (d:Dl):Fn0 Tryz.prog 34 [dlA d] (fun v=>v= .bool (drawsB d)):=by
 by_cases h4:d.kind=4
 · have e1:drawsB d=true:=by simp[drawsB,h4]
   rw[e1]
   refine RawC.walk (H:=hint34 Tryz.prog) ir34 Tryz.func34 rfl rfl rfl ?_
   unfold ir34
   repeat' (first
    | with_reducible refine Rd.p ?_
    | with_reducible (first|refine zL ?_|refine zS ?_|refine zV ?_|refine zC ?_)
    | refine aX ?_|with_reducible intro _
    | refine aP ?_ ?_)
   all_goals first
    | (exfalso;omega)
    | rfl
 · have e1:drawsB d=decide (d.kind=5):=by simp[drawsB,h4]
   rw[e1]
   refine RawC.walk (H:=hint34 Tryz.prog) ir34 Tryz.func34 rfl rfl rfl ?_
   unfold ir34
   repeat' (first
    | with_reducible refine Rd.p ?_
    | with_reducible (first|refine zL ?_|refine zS ?_|refine zV ?_|refine zC ?_)
    | refine aX ?_|with_reducible intro _
    | refine aP ?_ ?_)
   all_goals first
    | (exfalso;omega)
    | rfl
theorem rsize_c (B:List Int) (h:bgIn B) (i:Int) (hi:0≤i∧i≤3):Fn0 Tryz.prog 65 [bgV B,.int .i64 i] (fun v=>v= .int .i64 (bgSize B i)):=by
 have hl:=h.l
 obtain⟨R,hR⟩:∃R,rowB B i=R:=⟨_,rfl⟩
 have hRl:R.length=6:=by rw[←hR];exact rowB_len _ _
 have hRs:R.sum=bgSize B i:=by rw[←hR];rfl
 have hRg:∀w,w<6→R.getD w 0=B.getD (i.toNat*6+w) 0:=fun w hw=>by rw[←hR,rowB_get _ _ hw];rfl
 have hRb:∀v∈R,0≤v∧v≤1000000:=fun v hv=>by
  rw[←hR] at hv
  obtain⟨w,_,rfl⟩:=List.mem_map.1 hv
  exact h.at _
 refine RawC.walk (H:=hint65 Tryz.prog) ir65 Tryz.func65 rfl rfl rfl ?_
 unfold ir65
 repeat' (first
  | with_reducible refine Rd.p ?_
  | (first|(refine w_boxN rfl hl ?_;intro g2))
  | with_reducible (first|refine zL ?_|refine zS ?_|refine zV ?_|refine zC ?_)
  | refine aX ?_|with_reducible intro _
  | refine aP ?_ ?_)
 refine w_loopK [1,2] [2] (fun k:Nat=>k≤6) (fun k=>6-k) (fun k=>[(6,.int .i64 (k:Int)),(5,.int .i64 ((R.take k).sum))]) (fun _=>[]) 0 (Nat.zero_le _) ⟨rfl,rfl,trivial⟩ trivial ?_
 rintro k hk e σ
 try dsimp only at hk ⊢
 have hb:=sum_bd (M:=1000000) (l:=R.take k) fun x hx=>hRb x (List.mem_of_mem_take hx)
 have hlk:(R.take k).length=k:=by rw[List.length_take];omega
 by_cases hk6:k=6
 · subst hk6
   have e1:R.take 6=R:=List.take_of_length_le (by omega)
   rw[e1,hRs]
   repeat' (first
    | with_reducible refine Rd.p ?_
    | with_reducible (first|refine zL ?_|refine zS ?_|refine zV ?_|refine zC ?_)
    | refine aX ?_|with_reducible intro _
    | refine aP ?_ ?_)
   all_goals first
    | (exfalso;omega)
    | rfl
 have hts:=take_sum (R:=R) (k:=k) (by omega)
 have hrg:=hRg k (by omega)
 have hat:=h.at (i.toNat*6+k)
 have ho:0+i.toNat*6+k*1=i.toNat*6+k:=by omega
 rw[hlk] at hb
 repeat' (first
  | with_reducible refine Rd.p ?_
  | (first|refine w_ldEl rfl ho rfl (by omega) ?_)
  | with_reducible (first|refine zL ?_|refine zS ?_|refine zV ?_|refine zC ?_)
  | refine aX ?_|with_reducible intro _
  | refine aP ?_ ?_)
 all_goals first
  | (exfalso;omega)
  | exact q_loop (k+1) (by show k+1≤6;omega) (by show 6-(k+1)<6-k;omega) ⟨int_eq (by simp),by show AV.int .i64 _=AV.int .i64 _;rw[hts,hrg],trivial⟩ trivial aK aK
theorem rwithout_c (B:List Int) (h:bgIn B) (i w:Int) (hi:0≤i∧i≤3) (hw:0≤w∧w≤5):Fn0 Tryz.prog 36 [bgV B,.int .i64 i,.int .i64 w] (fun v=>v=bgV (drawB B i w)):=by
 have hl:=h.l
 have hat:=h.at (i.toNat*6+w.toNat)
 have ho:0+i.toNat*6+w.toNat*1=i.toNat*6+w.toNat:=by omega
 have hdl:=drawB_len hl i w
 refine RawC.walk (H:=hint36 Tryz.prog) ir36 Tryz.func36 rfl rfl rfl ?_
 unfold ir36
 repeat' (first
  | with_reducible refine Rd.p ?_
  | (first|(refine w_boxN rfl hl ?_;intro g2)|refine w_ldEl rfl ho rfl (by omega) ?_|refine w_stElC rfl ho rfl (by omega) rfl (drawB_set B i w) ?_|refine w_ldN rfl rfl hdl ?_|refine w_stN rfl rfl rfl rfl hdl ?_)
  | with_reducible (first|refine zL ?_|refine zS ?_|refine zV ?_|refine zC ?_)
  | refine aX ?_|with_reducible intro _
  | refine aP ?_ ?_)
 all_goals first
  | (exfalso;omega)
  | exact end_bg hdl
theorem rwood_c (B:List Int) (h:bgIn B) (i p:Int) (hi:0≤i∧i≤3) (hp:0≤p∧p<bgSize B i) (hp2:p≤1000000):Fn0 Tryz.prog 35 [bgV B,.int .i64 i,.int .i64 p] (fun v=>v= .int .i64 (pickW B i p)):=by
 have hl:=h.l
 obtain⟨R6,hR6⟩:∃R6,rowB B i=R6:=⟨_,rfl⟩
 have hRl:R6.length=6:=by rw[←hR6];exact rowB_len _ _
 have hRs:R6.sum=bgSize B i:=by rw[←hR6];rfl
 have hpw:pickW B i p=(pickF R6 p:Nat):=by unfold pickW;rw[hR6]
 have hRg:∀w,w<6→R6.getD w 0=B.getD (i.toNat*6+w) 0:=fun w hw=>by rw[←hR6,rowB_get _ _ hw];rfl
 rw[hpw]
 refine RawC.walk (H:=hint35 Tryz.prog) ir35 Tryz.func35 rfl rfl rfl ?_
 unfold ir35
 repeat' (first
  | with_reducible refine Rd.p ?_
  | (first|(refine w_boxN rfl hl ?_;intro g2))
  | with_reducible (first|refine zL ?_|refine zS ?_|refine zV ?_|refine zC ?_)
  | refine aX ?_|with_reducible intro _
  | refine aP ?_ ?_)
 refine w_loopK [1,3] [3] (fun x:Nat×Int=>(0≤x.2∧x.2<(R6.drop x.1).sum)∧x.2≤1000000∧x.1+pickF (R6.drop x.1) x.2=pickF R6 p∧x.1≤6) (fun x=>6-x.1) (fun x=>[(7,.int .i64 (x.1:Int)),(2,.int .i64 x.2)]) (fun _=>[]) (0,p) ⟨⟨hp.1,by show p<R6.sum;omega⟩,hp2,Nat.zero_add _,Nat.zero_le 6⟩ ⟨rfl,rfl,trivial⟩ trivial ?_
 rintro⟨w,k⟩ ⟨hk,hk12,hpk,hw6⟩ e3 σ3
 dsimp only at hk hk12 hpk hw6 ⊢
 have hw5:w<6:=by
  apply Classical.byContradiction
  intro h
  have:R6.drop w=[]:=List.drop_of_length_le (by omega)
  rw[this] at hk;simp at hk;omega
 have hdw:R6.drop w=R6.getD w 0::R6.drop (w+1):=by
  rw[List.drop_eq_getElem_cons (by omega),List.getD_eq_getElem?_getD,List.getElem?_eq_getElem (by omega)];rfl
 have hRw:=hRg w hw5
 have hin2:=h.at (i.toNat*6+w)
 have ho:0+i.toNat*6+w*1=i.toNat*6+w:=by omega
 rw[hdw,pickF] at hpk
 rw[hdw,List.sum_cons] at hk
 rw[hRw] at hpk hk
 by_cases hkw:k<B.getD (i.toNat*6+w) 0
 · rw[if_pos hkw] at hpk
   rw[←hpk]
   repeat' (first
    | with_reducible refine Rd.p ?_
    | (first|refine w_ldEl rfl ho rfl (by omega) ?_)
    | with_reducible (first|refine zL ?_|refine zS ?_|refine zV ?_|refine zC ?_)
    | refine aX ?_|with_reducible intro _
    | refine aP ?_ ?_)
   all_goals first
    | (exfalso;omega)
    | rfl
 · rw[if_neg hkw] at hpk
   repeat' (first
    | with_reducible refine Rd.p ?_
    | (first|refine w_ldEl rfl ho rfl (by omega) ?_)
    | with_reducible (first|refine zL ?_|refine zS ?_|refine zV ?_|refine zC ?_)
    | refine aX ?_|with_reducible intro _
    | refine aP ?_ ?_)
   all_goals first
    | (exfalso;omega)
    | exact q_loop (w+1,k-B.getD (i.toNat*6+w) 0) ⟨by dsimp only;omega,by dsimp only;omega,by dsimp only;omega,hw5⟩ (by show 6-(w+1)<6-w;omega) ⟨by show AV.int .i64 _=AV.int .i64 _;exact int_eq (by simp),rfl,trivial⟩ aS aK aK
def pourW (B:List Int) (i k w:Nat):List Int:=(List.range 24).map fun y=>if y/6=k∧y%6<w then B.getD y 0+B.getD (i*6+y%6) 0 else if y/6=i∧y%6<w then 0 else B.getD y 0
theorem pourW_len (B:List Int) (i k w:Nat):(pourW B i k w).length=24:=by simp[pourW]
theorem pourW_zero {B:List Int} (h:B.length=24) (i k:Nat):pourW B i k 0=B:=ext24 (pourW_len ..) h fun y hy=>by
 unfold pourW
 rw[map24_get hy,if_neg (by omega),if_neg (by omega)]
theorem pourW_six {B:List Int} (i k:Int):pourW B i.toNat k.toNat 6=bgPour B i k:=by
 unfold pourW bgPour
 refine List.map_congr_left fun y hy=>?_
 have:y%6<6:=Nat.mod_lt _ (by decide)
 by_cases h1:y/6=k.toNat
 · rw[if_pos ⟨h1,this⟩,if_pos h1]
 · rw[if_neg (fun h=>h1 h.1),if_neg h1]
   by_cases h2:y/6=i.toNat
   · rw[if_pos ⟨h2,this⟩,if_pos h2]
   · rw[if_neg (fun h=>h2 h.1),if_neg h2]
theorem pourW_succ {B:List Int} {i k w:Nat} (hi:i<4) (hk:k<4) (hik:i≠k) (hw:w<6):((pourW B i k w).set (k*6+w) (B.getD (k*6+w) 0+B.getD (i*6+w) 0)).set (i*6+w) 0=pourW B i k (w+1):=ext24 (by rw[List.length_set,List.length_set,pourW_len]) (pourW_len ..) fun y hy=>by
 rw[set_getD (by rw[List.length_set,pourW_len];omega),set_getD (by rw[pourW_len];omega)]
 unfold pourW
 rw[map24_get hy,map24_get hy]
 by_cases e1:y=i*6+w
 · subst e1
   have h1:(i*6+w)/6=i:=by omega
   have h2:(i*6+w)%6=w:=by omega
   rw[if_pos rfl,h1,h2,if_neg (by omega),if_pos (by omega)]
 · rw[if_neg e1]
   by_cases e2:y=k*6+w
   · subst e2
     have h1:(k*6+w)/6=k:=by omega
     have h2:(k*6+w)%6=w:=by omega
     rw[if_pos rfl,h1,h2,if_pos (by omega)]
   · rw[if_neg e2]
     by_cases h1:y/6=k∧y%6<w
     · rw[if_pos h1,if_pos (by omega)]
     · rw[if_neg h1,if_neg (c:=y/6=k∧y%6<w+1) (by omega)]
       by_cases h2:y/6=i∧y%6<w
       · rw[if_pos h2,if_pos (by omega)]
       · rw[if_neg h2,if_neg (by omega)]
theorem pourW_get {B:List Int} {i k w:Nat} (hi:i<4) (hk:k<4) (hw:w<6):(pourW B i k w).getD (k*6+w) 0=B.getD (k*6+w) 0∧(pourW B i k w).getD (i*6+w) 0=B.getD (i*6+w) 0:=by
 unfold pourW
 rw[map24_get (by omega),map24_get (by omega)]
 have h1:(i*6+w)/6=i:=by omega
 have h2:(i*6+w)%6=w:=by omega
 have h3:(k*6+w)/6=k:=by omega
 have h4:(k*6+w)%6=w:=by omega
 rw[h1,h2,h3,h4]
 refine⟨?_,?_⟩
 · rw[if_neg (by omega),if_neg (by omega)]
 · rw[if_neg (by omega),if_neg (by omega)]
theorem rready_c (d:Dl) (B:List Int) (h:bgIn B) (h2:d.kind=2→(0≤d.bag∧d.bag≤3)∧(0≤d.wood∧d.wood≤5)∧0≤d.count∧d.count≤1000000) (h3:d.kind=3→(0≤d.bag∧d.bag≤3)∧(0≤d.other∧d.other≤3)∧d.bag≠d.other):
  Fn0 Tryz.prog 37 [bgV B,dlA d] (fun v=>v=bgV (mixedB d B)):=by
 have hl:=h.l
 unfold mixedB
 by_cases e2:d.kind=2
 · obtain⟨b1,b2,b3⟩:=h2 e2
   rw[if_pos e2]
   have hp:=h.at (d.bag.toNat*6+d.wood.toNat)
   have ho:0+d.bag.toNat*6+d.wood.toNat*1=d.bag.toNat*6+d.wood.toNat:=by omega
   have hsl:(B.set (d.bag.toNat*6+d.wood.toNat) (B.getD (d.bag.toNat*6+d.wood.toNat) 0+d.count)).length=24:=by rw[List.length_set];exact hl
   refine RawC.walk (H:=hint37 Tryz.prog) ir37 Tryz.func37 rfl rfl rfl ?_
   unfold ir37
   repeat' (first
    | with_reducible refine Rd.p ?_
    | (first|(refine w_boxN rfl hl ?_;intro g2)|refine w_ldEl rfl ho rfl (by omega) ?_|refine w_stEl rfl ho rfl (by omega) rfl ?_|refine w_ldN rfl rfl hsl ?_|refine w_stN rfl rfl rfl rfl hsl ?_)
    | with_reducible (first|refine zI fun y hy=>?_|refine zL ?_|refine zS ?_|refine zV ?_|refine zC ?_)
    | refine aX ?_|with_reducible intro _
    | with_reducible refine zJ ?_ fun y hy=>?_|refine aP ?_ ?_)
   all_goals first
    | (exfalso;omega)
    | exact end_bg hsl
 rw[if_neg e2]
 by_cases e3:d.kind=3
 case neg=>
  rw[if_neg e3]
  refine RawC.walk (H:=hint37 Tryz.prog) ir37 Tryz.func37 rfl rfl rfl ?_
  unfold ir37
  repeat' (first
   | with_reducible refine Rd.p ?_
   | (first|(refine w_boxN rfl hl ?_;intro g2)|refine w_ldN rfl rfl hl ?_|refine w_stN rfl rfl rfl rfl hl ?_)
   | with_reducible (first|refine zI fun y hy=>?_|refine zL ?_|refine zS ?_|refine zV ?_|refine zC ?_)
   | refine aX ?_|with_reducible intro _
   | with_reducible refine zJ ?_ fun y hy=>?_|refine aP ?_ ?_)
  all_goals first
   | (exfalso;omega)
   | exact end_bg hl
 obtain⟨b1,b2,b3⟩:=h3 e3
 rw[if_pos e3]
 refine RawC.walk (H:=hint37 Tryz.prog) ir37 Tryz.func37 rfl rfl rfl ?_
 unfold ir37
 repeat' (first
  | with_reducible refine Rd.p ?_
  | (first|(refine w_boxN rfl hl ?_;intro g2))
  | with_reducible (first|refine zI fun y hy=>?_|refine zL ?_|refine zS ?_|refine zV ?_|refine zC ?_)
  | refine aX ?_|with_reducible intro _
  | with_reducible refine zJ ?_ fun y hy=>?_|refine aP ?_ ?_)
 all_goals try (exfalso;omega)
 rename_i g3 g4
 refine w_loopK [2,3,4] [3,4] (fun w:Nat=>w≤6) (fun w=>6-w) (fun w=>[(5,.int .i64 (w:Int))]) (fun w=>[(2,(g2,.row (nI (pourW B d.bag.toNat d.other.toNat w))))]) 0 (Nat.zero_le _) ⟨rfl,trivial⟩ ⟨by rw[pourW_zero hl];rfl,trivial⟩ ?_
 rintro w hw e σ
 try dsimp only at hw ⊢
 have hpl:=pourW_len B d.bag.toNat d.other.toNat w
 by_cases hw6:w=6
 · subst hw6
   rw[pourW_six] at hpl ⊢
   repeat' (first
    | with_reducible refine Rd.p ?_
    | (first|refine w_ldN rfl rfl hpl ?_|refine w_stN rfl rfl rfl rfl hpl ?_)
    | with_reducible (first|refine zI fun y hy=>?_|refine zL ?_|refine zS ?_|refine zV ?_|refine zC ?_)
    | refine aX ?_|with_reducible intro _
    | with_reducible refine zJ ?_ fun y hy=>?_|refine aP ?_ ?_)
   all_goals first
    | (exfalso;omega)
    | exact end_bg hpl
 have ho:0+d.other.toNat*6+w*1=d.other.toNat*6+w:=by omega
 have hb:0+d.bag.toNat*6+w*1=d.bag.toNat*6+w:=by omega
 have q1:=h.at (d.other.toNat*6+w)
 have q2:=h.at (d.bag.toNat*6+w)
 obtain⟨p1,p2⟩:=pourW_get (B:=B) (i:=d.bag.toNat) (k:=d.other.toNat) (w:=w) (by omega) (by omega) (by omega)
 have hps:=pourW_succ (B:=B) (i:=d.bag.toNat) (k:=d.other.toNat) (w:=w) (by omega) (by omega) (by omega) (by omega)
 generalize pourW B d.bag.toNat d.other.toNat w=PK at*
 have hsl:d.bag.toNat*6+w<(PK.set (d.other.toNat*6+w) (B.getD (d.other.toNat*6+w) 0+B.getD (d.bag.toNat*6+w) 0)).length:=by rw[List.length_set];omega
 repeat' (first
  | with_reducible refine Rd.p ?_
  | (first|refine w_ldV rfl ho rfl (by omega) p1 ?_|refine w_ldV rfl hb rfl (by omega) p2 ?_|refine w_stEl rfl ho rfl (by omega) rfl ?_|refine w_stEl rfl hb rfl hsl rfl ?_)
  | with_reducible (first|refine zI fun y hy=>?_|refine zL ?_|refine zS ?_|refine zV ?_|refine zC ?_)
  | refine aX ?_|with_reducible intro _
  | with_reducible refine zJ ?_ fun y hy=>?_|refine aP ?_ ?_)
 all_goals first
  | (exfalso;omega)
  | exact q_loop (w+1) (by show w+1≤6;omega) (by show 6-(w+1)<6-w;omega) ⟨int_eq (by simp),trivial⟩ ⟨by rw[←hps];rfl,trivial⟩ aK aK
def ir33:IFn:=
 ⟨39,[(2,none)],(.seq (.ops [oo 1 (.box 2 0),oo 2 (.mov (.k .nsl))])
 (.seq (.ops [oo 3 (.nil 5 3)])
 (.seq (.seq (.ops [oo 4 (.mov (kI 0))])
 (.blk 0 (.loop (.seq (.seq (.ops [oo 7 (.mov 4),oo 8 (.flA 1 1),oo 9 (.ld 1 false 8),oo 10 (.len false 9),oo 11 (.bin .lss 7 10)])
 (.cnd 11
 .skip
 (.exit 0)))
 (.seq (.blk 1 (.seq (.ops [oo 14 (.flA 1 1),oo 15 (.ld 1 false 14),oo 16 (.mov 4),oo 17 (.ixA 5 15 16),oo 18 (.ld 5 true 17),oo 5 (.new [(.int .i64 0),(.int .i64 0),(.int .i64 0),(.int .i64 0),(.int .i64 0)]),
 ⟨none,none,(.st 5 5 18)⟩])
 (.seq (.ops [oo 6 (.mov (kI 1))])
 (.seq (.seq (.ops [oo 19 (.flA 0 5),oo 20 (.ld 1 false 19),oo 21 (.bin .eql 20 (kI 4)),oo 22 (.mov 21),
 ⟨(some 23),(some (22,false)),(.flA 0 5)⟩,
 ⟨(some 24),(some (22,false)),(.ld 1 false 23)⟩,
 ⟨(some 25),(some (22,false)),(.bin .eql 24 (kI 5))⟩,oo 26 (.pick 22 (kB true) 25)])
 (.cnd 26
 (.ops [oo 27 (.flA 4 5),oo 28 (.ld 1 false 27),oo 6 (.mov 28),oo 29 (.flA 4 5),
 ⟨none,none,(.st 1 29 (kI 1))⟩])
 .skip))
 (.blk 2 (.loop (.seq (.seq (.ops [oo 30 (.mov 6),oo 31 (.bin .gtr 30 (kI 0))])
 (.cnd 31
 .skip
 (.exit 2)))
 (.seq (.blk 3 (.ops [oo 34 (.mov 3),oo 35 (.ld 5 true 5),oo 36 (.bsl 5 [[(.int .i64 0),(.int .i64 0),(.int .i64 0),(.int .i64 0),(.int .i64 0)]] [(0,35)]),oo 37 (.app 5 40 34 36 3),oo 3 (.mov 37)]))
 (.ops [oo 32 (.mov 6),oo 33 (.bin .sub 32 (kI 1)),oo 6 (.mov 33)])))))))))
 (.ops [oo 12 (.mov 4),oo 13 (.bin .add 12 (kI 1)),oo 4 (.mov 13)]))))))
 (.seq (.ops [oo 38 (.mov 3),oo 2 (.mov 38)])
 .ret))))⟩
def hint33 (P:Program):Hint:={site:=[(37,3)],nils:=[(3,5)],frz:=[],mve:=[],wr:=[] }
def spOf (d:Dl):Sp:=(d,drawsB d,decide (d.kind=5) || decide (d.kind=6))
def act1 (d:Dl):List Dl:=if drawsB d=true then List.replicate d.count.toNat {d with count:=1 } else[d]
def actsF (l:List Dl):List Dl:=l.flatMap act1
def nrm (x:Sp):Sp:=if x.2.1=true then ({x.1 with count:=1 },x.2) else x
theorem act1_sp (d:Dl):(act1 d).map spOf=(stp1 d).map nrm:=by
 unfold act1 stp1
 by_cases h:drawsB d=true
 · rw[if_pos h,if_pos h,List.map_replicate,List.map_replicate]
   congr 1
   have hk:d.kind=4∨d.kind=5:=by simpa[drawsB] using h
   have h6:decide (d.kind=6)=false:=decide_eq_false (by omega)
   have h':drawsB {d with count:=1 }=true:=h
   unfold spOf nrm
   rw[h',if_pos rfl]
   show (_,true,decide (d.kind=5) || decide (d.kind=6))=_
   rw[h6,Bool.or_false]
 · have h':drawsB d=false:=by simpa using h
   rw[if_neg h,if_neg h]
   have h5:decide (d.kind=5)=false:=by
    have:¬(d.kind=4∨d.kind=5):=by simpa[drawsB] using h
    exact decide_eq_false (by omega)
   unfold spOf nrm
   simp only[List.map_cons,List.map_nil,h',h5,Bool.false_or,Bool.false_eq_true,if_false]
theorem acts_sp:∀l:List Dl,(actsF l).map spOf=(stepsG l).map nrm
 | []=>rfl
 | d::r=>by
   show (act1 d++actsF r).map spOf=(stp1 d++stepsG r).map nrm
   rw[List.map_append,List.map_append,act1_sp,acts_sp r]
theorem nrm_2 (x:Sp):(nrm x).2=x.2:=by unfold nrm;split<;>rfl
theorem nrm_bag (x:Sp):(nrm x).1.bag=x.1.bag∧(nrm x).1.wood=x.1.wood∧(nrm x).1.kind=x.1.kind∧(nrm x).1.other=x.1.other:=by unfold nrm;split<;>exact⟨rfl,rfl,rfl,rfl⟩
theorem nrm_f {x:Sp} (h:x.2.1=false):nrm x=x:=by unfold nrm;rw[h];rfl
theorem spB_nrm (x:Sp) (b:List Int):spB (nrm x) b=spB x b:=by
 by_cases h:x.2.1=true
 · unfold spB;rw[nrm_2,if_pos h,if_pos h,(nrm_bag x).1]
 · rw[nrm_f (by simpa using h)]
theorem spM_nrm (x:Sp) (m:Int):spM (nrm x) m=spM x m:=by
 by_cases h:x.2.1=true
 · unfold spM;rw[nrm_2,if_pos h,if_pos h]
 · rw[nrm_f (by simpa using h)]
theorem runOK_nrm {n:Nat}:∀{l:List Sp} {b:List Int} {m:Int},runOK n l b m→runOK n (l.map nrm) b m
 | [],_,_,_=>trivial
 | x::r,b,m,h=>by
   refine⟨?_,?_⟩
   · by_cases hd:x.2.1=true
     · refine⟨fun _=>by rw[(nrm_bag x).1];exact h.1.d hd,fun h2=>?_,fun h2=>?_⟩
       · rw[nrm_2,hd] at h2;cases h2
       · rw[nrm_2,hd] at h2;cases h2
     · rw[nrm_f (by simpa using hd)];exact h.1
   · rw[spB_nrm,spM_nrm];exact runOK_nrm h.2
theorem wdOK_nrm {n:Nat} {l:List Sp} (h:wdOK n l):wdOK n (l.map nrm):=fun y hy h1 h2=>by
 obtain⟨x,hx,rfl⟩:=List.mem_map.1 hy
 rw[nrm_2] at h1 h2
 rw[(nrm_bag x).2.1]
 exact h x hx h1 h2
theorem censG_nrm:∀l:List Sp,censG (l.map nrm)=censG l
 | []=>rfl
 | x::r=>by rw[List.map_cons,censG_cons,censG_cons,nrm_2,censG_nrm r]
theorem szL_nrm:∀(l:List Sp) (b:List Int),szL (l.map nrm) b=szL l b
 | [],_=>rfl
 | x::r,b=>by rw[List.map_cons,szL,szL,spB_nrm,szL_nrm r,nrm_2,(nrm_bag x).1]
theorem nextV_nrm (x:Sp) (w:Int) (n:Nat) (V:List Int→Int) (B:List Int):nextV (nrm x) w n V B=nextV x w n V B:=by
 by_cases h:x.2.1=true
 · unfold nextV;rw[nrm_2,if_pos h,if_pos h,(nrm_bag x).1]
 · rw[nrm_f (by simpa using h)]
theorem cntG_nrm (n:Nat):∀(l:List Sp) (c B:List Int),cntG n (l.map nrm) c B=cntG n l c B
 | [],c,B=>rfl
 | x::r,c,B=>by
   have ih:∀c,cntG n (r.map nrm) c=cntG n r c:=fun c=>funext fun B=>cntG_nrm n r c B
   rw[List.map_cons]
   by_cases h:x.2.2=true
   · have h':(nrm x).2.2=true:=by rw[nrm_2];exact h
     cases c with
     | nil=>rw[cntG_n h',cntG_n h]
     | cons w c=>rw[cntG_t h',cntG_t h,nextV_nrm,ih]
   · have h':¬(nrm x).2.2=true:=by rw[nrm_2];exact h
     rw[cntG_f h',cntG_f h,nextV_nrm,ih]
theorem playT_nrm:∀(l:List Sp) (B ps:List Int),playT (l.map nrm) B ps=playT l B ps
 | [],_,_=>rfl
 | x::r,B,ps=>by
   rw[List.map_cons]
   by_cases h:x.2.1=true
   · have h':(nrm x).2.1=true:=by rw[nrm_2];exact h
     cases ps with
     | nil=>simp only[playT,if_pos h,if_pos h']
     | cons p ps=>simp only[playT,if_pos h,if_pos h',(nrm_bag x).1,nrm_2,playT_nrm r]
   · rw[nrm_f (by simpa using h)]
     simp only[playT,if_neg h,playT_nrm r]
theorem act1_len {d:Dl} (h:drawsB d=true→1≤d.count∧d.count≤12):(act1 d).length≤12:=by
 unfold act1
 split
 · rw[List.length_replicate];have:=h (by assumption);omega
 · simp
theorem acts_len:∀(l:List Dl),(∀d∈l,drawsB d=true→1≤d.count∧d.count≤12)→(actsF l).length≤12*l.length
 | [],_=>Nat.le_refl _
 | d::r,h=>by
   have h1:=act1_len (h d (by simp))
   have h2:=acts_len r fun x hx=>h x (by simp[hx])
   show (act1 d++actsF r).length≤12*(r.length+1)
   rw[List.length_append];omega
theorem dl_snoc (out:List Dl) (d:Dl) (g:Nat):AV.slc 5 (dlR out++[[.int .i64 d.kind,.int .i64 d.bag,.int .i64 d.other,.int .i64 d.wood,.int .i64 d.count]]) (.own 3 g)=AV.slc 5 (dlR (out++[d])) (.own 3 g):=
 congrArg (fun z=>AV.slc 5 z (.own 3 g)) (map_snoc (f:=fun d:Dl=>[AV.int .i64 d.kind,.int .i64 d.bag,.int .i64 d.other,.int .i64 d.wood,.int .i64 d.count]) (x:=d)).symm
theorem acts_c (G:Gm) (hd:G.ds.length≤24) (hc:∀d∈G.ds,drawsB d=true→1≤d.count∧d.count≤12):Fn0 Tryz.prog 33 [gmA G] (fun v=>v= .slc 5 (dlR (actsF G.ds)) .non):=by
 refine RawC.walk (H:=hint33 Tryz.prog) ir33 Tryz.func33 rfl rfl rfl ?_
 unfold ir33
 repeat' (first
  | with_reducible refine Rd.p ?_
  | with_reducible (first|refine zI fun y hy=>?_|refine zL ?_|refine zS ?_|refine zV ?_|refine zC ?_)
  | refine aX ?_|with_reducible intro _
  | with_reducible refine zJ ?_ fun y hy=>?_|refine aP ?_ ?_)
 rename_i g1 g3
 refine w_loopK [1] [1] (fun x:List Dl×List Dl×List Dl×Nat=>G.ds=x.1++x.2.1∧x.2.2.1++actsF x.2.1=actsF G.ds∧x.2.2.1.length≤12*x.1.length) (fun x=>x.2.1.length) (fun x=>[(4,.int .i64 (x.1.length:Int)),(3,.slc 5 (dlR x.2.2.1) (.own 3 x.2.2.2))]) (fun x=>[(3,(x.2.2.2,.row []))]) ([],G.ds,[],g3) ⟨rfl,rfl,Nat.le_refl _⟩ ⟨rfl,rfl,trivial⟩ ⟨rfl,trivial⟩ ?_
 rintro⟨pre,post,out,g⟩ ⟨hl,he,ho⟩ e σ
 dsimp only at hl he ho ⊢
 have hlen:=congrArg List.length hl
 rw[List.length_append] at hlen
 have hol:(dlR out).length=out.length:=List.length_map _
 cases post with
 | nil=>
   simp only[List.length_nil] at hlen
   rw[show actsF []=[] from rfl,List.append_nil] at he
   repeat' (first
    | with_reducible refine Rd.p ?_
    | with_reducible (first|refine zI fun y hy=>?_|refine zL ?_|refine zS ?_|refine zV ?_|refine zC ?_)
    | refine aX ?_|with_reducible intro _
    | with_reducible refine zJ ?_ fun y hy=>?_|refine aP ?_ ?_)
   all_goals first
    | (exfalso;omega)
    | (rw[←he];rfl)
 | cons d post=>
   simp only[List.length_cons] at hlen
   have hdc:=hc d (by rw[hl];simp)
   have hl1:=act1_len hdc
   have he1:out++(act1 d++actsF post)=actsF G.ds:=by rw[←he];rfl
   by_cases hdr:drawsB d=true
   · have hk:d.kind=4∨d.kind=5:=by simpa[drawsB] using hdr
     have hdn:=hdc hdr
     have e1:act1 d=List.replicate d.count.toNat {d with count:=1 }:=by unfold act1;rw[hdr];rfl
     rw[e1] at he1
     by_cases h4:d.kind=4
     all_goals
      repeat' (first
       | with_reducible refine Rd.p ?_
       | (refine w_ixP (f:=fun d:Dl=>[AV.int .i64 d.kind,.int .i64 d.bag,.int .i64 d.other,.int .i64 d.wood,.int .i64 d.count]) hl rfl rfl ?_)
       | with_reducible (first|refine zI fun y hy=>?_|refine zL ?_|refine zS ?_|refine zV ?_|refine zC ?_)
       | refine aX ?_|with_reducible intro _
       | with_reducible refine zJ ?_ fun y hy=>?_|refine aP ?_ ?_)
      all_goals try (exfalso;omega)
      refine w_loopK [1,4,5] [1,5] (fun x:Nat×Nat×Nat=>(x.1:Int)+x.2.1=d.count) (fun x=>x.2.1) (fun x=>[(6,.int .i64 (x.2.1:Int)),(3,.slc 5 (dlR (out++List.replicate x.1 {d with count:=1 })) (.own 3 x.2.2))]) (fun x=>[(3,(x.2.2,.row []))]) (0,d.count.toNat,g) (by show (0:Int)+((d.count.toNat:Nat):Int)=_;omega) ⟨int_eq (by show d.count=((d.count.toNat:Nat):Int);omega),by show AV.slc 5 (dlR out) _=AV.slc 5 (dlR (out++[])) _;rw[List.append_nil],trivial⟩ ⟨rfl,trivial⟩ ?_
      rintro⟨j,k,g'⟩ hj e2 σ2
      dsimp only at hj ⊢
      have hol2:(dlR (out++List.replicate j {d with count:=1 })).length=out.length+j:=by rw[List.length_map,List.length_append,List.length_replicate]
      have hol3:(out++List.replicate j {d with count:=1 }).length=out.length+j:=by rw[List.length_append,List.length_replicate]
      cases k with
      | zero=>
        have hjn:d.count.toNat=j:=by omega
        rw[hjn] at he1
        repeat' (first
         | with_reducible refine Rd.p ?_
         | with_reducible (first|refine zI fun y hy=>?_|refine zL ?_|refine zS ?_|refine zV ?_|refine zC ?_)
         | refine aX ?_|with_reducible intro _
         | with_reducible refine zJ ?_ fun y hy=>?_|refine aP ?_ ?_)
        all_goals first
         | (exfalso;omega)
         | exact q_loop (pre++[d],post,out++List.replicate j {d with count:=1 },g') ⟨by rw[hl];simp,by rw[←he1];simp,by show (out++List.replicate j _).length≤_;rw[hol3,List.length_append];simp only[List.length_cons,List.length_nil];omega⟩ (by show post.length<post.length+1;omega) ⟨by rw[len_snoc];rfl,rfl,trivial⟩ aS aK aK
      | succ k=>
        repeat' (first
         | with_reducible refine Rd.p ?_
         | with_reducible (first|refine zI fun y hy=>?_|refine zL ?_|refine zS ?_|refine zV ?_|refine zC ?_)
         | refine aX ?_|with_reducible intro _
         | with_reducible refine zJ ?_ fun y hy=>?_|refine aP ?_ ?_)
        all_goals try (exfalso;omega)
        all_goals
         rename_i g4
         have hsn:out++List.replicate j {d with count:=1 }++[{d with count:=1 }]=out++List.replicate (j+1) {d with count:=1 }:=by rw[List.append_assoc,List.replicate_succ']
         refine q_loop (j+1,k,g4) (by show ((j+1:Nat):Int)+k=_;omega) (Nat.lt_succ_self k) ⟨int_eq (by simp),?_,trivial⟩ aS aK aK
         rw[←hsn]
         exact dl_snoc (out++List.replicate j {d with count:=1 }) {d with count:=1 } g4
   · have hk:¬(d.kind=4∨d.kind=5):=by simpa[drawsB] using hdr
     have e1:act1 d=[d]:=by unfold act1;rw[if_neg hdr]
     rw[e1] at he1
     repeat' (first
      | with_reducible refine Rd.p ?_
      | (refine w_ixP (f:=fun d:Dl=>[AV.int .i64 d.kind,.int .i64 d.bag,.int .i64 d.other,.int .i64 d.wood,.int .i64 d.count]) hl rfl rfl ?_)
      | with_reducible (first|refine zI fun y hy=>?_|refine zL ?_|refine zS ?_|refine zV ?_|refine zC ?_)
      | refine aX ?_|with_reducible intro _
      | with_reducible refine zJ ?_ fun y hy=>?_|refine aP ?_ ?_)
     all_goals try (exfalso;omega)
     refine w_loopK [1,4,5] [1,5] (fun x:Bool×Nat=>True) (fun x=>if x.1=true then 1 else 0) (fun x=>[(6,.int .i64 (if x.1=true then 1 else 0)),(3,.slc 5 (dlR (if x.1=true then out else out++[d])) (.own 3 x.2))]) (fun x=>[(3,(x.2,.row []))]) (true,g) trivial ⟨rfl,rfl,trivial⟩ ⟨rfl,trivial⟩ ?_
     rintro⟨b,g'⟩ _ e2 σ2
     cases b with
     | true=>
       simp only[if_true]
       repeat' (first
        | with_reducible refine Rd.p ?_
        | with_reducible (first|refine zI fun y hy=>?_|refine zL ?_|refine zS ?_|refine zV ?_|refine zC ?_)
        | refine aX ?_|with_reducible intro _
        | with_reducible refine zJ ?_ fun y hy=>?_|refine aP ?_ ?_)
       all_goals try (exfalso;omega)
       all_goals
        rename_i g4
        exact q_loop (false,g4) trivial (by show (0:Nat)<1;decide) ⟨rfl,by first|rfl|exact dl_snoc out d g4,trivial⟩ aS aK aK
     | false=>
       simp only[Bool.false_eq_true,if_false]
       repeat' (first
        | with_reducible refine Rd.p ?_
        | with_reducible (first|refine zI fun y hy=>?_|refine zL ?_|refine zS ?_|refine zV ?_|refine zC ?_)
        | refine aX ?_|with_reducible intro _
        | with_reducible refine zJ ?_ fun y hy=>?_|refine aP ?_ ?_)
       all_goals first
        | (exfalso;omega)
        | exact q_loop (pre++[d],post,out++[d],g') ⟨by rw[hl];simp,by rw[←he1];simp,by show (out++[_]).length≤_;rw[List.length_append,List.length_append];simp only[List.length_cons,List.length_nil];omega⟩ (by show post.length<post.length+1;omega) ⟨by rw[len_snoc];rfl,rfl,trivial⟩ aS aK aK
def ir81:IFn:=
 ⟨33,[(2,none)],(.seq (.ops [oo 1 (.box 2 0),oo 2 (.mov (kI 0))])
 (.seq (.ops [oo 3 (.mov (kI 0))])
 (.seq (.seq (.ops [oo 4 (.mov (kI 0))])
 (.blk 0 (.loop (.seq (.seq (.ops [oo 5 (.mov 4),oo 6 (.flA 1 1),oo 7 (.ld 1 false 6),oo 8 (.len false 7),oo 9 (.bin .lss 5 8)])
 (.cnd 9
 .skip
 (.exit 0)))
 (.seq (.blk 1 (.seq (.ops [oo 12 (.flA 1 1),oo 13 (.ld 1 false 12),oo 14 (.mov 4),oo 15 (.ixA 5 13 14),oo 16 (.flA 0 15),oo 17 (.ld 1 false 16)])
 (.blk 2 (.seq (.ops [oo 19 (.bin .eql 17 (kI 5)),oo 18 (.mov 19)])
 (.cnd 18
 (.ops [oo 20 (.mov 3),oo 21 (.flA 1 1),oo 22 (.ld 1 false 21),oo 23 (.mov 4),oo 24 (.ixA 5 22 23),oo 25 (.flA 4 24),oo 26 (.ld 1 false 25),oo 27 (.bin .add 20 26),oo 3 (.mov 27)])
 (.seq (.ops [oo 29 (.bin .eql 17 (kI 6)),oo 28 (.mov 29)])
 (.cnd 28
 (.ops [oo 30 (.mov 3),oo 31 (.bin .add 30 (kI 1)),oo 3 (.mov 31)])
 .skip)))))))
 (.ops [oo 10 (.mov 4),oo 11 (.bin .add 10 (kI 1)),oo 4 (.mov 11)]))))))
 (.seq (.ops [oo 32 (.mov 3),oo 2 (.mov 32)])
 .ret))))⟩
def hint81 (P:Program):Hint:={}
theorem censG_stp (d:Dl):censG (stp1 d)=if d.kind=5 then d.count.toNat else if d.kind=6 then 1 else 0:=by
 unfold stp1
 by_cases h:drawsB d=true
 · rw[if_pos h,censG_rep]
   have hk:d.kind=4∨d.kind=5:=by simpa[drawsB] using h
   by_cases h5:d.kind=5
   · rw[if_pos h5,if_pos (by simpa using h5)]
   · rw[if_neg h5,if_neg (by simpa using h5),if_neg (by omega)]
 · have hk:¬(d.kind=4∨d.kind=5):=by simpa[drawsB] using h
   rw[if_neg h,if_neg (by omega)]
   by_cases h6:d.kind=6
   · simp[censG,h6]
   · simp[censG,h6]
theorem censG_le:∀{l:List Dl},(∀d∈l,drawsB d=true→1≤d.count∧d.count≤12)→censG (stepsG l)≤12*l.length
 | [],_=>Nat.le_refl _
 | d::r,h=>by
   have h1:=censG_le (l:=r) fun x hx=>h x (by simp[hx])
   show censG (stp1 d++stepsG r)≤12*(r.length+1)
   rw[censG_app,censG_stp]
   split
   · have:=h d (by simp) (by simp[drawsB];right;assumption);omega
   · split<;>omega
theorem Censers_c (G:Gm) (hd:G.ds.length≤24) (hc:∀d∈G.ds,drawsB d=true→1≤d.count∧d.count≤12):Fn0 Tryz.prog 81 [gmA G] (fun v=>v= .int .i64 (censG (stepsG G.ds):Nat)):=by
 refine RawC.walk (H:=hint81 Tryz.prog) ir81 Tryz.func81 rfl rfl rfl ?_
 unfold ir81
 repeat' (first
  | with_reducible refine Rd.p ?_
  | with_reducible (first|refine zL ?_|refine zS ?_|refine zV ?_|refine zC ?_)
  | refine aX ?_|with_reducible intro _
  | refine aP ?_ ?_)
 refine w_loopK [1] [1] (fun x:List Dl×List Dl=>G.ds=x.1++x.2) (fun x=>x.2.length) (fun x=>[(4,.int .i64 (x.1.length:Int)),(3,.int .i64 (censG (stepsG x.1):Nat))]) (fun _=>[]) ([],G.ds) rfl ⟨rfl,rfl,trivial⟩ trivial ?_
 rintro⟨pre,post⟩ hl e σ
 dsimp only at hl ⊢
 have hlen:=congrArg List.length hl
 rw[List.length_append] at hlen
 have hcl:=censG_le (l:=pre) fun d hd=>hc d (by rw[hl];simp[hd])
 cases post with
 | nil=>
   simp only[List.length_nil] at hlen
   rw[List.append_nil] at hl
   rw[←hl] at hcl ⊢
   repeat' (first
    | with_reducible refine Rd.p ?_
    | with_reducible (first|refine zL ?_|refine zS ?_|refine zV ?_|refine zC ?_)
    | refine aX ?_|with_reducible intro _
    | refine aP ?_ ?_)
   all_goals first
    | (exfalso;omega)
    | rfl
 | cons d post=>
   simp only[List.length_cons] at hlen
   have hsn:censG (stepsG (pre++[d]))=censG (stepsG pre)+(if d.kind=5 then d.count.toNat else if d.kind=6 then 1 else 0):=by
    show censG ((pre++[d]).flatMap stp1)=_
    rw[List.flatMap_append,censG_app,List.flatMap_cons,List.flatMap_nil,List.append_nil,censG_stp];rfl
   by_cases h5:d.kind=5
   · have:=hc d (by rw[hl];simp) (by simp[drawsB];right;exact h5)
     rw[if_pos h5] at hsn
     repeat' (first
      | with_reducible refine Rd.p ?_
      | (refine w_ixP (f:=fun d:Dl=>[AV.int .i64 d.kind,.int .i64 d.bag,.int .i64 d.other,.int .i64 d.wood,.int .i64 d.count]) hl rfl rfl ?_)
      | with_reducible (first|refine zL ?_|refine zS ?_|refine zV ?_|refine zC ?_)
      | refine aX ?_|with_reducible intro _
      | refine aP ?_ ?_)
     all_goals first
      | (exfalso;omega)
      | exact q_loop (pre++[d],post) (by show G.ds=_;rw[hl];simp) (Nat.lt_succ_self _) ⟨by rw[len_snoc];rfl,by show AV.int .i64 _=AV.int .i64 _;rw[hsn];exact int_eq (by omega),trivial⟩ aS aK aK
   · rw[if_neg h5] at hsn
     by_cases h6:d.kind=6
     · rw[if_pos h6] at hsn
       repeat' (first
        | with_reducible refine Rd.p ?_
        | (refine w_ixP (f:=fun d:Dl=>[AV.int .i64 d.kind,.int .i64 d.bag,.int .i64 d.other,.int .i64 d.wood,.int .i64 d.count]) hl rfl rfl ?_)
        | with_reducible (first|refine zL ?_|refine zS ?_|refine zV ?_|refine zC ?_)
        | refine aX ?_|with_reducible intro _
        | refine aP ?_ ?_)
       all_goals first
        | (exfalso;omega)
        | exact q_loop (pre++[d],post) (by show G.ds=_;rw[hl];simp) (Nat.lt_succ_self _) ⟨by rw[len_snoc];rfl,by show AV.int .i64 _=AV.int .i64 _;rw[hsn];rfl,trivial⟩ aS aK aK
     · rw[if_neg h6] at hsn
       repeat' (first
        | with_reducible refine Rd.p ?_
        | (refine w_ixP (f:=fun d:Dl=>[AV.int .i64 d.kind,.int .i64 d.bag,.int .i64 d.other,.int .i64 d.wood,.int .i64 d.count]) hl rfl rfl ?_)
        | with_reducible (first|refine zL ?_|refine zS ?_|refine zV ?_|refine zC ?_)
        | refine aX ?_|with_reducible intro _
        | refine aP ?_ ?_)
       all_goals first
        | (exfalso;omega)
        | exact q_loop (pre++[d],post) (by show G.ds=_;rw[hl];simp) (Nat.lt_succ_self _) ⟨by rw[len_snoc];rfl,by show AV.int .i64 _=AV.int .i64 _;rw[hsn];rfl,trivial⟩ aS aK aK
section
variable {P:Program} {K:(Nat→AV)→Sig→Prop} {e:Nat→AV} {σ:Sig} {x:IOpd} {r:List IStep} {i g t n:Nat} {B:List Int}
theorem w_chkN (hx:x.ev e= .ref i g 0) (hσ:σ i=(g,.row (nI B))) (hn:B.length=n) (ht:e t= .agg (nI B)) (hk:stepsW P r K e σ):stepsW P (⟨none,none,.chk n true x t⟩::r) K e σ:=by
 have e1:ldO n true σ (x.ev e)=some (g=g∧0+n≤(nI B).length,.agg (nI B)):=by
  rw[hx]
  simp only[ldO,hσ,partO]
  rw[List.drop_zero,List.take_of_length_le (by rw[List.length_map];omega)]
 refine w_det0 (p:=(g=g∧0+n≤(nI B).length)∧ .agg (nI B)=e t) (v:= .junk) (σ':=σ) (fun _=>?_) ⟨⟨rfl,by rw[List.length_map];omega⟩,ht.symm⟩ hk
 show (match ldO n true σ (x.ev e) with
  | some (p,v)=>some (p∧v=e t,AV.junk,σ)
  | none=>none)=_
 rw[e1]
end
def ir27:IFn:=
 ⟨51,[(2,none)],(.seq (.ops [oo 1 (.box 2 0),oo 2 (.mov (.k .nsl))])
 (.seq (.ops [oo 3 (.nil 1 3)])
 (.seq (.ops [oo 4 (.new [z0,z0,z0,z0,z0,z0,z0,z0,z0,z0,z0,z0,z0,z0,z0,z0,z0,z0,z0,z0,z0,z0,z0,z0])])
 (.seq (.ops [oo 7 (.ld 2 true 1),oo 8 (.callF 33 [7]),oo 5 (.mov 8)])
 (.seq (.seq (.ops [oo 6 (.mov (kI 0))])
 (.blk 0 (.loop (.seq (.seq (.ops [oo 9 (.mov 6),oo 10 (.mov 5),oo 11 (.len false 10),oo 12 (.bin .lss 9 11)])
 (.cnd 12
 .skip
 (.exit 0)))
 (.seq (.blk 1 (.seq (.seq (.ops [oo 15 (.mov 5),oo 16 (.mov 6),oo 17 (.ixA 5 15 16),oo 18 (.ld 5 true 17),oo 19 (.callF 34 [18])])
 (.cnd 19
 (.seq (.ops [oo 20 (.mov 3),oo 21 (.ld 24 true 4),oo 22 (.mov 5),oo 23 (.mov 6),oo 24 (.ixA 5 22 23),oo 25 (.flA 1 24),oo 26 (.ld 1 false 25),oo 27 (.callF 65 [21,26]),oo 28 (.bsl 1 [[(.int .i64 0)]] [(0,27)]),oo 29 (.app 1 8 20 28 3),oo 3 (.mov 29)])
 (.seq (.ops [oo 30 (.ld 24 true 4),oo 31 (.mov 5),oo 32 (.mov 6),oo 33 (.ixA 5 31 32),oo 34 (.flA 1 33),oo 35 (.ld 1 false 34),oo 36 (.ld 24 true 4),oo 37 (.mov 5),oo 38 (.mov 6),oo 39 (.ixA 5 37 38),oo 40 (.flA 1 39),oo 41 (.ld 1 false 40),oo 42 (.callF 35 [36,41,(kI 0)]),
 ⟨none,none,(.chk 24 true 4 30)⟩,
 ⟨none,none,(.chk 1 false 34 35)⟩,oo 43 (.callF 36 [30,35,42]),
 ⟨none,none,(.st 24 4 43)⟩])
 (.exit 1)))
 .skip))
 (.ops [oo 44 (.ld 24 true 4),oo 45 (.mov 5),oo 46 (.mov 6),oo 47 (.ixA 5 45 46),oo 48 (.ld 5 true 47),oo 49 (.callF 37 [44,48]),
 ⟨none,none,(.st 24 4 49)⟩])))
 (.ops [oo 13 (.mov 6),oo 14 (.bin .add 13 (kI 1)),oo 6 (.mov 14)]))))))
 (.seq (.ops [oo 50 (.mov 3),oo 2 (.mov 50)])
 .ret))))))⟩
def hint27 (P:Program):Hint:={site:=[(29,3)],nils:=[(3,1)],frz:=[],mve:=[],wr:=[] }
theorem run_acts {G:Gm} (h:GOK G):runOK G.ws.length ((actsF G.ds).map spOf) tb0.bags tb0.mixed:=by
 rw[acts_sp];exact runOK_nrm h.ex
theorem ACall.bg2i {P:Program} {f:Nat} {B:List Int} {a1 a2:List AV} {r:Int} {σ:Sig} {d:Nat} {Q:AV→Sig→Prop} (h:Fn0 P f (bgV B::a1) (fun a=>a= .int .i64 r)) (ha:a1=renL [] a2) (hQ:Q (.int .i64 r) σ):ACall P f (bgV B::a2) σ d Q:=
 ACall.val h (by show bgV B::a1=ren [] (bgV B)::renL [] a2;rw[ren_bg,ha]) rfl hQ
theorem ACall.bg2b {P:Program} {f:Nat} {B C:List Int} {a1 a2:List AV} {σ:Sig} {d:Nat} {Q:AV→Sig→Prop} (h:Fn0 P f (bgV B::a1) (fun a=>a=bgV C)) (ha:a1=renL [] a2) (hQ:Q (bgV C) σ):ACall P f (bgV B::a2) σ d Q:=
 ACall.val h (by show bgV B::a1=ren [] (bgV B)::renL [] a2;rw[ren_bg,ha]) (ren_bg [] C) hQ
end Go.Abs
