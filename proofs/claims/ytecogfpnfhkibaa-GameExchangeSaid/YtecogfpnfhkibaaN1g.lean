/- A part of the proofs of the laws of this seat: contracts of the functions that they reach, each proved of the program's form in Lean. No condition beyond those that each contract names. -/
import Derived.Test.YtecogfpnfhkibaaProg
import Derived.Test.YtecogfpnfhkibaaSnd3
import Derived.Test.YtecogfpnfhkibaaA0
import Derived.Test.YtecogfpnfhkibaaN1a
import Derived.Test.YtecogfpnfhkibaaN1b
import Derived.Test.YtecogfpnfhkibaaN1c
import Derived.Test.YtecogfpnfhkibaaN1d
import Derived.Test.YtecogfpnfhkibaaN1e
import Derived.Test.YtecogfpnfhkibaaN1f
set_option linter.unusedVariables false
set_option linter.unusedSimpArgs false
set_option maxRecDepth 20000
set_option maxHeartbeats 4000000
namespace Go.Abs
open Go.Proofs
theorem insV_c (V:List Int) (x:Int) (g h p n:Nat) (hn:V.length=n) (hp:p≤n) (hb:n≤1000000):RawC Try.prog 79 [.msl 1000 g n 1,.int .i64 p,.msl 1001 h 1 1] (sg [(1000,(g,.row (V.map (AV.int .i64)))),(1001,(h,.row [.int .i64 x]))])
  (SR (fun (g':Nat) v=>v= .msl 1000 g' (n+1) 1) (fun g'=>[(1000,(g',.row ((V.take p++x::V.drop p).map (AV.int .i64)))),(1001,(h,.row [.int .i64 x]))])):=by
 subst hn
 have e1:(V.map (AV.int .i64)).length=V.length:=List.length_map _
 have:=insM insI_f (x:= .int .i64 x) rfl (nI_scal V) g h p (by show p≤(V.map (AV.int .i64)).length;omega) (by show (V.map (AV.int .i64)).length≤_;omega)
 have e2:layL (V.map (AV.int .i64)) p (.int .i64 x)=(V.take p++x::V.drop p).map (AV.int .i64):=by
  show List.take p (List.map _ _)++_::List.drop p (List.map _ _)=List.map _ (_++_::_)
  rw[List.map_append,List.map_take,List.map_cons,List.map_drop]
 rw[show (nI V).length=V.length from e1,show layL (nI V) p (.int .i64 x)=_ from e2] at this
 exact this
theorem chunkLi:∀(A:List (List Int)),chunk 1 A.length (normL (liC A))=llR A
 | []=>rfl
 | x::A=>by
   have:=chunkLi A
   simp only[List.length_cons,List.map_cons,normL,chunk,List.map_cons]
   simp only[normL] at this
   rw[show List.drop 1 (AV.norm (AV.slc 1 (iR x) .non)::List.map AV.norm (liC A))=List.map AV.norm (liC A) from rfl,this]
   rfl
theorem w_frzLi {P:Program} {Q:Post} {e:Nat→AV} {σ:Sig} {t i g n:Nat} {A:List (List Int)} (F:List (Nat×AV)) (S:List (Nat×(Nat×Res))) (hx:e t= .msl i g n 1) (hσ:σ i=(g,.row (liC A))) (hn:A.length=n)
  (hF:slots F (frzE i g (liC A) e)) (hS:slots S (frzS i g (liC A) σ)) (hk:∀e' σ',Q .nor (updL F e') (updL S σ')):awp P (.frz (.t t)) Q e σ:=by
 show frzW (e t) e σ (Q .nor)
 rw[hx]
 show (match σ i with | (g',.row c)=>g=g'∧c.all AV.scal=true∧Q .nor (frzE i g c e) (frzS i g c σ) | _=>False)
 rw[hσ]
 refine⟨rfl,all_liC A,?_⟩
 have:=hk (frzE i g (liC A) e) (frzS i g (liC A) σ)
 rw[updL_slots hF,updL_slots hS] at this
 exact this
theorem frzL_nI (i g:Nat) (c:List AV):∀V:List Int,frzL i g c (V.map (AV.int .i64))=V.map (AV.int .i64)
 | []=>rfl
 | v::V=>by
   show frzA i g c (AV.int .i64 v)::frzL i g c (V.map (AV.int .i64))=_
   rw[frzL_nI i g c V];rfl
theorem renL_liC (ρ:List (Nat×Nat)):∀A:List (List Int),renL ρ (liC A)=liC A
 | []=>rfl
 | x::A=>by
   show ren ρ (AV.slc 1 (iR x) .non)::renL ρ (liC A)=_
   rw[renL_liC ρ A];rfl
theorem upd_id {σ:Sig} {t:Nat} {x:Nat×Res} (h:σ t=x):upd σ t x=σ:=by
 funext j;rw[upd_eq];split
 · rename_i hj;subst hj;exact h.symm
 · rfl
theorem ACall.look {P:Program} {f:Nat} {args0 args:List AV} {c:List AV} {g s d:Nat} {V V':AV} {σ:Sig} {Q:AV→Sig→Prop}
  (h:RawC P f args0 (sg [(1000,(g,.row c))]) (SR (fun (_:Unit) v=>v=V) (fun _=>[(1000,(g,.row c))]))) (hr:renOK [(1000,s)]=true) (ha:args0=renL (flipL [(1000,s)]) args) (hs:σ s=(g,.row c)) (hc:∀ρ,renL ρ c=c) (hV:ren [(1000,s)] V=V') (hQ:Q V' σ):ACall P f args σ d Q:=by
 refine ACall.liftS h [(1000,s)] none hr ha ?_ ⟨⟨c,by rw[hs]⟩,trivial⟩ (fun _=>rfl) ?_
 · show _=[(1000,((σ s).1,renR (flipL [(1000,s)]) (σ s).2))]
   rw[hs]
   simp only[renR,hc]
 · intro _ av hav
   rw[hav]
   show Q (ren [(1000,s)] V) (upd σ s (g,.row (renL [(1000,s)] c)))
   rw[hc,upd_id hs,hV]
   exact hQ
theorem ACall.two {P:Program} {f:Nat} {args0 args:List AV} {c c' c2:List AV} {g h0 s t d n':Nat} {σ:Sig} {Q:AV→Sig→Prop}
  (h:RawC P f args0 (sg [(1000,(g,.row c)),(1001,(h0,.row c2))]) (SR (fun (g':Nat) v=>v= .msl 1000 g' n' 1) (fun g'=>[(1000,(g',.row c')),(1001,(h0,.row c2))])))
  (hr:renOK [(1000,s),(1001,t)]=true) (ha:args0=renL (flipL [(1000,s),(1001,t)]) args) (hs:σ s=(g,.row c)) (ht:σ t=(h0,.row c2)) (hc:∀ρ,renL ρ c=c) (hc2:∀ρ,renL ρ c2=c2) (hc':∀ρ,renL ρ c'=c')
  (hQ:∀g',Q (.msl s g' n' 1) (upd σ s (g',.row c'))):ACall P f args σ d Q:=by
 refine ACall.liftS h [(1000,s),(1001,t)] none hr ha ?_ ⟨⟨c,by rw[hs]⟩,⟨c2,by rw[ht]⟩,trivial⟩ (fun _=>rfl) ?_
 · show _=[(1000,((σ s).1,renR (flipL [(1000,s),(1001,t)]) (σ s).2)),(1001,((σ t).1,renR (flipL [(1000,s),(1001,t)]) (σ t).2))]
   rw[hs,ht]
   simp only[renR,hc,hc2]
 · rintro g' _ rfl
   show Q (.msl s g' n' 1) (upd (upd σ t (h0,.row (renL [(1000,s),(1001,t)] c2))) s (g',.row (renL [(1000,s),(1001,t)] c')))
   rw[hc2,hc',upd_id ht]
   exact hQ g'
def ansV (s:Nat) (L:List (List Int×Int)) (g:Nat):AV:=match L with
 | []=> .nsl
 | _::_=> .msl s g L.length 1
def ansX (L:List (List Int×Int)) (g:Nat):Nat×Res:=match L with
 | []=>(0,.dead)
 | _::_=>(g,.row (liC (L.map (·.1))))
def ansY (L:List (List Int×Int)) (g:Nat):Nat×Res:=match L with
 | []=>(0,.dead)
 | _::_=>(g,.row ((L.map (·.2)).map (AV.int .i64)))
theorem ansV_of {s g:Nat}:∀{L:List (List Int×Int)},L≠[]→ansV s L g= .msl s g L.length 1
 | [],h=>absurd rfl h
 | _::_,_=>rfl
theorem ansX_of {g:Nat}:∀{L:List (List Int×Int)},L≠[]→ansX L g=(g,.row (liC (L.map (·.1))))
 | [],h=>absurd rfl h
 | _::_,_=>rfl
theorem ansY_of {g:Nat}:∀{L:List (List Int×Int)},L≠[]→ansY L g=(g,.row ((L.map (·.2)).map (AV.int .i64)))
 | [],h=>absurd rfl h
 | _::_,_=>rfl
theorem w_ldV {P:Program} {K:(Nat→AV)→Sig→Prop} {e:Nat→AV} {σ:Sig} {x:IOpd} {r:List IStep} {d i g off p:Nat} {B:List Int} {v:Int} (hx:x.ev e= .ref i g off) (ho:off=p) (hσ:σ i=(g,.row (nI B))) (hp:p<B.length) (hv:B.getD p 0=v) (hk:stepsW P r K (upd e d (.int .i64 v)) σ):stepsW P (⟨some d,none,.ld 1 false x⟩::r) K e σ:=by
 subst hv
 exact w_ldEl hx ho hσ hp hk
theorem set_same {α:Type} {l:List α} {p:Nat} {d:α} (h:p<l.length):l.set p (l.getD p d)=l:=by
 apply List.ext_getElem?
 intro j
 rw[List.getElem?_set]
 by_cases e:p=j
 · subst e
   rw[if_pos rfl,if_pos h,List.getD_eq_getElem?_getD,List.getElem?_eq_getElem h];rfl
 · rw[if_neg e]
theorem anA_old {x:List Int} {n:Int} {L:List (List Int×Int)} (h:posI x L<L.length∧(L.map (·.1)).getD (posI x L) []=x):(ansI x n L).map (·.1)=L.map (·.1)∧(ansI x n L).map (·.2)=(L.map (·.2)).set (posI x L) ((L.map (·.2)).getD (posI x L) 0+n)∧(ansI x n L).length=L.length:=by
 rw[ansI_old h]
 refine⟨?_,?_,List.length_set⟩
 · rw[List.map_set]
   show (L.map (·.1)).set (posI x L) x=_
   have:=set_same (l:=L.map (·.1)) (p:=posI x L) (d:=[]) (by rw[List.length_map];exact h.1)
   rw[h.2] at this
   exact this
 · rw[List.map_set]
theorem anA_new {x:List Int} {n:Int} {L:List (List Int×Int)} (h:¬(posI x L<L.length∧(L.map (·.1)).getD (posI x L) []=x)):(ansI x n L).map (·.1)=(L.map (·.1)).take (posI x L)++x::(L.map (·.1)).drop (posI x L)∧(ansI x n L).map (·.2)=((L.map (·.2)).take (posI x L)++0::(L.map (·.2)).drop (posI x L)).set (posI x L) (0+n)∧(ansI x n L).length=L.length+1:=by
 have hp:=posI_le x L
 rw[ansI_new h]
 refine⟨by rw[List.map_append,List.map_take,List.map_cons,List.map_drop],?_,?_⟩
 · rw[List.map_append,List.map_take,List.map_cons,List.map_drop]
   have hl:((L.map (·.2)).take (posI x L)).length=posI x L:=by rw[List.length_take,List.length_map];omega
   rw[List.set_append_right _ _ (by rw[hl];exact Nat.le_refl _),hl,Nat.sub_self,List.set_cons_zero,Int.zero_add]
 · rw[List.length_append,List.length_cons,List.length_take,List.length_drop];omega
theorem getD_new {V:List Int} {p:Nat} (h:p≤V.length):(V.take p++0::V.drop p).getD p 0=0:=by
 have hl:(V.take p).length=p:=by rw[List.length_take];omega
 rw[List.getD_eq_getElem?_getD,List.getElem?_append_right (by omega),hl,Nat.sub_self];rfl
def anA (r:List (List Int×Int)×Int):AV:=if r.2=0 then .tup [.slc 1 (llR (r.1.map (·.1))) .non,.slc 1 (iR (r.1.map (·.2))) .non,.int .i64 r.2] else .tup [.nsl,.nsl,.int .i64 r.2]
theorem Answers_c (G:Gm) (a:Aq) (hw:G.ws.length<1000) (hd:G.ds.length<1000) (hs:∀w∈G.ws,w.name.size≤1000):Fn0 Try.prog 44 [gmA G,aqA a] (fun v=>v=anA (ansO G a)):=by
 have hck:=gCheck_c G hw hd hs
 have hca:=checkAsk_c G a hw
 have hcr:=courses_f G (invW G.ws.length) hw hd hs gmOK
 obtain⟨R,hR⟩:∃R,ansO G a=R:=⟨_,rfl⟩
 rw[hR]
 unfold ansO at hR
 by_cases h0:gmErr G=0
 rotate_left
 · rw[if_neg h0] at hR
   subst hR
   unfold anA
   rw[if_neg h0]
   refine RawC.walk (H:=hint44 Try.prog) ir44 Try.func44 rfl rfl rfl ?_
   unfold ir44
   repeat' (first
    | with_reducible (first | refine Rd.p ?_ | refine w_alt ?_ ?_ | refine zE ?_ | refine zE0 ?_)
    | with_reducible (first | refine zI fun y hy=>?_ | refine zL ?_ | refine zS ?_ | refine zA fun _=>?_ | refine zV ?_ | refine zC ?_ | refine zG ?_ | refine zU ?_ | refine zG0 ?_ | refine zU0 ?_ | refine zF ?_)
    | ((with_reducible refine acall_id ?_);refine ACall.val hck rfl rfl ?_)
    | with_reducible (first | refine zX ?_ | refine zD fun _=>?_ | refine zD0 ?_ | refine zN ?_ | refine zF0 ?_ | refine zX0 ?_ | refine z1 ?_ | refine z2 ?_ | refine z3 ?_ | refine z4 ?_ | refine z5 ?_ | refine z6 ?_ | refine z7 ?_ | refine z8 ?_ | refine y1 ?_ | refine y2 ?_ | refine y3 ?_ | refine y4 ?_ | refine y5 ?_ | refine y6 ?_ | refine y7 ?_ | refine y8 ?_ | refine Rt.p (fun _=>?_) fun _=>?_)
    | ((with_reducible apply w_ixM);(focus exact rfl);(focus exact rfl);case' hk=>intro y hy) | ((with_reducible (first | apply w_val | apply q_ends));(focus exact rfl)))
   all_goals first
    | (exfalso;omega)
    | rfl
 rw[if_pos h0] at hR
 rw[h0] at hck
 by_cases h1:askErr G.ws.length a=0
 rotate_left
 · rw[if_neg h1] at hR
   subst hR
   unfold anA
   rw[if_neg h1]
   refine RawC.walk (H:=hint44 Try.prog) ir44 Try.func44 rfl rfl rfl ?_
   unfold ir44
   repeat' (first
    | with_reducible (first | refine Rd.p ?_ | refine w_alt ?_ ?_ | refine zE ?_ | refine zE0 ?_)
    | with_reducible (first | refine zI fun y hy=>?_ | refine zL ?_ | refine zS ?_ | refine zA fun _=>?_ | refine zV ?_ | refine zC ?_ | refine zG ?_ | refine zU ?_ | refine zG0 ?_ | refine zU0 ?_ | refine zF ?_)
    | ((with_reducible refine acall_id ?_);refine ACall.val hck rfl rfl ?_)
    | ((with_reducible refine acall_id ?_);refine ACall.val hca rfl rfl ?_)
    | with_reducible (first | refine zX ?_ | refine zD fun _=>?_ | refine zD0 ?_ | refine zN ?_ | refine zF0 ?_ | refine zX0 ?_ | refine z1 ?_ | refine z2 ?_ | refine z3 ?_ | refine z4 ?_ | refine z5 ?_ | refine z6 ?_ | refine z7 ?_ | refine z8 ?_ | refine y1 ?_ | refine y2 ?_ | refine y3 ?_ | refine y4 ?_ | refine y5 ?_ | refine y6 ?_ | refine y7 ?_ | refine y8 ?_ | refine Rt.p (fun _=>?_) fun _=>?_)
    | ((with_reducible apply w_ixM);(focus exact rfl);(focus exact rfl);case' hk=>intro y hy) | ((with_reducible (first | apply w_val | apply q_ends));(focus exact rfl)))
   all_goals first
    | (exfalso;omega)
    | rfl
 rw[if_pos h1] at hR
 rw[h1] at hca
 by_cases h2:(crsO G).2=0
 rotate_left
 · rw[if_neg h2] at hR
   subst hR
   have e1:(crsO G).1=[]:=by
    unfold crsO at h2 ⊢
    rw[if_pos h0] at h2 ⊢
    split
    · rename_i h;rw[if_pos h] at h2;exact absurd rfl h2
    · rfl
   rw[e1] at hcr
   unfold anA
   rw[if_neg h2]
   refine RawC.walk (H:=hint44 Try.prog) ir44 Try.func44 rfl rfl rfl ?_
   unfold ir44
   repeat' (first
    | with_reducible (first | refine Rd.p ?_ | refine w_alt ?_ ?_ | refine zE ?_ | refine zE0 ?_)
    | with_reducible (first | refine zI fun y hy=>?_ | refine zL ?_ | refine zS ?_ | refine zA fun _=>?_ | refine zV ?_ | refine zC ?_ | refine zG ?_ | refine zU ?_ | refine zG0 ?_ | refine zU0 ?_ | refine zF ?_)
    | ((with_reducible refine acall_id ?_);refine ACall.val hck rfl rfl ?_)
    | ((with_reducible refine acall_id ?_);refine ACall.val hca rfl rfl ?_)
    | ((with_reducible refine acall_id ?_);refine ACall.val hcr rfl rfl ?_)
    | with_reducible (first | refine zX ?_ | refine zD fun _=>?_ | refine zD0 ?_ | refine zN ?_ | refine zF0 ?_ | refine zX0 ?_ | refine z1 ?_ | refine z2 ?_ | refine z3 ?_ | refine z4 ?_ | refine z5 ?_ | refine z6 ?_ | refine z7 ?_ | refine z8 ?_ | refine y1 ?_ | refine y2 ?_ | refine y3 ?_ | refine y4 ?_ | refine y5 ?_ | refine y6 ?_ | refine y7 ?_ | refine y8 ?_ | refine Rt.p (fun _=>?_) fun _=>?_)
    | ((with_reducible apply w_ixM);(focus exact rfl);(focus exact rfl);case' hk=>intro y hy) | ((with_reducible (first | apply w_val | apply q_ends));(focus exact rfl)))
   all_goals first
    | (exfalso;omega)
    | rfl
 rw[if_pos h2] at hR
 rw[h2] at hcr
 have hG:=gm_ok h0
 have hn6:=hG.n6
 have hcen:=hG.cen
 obtain⟨C,hC⟩:∃C,crsG G=C:=⟨_,rfl⟩
 have hCO:(crsO G).1=C:=by
  unfold crsO at h2 ⊢
  rw[if_pos h0] at h2 ⊢
  split
  · exact hC
  · rename_i h;rw[if_neg h] at h2;exact absurd h2 (by decide)
 have hC5:C.length≤5000:=by
  unfold crsO at h2
  rw[if_pos h0] at h2
  split at h2
  · rename_i h;rw[←hC];exact h
  · exact absurd h2 (by decide)
 have hCn:C≠[]:=by rw[←hC];exact crsG_ne hG
 have hmem:∀c∈C,(1≤c.1.length∧c.1.length≤9)∧(∀w∈c.1,0≤w∧w<(G.ws.length:Int))∧0<c.2:=fun c hc=>by
  rw[←hC] at hc
  obtain⟨⟨q1,q2⟩,q3,q4⟩:=(crsG_mem hG).1 hc
  exact⟨by omega,q2,by omega⟩
 rw[hCO] at hcr hR
 have hcr2:crsA C 0= .tup [.slc 1 (llR (C.map (·.1))) .non,.slc 1 (iR (C.map (·.2))) .non,.int .i64 0]:=by
  cases C with
  | nil=>exact absurd rfl hCn
  | cons x r=>rfl
 rw[hcr2] at hcr
 have hl0:(C.map (·.1)).length=C.length:=List.length_map _
 have hsb:sumA C≤479001600:=by rw[←hC,crsG_sum hG];exact (allW_bd hG).2
 refine RawC.walk (H:=hint44 Try.prog) ir44 Try.func44 rfl rfl rfl ?_
 unfold ir44
 repeat' (first
  | with_reducible (first | refine Rd.p ?_ | refine w_alt ?_ ?_ | refine zE ?_ | refine zE0 ?_)
  | with_reducible (first | refine zI fun y hy=>?_ | refine zL ?_ | refine zS ?_ | refine zA fun _=>?_ | refine zV ?_ | refine zC ?_ | refine zG ?_ | refine zU ?_ | refine zG0 ?_ | refine zU0 ?_ | refine zF ?_)
  | ((with_reducible refine acall_id ?_);refine ACall.val hck rfl rfl ?_)
  | ((with_reducible refine acall_id ?_);refine ACall.val hca rfl rfl ?_)
  | ((with_reducible refine acall_id ?_);refine ACall.val hcr rfl rfl ?_)
  | with_reducible (first | refine zX ?_ | refine zD fun _=>?_ | refine zD0 ?_ | refine zN ?_ | refine zF0 ?_ | refine zX0 ?_ | refine z1 ?_ | refine z2 ?_ | refine z3 ?_ | refine z4 ?_ | refine z5 ?_ | refine z6 ?_ | refine z7 ?_ | refine z8 ?_ | refine y1 ?_ | refine y2 ?_ | refine y3 ?_ | refine y4 ?_ | refine y5 ?_ | refine y6 ?_ | refine y7 ?_ | refine y8 ?_ | refine Rt.p (fun _=>?_) fun _=>?_)
  | ((with_reducible apply w_ixM);(focus exact rfl);(focus exact rfl);case' hk=>intro y hy) | ((with_reducible (first | apply w_val | apply q_ends));(focus exact rfl)))
 all_goals try (exfalso;omega)
 refine w_loopK [2,3,10,36,37] [2,3] (fun x:List (List Int×Int)×List (List Int×Int)×List (List Int×Int)×Nat×Nat=>C=x.1++x.2.1∧x.2.1.foldl (fun A c=>ansI (dueF G a c.1) c.2 A) x.2.2.1=ansL (dueF G a) C∧srtA x.2.2.1∧(∀y∈x.2.2.1,0<y.2)∧(x.2.2.1.length≤x.1.length∧(x.1≠[]→x.2.2.1≠[]))∧(∀y∈x.2.2.1,y.1.length≤20)∧sumA x.2.2.1+sumA x.2.1=sumA C) (fun x=>x.2.1.length)
  (fun x=>[(38,.int .i64 (x.1.length:Int)),(4,ansV 59 x.2.2.1 x.2.2.2.1),(5,ansV 63 x.2.2.1 x.2.2.2.2)]) (fun x=>[(59,ansX x.2.2.1 x.2.2.2.1),(63,ansY x.2.2.1 x.2.2.2.2)]) ([],C,[],0,0) ⟨rfl,rfl,List.Pairwise.nil,(fun y hy=>by cases hy),⟨Nat.le_refl _,fun h=>absurd rfl h⟩,(fun y hy=>by cases hy),Int.zero_add _⟩ ⟨rfl,rfl,rfl,trivial⟩ ⟨rfl,rfl,trivial⟩ ?_
 rintro⟨pre,post,L,ga,gb⟩ ⟨hl,hf,hsr,hps,⟨hll,hln⟩,hl20,hsm⟩ e σ
 dsimp only at hl hf hsr hps hll hln hl20 hsm ⊢
 have hlen:=congrArg List.length hl
 rw[List.length_append] at hlen
 cases post with
 | nil=>
   simp only[List.length_nil] at hlen
   rw[List.foldl_nil] at hf
   rw[←hf] at hR
   subst hR
   cases L with
   | nil=>exact absurd rfl (hln fun h=>by rw[h] at hl;exact hCn (by rw[hl];rfl))
   | cons y0 r0=>
     have hA:frzA 59 ga (liC ((y0::r0).map (·.1))) (.msl 59 ga (y0::r0).length 1)= .slc 1 (llR ((y0::r0).map (·.1))) .non:=by
      have:=chunkLi ((y0::r0).map (·.1))
      rw[List.length_map] at this
      simp only[frzA]
      rw[if_pos ⟨trivial,trivial,by rw[List.length_map,List.length_map,Nat.mul_one]⟩,this]
     have hV:frzA 63 gb (((y0::r0).map (·.2)).map (AV.int .i64)) (.msl 63 gb (y0::r0).length 1)= .slc 1 (iR ((y0::r0).map (·.2))) .non:=by
      have:=chunk1 ((y0::r0).map (·.2))
      rw[List.length_map] at this
      simp only[frzA]
      rw[if_pos ⟨trivial,trivial,by rw[List.length_map,List.length_map,Nat.mul_one]⟩,this]
     repeat' (first
      | with_reducible (first | refine Rd.p ?_ | refine w_alt ?_ ?_ | refine zE ?_ | refine zE0 ?_)
      | with_reducible (first | refine zI fun y hy=>?_ | refine zL ?_ | refine zS ?_ | refine zA fun _=>?_ | refine zV ?_ | refine zC ?_ | refine zG ?_ | refine zU ?_ | refine zG0 ?_ | refine zU0 ?_ | refine zF ?_)
      | with_reducible (first | refine zX ?_ | refine zD fun _=>?_ | refine zD0 ?_ | refine zN ?_ | refine zF0 ?_ | refine zX0 ?_ | refine z1 ?_ | refine z2 ?_ | refine z3 ?_ | refine z4 ?_ | refine z5 ?_ | refine z6 ?_ | refine z7 ?_ | refine z8 ?_ | refine y1 ?_ | refine y2 ?_ | refine y3 ?_ | refine y4 ?_ | refine y5 ?_ | refine y6 ?_ | refine y7 ?_ | refine y8 ?_ | refine Rt.p (fun _=>?_) fun _=>?_)
      | ((with_reducible apply w_ixM);(focus exact rfl);(focus exact rfl);case' hk=>intro y hy) | ((with_reducible (first | apply w_val | apply q_ends));(focus exact rfl)))
     all_goals try (exfalso;omega)
     refine w_frzLi (A:=anF (y0::r0)) [(4,.slc 1 (llR (anF (y0::r0))) .non),(5,.msl 63 gb (y0::r0).length 1)] [(63,(gb,.row ((anS (y0::r0)).map (AV.int .i64))))] rfl rfl (List.length_map _) ⟨hA,rfl,trivial⟩ ⟨congrArg (fun z=>(gb,Res.row z)) (frzL_nI _ _ _ _),trivial⟩ ?_
     intro e2 σ2
     repeat' (first
      | with_reducible (first | refine Rd.p ?_ | refine w_alt ?_ ?_ | refine zE ?_ | refine zE0 ?_)
      | with_reducible (first | refine zI fun y hy=>?_ | refine zL ?_ | refine zS ?_ | refine zA fun _=>?_ | refine zV ?_ | refine zC ?_ | refine zG ?_ | refine zU ?_ | refine zG0 ?_ | refine zU0 ?_ | refine zF ?_)
      | with_reducible (first | refine zX ?_ | refine zD fun _=>?_ | refine zD0 ?_ | refine zN ?_ | refine zF0 ?_ | refine zX0 ?_ | refine z1 ?_ | refine z2 ?_ | refine z3 ?_ | refine z4 ?_ | refine z5 ?_ | refine z6 ?_ | refine z7 ?_ | refine z8 ?_ | refine y1 ?_ | refine y2 ?_ | refine y3 ?_ | refine y4 ?_ | refine y5 ?_ | refine y6 ?_ | refine y7 ?_ | refine y8 ?_ | refine Rt.p (fun _=>?_) fun _=>?_)
      | ((with_reducible apply w_ixM);(focus exact rfl);(focus exact rfl);case' hk=>intro y hy) | ((with_reducible (first | apply w_val | apply q_ends));(focus exact rfl)))
     refine w_frzIG (xs:=anS (y0::r0)) [(4,.slc 1 (llR (anF (y0::r0))) .non),(5,.slc 1 (iR (anS (y0::r0))) .non)] [] rfl rfl (List.length_map _) ⟨rfl,hV,trivial⟩ trivial ?_
     intro e3 σ3
     repeat' (first
      | with_reducible (first | refine Rd.p ?_ | refine w_alt ?_ ?_ | refine zE ?_ | refine zE0 ?_)
      | with_reducible (first | refine zI fun y hy=>?_ | refine zL ?_ | refine zS ?_ | refine zA fun _=>?_ | refine zV ?_ | refine zC ?_ | refine zG ?_ | refine zU ?_ | refine zG0 ?_ | refine zU0 ?_ | refine zF ?_)
      | with_reducible (first | refine zX ?_ | refine zD fun _=>?_ | refine zD0 ?_ | refine zN ?_ | refine zF0 ?_ | refine zX0 ?_ | refine z1 ?_ | refine z2 ?_ | refine z3 ?_ | refine z4 ?_ | refine z5 ?_ | refine z6 ?_ | refine z7 ?_ | refine z8 ?_ | refine y1 ?_ | refine y2 ?_ | refine y3 ?_ | refine y4 ?_ | refine y5 ?_ | refine y6 ?_ | refine y7 ?_ | refine y8 ?_ | refine Rt.p (fun _=>?_) fun _=>?_)
      | ((with_reducible apply w_ixM);(focus exact rfl);(focus exact rfl);case' hk=>intro y hy) | ((with_reducible (first | apply w_val | apply q_ends));(focus exact rfl)))
     all_goals first
      | rfl
 | cons c post=>
   simp only[List.length_cons] at hlen
   obtain⟨⟨m1,m9⟩,m2,m3⟩:=hmem c (by rw[hl];simp)
   have hdu:=due_c G a c.1 hn6 hG.d24 m1 m9 m2
   have hdl:=dueF_len G a c.1
   obtain⟨x,hx⟩:∃x,dueF G a c.1=x:=⟨_,rfl⟩
   rw[hx] at hdu hdl
   have h1':C.map (·.1)=pre.map (·.1)++c.1::post.map (·.1):=by rw[hl,List.map_append,List.map_cons]
   have h2':C.map (·.2)=pre.map (·.2)++c.2::post.map (·.2):=by rw[hl,List.map_append,List.map_cons]
   have hi1:AV.int .i64 (pre.length:Int)= .int .i64 ((pre.map (·.1)).length:Int):=by rw[List.length_map]
   have hi2:AV.int .i64 (pre.length:Int)= .int .i64 ((pre.map (·.2)).length:Int):=by rw[List.length_map]
   rw[List.foldl_cons,hx] at hf
   rw[sumA] at hsm
   have hpn:=sumA_nn (L:=post) fun z hz=>(hmem z (by rw[hl];simp[hz])).2.2
   have hsn:=ansI_sum x c.2 L
   have hLn:=sumA_nn hps
   have hcb:c.2≤479001600:=by omega
   have hls:=ansI_len x c.2 L
   have hgo:C=(pre++[c])++post∧List.foldl (fun A c=>ansI (dueF G a c.1) c.2 A) (ansI x c.2 L) post=ansL (dueF G a) C∧srtA (ansI x c.2 L)∧(∀y∈ansI x c.2 L,0<y.2)∧((ansI x c.2 L).length≤(pre++[c]).length∧(pre++[c]≠[]→ansI x c.2 L≠[]))∧(∀y∈ansI x c.2 L,y.1.length≤20)∧sumA (ansI x c.2 L)+sumA post=sumA C:=by
    refine⟨by rw[hl];simp,hf,ansI_srt hsr,ansI_pos m3 hps,⟨by rw[len_snoc];omega,fun _ h=>by rw[h] at hls;simp at hls⟩,fun z hz=>?_,by omega⟩
    rcases ansI_mem hz with e1 | hz
    · rw[e1];omega
    · exact hl20 z hz
   have hne:ansI x c.2 L≠[]:=fun h=>by rw[h] at hls;simp at hls
   cases L with
   | nil=>
     repeat' (first
      | with_reducible (first | refine Rd.p ?_ | refine w_alt ?_ ?_ | refine zE ?_ | refine zE0 ?_)
      | (first | refine w_ixP h1' rfl hi1 ?_ | refine w_ixP h2' rfl hi2 ?_ | refine w_ldV (B:=[0]) (p:=0) (v:=0) rfl rfl rfl (by decide) rfl ?_ | refine w_stEl (B:=[0]) (p:=0) rfl rfl rfl (by decide) rfl ?_)
      | with_reducible (first | refine zI fun y hy=>?_ | refine zL ?_ | refine zS ?_ | refine zA fun _=>?_ | refine zV ?_ | refine zC ?_ | refine zG ?_ | refine zU ?_ | refine zG0 ?_ | refine zU0 ?_ | refine zF ?_)
      | ((with_reducible refine acall_id ?_);refine ACall.val hdu rfl rfl ?_)
      | ((with_reducible refine acall_id ?_);refine ACall.val (bsf_nil x) rfl rfl ?_)
      | ((with_reducible refine acall_id ?_);refine ACall.liftS (insNil insL_f (x:= .slc 1 (iR x) .non) rfl _) [(1001,58)] (some 1000) rfl rfl rfl ⟨⟨_,rfl⟩,trivial⟩ (fun _=>rfl) ?_;rintro g59 _ rfl)
      | ((with_reducible refine acall_id ?_);refine ACall.liftS (insNil insI_f (x:= .int .i64 0) rfl _) [(1001,62)] (some 1000) rfl rfl rfl ⟨⟨_,rfl⟩,trivial⟩ (fun _=>rfl) ?_;rintro g63 _ rfl)
      | with_reducible (first | refine zX ?_ | refine zD fun _=>?_ | refine zD0 ?_ | refine zN ?_ | refine zF0 ?_ | refine zX0 ?_ | refine z1 ?_ | refine z2 ?_ | refine z3 ?_ | refine z4 ?_ | refine z5 ?_ | refine z6 ?_ | refine z7 ?_ | refine z8 ?_ | refine y1 ?_ | refine y2 ?_ | refine y3 ?_ | refine y4 ?_ | refine y5 ?_ | refine y6 ?_ | refine y7 ?_ | refine y8 ?_ | refine Rt.p (fun _=>?_) fun _=>?_)
      | ((with_reducible apply w_ixM);(focus exact rfl);(focus exact rfl);case' hk=>intro y hy) | ((with_reducible (first | apply w_val | apply q_ends));(focus exact rfl)))
     all_goals first
      | (exfalso;omega)
      | exact q_loop (pre++[c],post,ansI x c.2 [],g59,g63) hgo (by show post.length<post.length+1;omega) ⟨by rw[len_snoc];rfl,rfl,rfl,trivial⟩ ⟨rfl,(by show (g63,Res.row [AV.int .i64 (0+c.2)])=(g63,Res.row [AV.int .i64 c.2]);rw[Int.zero_add]),trivial⟩ (by repeat' (first | exact kept_nil | apply kept_cons | rfl)) (by repeat' (first | exact kept_nil | apply kept_cons | rfl))
   | cons y0 r0=>
     obtain⟨p,hp⟩:∃p,posI x (y0::r0)=p:=⟨_,rfl⟩
     have hpl:=posI_le x (y0::r0)
     have hpi:=posI_iff (x:=x) hsr
     have hold:=@anA_old x c.2 (y0::r0)
     have hnew:=@anA_new x c.2 (y0::r0)
     rw[hp] at hpl hpi hold hnew
     have hAl:(anF (y0::r0)).length=(y0::r0).length:=List.length_map _
     have hVl:(anS (y0::r0)).length=(y0::r0).length:=List.length_map _
     have hbs:=fun g=>bsf_c (anF (y0::r0)) x p g (by rw[hAl];omega) (by rw[hAl];exact hpl) (by omega) (fun l hl=>by
      obtain⟨z,hz,rfl⟩:=List.mem_map.1 hl
      have:=hl20 z hz;omega) (fun q hq=>hpi q (by rwa [hAl] at hq))
     rw[hAl] at hbs
     have hsp:=sumA_mem hps p
     by_cases his:p<(y0::r0).length∧(anF (y0::r0)).getD p []=x
     · obtain⟨o1,o2,o3⟩:=hold his
       rw[decide_eq_true his] at hbs
       have hpv:p<(anS (y0::r0)).length:=by rw[hVl];exact his.1
       repeat' (first
        | with_reducible (first | refine Rd.p ?_ | refine w_alt ?_ ?_ | refine zE ?_ | refine zE0 ?_)
        | (first | refine w_ixP h1' rfl hi1 ?_ | refine w_ixP h2' rfl hi2 ?_ | refine w_ldEl (p:=p) rfl (by omega) rfl hpv ?_ | refine w_stEl (p:=p) rfl (by omega) rfl hpv rfl ?_)
        | with_reducible (first | refine zI fun y hy=>?_ | refine zL ?_ | refine zS ?_ | refine zA fun _=>?_ | refine zV ?_ | refine zC ?_ | refine zG ?_ | refine zU ?_ | refine zG0 ?_ | refine zU0 ?_ | refine zF ?_)
        | ((with_reducible refine acall_id ?_);refine ACall.val hdu rfl rfl ?_)
        | ((with_reducible refine acall_id ?_);(refine ACall.look (s:=59) (hbs _) rfl rfl rfl (fun ρ=>renL_liC ρ _) rfl ?_))
        | with_reducible (first | refine zX ?_ | refine zD fun _=>?_ | refine zD0 ?_ | refine zN ?_ | refine zF0 ?_ | refine zX0 ?_ | refine z1 ?_ | refine z2 ?_ | refine z3 ?_ | refine z4 ?_ | refine z5 ?_ | refine z6 ?_ | refine z7 ?_ | refine z8 ?_ | refine y1 ?_ | refine y2 ?_ | refine y3 ?_ | refine y4 ?_ | refine y5 ?_ | refine y6 ?_ | refine y7 ?_ | refine y8 ?_ | refine Rt.p (fun _=>?_) fun _=>?_)
        | ((with_reducible apply w_ixM);(focus exact rfl);(focus exact rfl);case' hk=>intro y hy) | ((with_reducible (first | apply w_val | apply q_ends));(focus exact rfl)))
       all_goals first
        | (exfalso;omega)
        | exact q_loop (pre++[c],post,ansI x c.2 (y0::r0),ga,gb) hgo (by show post.length<post.length+1;omega) ⟨by rw[len_snoc];rfl,(by show _=ansV _ _ _;rw[ansV_of hne,o3];rfl),(by show _=ansV _ _ _;rw[ansV_of hne,o3];rfl),trivial⟩ ⟨(by show _=ansX _ _;rw[ansX_of hne,o1];rfl),(by show _=ansY _ _;rw[ansY_of hne,o2];rfl),trivial⟩ (by repeat' (first | exact kept_nil | apply kept_cons | rfl)) (by repeat' (first | exact kept_nil | apply kept_cons | rfl))
     · obtain⟨o1,o2,o3⟩:=hnew his
       rw[decide_eq_false his] at hbs
       have hVt:p≤(anS (y0::r0)).length:=by rw[hVl];exact hpl
       have hg0:=getD_new hVt
       have hpv:p<((anS (y0::r0)).take p++0::(anS (y0::r0)).drop p).length:=by
        rw[List.length_append,List.length_take,List.length_cons];omega
       repeat' (first
        | with_reducible (first | refine Rd.p ?_ | refine w_alt ?_ ?_ | refine zE ?_ | refine zE0 ?_)
        | (first | refine w_ixP h1' rfl hi1 ?_ | refine w_ixP h2' rfl hi2 ?_ | refine w_ldV (p:=p) rfl (by omega) rfl hpv hg0 ?_ | refine w_stEl (p:=p) rfl (by omega) rfl hpv rfl ?_)
        | with_reducible (first | refine zI fun y hy=>?_ | refine zL ?_ | refine zS ?_ | refine zA fun _=>?_ | refine zV ?_ | refine zC ?_ | refine zG ?_ | refine zU ?_ | refine zG0 ?_ | refine zU0 ?_ | refine zF ?_)
        | ((with_reducible refine acall_id ?_);refine ACall.val hdu rfl rfl ?_)
        | ((with_reducible refine acall_id ?_);(refine ACall.look (s:=59) (hbs _) rfl rfl rfl (fun ρ=>renL_liC ρ _) rfl ?_))
        | ((with_reducible refine acall_id ?_);(refine ACall.two (s:=59) (t:=58) (insA_c (anF (y0::r0)) x _ _ p (y0::r0).length hAl hpl (by omega)) rfl rfl rfl rfl (fun ρ=>renL_liC ρ _) (fun _=>rfl) (fun ρ=>renL_liC ρ _) ?_;intro g59))
        | ((with_reducible refine acall_id ?_);(refine ACall.two (s:=63) (t:=62) (insV_c (anS (y0::r0)) 0 _ _ p (y0::r0).length hVl hpl (by omega)) rfl rfl rfl rfl (fun ρ=>renL_nI ρ _) (fun _=>rfl) (fun ρ=>renL_nI ρ _) ?_;intro g63))
        | with_reducible (first | refine zX ?_ | refine zD fun _=>?_ | refine zD0 ?_ | refine zN ?_ | refine zF0 ?_ | refine zX0 ?_ | refine z1 ?_ | refine z2 ?_ | refine z3 ?_ | refine z4 ?_ | refine z5 ?_ | refine z6 ?_ | refine z7 ?_ | refine z8 ?_ | refine y1 ?_ | refine y2 ?_ | refine y3 ?_ | refine y4 ?_ | refine y5 ?_ | refine y6 ?_ | refine y7 ?_ | refine y8 ?_ | refine Rt.p (fun _=>?_) fun _=>?_)
        | ((with_reducible apply w_ixM);(focus exact rfl);(focus exact rfl);case' hk=>intro y hy) | ((with_reducible (first | apply w_val | apply q_ends));(focus exact rfl)))
       all_goals first
        | (exfalso;omega)
        | exact q_loop (pre++[c],post,ansI x c.2 (y0::r0),g59,g63) hgo (by show post.length<post.length+1;omega) ⟨by rw[len_snoc];rfl,(by show _=ansV _ _ _;rw[ansV_of hne,o3];rfl),(by show _=ansV _ _ _;rw[ansV_of hne,o3];rfl),trivial⟩ ⟨(by show _=ansX _ _;rw[ansX_of hne,o1];rfl),(by show _=ansY _ _;rw[ansY_of hne,o2];rfl),trivial⟩ (by repeat' (first | exact kept_nil | apply kept_cons | rfl)) (by repeat' (first | exact kept_nil | apply kept_cons | rfl))
def ir28:IFn:=
 ⟨121,[(4,none),(5,none)],(.seq (.ops [oo 2 (.box 2 0),
 oo 4 (.mov (.k .nsl)),
 oo 5 (.mov (kI 0))])
 (.seq (.seq (.ops [oo 20 (.ld 2 true 2),
 oo 21 (.callF 18 [20]),
 oo 6 (.mov 21)])
 (.seq (.ops [oo 22 (.mov 6),
 oo 23 (.bin .neq 22 (kI 0))])
 (.cnd 23
 (.seq (.ops [oo 24 (.mov 6),
 oo 4 (.mov (.k .nsl)),
 oo 5 (.mov 24)])
 .ret)
 .skip)))
 (.seq (.ops [oo 7 (.mov (kI 0))])
 (.seq (.seq (.ops [oo 25 (.flA 1 2),
 oo 26 (.ld 1 false 25),
 oo 27 (.len false 26),
 oo 28 (.mov (kI 0))])
 (.blk 0 (.loop (.seq (.ops [oo 29 (.bin .lss 28 27)])
 (.seq (.cnd 29
 .skip
 (.exit 0))
 (.seq (.blk 1 (.seq (.ops [oo 30 (.ixA 5 26 28),
 oo 31 (.ld 5 true 30),
 oo 9 (.new [(.int .i64 0),(.int .i64 0),(.int .i64 0),(.int .i64 0),(.int .i64 0)]),
 ⟨none,none,(.st 5 9 31)⟩])
 (.seq (.ops [oo 33 (.ld 5 true 9),
 oo 34 (.callF 65 [33]),
 oo 32 (.mov 34),
 oo 35 (.ext 0 32),
 oo 36 (.ext 1 32),
 oo 10 (.mov 35),
 oo 11 (.mov 36)])
 (.ops [oo 37 (.mov 7),
 oo 38 (.mov 10),
 oo 39 (.bin .add 37 38),
 oo 7 (.mov 39)]))))
 (.ops [oo 40 (.bin .add 28 (kI 1)),
 oo 28 (.mov 40)])))))))
 (.seq (.seq (.ops [oo 41 (.mov 1),
 oo 42 (.len false 41),
 oo 43 (.mov 7),
 oo 44 (.bin .neq 42 43)])
 (.cnd 44
 (.seq (.ops [oo 4 (.mov (.k .nsl)),
 oo 5 (.mov (kI 3))])
 .ret)
 .skip))
 (.seq (.ops [oo 12 (.new [(.int .i64 0),(.int .i64 0),(.int .i64 0),(.int .i64 0),(.int .i64 0),(.int .i64 0),(.int .i64 0),(.int .i64 0),(.int .i64 0),(.int .i64 0),(.int .i64 0),(.int .i64 0),(.int .i64 0),(.int .i64 0),(.int .i64 0),(.int .i64 0),(.int .i64 0),(.int .i64 0),(.int .i64 0),(.int .i64 0),(.int .i64 0),(.int .i64 0),(.int .i64 0),(.int .i64 0)])])
 (.seq (.ops [oo 13 (.nil 1 13)])
 (.seq (.seq (.ops [oo 45 (.flA 1 2),
 oo 46 (.ld 1 false 45),
 oo 47 (.len false 46),
 oo 48 (.mov (kI 0))])
 (.blk 2 (.loop (.seq (.ops [oo 49 (.bin .lss 48 47)])
 (.seq (.cnd 49
 .skip
 (.exit 2))
 (.seq (.blk 3 (.seq (.ops [oo 50 (.ixA 5 46 48),
 oo 51 (.ld 5 true 50),
 oo 15 (.new [(.int .i64 0),(.int .i64 0),(.int .i64 0),(.int .i64 0),(.int .i64 0)]),
 ⟨none,none,(.st 5 15 51)⟩])
 (.seq (.ops [oo 52 (.ld 24 true 12),
 oo 53 (.ld 5 true 15),
 oo 54 (.callF 66 [52,53]),
 ⟨none,none,(.st 24 12 54)⟩])
 (.seq (.seq (.ops [oo 55 (.flA 0 15),
 oo 56 (.ld 1 false 55),
 oo 57 (.bin .eql 56 (kI 6))])
 (.cnd 57
 (.ops [oo 58 (.mov 13),
 oo 59 (.flA 3 15),
 oo 60 (.ld 1 false 59),
 oo 61 (.bsl 1 [[(.int .i64 0)]] [(0,60)]),
 oo 62 (.app 1 8 58 61 13),
 oo 13 (.mov 62)])
 .skip))
 (.seq (.ops [oo 64 (.ld 5 true 15),
 oo 65 (.callF 65 [64]),
 oo 63 (.mov 65),
 oo 66 (.ext 0 63),
 oo 67 (.ext 1 63),
 oo 16 (.mov 66),
 oo 17 (.mov 67)])
 (.blk 4 (.loop (.seq (.seq (.ops [oo 68 (.mov 16),
 oo 69 (.bin .gtr 68 (kI 0))])
 (.cnd 69
 .skip
 (.exit 4)))
 (.seq (.blk 5 (.seq (.seq (.ops [oo 72 (.mov 1),
 oo 73 (.ixA 1 72 (kI 0)),
 oo 74 (.ld 1 false 73),
 oo 75 (.ld 24 true 12),
 oo 76 (.flA 1 15),
 oo 77 (.ld 1 false 76),
 oo 78 (.callF 67 [75,77]),
 ⟨none,none,(.chk 1 false 73 74)⟩,
 oo 79 (.bin .sub 78 (kI 1)),
 oo 80 (.callF 50 [74,(kI 0),79]),
 oo 81 (.not 80)])
 (.cnd 81
 (.seq (.ops [oo 4 (.mov (.k .nsl)),
 oo 5 (.mov (kI 2))])
 .ret)
 .skip))
 (.seq (.ops [oo 18 (.mov (kI 0))])
 (.seq (.seq (.ops [oo 82 (.mov 1),
 oo 83 (.ixA 1 82 (kI 0)),
 oo 84 (.ld 1 false 83),
 oo 19 (.mov 84)])
 (.blk 6 (.loop (.seq (.seq (.ops [oo 85 (.mov 19),
 oo 86 (.flA 1 15),
 oo 87 (.ld 1 false 86),
 oo 88 (.mov 18),
 oo 89 (.ixAr 4 6 12 87),
 oo 90 (.ixAr 6 1 89 88),
 oo 91 (.ld 1 false 90),
 oo 92 (.bin .geq 85 91)])
 (.cnd 92
 .skip
 (.exit 6)))
 (.seq (.blk 7 (.ops [oo 95 (.mov 19),
 oo 96 (.flA 1 15),
 oo 97 (.ld 1 false 96),
 oo 98 (.mov 18),
 oo 99 (.ixAr 4 6 12 97),
 oo 100 (.ixAr 6 1 99 98),
 oo 101 (.ld 1 false 100),
 oo 102 (.bin .sub 95 101),
 oo 19 (.mov 102)]))
 (.ops [oo 93 (.mov 18),
 oo 94 (.bin .add 93 (kI 1)),
 oo 18 (.mov 94)]))))))
 (.seq (.ops [oo 103 (.mov 1),
 oo 104 (.slS 1 103 (some (kI 1)) none none),
 oo 1 (.mov 104)])
 (.seq (.ops [oo 105 (.flA 1 15),
 oo 106 (.ld 1 false 105),
 oo 107 (.mov 18),
 oo 108 (.ixAr 4 6 12 106),
 oo 109 (.ixAr 6 1 108 107),
 oo 110 (.ld 1 false 109),
 oo 111 (.bin .sub 110 (kI 1)),
 oo 112 (.ixAr 4 6 12 106),
 oo 113 (.ixAr 6 1 112 107),
 ⟨none,none,(.st 1 113 111)⟩])
 (.seq (.ops [oo 114 (.mov 17)])
 (.cnd 114
 (.ops [oo 115 (.mov 13),
 oo 116 (.mov 18),
 oo 117 (.bsl 1 [[(.int .i64 0)]] [(0,116)]),
 oo 118 (.app 1 8 115 117 13),
 oo 13 (.mov 118)])
 .skip))))))))
 (.ops [oo 70 (.mov 16),
 oo 71 (.bin .sub 70 (kI 1)),
 oo 16 (.mov 71)]))))))))))
 (.ops [oo 119 (.bin .add 48 (kI 1)),
 oo 48 (.mov 119)])))))))
 (.seq (.ops [oo 120 (.mov 13),
 oo 4 (.mov 120),
 oo 5 (.mov (kI 0))])
 .ret)))))))))⟩
def hint28 (P:Program):Hint:={site:=[(62,13),(118,13)],nils:=[(13,1)],frz:=[],mve:=[],wr:=[] }
theorem ACall.bgint {P:Program} {f:Nat} {B:List Int} {a1 a2:AV} {r:Int} {σ:Sig} {d:Nat} {Q:AV→Sig→Prop} (h:Fn0 P f [bgV B,a1] (fun a=>a= .int .i64 r)) (ha:a1=ren [] a2) (hQ:Q (.int .i64 r) σ):ACall P f [bgV B,a2] σ d Q:=
 ACall.val h (by show[bgV B,a1]=[ren [] (bgV B),ren [] a2];rw[ren_bg,ha]) rfl hQ
def plA (r:List Int×Int):AV:=if r.2=0 then .tup [.slc 1 (iR r.1) .non,.int .i64 r.2] else .tup [.nsl,.int .i64 r.2]
section
variable {P:Program} {K:(Nat→AV)→Sig→Prop} {e:Nat→AV} {σ:Sig} {x h:IOpd} {r:List IStep}
theorem w_sl1 {l:List Int} {p:Int} {d:Nat} {t:Tag} (hx:x.ev e= .slc 1 (iR (p::l)) t) (hk:stepsW P r K (upd e d (.slc 1 (iR l) .non)) σ):stepsW P (⟨some d,none,.slS 1 x (some (.k (.int .i64 1))) none none⟩::r) K e σ:=by
 refine w_slM (a:=1) (b:=((p::l).length:Int)) hx rfl rfl ⟨by decide,by rw[List.length_cons];omega,Int.le_refl _⟩ ?_
 have e1:((p::l).drop (1:Int).toNat).take (((p::l).length:Int)-1).toNat=l:=by
  show l.take _=l
  exact List.take_of_length_le (by rw[List.length_cons];omega)
 rw[e1];exact hk
end
theorem drawN_stp (d:Dl):drawN (stp1 d)=if drawsB d=true then d.count.toNat else 0:=by
 unfold stp1
 split
 · rw[drawN_rep]
 · rfl
theorem drawN_le:∀{l:List Dl},(∀d∈l,drawsB d=true→1≤d.count∧d.count≤12)→drawN (stepsG l)≤12*l.length
 | [],_=>Nat.le_refl _
 | d::r,h=>by
   have h1:=drawN_le (l:=r) fun x hx=>h x (by simp[hx])
   show drawN (stp1 d++stepsG r)≤12*(r.length+1)
   rw[drawN_app,drawN_stp]
   split
   · have:=h d (by simp) (by assumption);omega
   · omega
theorem Play_c (G:Gm) (ps:List Int) (hw:G.ws.length<1000) (hd:G.ds.length<1000) (hs:∀w∈G.ws,w.name.size≤1000) (hps:ps.length<1000000):Fn0 Try.prog 28 [gmA G,.slc 1 (iR ps) .non] (fun v=>v=plA (playO G ps)):=by
 have hck:=gCheck_c G hw hd hs
 obtain⟨R,hR⟩:∃R,playO G ps=R:=⟨_,rfl⟩
 rw[hR]
 unfold playO at hR
 by_cases h0:gmErr G=0
 rotate_left
 · rw[if_neg h0] at hR
   subst hR
   unfold plA
   rw[if_neg h0]
   refine RawC.walk (H:=hint28 Try.prog) ir28 Try.func28 rfl rfl rfl ?_
   unfold ir28
   repeat' (first
    | with_reducible (first | refine Rd.p ?_ | refine w_alt ?_ ?_ | refine zE ?_ | refine zE0 ?_)
    | with_reducible (first | refine zI fun y hy=>?_ | refine zL ?_ | refine zS ?_ | refine zA fun _=>?_ | refine zV ?_ | refine zC ?_ | refine zG ?_ | refine zU ?_ | refine zG0 ?_ | refine zU0 ?_ | refine zF ?_)
    | ((with_reducible refine acall_id ?_);refine ACall.val hck rfl rfl ?_)
    | with_reducible (first | refine zX ?_ | refine zD fun _=>?_ | refine zD0 ?_ | refine zN ?_ | refine zF0 ?_ | refine zX0 ?_ | refine z1 ?_ | refine z2 ?_ | refine z3 ?_ | refine z4 ?_ | refine z5 ?_ | refine z6 ?_ | refine z7 ?_ | refine z8 ?_ | refine y1 ?_ | refine y2 ?_ | refine y3 ?_ | refine y4 ?_ | refine y5 ?_ | refine y6 ?_ | refine y7 ?_ | refine y8 ?_ | refine Rt.p (fun _=>?_) fun _=>?_)
    | ((with_reducible apply w_ixM);(focus exact rfl);(focus exact rfl);case' hk=>intro y hy) | ((with_reducible (first | apply w_val | apply q_ends));(focus exact rfl)))
   all_goals first
    | (exfalso;omega)
    | rfl
 rw[if_pos h0] at hR
 rw[h0] at hck
 have hG:=gm_ok h0
 have hd24:=hG.d24
 have hcnt:=hG.cnt
 have hdl:=drawN_le hcnt
 refine RawC.walk (H:=hint28 Try.prog) ir28 Try.func28 rfl rfl rfl ?_
 unfold ir28
 repeat' (first
  | with_reducible (first | refine Rd.p ?_ | refine w_alt ?_ ?_ | refine zE ?_ | refine zE0 ?_)
  | with_reducible (first | refine zI fun y hy=>?_ | refine zL ?_ | refine zS ?_ | refine zA fun _=>?_ | refine zV ?_ | refine zC ?_ | refine zG ?_ | refine zU ?_ | refine zG0 ?_ | refine zU0 ?_ | refine zF ?_)
  | ((with_reducible refine acall_id ?_);refine ACall.val hck rfl rfl ?_)
  | with_reducible (first | refine zX ?_ | refine zD fun _=>?_ | refine zD0 ?_ | refine zN ?_ | refine zF0 ?_ | refine zX0 ?_ | refine z1 ?_ | refine z2 ?_ | refine z3 ?_ | refine z4 ?_ | refine z5 ?_ | refine z6 ?_ | refine z7 ?_ | refine z8 ?_ | refine y1 ?_ | refine y2 ?_ | refine y3 ?_ | refine y4 ?_ | refine y5 ?_ | refine y6 ?_ | refine y7 ?_ | refine y8 ?_ | refine Rt.p (fun _=>?_) fun _=>?_)
  | ((with_reducible apply w_ixM);(focus exact rfl);(focus exact rfl);case' hk=>intro y hy) | ((with_reducible (first | apply w_val | apply q_ends));(focus exact rfl)))
 all_goals try (exfalso;omega)
 refine w_loopK [1,2,26,27] [2] (fun x:List Dl×List Dl=>G.ds=x.1++x.2) (fun x=>x.2.length) (fun x=>[(7,.int .i64 (drawN (stepsG x.1):Nat)),(28,.int .i64 (x.1.length:Int))]) (fun _=>[]) ([],G.ds) rfl ⟨rfl,rfl,trivial⟩ trivial ?_
 rintro⟨pre,post⟩ hl e σ
 dsimp only at hl ⊢
 have hlen:=congrArg List.length hl
 rw[List.length_append] at hlen
 have hdp:=drawN_le (l:=pre) fun d hd=>hcnt d (by rw[hl];simp[hd])
 cases post with
 | cons d post=>
   simp only[List.length_cons] at hlen
   have hdc:=hcnt d (by rw[hl];simp)
   have hdr:=draws_c d
   have hsn:drawN (stepsG (pre++[d]))=drawN (stepsG pre)+(if drawsB d=true then d.count.toNat else 0):=by
    show drawN ((pre++[d]).flatMap stp1)=_
    rw[List.flatMap_append,drawN_app,List.flatMap_cons,List.flatMap_nil,List.append_nil,drawN_stp];rfl
   cases hdb:drawsB d with
   | true=>
     rw[hdb] at hdr hsn
     rw[if_pos rfl] at hdr hsn
     have:=hdc hdb
     repeat' (first
      | with_reducible (first | refine Rd.p ?_ | refine w_alt ?_ ?_ | refine zE ?_ | refine zE0 ?_)
      | (refine w_ixP (f:=fun d:Dl=>[AV.int .i64 d.kind,.int .i64 d.bag,.int .i64 d.other,.int .i64 d.wood,.int .i64 d.count]) hl rfl rfl ?_)
      | with_reducible (first | refine zI fun y hy=>?_ | refine zL ?_ | refine zS ?_ | refine zA fun _=>?_ | refine zV ?_ | refine zC ?_ | refine zG ?_ | refine zU ?_ | refine zG0 ?_ | refine zU0 ?_ | refine zF ?_)
      | ((with_reducible refine acall_id ?_);refine ACall.val hdr rfl rfl ?_)
      | with_reducible (first | refine zX ?_ | refine zD fun _=>?_ | refine zD0 ?_ | refine zN ?_ | refine zF0 ?_ | refine zX0 ?_ | refine z1 ?_ | refine z2 ?_ | refine z3 ?_ | refine z4 ?_ | refine z5 ?_ | refine z6 ?_ | refine z7 ?_ | refine z8 ?_ | refine y1 ?_ | refine y2 ?_ | refine y3 ?_ | refine y4 ?_ | refine y5 ?_ | refine y6 ?_ | refine y7 ?_ | refine y8 ?_ | refine Rt.p (fun _=>?_) fun _=>?_)
      | ((with_reducible apply w_ixM);(focus exact rfl);(focus exact rfl);case' hk=>intro y hy) | ((with_reducible (first | apply w_val | apply q_ends));(focus exact rfl)))
     all_goals first
      | (exfalso;omega)
      | exact q_loop (pre++[d],post) (by show G.ds=_;rw[hl];simp) (Nat.lt_succ_self _) ⟨by show AV.int .i64 _=AV.int .i64 _;rw[hsn];exact int_eq (by omega),by rw[len_snoc];rfl,trivial⟩ (by repeat' (first | exact slots_nil | apply slots_cons | rfl | (rw[map_snoc];rfl) | (rw[len_snoc];rfl) | (rw[hS];rfl) | (rw[hS,map_snoc];rfl) | (refine int_eq ?_;(try dsimp only);omega) | (refine congrArg AV.bool ?_;simp_all;done))) (by repeat' (first | exact kept_nil | apply kept_cons | rfl)) (by repeat' (first | exact kept_nil | apply kept_cons | rfl))
   | false=>
     rw[hdb] at hdr hsn
     rw[if_neg Bool.false_ne_true] at hdr hsn
     repeat' (first
      | with_reducible (first | refine Rd.p ?_ | refine w_alt ?_ ?_ | refine zE ?_ | refine zE0 ?_)
      | (refine w_ixP (f:=fun d:Dl=>[AV.int .i64 d.kind,.int .i64 d.bag,.int .i64 d.other,.int .i64 d.wood,.int .i64 d.count]) hl rfl rfl ?_)
      | with_reducible (first | refine zI fun y hy=>?_ | refine zL ?_ | refine zS ?_ | refine zA fun _=>?_ | refine zV ?_ | refine zC ?_ | refine zG ?_ | refine zU ?_ | refine zG0 ?_ | refine zU0 ?_ | refine zF ?_)
      | ((with_reducible refine acall_id ?_);refine ACall.val hdr rfl rfl ?_)
      | with_reducible (first | refine zX ?_ | refine zD fun _=>?_ | refine zD0 ?_ | refine zN ?_ | refine zF0 ?_ | refine zX0 ?_ | refine z1 ?_ | refine z2 ?_ | refine z3 ?_ | refine z4 ?_ | refine z5 ?_ | refine z6 ?_ | refine z7 ?_ | refine z8 ?_ | refine y1 ?_ | refine y2 ?_ | refine y3 ?_ | refine y4 ?_ | refine y5 ?_ | refine y6 ?_ | refine y7 ?_ | refine y8 ?_ | refine Rt.p (fun _=>?_) fun _=>?_)
      | ((with_reducible apply w_ixM);(focus exact rfl);(focus exact rfl);case' hk=>intro y hy) | ((with_reducible (first | apply w_val | apply q_ends));(focus exact rfl)))
     all_goals first
      | (exfalso;omega)
      | exact q_loop (pre++[d],post) (by show G.ds=_;rw[hl];simp) (Nat.lt_succ_self _) ⟨by show AV.int .i64 _=AV.int .i64 _;rw[hsn];exact int_eq (by omega),by rw[len_snoc];rfl,trivial⟩ (by repeat' (first | exact slots_nil | apply slots_cons | rfl | (rw[map_snoc];rfl) | (rw[len_snoc];rfl) | (rw[hS];rfl) | (rw[hS,map_snoc];rfl) | (refine int_eq ?_;(try dsimp only);omega) | (refine congrArg AV.bool ?_;simp_all;done))) (by repeat' (first | exact kept_nil | apply kept_cons | rfl)) (by repeat' (first | exact kept_nil | apply kept_cons | rfl))
 | nil=>
 simp only[List.length_nil] at hlen
 rw[List.append_nil] at hl
 subst hl
 by_cases hln:ps.length=drawN (stepsG G.ds)
 rotate_left
 · rw[if_neg hln] at hR
   subst hR
   repeat' (first
    | with_reducible (first | refine Rd.p ?_ | refine w_alt ?_ ?_ | refine zE ?_ | refine zE0 ?_)
    | with_reducible (first | refine zI fun y hy=>?_ | refine zL ?_ | refine zS ?_ | refine zA fun _=>?_ | refine zV ?_ | refine zC ?_ | refine zG ?_ | refine zU ?_ | refine zG0 ?_ | refine zU0 ?_ | refine zF ?_)
    | with_reducible (first | refine zX ?_ | refine zD fun _=>?_ | refine zD0 ?_ | refine zN ?_ | refine zF0 ?_ | refine zX0 ?_ | refine z1 ?_ | refine z2 ?_ | refine z3 ?_ | refine z4 ?_ | refine z5 ?_ | refine z6 ?_ | refine z7 ?_ | refine z8 ?_ | refine y1 ?_ | refine y2 ?_ | refine y3 ?_ | refine y4 ?_ | refine y5 ?_ | refine y6 ?_ | refine y7 ?_ | refine y8 ?_ | refine Rt.p (fun _=>?_) fun _=>?_)
    | ((with_reducible apply w_ixM);(focus exact rfl);(focus exact rfl);case' hk=>intro y hy) | ((with_reducible (first | apply w_val | apply q_ends));(focus exact rfl)))
   all_goals first
    | (exfalso;omega)
    | rfl
 rw[if_pos hln] at hR
 repeat' (first
  | with_reducible (first | refine Rd.p ?_ | refine w_alt ?_ ?_ | refine zE ?_ | refine zE0 ?_)
  | with_reducible (first | refine zI fun y hy=>?_ | refine zL ?_ | refine zS ?_ | refine zA fun _=>?_ | refine zV ?_ | refine zC ?_ | refine zG ?_ | refine zU ?_ | refine zG0 ?_ | refine zU0 ?_ | refine zF ?_)
  | with_reducible (first | refine zX ?_ | refine zD fun _=>?_ | refine zD0 ?_ | refine zN ?_ | refine zF0 ?_ | refine zX0 ?_ | refine z1 ?_ | refine z2 ?_ | refine z3 ?_ | refine z4 ?_ | refine z5 ?_ | refine z6 ?_ | refine z7 ?_ | refine z8 ?_ | refine y1 ?_ | refine y2 ?_ | refine y3 ?_ | refine y4 ?_ | refine y5 ?_ | refine y6 ?_ | refine y7 ?_ | refine y8 ?_ | refine Rt.p (fun _=>?_) fun _=>?_)
  | ((with_reducible apply w_ixM);(focus exact rfl);(focus exact rfl);case' hk=>intro y hy) | ((with_reducible (first | apply w_val | apply q_ends));(focus exact rfl)))
 all_goals try (exfalso;omega)
 rename_i g12 g13
 refine w_loopK [12,46,47] [] (fun x:List Dl×List Dl×List Int×List Int×List Int×Nat×List Int×Int=>G.ds=x.1++x.2.1∧playS (stepsG x.2.1) x.2.2.1 x.2.2.2.1 x.2.2.2.2.1=playS (stepsG G.ds) bg0 ps []∧x.2.2.2.1.length=drawN (stepsG x.2.1)∧x.2.2.2.2.1.length≤12*x.1.length∧tbIn x.2.2.2.2.2.2.1 x.2.2.2.2.2.2.2∧runOK G.ws.length (stepsG x.2.1) x.2.2.2.2.2.2.1 x.2.2.2.2.2.2.2∧bgT G.ws.length x.2.2.2.2.2.2.1 x.2.2.1) (fun x=>x.2.1.length)
  (fun x=>[(48,.int .i64 (x.1.length:Int)),(1,.slc 1 (iR x.2.2.2.1) .non),(13,.slc 1 (iR x.2.2.2.2.1) (.own 13 x.2.2.2.2.2.1))]) (fun x=>[(12,(g12,.row (nI x.2.2.1))),(13,(x.2.2.2.2.2.1,.row []))]) ([],G.ds,bg0,ps,[],g13,tb0.bags,tb0.mixed) ⟨rfl,rfl,hln,Nat.le_refl _,tb0_in,hG.ex,bgT0 _⟩ ⟨rfl,rfl,rfl,trivial⟩ ⟨rfl,rfl,trivial⟩ ?_
 rintro⟨pre,post,B,qs,c,gc,b,m⟩ ⟨hl,hpl,hq,hcl,ht,hr,hB⟩ e1 σ1
 dsimp only at hl hpl hq hcl ht hr hB ⊢
 have hlen:=congrArg List.length hl
 rw[List.length_append] at hlen
 have hBl:=hB.l
 have hin:=hB.bgin ht
 have hcl2:(iR c).length=c.length:=List.length_map _
 cases post with
 | nil=>
   simp only[List.length_nil] at hlen
   rw[show playS (stepsG []) B qs c=some c from rfl] at hpl
   rw[←hpl] at hR
   subst hR
   repeat' (first
    | with_reducible (first | refine Rd.p ?_ | refine w_alt ?_ ?_ | refine zE ?_ | refine zE0 ?_)
    | with_reducible (first | refine zI fun y hy=>?_ | refine zL ?_ | refine zS ?_ | refine zA fun _=>?_ | refine zV ?_ | refine zC ?_ | refine zG ?_ | refine zU ?_ | refine zG0 ?_ | refine zU0 ?_ | refine zF ?_)
    | with_reducible (first | refine zX ?_ | refine zD fun _=>?_ | refine zD0 ?_ | refine zN ?_ | refine zF0 ?_ | refine zX0 ?_ | refine z1 ?_ | refine z2 ?_ | refine z3 ?_ | refine z4 ?_ | refine z5 ?_ | refine z6 ?_ | refine z7 ?_ | refine z8 ?_ | refine y1 ?_ | refine y2 ?_ | refine y3 ?_ | refine y4 ?_ | refine y5 ?_ | refine y6 ?_ | refine y7 ?_ | refine y8 ?_ | refine Rt.p (fun _=>?_) fun _=>?_)
    | ((with_reducible apply w_ixM);(focus exact rfl);(focus exact rfl);case' hk=>intro y hy) | ((with_reducible (first | apply w_val | apply q_ends));(focus exact rfl)))
   all_goals first
    | (exfalso;omega)
    | rfl
 | cons d post=>
   simp only[List.length_cons] at hlen
   have hdc:=hcnt d (by rw[hl];simp)
   have hdr:=draws_c d
   have hst:stepsG (d::post)=stp1 d++stepsG post:=rfl
   rw[hst] at hpl hq hr
   cases hdb:drawsB d with
   | false=>
     have e1:stp1 d=[(d,false,decide (d.kind=6))]:=by unfold stp1;rw[hdb];rfl
     rw[hdb] at hdr
     rw[if_neg Bool.false_ne_true,Bool.false_and] at hdr
     rw[e1] at hpl hq hr
     have hx:=hr.1
     have hmix:=mixed_c d B hin (fun h2=>by obtain⟨q1,q2,q3,q4⟩:=hx.h2 rfl h2;have hm2:=ht.m;have hn6:=hG.n6;dsimp only at q1 q2 q3 q4;exact⟨q1,by omega,by omega⟩) (fun h3=>hx.h3 rfl h3)
     have hml:(mixedB d B).length=24:=(hB.mix ht.l hG.n6 hx rfl).l
     have hgo:∀c':List Int,c'=(if d.kind=6 then c++[d.wood] else c)→(G.ds=(pre++[d])++post∧playS (stepsG post) (mixedB d B) qs c'=playS (stepsG G.ds) bg0 ps []∧qs.length=drawN (stepsG post)∧c'.length≤12*(pre++[d]).length∧tbIn (spB (d,false,decide (d.kind=6)) b) (spM (d,false,decide (d.kind=6)) m)∧runOK G.ws.length (stepsG post) (spB (d,false,decide (d.kind=6)) b) (spM (d,false,decide (d.kind=6)) m)∧bgT G.ws.length (spB (d,false,decide (d.kind=6)) b) (mixedB d B)):=fun c' hc'=>by
      refine⟨by rw[hl];simp,?_,?_,?_,(ht.step hx).1,hr.2,hB.mix ht.l hG.n6 hx rfl⟩
      · rw[←hpl,hc']
        show _=playS ((d,false,decide (d.kind=6))::stepsG post) B qs c
        rw[playS_f Bool.false_ne_true]
        by_cases h6:d.kind=6
        · rw[if_pos h6,if_pos (decide_eq_true h6)]
        · rw[if_neg h6,if_neg (by simpa using h6)]
      · rw[hq];rfl
      · rw[len_snoc,hc']
        split
        · rw[len_snoc];omega
        · omega
     by_cases h6:d.kind=6
     · repeat' (first
        | with_reducible (first | refine Rd.p ?_ | refine w_alt ?_ ?_ | refine zE ?_ | refine zE0 ?_)
        | (first | refine w_ixP (f:=fun d:Dl=>[AV.int .i64 d.kind,.int .i64 d.bag,.int .i64 d.other,.int .i64 d.wood,.int .i64 d.count]) hl rfl rfl ?_ | refine w_ldN rfl rfl hBl ?_ | refine w_stN rfl rfl (by rw[List.length_map];exact hBl) rfl hml ?_)
        | with_reducible (first | refine zI fun y hy=>?_ | refine zL ?_ | refine zS ?_ | refine zA fun _=>?_ | refine zV ?_ | refine zC ?_ | refine zG ?_ | refine zU ?_ | refine zG0 ?_ | refine zU0 ?_ | refine zF ?_)
        | ((with_reducible refine acall_id ?_);refine ACall.bgbg hmix rfl ?_)
        | ((with_reducible refine acall_id ?_);refine ACall.val hdr rfl rfl ?_)
        | with_reducible (first | refine zX ?_ | refine zD fun _=>?_ | refine zD0 ?_ | refine zN ?_ | refine zF0 ?_ | refine zX0 ?_ | refine z1 ?_ | refine z2 ?_ | refine z3 ?_ | refine z4 ?_ | refine z5 ?_ | refine z6 ?_ | refine z7 ?_ | refine z8 ?_ | refine y1 ?_ | refine y2 ?_ | refine y3 ?_ | refine y4 ?_ | refine y5 ?_ | refine y6 ?_ | refine y7 ?_ | refine y8 ?_ | refine Rt.p (fun _=>?_) fun _=>?_)
        | ((with_reducible apply w_ixM);(focus exact rfl);(focus exact rfl);case' hk=>intro y hy) | ((with_reducible (first | apply w_val | apply q_ends));(focus exact rfl)))
       all_goals try (exfalso;omega)
       rename_i gc'
       refine w_loopK [1,12,13,15,17,46,47,48] [12,13,15] (fun _:Unit=>True) (fun _=>0) (fun _=>[(16,.int .i64 0)]) (fun _=>[]) () trivial ⟨rfl,trivial⟩ trivial ?_
       rintro⟨⟩ _ e2 σ2
       repeat' (first
        | with_reducible (first | refine Rd.p ?_ | refine w_alt ?_ ?_ | refine zE ?_ | refine zE0 ?_)
        | with_reducible (first | refine zI fun y hy=>?_ | refine zL ?_ | refine zS ?_ | refine zA fun _=>?_ | refine zV ?_ | refine zC ?_ | refine zG ?_ | refine zU ?_ | refine zG0 ?_ | refine zU0 ?_ | refine zF ?_)
        | with_reducible (first | refine zX ?_ | refine zD fun _=>?_ | refine zD0 ?_ | refine zN ?_ | refine zF0 ?_ | refine zX0 ?_ | refine z1 ?_ | refine z2 ?_ | refine z3 ?_ | refine z4 ?_ | refine z5 ?_ | refine z6 ?_ | refine z7 ?_ | refine z8 ?_ | refine y1 ?_ | refine y2 ?_ | refine y3 ?_ | refine y4 ?_ | refine y5 ?_ | refine y6 ?_ | refine y7 ?_ | refine y8 ?_ | refine Rt.p (fun _=>?_) fun _=>?_)
        | ((with_reducible apply w_ixM);(focus exact rfl);(focus exact rfl);case' hk=>intro y hy) | ((with_reducible (first | apply w_val | apply q_ends));(focus exact rfl)))
       all_goals first
        | (exfalso;omega)
        | exact q_loop (pre++[d],post,mixedB d B,qs,c++[d.wood],gc',_,_) (hgo _ (by rw[if_pos h6])) (by show post.length<post.length+1;omega) ⟨by rw[len_snoc];rfl,rfl,rfl,trivial⟩ (by repeat' (first | exact slots_nil | apply slots_cons | rfl | (rw[map_snoc];rfl) | (rw[len_snoc];rfl) | (rw[hS];rfl) | (rw[hS,map_snoc];rfl) | (refine int_eq ?_;(try dsimp only);omega) | (refine congrArg AV.bool ?_;simp_all;done))) (by repeat' (first | exact kept_nil | apply kept_cons | rfl)) (by repeat' (first | exact kept_nil | apply kept_cons | rfl))
     · repeat' (first
        | with_reducible (first | refine Rd.p ?_ | refine w_alt ?_ ?_ | refine zE ?_ | refine zE0 ?_)
        | (first | refine w_ixP (f:=fun d:Dl=>[AV.int .i64 d.kind,.int .i64 d.bag,.int .i64 d.other,.int .i64 d.wood,.int .i64 d.count]) hl rfl rfl ?_ | refine w_ldN rfl rfl hBl ?_ | refine w_stN rfl rfl (by rw[List.length_map];exact hBl) rfl hml ?_)
        | with_reducible (first | refine zI fun y hy=>?_ | refine zL ?_ | refine zS ?_ | refine zA fun _=>?_ | refine zV ?_ | refine zC ?_ | refine zG ?_ | refine zU ?_ | refine zG0 ?_ | refine zU0 ?_ | refine zF ?_)
        | ((with_reducible refine acall_id ?_);refine ACall.bgbg hmix rfl ?_)
        | ((with_reducible refine acall_id ?_);refine ACall.val hdr rfl rfl ?_)
        | with_reducible (first | refine zX ?_ | refine zD fun _=>?_ | refine zD0 ?_ | refine zN ?_ | refine zF0 ?_ | refine zX0 ?_ | refine z1 ?_ | refine z2 ?_ | refine z3 ?_ | refine z4 ?_ | refine z5 ?_ | refine z6 ?_ | refine z7 ?_ | refine z8 ?_ | refine y1 ?_ | refine y2 ?_ | refine y3 ?_ | refine y4 ?_ | refine y5 ?_ | refine y6 ?_ | refine y7 ?_ | refine y8 ?_ | refine Rt.p (fun _=>?_) fun _=>?_)
        | ((with_reducible apply w_ixM);(focus exact rfl);(focus exact rfl);case' hk=>intro y hy) | ((with_reducible (first | apply w_val | apply q_ends));(focus exact rfl)))
       all_goals try (exfalso;omega)
       refine w_loopK [1,12,13,15,17,46,47,48] [12,13,15] (fun _:Unit=>True) (fun _=>0) (fun _=>[(16,.int .i64 0)]) (fun _=>[]) () trivial ⟨rfl,trivial⟩ trivial ?_
       rintro⟨⟩ _ e2 σ2
       repeat' (first
        | with_reducible (first | refine Rd.p ?_ | refine w_alt ?_ ?_ | refine zE ?_ | refine zE0 ?_)
        | with_reducible (first | refine zI fun y hy=>?_ | refine zL ?_ | refine zS ?_ | refine zA fun _=>?_ | refine zV ?_ | refine zC ?_ | refine zG ?_ | refine zU ?_ | refine zG0 ?_ | refine zU0 ?_ | refine zF ?_)
        | with_reducible (first | refine zX ?_ | refine zD fun _=>?_ | refine zD0 ?_ | refine zN ?_ | refine zF0 ?_ | refine zX0 ?_ | refine z1 ?_ | refine z2 ?_ | refine z3 ?_ | refine z4 ?_ | refine z5 ?_ | refine z6 ?_ | refine z7 ?_ | refine z8 ?_ | refine y1 ?_ | refine y2 ?_ | refine y3 ?_ | refine y4 ?_ | refine y5 ?_ | refine y6 ?_ | refine y7 ?_ | refine y8 ?_ | refine Rt.p (fun _=>?_) fun _=>?_)
        | ((with_reducible apply w_ixM);(focus exact rfl);(focus exact rfl);case' hk=>intro y hy) | ((with_reducible (first | apply w_val | apply q_ends));(focus exact rfl)))
       all_goals first
        | (exfalso;omega)
        | exact q_loop (pre++[d],post,mixedB d B,qs,c,gc,_,_) (hgo _ (by rw[if_neg h6])) (by show post.length<post.length+1;omega) ⟨by rw[len_snoc];rfl,rfl,rfl,trivial⟩ (by repeat' (first | exact slots_nil | apply slots_cons | rfl | (rw[map_snoc];rfl) | (rw[len_snoc];rfl) | (rw[hS];rfl) | (rw[hS,map_snoc];rfl) | (refine int_eq ?_;(try dsimp only);omega) | (refine congrArg AV.bool ?_;simp_all;done))) (by repeat' (first | exact kept_nil | apply kept_cons | rfl)) (by repeat' (first | exact kept_nil | apply kept_cons | rfl))
   | true=>
     have hdn:=hdc hdb
     have e1:stp1 d=List.replicate d.count.toNat (d,true,decide (d.kind=5)):=by unfold stp1;rw[hdb];rfl
     rw[hdb] at hdr
     rw[if_pos rfl,Bool.true_and] at hdr
     rw[e1] at hpl hq hr
     have hk45:d.kind=4∨d.kind=5:=by simpa[drawsB] using hdb
     have hmb:mixedB d B=B:=by unfold mixedB;rw[if_neg (by omega),if_neg (by omega)]
     have hmix:=mixed_c d B hin (fun h2=>by omega) (fun h3=>by omega)
     rw[hmb] at hmix
     repeat' (first
      | with_reducible (first | refine Rd.p ?_ | refine w_alt ?_ ?_ | refine zE ?_ | refine zE0 ?_)
      | (first | refine w_ixP (f:=fun d:Dl=>[AV.int .i64 d.kind,.int .i64 d.bag,.int .i64 d.other,.int .i64 d.wood,.int .i64 d.count]) hl rfl rfl ?_ | refine w_ldN rfl rfl hBl ?_ | refine w_stN rfl rfl (by rw[List.length_map];exact hBl) rfl hBl ?_)
      | with_reducible (first | refine zI fun y hy=>?_ | refine zL ?_ | refine zS ?_ | refine zA fun _=>?_ | refine zV ?_ | refine zC ?_ | refine zG ?_ | refine zU ?_ | refine zG0 ?_ | refine zU0 ?_ | refine zF ?_)
      | ((with_reducible refine acall_id ?_);refine ACall.bgbg hmix rfl ?_)
      | ((with_reducible refine acall_id ?_);refine ACall.val hdr rfl rfl ?_)
      | with_reducible (first | refine zX ?_ | refine zD fun _=>?_ | refine zD0 ?_ | refine zN ?_ | refine zF0 ?_ | refine zX0 ?_ | refine z1 ?_ | refine z2 ?_ | refine z3 ?_ | refine z4 ?_ | refine z5 ?_ | refine z6 ?_ | refine z7 ?_ | refine z8 ?_ | refine y1 ?_ | refine y2 ?_ | refine y3 ?_ | refine y4 ?_ | refine y5 ?_ | refine y6 ?_ | refine y7 ?_ | refine y8 ?_ | refine Rt.p (fun _=>?_) fun _=>?_)
      | ((with_reducible apply w_ixM);(focus exact rfl);(focus exact rfl);case' hk=>intro y hy) | ((with_reducible (first | apply w_val | apply q_ends));(focus exact rfl)))
     all_goals try (exfalso;omega)
     refine w_loopK [12,15,17,46,47,48] [15] (fun x:Nat×List Int×List Int×List Int×Nat×List Int×Int=>playS (List.replicate x.1 (d,true,decide (d.kind=5))++stepsG post) x.2.1 x.2.2.1 x.2.2.2.1=playS (stepsG G.ds) bg0 ps []∧x.2.2.1.length=x.1+drawN (stepsG post)∧x.2.2.2.1.length+x.1≤12*(pre.length+1)∧tbIn x.2.2.2.2.2.1 x.2.2.2.2.2.2∧runOK G.ws.length (List.replicate x.1 (d,true,decide (d.kind=5))++stepsG post) x.2.2.2.2.2.1 x.2.2.2.2.2.2∧bgT G.ws.length x.2.2.2.2.2.1 x.2.1) (fun x=>x.1)
      (fun x=>[(1,.slc 1 (iR x.2.2.1) .non),(13,.slc 1 (iR x.2.2.2.1) (.own 13 x.2.2.2.2.1)),(16,.int .i64 (x.1:Int))]) (fun x=>[(12,(g12,.row (nI x.2.1))),(13,(x.2.2.2.2.1,.row []))]) (d.count.toNat,B,qs,c,gc,b,m) ⟨hpl,by rw[hq,drawN_app,drawN_rep],by show c.length+d.count.toNat≤_;omega,ht,hr,hB⟩ ⟨rfl,rfl,int_eq (by show d.count=((d.count.toNat:Nat):Int);omega),trivial⟩ ⟨rfl,rfl,trivial⟩ ?_
     rintro⟨j,B1,qs1,c1,gc1,b1,m1⟩ ⟨ipl,iq,ic,it,ir,iB⟩ e2 σ2
     dsimp only at ipl iq ic it ir iB ⊢
     clear hB hin ht hr hmix hBl hpl hcl2
     have hBl:=iB.l
     have hin:=iB.bgin it
     have hcl2:(iR c1).length=c1.length:=List.length_map _
     cases j with
     | zero=>
       repeat' (first
        | with_reducible (first | refine Rd.p ?_ | refine w_alt ?_ ?_ | refine zE ?_ | refine zE0 ?_)
        | with_reducible (first | refine zI fun y hy=>?_ | refine zL ?_ | refine zS ?_ | refine zA fun _=>?_ | refine zV ?_ | refine zC ?_ | refine zG ?_ | refine zU ?_ | refine zG0 ?_ | refine zU0 ?_ | refine zF ?_)
        | with_reducible (first | refine zX ?_ | refine zD fun _=>?_ | refine zD0 ?_ | refine zN ?_ | refine zF0 ?_ | refine zX0 ?_ | refine z1 ?_ | refine z2 ?_ | refine z3 ?_ | refine z4 ?_ | refine z5 ?_ | refine z6 ?_ | refine z7 ?_ | refine z8 ?_ | refine y1 ?_ | refine y2 ?_ | refine y3 ?_ | refine y4 ?_ | refine y5 ?_ | refine y6 ?_ | refine y7 ?_ | refine y8 ?_ | refine Rt.p (fun _=>?_) fun _=>?_)
        | ((with_reducible apply w_ixM);(focus exact rfl);(focus exact rfl);case' hk=>intro y hy) | ((with_reducible (first | apply w_val | apply q_ends));(focus exact rfl)))
       all_goals try (exfalso;omega)
       all_goals
        exact q_loop (pre++[d],post,B1,qs1,c1,gc1,b1,m1) ⟨by rw[hl];simp,ipl,by rw[Nat.zero_add] at iq;exact iq,by show c1.length≤_;rw[len_snoc];exact ic,it,ir,iB⟩ (by show post.length<post.length+1;omega) ⟨by rw[len_snoc];rfl,rfl,rfl,trivial⟩ (by repeat' (first | exact slots_nil | apply slots_cons | rfl | (rw[map_snoc];rfl) | (rw[len_snoc];rfl) | (rw[hS];rfl) | (rw[hS,map_snoc];rfl) | (refine int_eq ?_;(try dsimp only);omega) | (refine congrArg AV.bool ?_;simp_all;done))) (by repeat' (first | exact kept_nil | apply kept_cons | rfl)) (by repeat' (first | exact kept_nil | apply kept_cons | rfl))
     | succ j=>
       cases qs1 with
       | nil=>exfalso;rw[List.length_nil] at iq;omega
       | cons p qs1=>
       have hx:=ir.1
       obtain⟨hb,ha⟩:=hx.d rfl
       have hsz:=iB.size hb
       have hbs:=bgsize_c B1 hin d.bag hb
       have h12:=it.le hb
       have hsm:=it.sm
       have htm:=it.m
       dsimp only at ha hb hsz h12
       rw[List.replicate_succ,List.cons_append,playS_t rfl] at ipl
       dsimp only at ipl
       have hgi:=gin_c p 0 (bgSize B1 d.bag-1)
       by_cases hp:0≤p∧p<bgSize B1 d.bag
       · rw[if_pos hp] at ipl
         rw[show inB p 0 (bgSize B1 d.bag-1)=true from inB_t.2 (by omega)] at hgi
         repeat' (first
          | with_reducible (first | refine Rd.p ?_ | refine w_alt ?_ ?_ | refine zE ?_ | refine zE0 ?_)
          | (first | refine w_ldN rfl rfl hBl ?_ | refine w_ixP (l:=p::qs1) (pre:=[]) (y:=p) (post:=qs1) rfl rfl rfl ?_)
          | with_reducible (first | refine zI fun y hy=>?_ | refine zL ?_ | refine zS ?_ | refine zA fun _=>?_ | refine zV ?_ | refine zC ?_ | refine zG ?_ | refine zU ?_ | refine zG0 ?_ | refine zU0 ?_ | refine zF ?_)
          | ((with_reducible refine acall_id ?_);refine ACall.bgint hbs rfl ?_)
          | ((with_reducible refine acall_id ?_);refine ACall.val hgi rfl rfl ?_)
          | with_reducible (first | refine zX ?_ | refine zD fun _=>?_ | refine zD0 ?_ | refine zN ?_ | refine zF0 ?_ | refine zX0 ?_ | refine z1 ?_ | refine z2 ?_ | refine z3 ?_ | refine z4 ?_ | refine z5 ?_ | refine z6 ?_ | refine z7 ?_ | refine z8 ?_ | refine y1 ?_ | refine y2 ?_ | refine y3 ?_ | refine y4 ?_ | refine y5 ?_ | refine y6 ?_ | refine y7 ?_ | refine y8 ?_ | refine Rt.p (fun _=>?_) fun _=>?_)
          | ((with_reducible apply w_ixM);(focus exact rfl);(focus exact rfl);case' hk=>intro y hy) | ((with_reducible (first | apply w_val | apply q_ends));(focus exact rfl)))
         all_goals try (exfalso;omega)
         all_goals
          obtain⟨R6,hR6⟩:∃R6,rowB B1 d.bag=R6:=⟨_,rfl⟩
          have hRl:R6.length=6:=by rw[←hR6];exact rowB_len _ _
          have hRn:∀v∈R6,0≤v:=by rw[←hR6];exact rowB_nn iB.nn d.bag
          have hRs:R6.sum=bgSize B1 d.bag:=by rw[←hR6];rfl
          have hpw:pickW B1 d.bag p=(pickF R6 p:Nat):=by unfold pickW;rw[hR6]
          have hRg:∀w,w<6→R6.getD w 0=B1.getD (d.bag.toNat*6+w) 0:=fun w hw=>by rw[←hR6,rowB_get _ _ hw];rfl
          refine w_loopK [1,12,13,15,16,17,46,47,48] [12,13,15] (fun x:Nat×Int=>(0≤x.2∧x.2<(R6.drop x.1).sum)∧x.2≤12∧x.1+pickF (R6.drop x.1) x.2=pickF R6 p∧x.1≤6) (fun x=>6-x.1) (fun x=>[(18,.int .i64 (x.1:Int)),(19,.int .i64 x.2)]) (fun _=>[]) (0,p) ⟨⟨hp.1,by show p<R6.sum;omega⟩,by show p≤12;omega,Nat.zero_add _,Nat.zero_le 6⟩ ⟨rfl,rfl,trivial⟩ trivial ?_
          rintro⟨w,k⟩ ⟨hk,hk12,hpk,hw6⟩ e3 σ3
          dsimp only at hk hk12 hpk hw6 ⊢
          have hw5:w<6:=by
           apply Classical.byContradiction
           intro h
           have:R6.drop w=[]:=List.drop_of_length_le (by omega)
           rw[this] at hk;simp at hk;omega
          have hdw:R6.drop w=R6.getD w 0::R6.drop (w+1):=by
           rw[List.drop_eq_getElem_cons (by omega),List.getD_eq_getElem?_getD,List.getElem?_eq_getElem (by omega)];rfl
          have hRw:=hRg w hw5
          have hin2:=hin.at (d.bag.toNat*6+w)
          have ho:0+d.bag.toNat*6+w*1=d.bag.toNat*6+w:=by omega
          have hpl2:d.bag.toNat*6+w<B1.length:=by omega
          rw[hdw,pickF] at hpk
          rw[hdw,List.sum_cons] at hk
          rw[hRw] at hpk hk
          by_cases hkw:k<B1.getD (d.bag.toNat*6+w) 0
          · rw[if_pos hkw] at hpk
            have hpw2:pickW B1 d.bag p=(w:Int):=by rw[hpw,←hpk];rfl
            rw[hpw2] at ipl
            have hdb2:=drawB_set B1 d.bag w
            rw[Int.toNat_natCast] at hdb2
            have hdl2:(drawB B1 d.bag w).length=24:=drawB_len hBl _ _
            have hB2:=iB.draw it.l hG.n6 hb (w:=(w:Int)) (by omega) (by show 0<B1.getD (d.bag.toNat*6+w) 0;omega)
            have hiq:qs1.length=j+drawN (stepsG post):=by rw[List.length_cons] at iq;omega
            have hts:=(it.step hx).1
            have hrs:=ir.2
            have hbe:spB (d,true,decide (d.kind=5)) b1=setI b1 d.bag (atI b1 d.bag+ -1):=by unfold spB;rw[if_pos rfl]
            rw[←hbe] at hB2
            by_cases h5:d.kind=5
            · rw[if_pos (decide_eq_true h5)] at ipl
              repeat' (first
               | with_reducible (first | refine Rd.p ?_ | refine w_alt ?_ ?_ | refine zE ?_ | refine zE0 ?_)
               | (first | refine w_ldEl rfl ho rfl hpl2 ?_ | refine w_stElC rfl ho rfl hpl2 rfl hdb2 ?_ | refine w_sl1 rfl ?_)
               | with_reducible (first | refine zI fun y hy=>?_ | refine zL ?_ | refine zS ?_ | refine zA fun _=>?_ | refine zV ?_ | refine zC ?_ | refine zG ?_ | refine zU ?_ | refine zG0 ?_ | refine zU0 ?_ | refine zF ?_)
               | with_reducible (first | refine zX ?_ | refine zD fun _=>?_ | refine zD0 ?_ | refine zN ?_ | refine zF0 ?_ | refine zX0 ?_ | refine z1 ?_ | refine z2 ?_ | refine z3 ?_ | refine z4 ?_ | refine z5 ?_ | refine z6 ?_ | refine z7 ?_ | refine z8 ?_ | refine y1 ?_ | refine y2 ?_ | refine y3 ?_ | refine y4 ?_ | refine y5 ?_ | refine y6 ?_ | refine y7 ?_ | refine y8 ?_ | refine Rt.p (fun _=>?_) fun _=>?_)
               | ((with_reducible apply w_ixM);(focus exact rfl);(focus exact rfl);case' hk=>intro y hy) | ((with_reducible (first | apply w_val | apply q_ends));(focus exact rfl)))
              all_goals try (exfalso;omega)
              all_goals
               rename_i gc2
               exact q_loop (j,drawB B1 d.bag w,qs1,c1++[(w:Int)],gc2,_,_) ⟨ipl,hiq,by show (c1++[(w:Int)]).length+j≤_;rw[len_snoc];omega,hts,hrs,hB2⟩ (Nat.lt_succ_self _) ⟨rfl,rfl,int_eq (by simp),trivial⟩ (by repeat' (first | exact slots_nil | apply slots_cons | rfl | (rw[map_snoc];rfl) | (rw[len_snoc];rfl) | (rw[hS];rfl) | (rw[hS,map_snoc];rfl) | (refine int_eq ?_;(try dsimp only);omega) | (refine congrArg AV.bool ?_;simp_all;done))) (by repeat' (first | exact kept_nil | apply kept_cons | rfl)) (by repeat' (first | exact kept_nil | apply kept_cons | rfl))
            · rw[if_neg (by simpa using h5)] at ipl
              repeat' (first
               | with_reducible (first | refine Rd.p ?_ | refine w_alt ?_ ?_ | refine zE ?_ | refine zE0 ?_)
               | (first | refine w_ldEl rfl ho rfl hpl2 ?_ | refine w_stElC rfl ho rfl hpl2 rfl hdb2 ?_ | refine w_sl1 rfl ?_)
               | with_reducible (first | refine zI fun y hy=>?_ | refine zL ?_ | refine zS ?_ | refine zA fun _=>?_ | refine zV ?_ | refine zC ?_ | refine zG ?_ | refine zU ?_ | refine zG0 ?_ | refine zU0 ?_ | refine zF ?_)
               | with_reducible (first | refine zX ?_ | refine zD fun _=>?_ | refine zD0 ?_ | refine zN ?_ | refine zF0 ?_ | refine zX0 ?_ | refine z1 ?_ | refine z2 ?_ | refine z3 ?_ | refine z4 ?_ | refine z5 ?_ | refine z6 ?_ | refine z7 ?_ | refine z8 ?_ | refine y1 ?_ | refine y2 ?_ | refine y3 ?_ | refine y4 ?_ | refine y5 ?_ | refine y6 ?_ | refine y7 ?_ | refine y8 ?_ | refine Rt.p (fun _=>?_) fun _=>?_)
               | ((with_reducible apply w_ixM);(focus exact rfl);(focus exact rfl);case' hk=>intro y hy) | ((with_reducible (first | apply w_val | apply q_ends));(focus exact rfl)))
              all_goals first
               | (exfalso;omega)
               | exact q_loop (j,drawB B1 d.bag w,qs1,c1,gc1,_,_) ⟨ipl,hiq,by show c1.length+j≤_;omega,hts,hrs,hB2⟩ (Nat.lt_succ_self _) ⟨rfl,rfl,int_eq (by simp),trivial⟩ (by repeat' (first | exact slots_nil | apply slots_cons | rfl | (rw[map_snoc];rfl) | (rw[len_snoc];rfl) | (rw[hS];rfl) | (rw[hS,map_snoc];rfl) | (refine int_eq ?_;(try dsimp only);omega) | (refine congrArg AV.bool ?_;simp_all;done))) (by repeat' (first | exact kept_nil | apply kept_cons | rfl)) (by repeat' (first | exact kept_nil | apply kept_cons | rfl))
          · rw[if_neg hkw] at hpk
            repeat' (first
             | with_reducible (first | refine Rd.p ?_ | refine w_alt ?_ ?_ | refine zE ?_ | refine zE0 ?_)
             | (first | refine w_ldEl rfl ho rfl hpl2 ?_)
             | with_reducible (first | refine zI fun y hy=>?_ | refine zL ?_ | refine zS ?_ | refine zA fun _=>?_ | refine zV ?_ | refine zC ?_ | refine zG ?_ | refine zU ?_ | refine zG0 ?_ | refine zU0 ?_ | refine zF ?_)
             | with_reducible (first | refine zX ?_ | refine zD fun _=>?_ | refine zD0 ?_ | refine zN ?_ | refine zF0 ?_ | refine zX0 ?_ | refine z1 ?_ | refine z2 ?_ | refine z3 ?_ | refine z4 ?_ | refine z5 ?_ | refine z6 ?_ | refine z7 ?_ | refine z8 ?_ | refine y1 ?_ | refine y2 ?_ | refine y3 ?_ | refine y4 ?_ | refine y5 ?_ | refine y6 ?_ | refine y7 ?_ | refine y8 ?_ | refine Rt.p (fun _=>?_) fun _=>?_)
             | ((with_reducible apply w_ixM);(focus exact rfl);(focus exact rfl);case' hk=>intro y hy) | ((with_reducible (first | apply w_val | apply q_ends));(focus exact rfl)))
            all_goals first
             | (exfalso;omega)
             | exact q_loop (w+1,k-B1.getD (d.bag.toNat*6+w) 0) ⟨by dsimp only;omega,by dsimp only;omega,by dsimp only;omega,hw5⟩ (by show 6-(w+1)<6-w;omega) ⟨by show AV.int .i64 _=AV.int .i64 _;exact int_eq (by simp),rfl,trivial⟩ (by repeat' (first | exact slots_nil | apply slots_cons | rfl | (rw[map_snoc];rfl) | (rw[len_snoc];rfl) | (rw[hS];rfl) | (rw[hS,map_snoc];rfl) | (refine int_eq ?_;(try dsimp only);omega) | (refine congrArg AV.bool ?_;simp_all;done))) (by repeat' (first | exact kept_nil | apply kept_cons | rfl)) (by repeat' (first | exact kept_nil | apply kept_cons | rfl))
       · rw[if_neg hp] at ipl
         rw[←ipl] at hR
         subst hR
         rw[show inB p 0 (bgSize B1 d.bag-1)=false from inB_f.2 (by omega)] at hgi
         repeat' (first
          | with_reducible (first | refine Rd.p ?_ | refine w_alt ?_ ?_ | refine zE ?_ | refine zE0 ?_)
          | (first | refine w_ldN rfl rfl hBl ?_ | refine w_ixP (l:=p::qs1) (pre:=[]) (y:=p) (post:=qs1) rfl rfl rfl ?_)
          | with_reducible (first | refine zI fun y hy=>?_ | refine zL ?_ | refine zS ?_ | refine zA fun _=>?_ | refine zV ?_ | refine zC ?_ | refine zG ?_ | refine zU ?_ | refine zG0 ?_ | refine zU0 ?_ | refine zF ?_)
          | ((with_reducible refine acall_id ?_);refine ACall.bgint hbs rfl ?_)
          | ((with_reducible refine acall_id ?_);refine ACall.val hgi rfl rfl ?_)
          | with_reducible (first | refine zX ?_ | refine zD fun _=>?_ | refine zD0 ?_ | refine zN ?_ | refine zF0 ?_ | refine zX0 ?_ | refine z1 ?_ | refine z2 ?_ | refine z3 ?_ | refine z4 ?_ | refine z5 ?_ | refine z6 ?_ | refine z7 ?_ | refine z8 ?_ | refine y1 ?_ | refine y2 ?_ | refine y3 ?_ | refine y4 ?_ | refine y5 ?_ | refine y6 ?_ | refine y7 ?_ | refine y8 ?_ | refine Rt.p (fun _=>?_) fun _=>?_)
          | ((with_reducible apply w_ixM);(focus exact rfl);(focus exact rfl);case' hk=>intro y hy) | ((with_reducible (first | apply w_val | apply q_ends));(focus exact rfl)))
         all_goals first
          | (exfalso;omega)
          | rfl
theorem ACall.cnt {P:Program} {f:Nat} {B:List Int} {a0 a0' a1 a1':AV} {r:Int} {σ:Sig} {d:Nat} {Q:AV→Sig→Prop} (h:Fn0 P f [a0,bgV B,a1] (fun a=>a= .int .i64 r)) (ha:a0=ren [] a0') (hb:a1=ren [] a1') (hQ:Q (.int .i64 r) σ):ACall P f [a0',bgV B,a1'] σ d Q:=
 ACall.val h (by show[a0,bgV B,a1]=[ren [] a0',ren [] (bgV B),ren [] a1'];rw[ren_bg,ha,hb]) rfl hQ
def drwN:List Dl→Int
 | []=>0
 | d::r=>(if drawsB d=true then d.count else 0)+drwN r
theorem drwN_snoc (d:Dl):∀l:List Dl,drwN (l++[d])=drwN l+(if drawsB d=true then d.count else 0)
 | []=>by show _+(0:Int)=0+_;omega
 | a::r=>by
   show _+drwN (r++[d])=_+drwN r+_
   rw[drwN_snoc d r];omega
theorem dsErr_snoc {n:Nat} {d:Dl}:∀{l:List Dl} {t:Tb},dsErr n t l=0→dlErr n d (dsTab t l)=0→dsErr n t (l++[d])=0
 | [],t,_,h=>by
   show dsErr n t (d::[])=0
   rw[dsErr,if_pos (show dlErr n d t=0 from h)];rfl
 | a::r,t,h0,h=>by
   rw[dsErr] at h0
   by_cases ha:dlErr n a t=0
   · rw[if_pos ha] at h0
     show dsErr n t (a::(r++[d]))=0
     rw[dsErr,if_pos ha]
     exact dsErr_snoc h0 h
   · rw[if_neg ha] at h0;exact absurd h0 ha
theorem dsTab_snoc {d:Dl}:∀{l:List Dl} {t:Tb},dsTab t (l++[d])=dealT d (dsTab t l)
 | [],_=>rfl
 | _::r,_=>dsTab_snoc (l:=r)
structure mkG (n:Nat) (D:List Dl) (T:Tb) (had:Int):Prop where
 e:dsErr n tb0 D=0
 t:dsTab tb0 D=T
 h:drwN D=had
theorem mkG.nil (n:Nat):mkG n [] tb0 0:=⟨rfl,rfl,rfl⟩
theorem mkG.ok {n:Nat} {D:List Dl} {T:Tb} {had:Int} (h:mkG n D T had):tbOK T:=by
 rw[←h.t];exact deals_tab D tb0 tb0_ok h.e
theorem mkG.snoc {n:Nat} {D:List Dl} {T:Tb} {had:Int} {d:Dl} (h:mkG n D T had) (hk:inB d.kind 1 6=true) (hf:formD d=true) (h0:dealE n d T=0):mkG n (D++[d]) (dealT d T) (had+if drawsB d=true then d.count else 0):=by
 refine⟨dsErr_snoc h.e ?_,?_,?_⟩
 · rw[h.t];unfold dlErr;rw[if_pos hk,if_pos hf];exact h0
 · rw[dsTab_snoc,h.t]
 · rw[drwN_snoc,h.h]
section
variable {n:Nat} {D:List Dl} {T:Tb} {had b o w c:Int} (h:mkG n D T had)
include h
theorem mkG.trial (hw:0≤w∧w<n) (ht:T.tried.getD w.toNat false=false):mkG n (D++[⟨1,0,0,w,0⟩]) {T with tried:=T.tried.set w.toNat true } had:=by
 have:=h.snoc (d:=⟨1,0,0,w,0⟩) rfl rfl (by
  show trialE n _ T=0
  unfold trialE
  rw[if_pos (inB_t.2 (by dsimp only;omega)),if_neg (by dsimp only;rw[ht];decide)])
 have e:had+(if drawsB ⟨1,0,0,w,0⟩=true then (0:Int) else 0)=had:=by show had+0=had;omega
 rw[e] at this;exact this
theorem mkG.mix (hb:0≤b∧b≤3) (hw:0≤w∧w<n) (hc:1≤c∧c≤12) (hm:T.mixed+c≤12):mkG n (D++[⟨2,b,0,w,c⟩]) {T with mixed:=T.mixed+c,bags:=setI T.bags b (atI T.bags b+c) } had:=by
 have:=h.snoc (d:=⟨2,b,0,w,c⟩) rfl rfl (by
  show mixE n _ T=0
  unfold mixE
  rw[if_pos (inB_t.2 (by dsimp only;omega)),if_pos (inB_t.2 (by dsimp only;omega)),if_pos (inB_t.2 (by dsimp only;omega)),if_neg (by dsimp only;omega)])
 have e:had+(if drawsB ⟨2,b,0,w,c⟩=true then c else 0)=had:=by show had+0=had;omega
 rw[e] at this;exact this
theorem mkG.pour (hb:0≤b∧b≤3) (ho:0≤o∧o≤3) (hne:b≠o):mkG n (D++[⟨3,b,o,0,0⟩]) {T with bags:=setI (setI T.bags o (atI T.bags o+atI T.bags b)) b 0 } had:=by
 have:=h.snoc (d:=⟨3,b,o,0,0⟩) rfl rfl (by
  show pourE _=0
  unfold pourE
  rw[if_pos ⟨inB_t.2 (by dsimp only;omega),inB_t.2 (by dsimp only;omega)⟩,if_neg hne])
 have e:had+(if drawsB ⟨3,b,o,0,0⟩=true then (0:Int) else 0)=had:=by show had+0=had;omega
 rw[e] at this;exact this
theorem mkG.asideE (hb:0≤b∧b≤3) (hc:1≤c∧c≤atI T.bags b) {k:Int}:Go.Abs.asideE ⟨k,b,0,0,c⟩ T=0:=by
 have:=h.ok.at (b:=b) (by omega)
 unfold Go.Abs.asideE
 rw[if_pos ⟨inB_t.2 (by dsimp only;omega),inB_t.2 (by dsimp only;omega)⟩,if_neg (by dsimp only;omega)]
theorem mkG.aside (hb:0≤b∧b≤3) (hc:1≤c∧c≤atI T.bags b):mkG n (D++[⟨4,b,0,0,c⟩]) {T with bags:=setI T.bags b (atI T.bags b-c) } (had+c):=
 h.snoc (d:=⟨4,b,0,0,c⟩) rfl rfl (h.asideE hb hc)
theorem mkG.pass (hb:0≤b∧b≤3) (hc:1≤c∧c≤atI T.bags b) (h9:T.cens+c≤9):mkG n (D++[⟨5,b,0,0,c⟩]) {T with bags:=setI T.bags b (atI T.bags b-c),cens:=T.cens+c } (had+c):=
 h.snoc (d:=⟨5,b,0,0,c⟩) rfl rfl (by
  show passE _ T=0
  unfold passE
  rw[if_pos (h.asideE hb hc),if_neg (by dsimp only;omega)])
theorem mkG.place (hw:0≤w∧w<n) (h9:T.cens+1≤9):mkG n (D++[⟨6,0,0,w,0⟩]) {T with cens:=T.cens+1 } had:=by
 have:=h.snoc (d:=⟨6,0,0,w,0⟩) rfl rfl (by
  show placeE n _ T=0
  unfold placeE
  rw[if_pos (inB_t.2 (by dsimp only;omega)),if_neg (by omega)])
 have e:had+(if drawsB ⟨6,0,0,w,0⟩=true then (0:Int) else 0)=had:=by show had+0=had;omega
 rw[e] at this;exact this
end
structure madeO (G:Gm) (woods drawn cens:Int):Prop where
 w:madeW G.ws
 n1:1≤G.ws.length
 n2:(G.ws.length:Int)≤woods
 d:G.ds.length≤24
 e:gmErr G=0
 h:drwN G.ds≤drawn
 c:(dsTab tb0 G.ds).cens≤cens
theorem mkG.made {G:Gm} {T:Tb} {had woods drawn cens:Int} (h:mkG G.ws.length G.ds T had) (hw:madeW G.ws) (n1:1≤G.ws.length) (n2:(G.ws.length:Int)≤woods) (h6:woods≤6) (hd:G.ds.length≤24) (hh:had≤drawn) (hc:1≤T.cens∧T.cens≤cens):madeO G woods drawn cens:=by
 refine⟨hw,n1,n2,hd,?_,by rw[h.h];exact hh,by rw[h.t];exact hc.2⟩
 unfold gmErr
 rw[if_neg (by intro e;rw[e] at n1;simp at n1),if_neg (by omega),if_pos (madeW_ok hw).1,if_neg (by omega),if_pos h.e,h.t,if_neg (by omega)]
structure tbMore (t u:Tb):Prop where
 tr:u.tried=t.tried
 c:u.cens=t.cens
 m:t.mixed≤u.mixed
 bl:t.bags.length=4
 ul:u.bags.length=4
 b:∀i:Int,0≤i∧i≤3→atI t.bags i≤atI u.bags i
theorem tbMore.aside {t u:Tb} (h:tbMore t u) {d:Dl} (h0:asideE d t=0):asideE d u=0:=by
 obtain⟨h1,h2,h3⟩:=aside_0 h0
 have:=h.b d.bag (by have:=inB_t.1 h2;omega)
 unfold asideE
 rw[if_pos ⟨h2,h1⟩,if_neg (by omega)]
theorem atI_setL {b:List Int} (hb:b.length=4) {i j v:Int} (hi:0≤i∧i≤3) (hj:0≤j∧j≤3):atI (setI b i v) j=if j=i then v else atI b j:=atI_set hb hi hj
theorem tbMore.set {t u:Tb} (h:tbMore t u) {i v w:Int} (hi:0≤i∧i≤3) (hv:v≤w):tbMore {t with bags:=setI t.bags i v } {u with bags:=setI u.bags i w }:=by
 refine⟨h.tr,h.c,h.m,setI_len h.bl _ _,setI_len h.ul _ _,fun j hj=>?_⟩
 show atI (setI t.bags i v) j≤atI (setI u.bags i w) j
 rw[atI_setL h.bl hi hj,atI_setL h.ul hi hj]
 split
 · exact hv
 · exact h.b j hj
theorem tbMore.deal {n:Nat} {t u:Tb} (h:tbMore t u) {d:Dl} (hk:inB d.kind 1 6=true) (h0:dealE n d t=0):(dealE n d u=0∧tbMore (dealT d t) (dealT d u))∨dealE n d u=8:=by
 have hk6:=inB_t.1 hk
 unfold dealE at h0 ⊢
 unfold dealT
 rcases (by omega:d.kind=1∨d.kind=2∨d.kind=3∨d.kind=4∨d.kind=5∨d.kind=6) with k | k | k | k | k | k
 · simp only[k,if_true] at h0 ⊢
   left
   refine⟨by rw[←h0];unfold trialE;rw[h.tr],?_⟩
   exact⟨by dsimp only;rw[h.tr],h.c,h.m,h.bl,h.ul,h.b⟩
 · have e:∀{α:Type} {a b:α},(if d.kind=1 then a else b)=b:=fun {α a b}=>if_neg (by omega)
   simp only[e,if_pos k] at h0 ⊢
   obtain⟨h1,h2,h3,h4⟩:=mix_0 h0
   have hb:=inB_t.1 h1
   unfold mixE
   rw[if_pos h1,if_pos h2,if_pos h3]
   by_cases h5:12<u.mixed+d.count
   · rw[if_pos h5];exact .inr rfl
   · rw[if_neg h5]
     refine .inl ⟨rfl,?_⟩
     have hm:=h.b d.bag (by omega)
     have h6:=h.set (i:=d.bag) (v:=atI t.bags d.bag+d.count) (w:=atI u.bags d.bag+d.count) (by omega) (by omega)
     exact⟨h6.tr,h6.c,by have:=h.m;dsimp only;omega,h6.bl,h6.ul,h6.b⟩
 · have e:∀{α:Type} {a b:α},(if d.kind=1 then a else b)=b:=fun {α a b}=>if_neg (by omega)
   have e2:∀{α:Type} {a b:α},(if d.kind=2 then a else b)=b:=fun {α a b}=>if_neg (by omega)
   simp only[e,e2,if_pos k] at h0 ⊢
   obtain⟨⟨h1,h2⟩,h3⟩:=pour_0 h0
   have hb:=inB_t.1 h1
   have ho:=inB_t.1 h2
   refine .inl ⟨h0,?_⟩
   have m1:=h.b d.bag (by omega)
   have m2:=h.b d.other (by omega)
   exact (h.set (i:=d.other) (v:=atI t.bags d.other+atI t.bags d.bag) (w:=atI u.bags d.other+atI u.bags d.bag) (by omega) (by omega)).set (i:=d.bag) (v:=0) (w:=0) (by omega) (Int.le_refl _)
 · have e:∀{α:Type} {a b:α},(if d.kind=1 then a else b)=b:=fun {α a b}=>if_neg (by omega)
   have e2:∀{α:Type} {a b:α},(if d.kind=2 then a else b)=b:=fun {α a b}=>if_neg (by omega)
   have e3:∀{α:Type} {a b:α},(if d.kind=3 then a else b)=b:=fun {α a b}=>if_neg (by omega)
   simp only[e,e2,e3,if_pos k] at h0 ⊢
   obtain⟨h1,h2,h3⟩:=aside_0 h0
   have hb:=inB_t.1 h2
   have m1:=h.b d.bag (by omega)
   exact .inl ⟨h.aside h0,h.set (by omega) (by omega)⟩
 · have e:∀{α:Type} {a b:α},(if d.kind=1 then a else b)=b:=fun {α a b}=>if_neg (by omega)
   have e2:∀{α:Type} {a b:α},(if d.kind=2 then a else b)=b:=fun {α a b}=>if_neg (by omega)
   have e3:∀{α:Type} {a b:α},(if d.kind=3 then a else b)=b:=fun {α a b}=>if_neg (by omega)
   have e4:∀{α:Type} {a b:α},(if d.kind=4 then a else b)=b:=fun {α a b}=>if_neg (by omega)
   simp only[e,e2,e3,e4,if_pos k] at h0 ⊢
   obtain⟨h1,h2,h3⟩:=aside_0 (pass_0 h0)
   have hb:=inB_t.1 h2
   have m1:=h.b d.bag (by omega)
   have h6:=h.set (i:=d.bag) (v:=atI t.bags d.bag-d.count) (w:=atI u.bags d.bag-d.count) (by omega) (by omega)
   refine .inl ⟨?_,h6.tr,by dsimp only;rw[h.c],h6.m,h6.bl,h6.ul,h6.b⟩
   rw[←h0]
   unfold passE
   rw[if_pos (h.aside (pass_0 h0)),if_pos (pass_0 h0),h.c]
 · have e:∀{α:Type} {a b:α},(if d.kind=1 then a else b)=b:=fun {α a b}=>if_neg (by omega)
   have e2:∀{α:Type} {a b:α},(if d.kind=2 then a else b)=b:=fun {α a b}=>if_neg (by omega)
   have e3:∀{α:Type} {a b:α},(if d.kind=3 then a else b)=b:=fun {α a b}=>if_neg (by omega)
   have e4:∀{α:Type} {a b:α},(if d.kind=4 then a else b)=b:=fun {α a b}=>if_neg (by omega)
   have e5:∀{α:Type} {a b:α},(if d.kind=5 then a else b)=b:=fun {α a b}=>if_neg (by omega)
   simp only[e,e2,e3,e4,e5] at h0 ⊢
   refine .inl ⟨by rw[←h0];unfold placeE;rw[h.c],h.tr,by dsimp only;rw[h.c],h.m,h.bl,h.ul,h.b⟩
theorem tbMore.deals {n:Nat}:∀{l:List Dl} {t u:Tb},tbMore t u→dsErr n t l=0→(dsErr n u l=0∧tbMore (dsTab t l) (dsTab u l))∨dsErr n u l=8
 | [],_,_,h,_=> .inl ⟨rfl,h⟩
 | d::r,t,u,h,h0=>by
   obtain⟨h1,h2⟩:=ds_cons h0
   obtain⟨k1,k2,k3⟩:=dl_of h1
   have e:dlErr n d u=dealE n d u:=by unfold dlErr;rw[if_pos k1,if_pos k2]
   rcases h.deal k1 k3 with⟨h3,h4⟩ | h3
   · have:=h4.deals h2
     rw[dsErr,e,h3,if_pos rfl]
     exact this
   · right
     rw[dsErr,e,h3]
     rfl
end Go.Abs
