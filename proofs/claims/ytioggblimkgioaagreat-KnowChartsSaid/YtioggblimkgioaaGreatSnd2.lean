/- A part of the layer of abstract values: the program is read into steps over values, each step is sound, and a walk over the steps is a proof of the program. No condition. -/
import Derived.Test.YtioggblimkgioaaGreatSnd
import Derived.Scope
set_option linter.unusedVariables false
set_option linter.unusedSimpArgs false
namespace Go.Abs
variable {P:Program} {c:Ctx P}
theorem Kok.other{K:Nat→Nat→Option Value}{w w':World}(h:Kok K w)(hk:∀b o v,K b o=some v→w'.heap[b]?=w.heap[b]?):Kok K w':=
 h.keep fun b _ ⟨o,v,hv⟩=>hk b o v hv
theorem Inv.other{G:GS}{σ:Sig}{w w':World}{K':Nat→Nat→Option Value}(h:Inv G σ w)(hle:∀b o v,G.K b o=some v→K' b o=some v)(hk:Kok K' w')(hf:∀b,Foot G σ b→w'.heap[b]?=w.heap[b]?∧K' b=G.K b):Inv ⟨K',G.m⟩ σ w':=by
 have hG:G.le ⟨K',G.m⟩:=⟨hle,fun _ _ _ h=>h⟩;refine⟨hk,fun i c' hi=>?_,h.fresh,h.dist⟩;rcases h.res i c' hi with h7 | ⟨b',e',lim,vs,T'',hR⟩ | ⟨b',hO⟩
 · exact .inl h7
 rotate_left
 · obtain⟨f1,f2⟩:=hf b' ⟨i,_,⟨c',hi⟩,hO.m⟩;exact .inr (.inr ⟨b',hO.keep hG f2 f1⟩)
 · obtain⟨f1,f2⟩:=hf b' ⟨i,_,⟨c',hi⟩,hR.m⟩;refine .inr (.inl ⟨b',e',lim,vs,T'',⟨hR.m,by rw[f1];exact hR.obj,hR.fit,hR.lim,fun o ho=>?_,fun j a hj=>?_⟩⟩)
   · show K' b' o=none
     rw[congrFun f2 o];exact hR.K o ho
   · obtain⟨x,hx,hr⟩:=hR.rel j a hj;exact⟨x,hx,hr.mono hG⟩
theorem Inv.lay{G:GS}{σ:Sig}{w w':World}(h:Inv G σ w)(hk:∀b o v,G.K b o=some v→w'.heap[b]?=w.heap[b]?)(hf:∀b,Foot G σ b→w'.heap[b]?=w.heap[b]?):Inv G σ w':=
 h.other (fun _ _ _ h=>h) (h.kok.other hk) fun b hb=>⟨hf b hb,rfl⟩
theorem Kok.cells{K:Nat→Nat→Option Value}{w:World}(h:Kok K w){b o:Nat}{v:Value}(hk:K b o=some v):∃o,w.heap[b]?=some o∧Obj.plain o=true:=by
 rcases h.see _ _ _ hk with⟨vs,T,m,h1,_⟩ | ⟨_,ks,vs,h1,_⟩
 · exact⟨_,h1,rfl⟩
 · exact⟨_,h1,rfl⟩
theorem chunk_length{sz:Nat}:∀(n:Nat) (c:List AV),(chunk sz n c).length=n
 | 0,_=>rfl
 | n+1,c=>by simp[chunk,chunk_length n]
theorem chunk_flat{sz:Nat}:∀(n:Nat) (c:List AV),n*sz=c.length→(chunk sz n c).flatten=c
 | 0,c,h=>by simp at h;simp[chunk,List.eq_nil_of_length_eq_zero h.symm]
 | n+1,c,h=>by rw[Nat.add_mul,Nat.one_mul] at h;simp only[chunk,List.flatten_cons];rw[chunk_flat n _ (by rw[List.length_drop];omega),List.take_append_drop]
theorem chunk_row{sz:Nat}:∀(n:Nat) (c:List AV),n*sz=c.length→ ∀r∈chunk sz n c,r.length=sz
 | 0,c,h,r,hr=>by simp[chunk] at hr
 | n+1,c,h,r,hr=>by
   rw[Nat.add_mul,Nat.one_mul] at h;simp only[chunk,List.mem_cons] at hr;rcases hr with rfl | hr
   · rw[List.length_take];omega
   · exact chunk_row n _ (by rw[List.length_drop];omega) r hr
mutual
theorem frzA_rel{G G':GS}{i g b lim:Nat}{c:List AV}(hle:G.le G')(hm:G.m i g=some (b,0,lim))(hc:∀j a,c[j]?=some a→ ∃v,G'.K b j=some v∧v.oneCell'=true∧Rel G' a v):∀{a:AV} {v:Value},Rel G a v→Rel G' (frzA i g c a) v
 | .junk,_,h=>h
 | .int _ _,_,h=>h
 | .bool _,_,h=>h
 | .str _,_,h=>h
 | .nsl,_,h=>h
 | .npt,_,h=>h
 | .nfn,_,h=>h
 | .nif,_,h=>h
 | .nmp,_,h=>h
 | .slc sz es tg,v,h=>Rel.mono hle (a:= .slc sz es tg) h
 | .msl i' g' n sz,v,h=>by
   simp only[frzA];split
   · rename_i hig;obtain⟨rfl,rfl,hn⟩:=hig;obtain⟨b',cap,rfl,h2,hm'⟩:=h;rw[hm] at hm';cases hm';have hn':n*sz=(normL c).length:=by rw[hn];simp[normL]
     refine .inr ⟨b,0,cap,by rw[chunk_length],by rw[chunk_length];exact h2,rows_of_flat (chunk_row n _ hn') fun q a hq=>?_,trivial⟩;rw[chunk_flat n _ hn'] at hq;rw[normL,List.getElem?_map,Option.map_eq_some_iff] at hq;obtain⟨y,hy,rfl⟩:=hq;obtain⟨v,hv,h0,hr⟩:=hc q y hy;exact⟨v,by rw[Nat.zero_add];exact hv,h0,hr.norm⟩
   · exact Rel.mono hle (a:= .msl i' g' n sz) h
 | .pin cs,v,h=>Rel.mono hle (a:= .pin cs) h
 | .ref i' g' off,v,h=>by
   simp only[frzA];split
   · rename_i hig;obtain⟨rfl,rfl,hoff⟩:=hig;obtain⟨b',lim',rfl,hm'⟩:=h;rw[hm] at hm';cases hm';refine⟨b,off,rfl,.of_get fun j a hj=>?_⟩;rw[List.getElem?_drop,normL,List.getElem?_map,Option.map_eq_some_iff] at hj;obtain⟨y,hy,rfl⟩:=hj;obtain⟨v,hv,h0,hr⟩:=hc (off+j) y hy;exact⟨v,hv,h0,hr.norm⟩
   · exact Rel.mono hle (a:= .ref i' g' off) h
 | .agg cs,v,h=>by obtain⟨vs,h1,h2⟩:=h;exact⟨vs,h1,frzL_rel hle hm hc h2⟩
 | .tup cs,v,h=>by obtain⟨vs,h1,h2⟩:=h;exact⟨vs,h1,frzL_rel hle hm hc h2⟩
 | .clo fn a1 b1,v,h=>by obtain⟨f,cc,h1,h2,h3⟩:=h;exact⟨f,cc,h1,frzL_rel hle hm hc h2,frzL_rel hle hm hc h3⟩
 | .ifc t x,v,h=>Rel.mono hle (a:= .ifc t x) h
 | .map a1 b1,v,h=>Rel.mono hle (a:= .map a1 b1) h
 | .fmp a1 b1,v,h=>Rel.mono hle (a:= .fmp a1 b1) h
 | .itr a1 b1,v,h=>Rel.mono hle (a:= .itr a1 b1) h
 | .sub a1 a2 a3 a4 a5,v,h=>Rel.mono hle (a:= .sub a1 a2 a3 a4 a5) h
 | .mpv _ _,_,h=>h.elim
 | .itv _ _ _,_,h=>h.elim
theorem frzL_rel{G G':GS}{i g b lim:Nat}{c:List AV}(hle:G.le G')(hm:G.m i g=some (b,0,lim))(hc:∀j a,c[j]?=some a→ ∃v,G'.K b j=some v∧v.oneCell'=true∧Rel G' a v):∀{l:List AV} {vs:List Value},RelL G l vs→RelL G' (frzL i g c l) vs
 | [],_,h=>h
 | a::l,_,h=>by obtain⟨v,r,h1,h2,h3⟩:=h;exact⟨v,r,h1,frzA_rel hle hm hc h2,frzL_rel hle hm hc h3⟩
end
theorem frzL_len{i g:Nat}{c:List AV}:∀l:List AV,(frzL i g c l).length=l.length
 | []=>rfl
 | a::l=>by simp[frzL,frzL_len l]
theorem frzL_get{i g:Nat}{c:List AV}:∀{l:List AV} {j:Nat} {x:AV},(frzL i g c l)[j]?=some x→ ∃a,l[j]?=some a∧x=frzA i g c a
 | a::l,0,x,h=>by simp[frzL] at h;exact⟨a,rfl,h.symm⟩
 | a::l,j+1,x,h=>by simp[frzL] at h;obtain⟨y,h1,h2⟩:=frzL_get h;exact⟨y,by simpa using h1,h2⟩
theorem ObjRel.frz{G:GS}{i g:Nat}{cc c:List AV}{o:Obj}(h:ObjRel G c o):ObjRel G (frzL i g cc c) o:=by
 have h':=h;unfold ObjRel at h;split at h
 · exact h'
 · exact h'
 · exact h.elim
theorem frz_core{G:GS}{e:Nat→AV}{σ:Sig}{a:Act}{w:World}{K:(Nat→AV)→Sig→Prop}(hS:St c G e σ a w){i g b lim:Nat}{cc:List AV}(hm:G.m i g=some (b,0,lim))(hσ:σ i=(g,.row cc))(hsc:cc.all AV.scal=true)(hk:K (frzE i g cc e) (frzS i g cc σ)):∃G' e' σ',K e' σ'∧St c G' e' σ' a w:=by
 have hlive:live σ i:=⟨cc,by rw[hσ]⟩;rcases hS.inv.res i cc (by rw[hσ]) with⟨_,hn⟩ | ⟨b',e0,lim',vals,T,hR⟩ | ⟨b',hO⟩
 · rw[hσ] at hn;simp only at hn;rw[hm] at hn;cases hn
 rotate_left
 · have hm':=hO.m;rw[hσ] at hm';simp only at hm';rw[hm] at hm';cases hm'
 rw[hσ] at hR;have hmm:=hR.m;simp only at hmm;rw[hm] at hmm;cases hmm;have hfb:Foot G σ b:=⟨i,_,hlive,by rw[hσ];exact hm⟩
 let G':GS:=⟨fun b' o=>if b'=b∧o<cc.length then vals[o]? else G.K b' o,G.m⟩
 have hleK:∀b' o v,G.K b' o=some v→G'.K b' o=some v:=by
  intro b' o v hv;show (if _ then _ else _)=_
  rw[if_neg]
  · exact hv
  · rintro⟨rfl,_⟩;rw[hR.K o (by omega)] at hv;cases hv
 have hle:G.le G':=⟨hleK,fun _ _ _ h=>h⟩;have hcell:∀j a,cc[j]?=some a→ ∃v,G'.K b j=some v∧v.oneCell'=true∧Rel G' a v:=by
  intro j a hj;obtain⟨v,hv,hr⟩:=hR.rel j a hj;refine⟨v,?_,scal_one hr (by rw[List.all_eq_true] at hsc;exact hsc _ (List.mem_of_getElem? hj)),hr.mono hle⟩;show (if _ then _ else _)=_
  rw[if_pos ⟨rfl,(List.getElem?_eq_some_iff.1 hj).1⟩];simpa using hv
 have hkok:Kok G'.K w:=by
  refine⟨fun b' o v hv=>?_⟩;have hv':(if b'=b∧o<cc.length then vals[o]? else G.K b' o)=some v:=hv;split at hv'
  · rename_i hb;obtain⟨rfl,ho⟩:=hb;refine .inl ⟨vals,T,(0,0),hR.obj,hv',?_⟩;obtain⟨v',hv2,hr⟩:=hR.rel o cc[o] (List.getElem?_eq_getElem ho);rw[Nat.zero_add] at hv2;rw[hv2] at hv';cases hv';exact scal_one hr (by rw[List.all_eq_true] at hsc;exact hsc _ (List.getElem_mem ho))
  · exact hS.inv.kok.see _ _ _ hv'
 have hs0:∀j,j≠i→frzS i g cc σ j=((σ j).1,frzR i g cc (σ j).2):=fun j hj=>by simp[frzS,hj]
 have hsi:frzS i g cc σ i=(g,.dead):=by simp[frzS,hσ]
 have hlv:∀j,live (frzS i g cc σ) j→j≠i∧live σ j:=by
  rintro j ⟨c',hc'⟩;have hj:j≠i:=by rintro rfl;rw[hsi] at hc';cases hc'
  rw[hs0 j hj] at hc';refine⟨hj,?_⟩;cases hsj:(σ j).2 with
  | row l=>exact⟨l,hsj⟩
  | dead=>rw[hsj] at hc';cases hc'
  | yld l s=>rw[hsj] at hc';cases hc'
 have hinv:Inv G' (frzS i g cc σ) w:=by
  refine⟨hkok,fun j c' hj=>?_,hS.inv.fresh,fun j k b' p q hjk hj hk hp hq=>?_⟩
  · obtain⟨hji,c0,hc0⟩:=hlv j ⟨c',hj⟩;rw[hs0 j hji] at hj ⊢;rw[hc0] at hj;simp only[frzR] at hj;cases hj;rcases hS.inv.res j c0 hc0 with⟨h1,h2⟩ | ⟨b',e',lim',vs,T',hR'⟩ | ⟨b',hO⟩
    · subst h1;exact .inl ⟨rfl,h2⟩
    rotate_left
    · have hne:b'≠b:=by rintro rfl;exact hS.inv.dist j i b' _ _ hji ⟨c0,hc0⟩ hlive hO.m (by rw[hσ];exact hm)
      have hO':ObjOK G' w j (σ j).1 c0 b':=hO.keep hle (by
       funext o
       show (if _ then _ else _)=_
       rw[if_neg (fun h=>hne h.1)])  rfl
      exact .inr (.inr ⟨b',hO'.m,hO'.K,by obtain⟨o,h1,h2⟩:=hO'.obj;exact⟨o,h1,h2.frz⟩⟩)
    · have hne:b'≠b:=by rintro rfl;exact hS.inv.dist j i b' _ _ hji ⟨c0,hc0⟩ hlive hR'.m (by rw[hσ];exact hm)
      refine .inr (.inl ⟨b',e',lim',vs,T',⟨hR'.m,hR'.obj,by rw[frzL_len];exact hR'.fit,hR'.lim,fun o ho=>?_,fun q y hq=>?_⟩⟩)
      · show (if _ then _ else _)=_
        rw[if_neg (fun h=>hne h.1)];exact hR'.K o ho
      · obtain⟨y',hy,rfl⟩:=frzL_get hq;obtain⟨v,hv,hr⟩:=hR'.rel q y' hy;exact⟨v,hv,frzA_rel hle hm hcell hr⟩
  · obtain⟨hji,lj⟩:=hlv j hj;obtain⟨hki,lk⟩:=hlv k hk;rw[hs0 j hji] at hp;rw[hs0 k hki] at hq;exact hS.inv.dist j k b' p q hjk lj lk hp hq
 have hfoot:∀b',Foot G' (frzS i g cc σ) b'→Foot G σ b':=by rintro b' ⟨j,y,hj,hm'⟩;obtain⟨hji,lj⟩:=hlv j hj;rw[hs0 j hji] at hm';exact⟨j,y,lj,hm'⟩
 have hstep:StepOK G σ w G' (frzS i g cc σ) w:=by
  refine⟨hle,hinv,⟨rfl,rfl,rfl,Nat.le_refl _,fun _ _ _=>rfl,hle.K,fun b' _ hn=>?_⟩,fun b' hb=> .inl (hfoot b' hb)⟩
  funext o
  show (if _ then _ else _)=_
  rw[if_neg];rintro⟨rfl,_⟩;exact hn hfb
 have hys:YSame σ (frzS i g cc σ):=by
  by_cases hy:YS=i
  · refine .inr ⟨fun l s=>by rw[hy,hσ];simp,fun l s=>by rw[hy,hsi];simp⟩
  · cases hsy:(σ YS).2 with
    | yld l s=>exact .inl (by rw[hs0 YS hy,hsy];simp only[frzR];rw[←hsy])
    | dead=>exact .inr ⟨fun l s=>(by rw[hsy];simp),fun l s=>by rw[hs0 YS hy,hsy];simp[frzR]⟩
    | row c'=>exact .inr ⟨fun l s=>(by rw[hsy];simp),fun l s=>by rw[hs0 YS hy,hsy];simp[frzR]⟩
 have hSt:=hS.stepY hstep hys;exact⟨G',_,_,hk,{hSt with env:=fun t=>frzA_rel hle hm hcell (hS.env t) }⟩
mutual
theorem frzM_rel{G G':GS}{i g b:Nat}{aks avs:List AV}{ks vs:List Value}(hle:G.le G')(hm:G.m i g=some (b,1,0))(hk:G'.K b 0=some (encM ks vs))(h1:RelL (GS.pure G'.K) aks ks)(h2:RelL (GS.pure G'.K) avs vs):∀{a:AV} {v:Value},Rel G a v→Rel G' (frzM i g aks avs a) v
 | .junk,_,h=>h
 | .int _ _,_,h=>h
 | .bool _,_,h=>h
 | .str _,_,h=>h
 | .nsl,_,h=>h
 | .npt,_,h=>h
 | .nfn,_,h=>h
 | .nif,_,h=>h
 | .nmp,_,h=>h
 | .slc sz es tg,v,h=>Rel.mono hle (a:= .slc sz es tg) h
 | .msl i' g' n sz,v,h=>Rel.mono hle (a:= .msl i' g' n sz) h
 | .pin cs,v,h=>Rel.mono hle (a:= .pin cs) h
 | .ref i' g' off,v,h=>Rel.mono hle (a:= .ref i' g' off) h
 | .agg cs,v,h=>by obtain⟨us,k1,k2⟩:=h;exact⟨us,k1,frzML_rel hle hm hk h1 h2 k2⟩
 | .tup cs,v,h=>by obtain⟨us,k1,k2⟩:=h;exact⟨us,k1,frzML_rel hle hm hk h1 h2 k2⟩
 | .clo fn a1 b1,v,h=>by obtain⟨f,cc,k1,k2,k3⟩:=h;exact⟨f,cc,k1,frzML_rel hle hm hk h1 h2 k2,frzML_rel hle hm hk h1 h2 k3⟩
 | .ifc t x,v,h=>Rel.mono hle (a:= .ifc t x) h
 | .map i' g',v,h=>by
   simp only[frzM];split
   · rename_i hig;obtain⟨rfl,rfl⟩:=hig;obtain⟨b',rfl,hm'⟩:=h;rw[hm] at hm';cases hm';exact⟨b,ks,vs,rfl,hk,h1,h2⟩
   · exact Rel.mono hle (a:= .map i' g') h
 | .fmp a1 b1,v,h=>Rel.mono hle (a:= .fmp a1 b1) h
 | .itr a1 b1,v,h=>Rel.mono hle (a:= .itr a1 b1) h
 | .sub a1 a2 a3 a4 a5,v,h=>Rel.mono hle (a:= .sub a1 a2 a3 a4 a5) h
 | .mpv _ _,_,h=>h.elim
 | .itv _ _ _,_,h=>h.elim
theorem frzML_rel{G G':GS}{i g b:Nat}{aks avs:List AV}{ks vs:List Value}(hle:G.le G')(hm:G.m i g=some (b,1,0))(hk:G'.K b 0=some (encM ks vs))(h1:RelL (GS.pure G'.K) aks ks)(h2:RelL (GS.pure G'.K) avs vs):∀{l:List AV} {us:List Value},RelL G l us→RelL G' (frzML i g aks avs l) us
 | [],_,h=>h
 | a::l,_,h=>by obtain⟨v,r,k1,k2,k3⟩:=h;exact⟨v,r,k1,frzM_rel hle hm hk h1 h2 k2,frzML_rel hle hm hk h1 h2 k3⟩
end
theorem frzML_len{i g:Nat}{ks vs:List AV}:∀l:List AV,(frzML i g ks vs l).length=l.length
 | []=>rfl
 | a::l=>by simp[frzML,frzML_len l]
theorem frzML_get{i g:Nat}{ks vs:List AV}:∀{l:List AV} {j:Nat} {x:AV},(frzML i g ks vs l)[j]?=some x→ ∃a,l[j]?=some a∧x=frzM i g ks vs a
 | a::l,0,x,h=>by simp[frzML] at h;exact⟨a,rfl,h.symm⟩
 | a::l,j+1,x,h=>by simp[frzML] at h;obtain⟨y,h1,h2⟩:=frzML_get h;exact⟨y,by simpa using h1,h2⟩
theorem ObjRel.frzM{G:GS}{i g:Nat}{ks vs c:List AV}{o:Obj}(h:ObjRel G c o):ObjRel G (frzML i g ks vs c) o:=by
 have h':=h;unfold ObjRel at h;split at h
 · exact h'
 · exact h'
 · exact h.elim
theorem frzM_core{G:GS}{e:Nat→AV}{σ:Sig}{a:Act}{w:World}{K:(Nat→AV)→Sig→Prop}(hS:St c G e σ a w){i g b:Nat}{aks avs:List AV}(hm:G.m i g=some (b,1,0))(hσ:σ i=(g,.row [.mpv aks avs]))(hk:K (frzME i g aks avs e) (frzMS i g aks avs σ)):∃G' e' σ',K e' σ'∧St c G' e' σ' a w:=by
 have hlive:live σ i:=⟨_,by rw[hσ]⟩;have hO:=obj_of hS.inv hσ hm (by simp);obtain⟨o,hobj,ks,vs,rfl,r1,r2,hl⟩:=hO.obj;have hfb:Foot G σ b:=⟨i,_,hlive,by rw[hσ];exact hm⟩
 let G':GS:=⟨fun b' o=>if b'=b∧o=0 then some (encM ks vs) else G.K b' o,G.m⟩
 have hleK:∀b' o v,G.K b' o=some v→G'.K b' o=some v:=by
  intro b' o v hv;show (if _ then _ else _)=_
  rw[if_neg]
  · exact hv
  · rintro⟨rfl,_⟩;rw[hO.K o] at hv;cases hv
 have hle:G.le G':=⟨hleK,fun _ _ _ h=>h⟩;have hKb:G'.K b 0=some (encM ks vs):=by
  show (if _ then _ else _)=_
  rw[if_pos ⟨rfl,rfl⟩]
 have hr1:RelL (GS.pure G'.K) aks ks:=RelL.mono (GS.pure_mono hle) r1;have hr2:RelL (GS.pure G'.K) avs vs:=RelL.mono (GS.pure_mono hle) r2;have hkok:Kok G'.K w:=by
  refine⟨fun b' o v hv=>?_⟩;have hv':(if b'=b∧o=0 then some (encM ks vs) else G.K b' o)=some v:=hv;split at hv'
  · rename_i hb;obtain⟨rfl,rfl⟩:=hb;cases hv';exact .inr ⟨rfl,ks,vs,hobj,hl,rfl⟩
  · exact hS.inv.kok.see _ _ _ hv'
 have hs0:∀j,j≠i→frzMS i g aks avs σ j=((σ j).1,frzMR i g aks avs (σ j).2):=fun j hj=>by simp[frzMS,hj]
 have hsi:frzMS i g aks avs σ i=(g,.dead):=by simp[frzMS,hσ]
 have hlv:∀j,live (frzMS i g aks avs σ) j→j≠i∧live σ j:=by
  rintro j ⟨c',hc'⟩;have hj:j≠i:=by rintro rfl;rw[hsi] at hc';cases hc'
  rw[hs0 j hj] at hc';refine⟨hj,?_⟩;cases hsj:(σ j).2 with
  | row l=>exact⟨l,hsj⟩
  | dead=>rw[hsj] at hc';cases hc'
  | yld l s=>rw[hsj] at hc';cases hc'
 have hinv:Inv G' (frzMS i g aks avs σ) w:=by
  refine⟨hkok,fun j c' hj=>?_,hS.inv.fresh,fun j k b' p q hjk hj hk hp hq=>?_⟩
  · obtain⟨hji,c0,hc0⟩:=hlv j ⟨c',hj⟩;rw[hs0 j hji] at hj ⊢;rw[hc0] at hj;simp only[frzMR] at hj;cases hj;rcases hS.inv.res j c0 hc0 with⟨h1,h2⟩ | ⟨b',e',lim',vs',T',hR'⟩ | ⟨b',hO'⟩
    · subst h1;exact .inl ⟨rfl,h2⟩
    · have hne:b'≠b:=by rintro rfl;exact hS.inv.dist j i b' _ _ hji ⟨c0,hc0⟩ hlive hR'.m (by rw[hσ];exact hm)
      refine .inr (.inl ⟨b',e',lim',vs',T',⟨hR'.m,hR'.obj,by rw[frzML_len];exact hR'.fit,hR'.lim,fun o ho=>?_,fun q y hq=>?_⟩⟩)
      · show (if _ then _ else _)=_
        rw[if_neg (fun h=>hne h.1)];exact hR'.K o ho
      · obtain⟨y',hy,rfl⟩:=frzML_get hq;obtain⟨v,hv,hr⟩:=hR'.rel q y' hy;exact⟨v,hv,frzM_rel hle hm hKb hr1 hr2 hr⟩
    · have hne:b'≠b:=by rintro rfl;exact hS.inv.dist j i b' _ _ hji ⟨c0,hc0⟩ hlive hO'.m (by rw[hσ];exact hm)
      have hO2:ObjOK G' w j (σ j).1 c0 b':=hO'.keep hle (by
       funext o
       show (if _ then _ else _)=_
       rw[if_neg (fun h=>hne h.1)])  rfl
      exact .inr (.inr ⟨b',hO2.m,hO2.K,by obtain⟨o,h1,h2⟩:=hO2.obj;exact⟨o,h1,h2.frzM⟩⟩)
  · obtain⟨hji,lj⟩:=hlv j hj;obtain⟨hki,lk⟩:=hlv k hk;rw[hs0 j hji] at hp;rw[hs0 k hki] at hq;exact hS.inv.dist j k b' p q hjk lj lk hp hq
 have hfoot:∀b',Foot G' (frzMS i g aks avs σ) b'→Foot G σ b':=by rintro b' ⟨j,y,hj,hm'⟩;obtain⟨hji,lj⟩:=hlv j hj;rw[hs0 j hji] at hm';exact⟨j,y,lj,hm'⟩
 have hstep:StepOK G σ w G' (frzMS i g aks avs σ) w:=by
  refine⟨hle,hinv,⟨rfl,rfl,rfl,Nat.le_refl _,fun _ _ _=>rfl,hle.K,fun b' _ hn=>?_⟩,fun b' hb=> .inl (hfoot b' hb)⟩
  funext o
  show (if _ then _ else _)=_
  rw[if_neg];rintro⟨rfl,_⟩;exact hn hfb
 have hys:YSame σ (frzMS i g aks avs σ):=by
  by_cases hy:YS=i
  · refine .inr ⟨fun l s=>by rw[hy,hσ];simp,fun l s=>by rw[hy,hsi];simp⟩
  · cases hsy:(σ YS).2 with
    | yld l s=>exact .inl (by rw[hs0 YS hy,hsy];simp only[frzMR];rw[←hsy])
    | dead=>exact .inr ⟨fun l s=>(by rw[hsy];simp),fun l s=>by rw[hs0 YS hy,hsy];simp[frzMR]⟩
    | row c'=>exact .inr ⟨fun l s=>(by rw[hsy];simp),fun l s=>by rw[hs0 YS hy,hsy];simp[frzMR]⟩
 have hSt:=hS.stepY hstep hys;exact⟨G',_,_,hk,{hSt with env:=fun t=>frzM_rel hle hm hKb hr1 hr2 (hS.env t) }⟩
theorem frz_sound{x:AV}{G:GS}{e:Nat→AV}{σ:Sig}{a:Act}{w:World}{K:(Nat→AV)→Sig→Prop}{v:Value}(hS:St c G e σ a w)(hx:Rel G x v)(h:frzW x e σ K):∃G' e' σ',K e' σ'∧St c G' e' σ' a w:=by
 unfold frzW at h;split at h
 · rename_i i g off;split at h
   · rename_i g' cc hσ;obtain⟨rfl,hsc,hk⟩:=h;obtain⟨b,lim,rfl,hm⟩:=hx;exact frz_core hS hm hσ hsc hk
   · exact h.elim
 · rename_i i g n sz;split at h
   · rename_i g' cc hσ;obtain⟨rfl,hsc,hk⟩:=h;obtain⟨b,lim,rfl,_,hm⟩:=hx;exact frz_core hS hm hσ hsc hk
   · exact h.elim
 · rename_i i g;split at h
   · rename_i g' ks vs hσ;obtain⟨rfl,hk⟩:=h;obtain⟨b,rfl,hm⟩:=hx;exact frzM_core hS hm hσ hk
   · exact h.elim
 · exact⟨_,_,_,h,hS⟩
 · exact⟨_,_,_,h,hS⟩
 · exact⟨_,_,_,h,hS⟩
 · exact h.elim
mutual
theorem mvA_rel{G G':GS}{i g j h:Nat}(hle:G.le G')(hm:∀x,G.m i g=some x→G'.m j h=some x):∀{a:AV} {v:Value},Rel G a v→Rel G' (mvA i g j h a) v
 | .junk,_,hh=>hh
 | .int _ _,_,hh=>hh
 | .bool _,_,hh=>hh
 | .str _,_,hh=>hh
 | .nsl,_,hh=>hh
 | .npt,_,hh=>hh
 | .nfn,_,hh=>hh
 | .nif,_,hh=>hh
 | .nmp,_,hh=>hh
 | .slc sz es tg,v,hh=>Rel.mono hle (a:= .slc sz es tg) hh
 | .msl i' g' n sz,v,hh=>by
   simp only[mvA];split
   · rename_i hig;obtain⟨rfl,rfl⟩:=hig;obtain⟨b,cap,rfl,h2,h3⟩:=hh;exact⟨b,cap,rfl,h2,hm _ h3⟩
   · exact Rel.mono hle (a:= .msl i' g' n sz) hh
 | .pin cs,v,hh=>Rel.mono hle (a:= .pin cs) hh
 | .ref i' g' off,v,hh=>by
   simp only[mvA];split
   · rename_i hig;obtain⟨rfl,rfl⟩:=hig;obtain⟨b,lim,rfl,h3⟩:=hh;exact⟨b,lim,rfl,hm _ h3⟩
   · exact Rel.mono hle (a:= .ref i' g' off) hh
 | .agg cs,v,hh=>by obtain⟨vs,h1,h2⟩:=hh;exact⟨vs,h1,mvL_rel hle hm h2⟩
 | .tup cs,v,hh=>by obtain⟨vs,h1,h2⟩:=hh;exact⟨vs,h1,mvL_rel hle hm h2⟩
 | .clo fn a1 b1,v,hh=>by obtain⟨f,cc,h1,h2,h3⟩:=hh;exact⟨f,cc,h1,mvL_rel hle hm h2,mvL_rel hle hm h3⟩
 | .ifc t x,v,hh=>Rel.mono hle (a:= .ifc t x) hh
 | .map a1 b1,v,hh=>Rel.mono hle (a:= .map a1 b1) hh
 | .fmp a1 b1,v,hh=>Rel.mono hle (a:= .fmp a1 b1) hh
 | .itr a1 b1,v,hh=>Rel.mono hle (a:= .itr a1 b1) hh
 | .sub a1 a2 a3 a4 a5,v,hh=>Rel.mono hle (a:= .sub a1 a2 a3 a4 a5) hh
 | .mpv _ _,_,hh=>hh.elim
 | .itv _ _ _,_,hh=>hh.elim
theorem mvL_rel{G G':GS}{i g j h:Nat}(hle:G.le G')(hm:∀x,G.m i g=some x→G'.m j h=some x):∀{l:List AV} {vs:List Value},RelL G l vs→RelL G' (mvL i g j h l) vs
 | [],_,hh=>hh
 | a::l,_,hh=>by obtain⟨v,r,h1,h2,h3⟩:=hh;exact⟨v,r,h1,mvA_rel hle hm h2,mvL_rel hle hm h3⟩
end
theorem mvL_len{i g j h:Nat}:∀l:List AV,(mvL i g j h l).length=l.length
 | []=>rfl
 | a::l=>by simp[mvL,mvL_len l]
theorem mvL_get{i g j h:Nat}:∀{l:List AV} {q:Nat} {x:AV},(mvL i g j h l)[q]?=some x→ ∃a,l[q]?=some a∧x=mvA i g j h a
 | a::l,0,x,hh=>by simp[mvL] at hh;exact⟨a,rfl,hh.symm⟩
 | a::l,q+1,x,hh=>by simp[mvL] at hh;obtain⟨y,h1,h2⟩:=mvL_get hh;exact⟨y,by simpa using h1,h2⟩
theorem ObjRel.mv{G:GS}{i g j h:Nat}{c:List AV}{o:Obj}(hh:ObjRel G c o):ObjRel G (mvL i g j h c) o:=by
 have h':=hh;unfold ObjRel at hh;split at hh
 · exact h'
 · exact h'
 · exact hh.elim
theorem mv_core{G:GS}{e:Nat→AV}{σ:Sig}{a:Act}{w:World}{K:(Nat→AV)→Sig→Prop}(hS:St c G e σ a w){i g b lim j:Nat}{cc:List AV}(hm:G.m i g=some (b,0,lim))(hσ:σ i=(g,.row cc))(hjy:j≠YS)(hji:j≠i)(hk:∀h,K (mvE i g j h e) (mvS i g j h σ)):∃G' e' σ',K e' σ'∧St c G' e' σ' a w:=by
 have hlive:live σ i:=⟨cc,by rw[hσ]⟩;rcases hS.inv.res i cc (by rw[hσ]) with⟨_,hn⟩ | ⟨b',e0,lim',vals,T,hR⟩ | ⟨b',hO⟩
 · rw[hσ] at hn;simp only at hn;rw[hm] at hn;cases hn
 rotate_left
 · have hm':=hO.m;rw[hσ] at hm';simp only at hm';rw[hm] at hm';cases hm'
 rw[hσ] at hR;have hmm:=hR.m;simp only at hmm;rw[hm] at hmm;cases hmm;obtain⟨h,hfr⟩:=hS.inv.fresh j;have hfr0:=hfr h (Nat.le_refl _)
 let G':GS:=⟨G.K,fun k q=>if k=j∧q=h then some (b,0,lim) else G.m k q⟩
 have hle:G.le G':=⟨fun _ _ _ h=>h,fun k q x hx=>by
  show (if _ then _ else _)=_
  rw[if_neg]
  · exact hx
  · rintro⟨rfl,rfl⟩;rw[hfr0] at hx;cases hx⟩
 have hmj:G'.m j h=some (b,0,lim):=by
  show (if _ then _ else _)=_
  rw[if_pos ⟨rfl,rfl⟩]
 have hmk:∀k q,k≠j→G'.m k q=G.m k q:=fun k q hk=>by
  show (if _ then _ else _)=_
  rw[if_neg (fun h=>hk h.1)]
 have hmove:∀x,G.m i g=some x→G'.m j h=some x:=fun x hx=>by rw[hm] at hx;rw[hmj];exact hx
 have hsj:mvS i g j h σ j=(h,.row (mvL i g j h cc)):=by simp[mvS,hσ,mvR]
 have hsi:mvS i g j h σ i=(g,.dead):=by simp[mvS,hσ,Ne.symm hji]
 have hs0:∀k,k≠j→k≠i→mvS i g j h σ k=((σ k).1,mvR i g j h (σ k).2):=fun k h1 h2=>by simp[mvS,h1,h2]
 have hlv:∀k,live (mvS i g j h σ) k→k=j∨(k≠j∧k≠i∧live σ k):=by
  rintro k ⟨c',hc'⟩;by_cases h1:k=j
  · exact .inl h1
  · have h2:k≠i:=by rintro rfl;rw[hsi] at hc';cases hc'
    refine .inr ⟨h1,h2,?_⟩;rw[hs0 k h1 h2] at hc';cases hsk:(σ k).2 with
    | row l=>exact⟨l,hsk⟩
    | dead=>rw[hsk] at hc';cases hc'
    | yld l s=>rw[hsk] at hc';cases hc'
 have hinv:Inv G' (mvS i g j h σ) w:=by
  refine⟨hS.inv.kok,fun k c' hk=>?_,fun k=>?_,fun k l b' p q hkl hk hl hp hq=>?_⟩
  · rcases hlv k ⟨c',hk⟩ with rfl | ⟨h1,h2,c0,hc0⟩
    · rw[hsj] at hk ⊢;cases hk;refine .inr (.inl ⟨b,0,lim,vals,T,⟨hmj,hR.obj,by rw[mvL_len];exact hR.fit,hR.lim,hR.K,fun q y hq=>?_⟩⟩);obtain⟨y',hy,rfl⟩:=mvL_get hq;obtain⟨v,hv,hr⟩:=hR.rel q y' hy;exact⟨v,hv,mvA_rel hle hmove hr⟩
    · rw[hs0 k h1 h2] at hk ⊢;rw[hc0] at hk;simp only[mvR] at hk;cases hk;rcases hS.inv.res k c0 hc0 with⟨x1,x2⟩ | ⟨b',e',lim',vs,T',hR'⟩ | ⟨b',hO⟩
      · subst x1;exact .inl ⟨rfl,by rw[hmk k _ h1];exact x2⟩
      · refine .inr (.inl ⟨b',e',lim',vs,T',⟨by rw[hmk k _ h1];exact hR'.m,hR'.obj,by rw[mvL_len];exact hR'.fit,hR'.lim,hR'.K,fun q y hq=>?_⟩⟩);obtain⟨y',hy,rfl⟩:=mvL_get hq;obtain⟨v,hv,hr⟩:=hR'.rel q y' hy;exact⟨v,hv,mvA_rel hle hmove hr⟩
      · have hO':ObjOK G' w k (σ k).1 c0 b':=hO.keep hle rfl rfl;exact .inr (.inr ⟨b',hO'.m,hO'.K,by obtain⟨o,h1,h2⟩:=hO'.obj;exact⟨o,h1,h2.mv⟩⟩)
  · obtain⟨N,hN⟩:=hS.inv.fresh k;refine⟨max N (h+1),fun q hq=>?_⟩;show (if _ then _ else _)=_
    rw[if_neg (by rintro⟨_,rfl⟩;omega)];exact hN q (by omega)
  · rcases hlv k hk with rfl | ⟨k1,k2,lk⟩
    · rcases hlv l hl with rfl | ⟨l1,l2,ll⟩
      · exact hkl rfl
      · rw[hsj] at hp;rw[hmj] at hp;cases hp;rw[hs0 l l1 l2,hmk l _ l1] at hq;exact hS.inv.dist i l b _ _ (Ne.symm l2) hlive ll (by rw[hσ];exact hm) hq
    · rcases hlv l hl with rfl | ⟨l1,l2,ll⟩
      · rw[hsj] at hq;rw[hmj] at hq;cases hq;rw[hs0 k k1 k2,hmk k _ k1] at hp;exact hS.inv.dist k i b _ _ k2 lk hlive hp (by rw[hσ];exact hm)
      · rw[hs0 l l1 l2,hmk l _ l1] at hq;rw[hs0 k k1 k2,hmk k _ k1] at hp;exact hS.inv.dist k l b' _ _ hkl lk ll hp hq
 have hfoot:∀b',Foot G' (mvS i g j h σ) b'→Foot G σ b':=by
  rintro b' ⟨k,y,hk,hm'⟩;rcases hlv k hk with rfl | ⟨k1,k2,lk⟩
  · rw[hsj] at hm';rw[hmj] at hm';cases hm';exact⟨i,_,hlive,by rw[hσ];exact hm⟩
  · rw[hs0 k k1 k2,hmk k _ k1] at hm';exact⟨k,y,lk,hm'⟩
 have hstep:StepOK G σ w G' (mvS i g j h σ) w:=
  ⟨hle,hinv,⟨rfl,rfl,rfl,Nat.le_refl _,fun _ _ _=>rfl,hle.K,fun b' _ hn=>rfl⟩,fun b' hb=> .inl (hfoot b' hb)⟩
 have hys:YSame σ (mvS i g j h σ):=by
  by_cases hy:YS=i
  · refine .inr ⟨fun l s=>by rw[hy,hσ];simp,fun l s=>by rw[hy,hsi];simp⟩
  · cases hsy:(σ YS).2 with
    | yld l s=>exact .inl (by rw[hs0 YS (Ne.symm hjy) hy,hsy];simp only[mvR];rw[←hsy])
    | dead=>exact .inr ⟨fun l s=>(by rw[hsy];simp),fun l s=>by rw[hs0 YS (Ne.symm hjy) hy,hsy];simp[mvR]⟩
    | row c'=>exact .inr ⟨fun l s=>(by rw[hsy];simp),fun l s=>by rw[hs0 YS (Ne.symm hjy) hy,hsy];simp[mvR]⟩
 have hSt:=hS.stepY hstep hys;exact⟨G',_,_,hk h,{hSt with env:=fun t=>mvA_rel hle hmove (hS.env t) }⟩
theorem mve_sound{x:AV}{G:GS}{e:Nat→AV}{σ:Sig}{a:Act}{w:World}{K:(Nat→AV)→Sig→Prop}{v:Value}(hS:St c G e σ a w)(hx:Rel G x v)(h:mveW x e σ K):∃G' e' σ',K e' σ'∧St c G' e' σ' a w:=by
 unfold mveW at h;split at h
 · rename_i i g n sz;split at h
   · rename_i g' cc hσ;obtain⟨rfl,j,h1,h2,hk⟩:=h;obtain⟨b,lim,rfl,_,hm⟩:=hx;exact mv_core hS hm hσ h1 h2 hk
   · exact h.elim
 · exact h.elim
end Go.Abs
namespace Go.Abs
variable {P:Program} {c:Ctx P}
theorem Ext.weak{F F':Nat→Prop}{K K':Nat→Nat→Option Value}{w w':World}(h:Ext F K w K' w')(hF:∀b,b<w.heap.size→F b→F' b):Ext F' K w K' w':=
 ⟨h.os,h.tape,h.output,h.size,fun b hb hn=>h.block b hb fun hf=>hn (hF b hb hf),h.le,fun b hb hn=>h.Kb b hb fun hf=>hn (hF b hb hf)⟩
theorem Ext.put(K:Nat→Nat→Option Value)(w:World)(l:Nat)(o:Obj):Ext (fun b=>b=l) K w K (w.putObj l o):=
 ⟨rfl,rfl,rfl,by simp,fun b _ hn=>World.putObj_heap_other hn,fun _ _ _ h=>h,fun _ _ _=>rfl⟩
theorem Ext.alloc(F:Nat→Prop)(K:Nat→Nat→Option Value)(w:World)(o:Obj):Ext F K w K (w.alloc o):=
 ⟨rfl,rfl,rfl,by show w.heap.size≤(w.heap.push _).size;simp,fun b hb _=>alloc_old _ _ hb,fun _ _ _ h=>h,fun _ _ _=>rfl⟩
theorem Kok.put{K:Nat→Nat→Option Value}{w:World}(h:Kok K w){l:Nat}{r:Loop}(hl:w.heap[l]?=some (.loop r))(o:Obj):Kok K (w.putObj l o):=
 h.other fun b _ v hv=>World.putObj_heap_other (by rintro rfl;obtain⟨_,hc,hpl⟩:=h.cells hv;rw[hl] at hc;cases hc;cases hpl)
theorem Inv.put{G:GS}{σ:Sig}{w:World}(h:Inv G σ w){l:Nat}{r:Loop}(hl:w.heap[l]?=some (.loop r))(o:Obj):Inv G σ (w.putObj l o):=
 h.other (fun _ _ _ h=>h) (h.kok.put hl o) fun b hb=>⟨World.putObj_heap_other (by rintro rfl;obtain⟨_,hc,hpl⟩:=Foot.cells h hb;rw[hl] at hc;cases hc;cases hpl),rfl⟩
theorem YI.put{Y:Option (YC P)}{T:Nat→Prop}{σ:Sig}{K:Nat→Nat→Option Value}{w:World}(h:YI Y T σ K w)(hk:Kok K w){l:Nat}{r:Loop}(hl:w.heap[l]?=some (.loop r))(o:Obj)(hT:¬T l):YI Y T σ K (w.putObj l o):=by
 unfold YI at*;cases Y with
 | none=>exact h
 | some y=> obtain⟨s,h1,h2⟩:=h;exact⟨s,h1,y.stab _ _ _ _ _ _ h2 (hk.put hl o) ((Ext.put K w l o).weak fun b _ hb=>by subst hb;exact hT)⟩
theorem setE_rel{G:GS}:∀{ps:List Nat} {x:List AV} {vals:List Value} {e:Nat→AV} {tmps:Array Value},x.length=ps.length→RelL G x vals→(∀t,Rel G (e t) (tmps.getD t undef))→(∀p∈ps,p<tmps.size)→
  (∀t,Rel G (setE e ps x t) (((ps.zip vals).foldl (fun tmps (ta:Nat×Value)=>tmps.setIfInBounds ta.1 ta.2) tmps).getD t undef))∧((ps.zip vals).foldl (fun tmps (ta:Nat×Value)=>tmps.setIfInBounds ta.1 ta.2) tmps).size=tmps.size
 | [],x,vals,e,tmps,hl,hr,he,_=>by have:x=[]:=List.eq_nil_of_length_eq_zero hl;subst this;exact⟨he,rfl⟩
 | p::ps,a::x,vals,e,tmps,hl,hr,he,hp=>by
   obtain⟨v,r,rfl,h1,h2⟩:=hr;simp only[List.zip_cons_cons,List.foldl_cons,setE];have:=setE_rel (ps:=ps) (x:=x) (vals:=r) (e:=upd e p a) (tmps:=tmps.setIfInBounds p v) (by simpa using hl) h2 (fun t=>by
    rw[upd_eq];by_cases ht:t=p
    · subst ht;rw[if_pos rfl];simp only[Array.getD_eq_getD_getElem?,Array.getElem?_setIfInBounds_self];rw[if_pos (hp t (by simp))];exact h1
    · rw[if_neg ht];simp only[Array.getD_eq_getD_getElem?,Array.getElem?_setIfInBounds_ne (Ne.symm ht)];have:=he t
      rwa [Array.getD_eq_getD_getElem?] at this) (fun q hq=>by simp;exact hp q (by simp[hq]))
   exact⟨this.1,by rw[this.2];simp⟩
 | p::ps,[],_,_,_,hl,_,_,_=>by simp at hl
def CS(P:Program)(n:Nat)(rd:Bool)(code:Code)(ir:IR):Prop:=
 ∀(c:Ctx P) (Q:Post) (G:GS) (e:Nat→AV) (σ:Sig) (a:Act) (w:World),c.n=n→(c.r.isSome=true→rd=true)→awp P ir Q e σ→St c G e σ a w→code.wpIn (FW c.r) 0 P (PostW c Q) a w
theorem rf_sound{f:Operand}{y:IOpd}{ps:Array Tmp}{A B:Code}{ia ib:IR}{Q:Post}{G:GS}{e:Nat→AV}{σ:Sig}{a:Act}{w:World}(hr:c.r=none)(hy:cOpd f=some y)(hA:CS P c.n true A ia)(hB:CS P c.n true B ib)(hps:∀p∈ps.toList,p<c.n)(h:awp P (.rf y ps.toList ia ib) Q e σ)(hS:St c G e σ a w):(Code.rangeFunc f ps A B).wpIn (FW c.r) 0 P (PostW c Q) a w:=by
 obtain⟨g,lb,xs,I,hf,hIt,hlen,hI0,hround,hend⟩:=h;have hρ:=orel_act hS.env;have hfv:=hρ _ _ hy;rw[hf] at hfv;obtain⟨fa,ca,hfe,h1,h2⟩:=hfv;have hfa:fa= #[]:=Array.toList_inj.1 h1;subst hfa;obtain⟨T,hYI,hdis,hTs,marks,hdef,hnd,hmk⟩:=hS.terr;refine wpIn_rangeFunc fun fn _=>?_;obtain⟨l,hl⟩:∃l,l=w.heap.size+1:=⟨_,rfl⟩;obtain⟨rec',hrec⟩:∃rec':LoopState→Option Code→Loop,rec'=fun s p=>{state:=s,pending:=p,fn,tmps:=a.tmps,params:=ps,assign:=A,body:=B,defers:=w.heap.size }:=⟨_,rfl⟩;obtain⟨w1,hw1⟩:∃w1,(w.alloc (.deferred (some []))).alloc (.loop (rec' .ready none))=w1:=⟨_,rfl⟩;have hw0:c.w0.heap.size≤w.heap.size:=hS.ext.size;have hsz:w1.heap.size=w.heap.size+2:=by rw[←hw1];show ((w.heap.push _).push _).size=_;simp
 have hold:∀b,b<w.heap.size→w1.heap[b]?=w.heap[b]?:=fun b hb=>by rw[←hw1,alloc_old _ _ (by show b<(w.heap.push _).size;simp;omega),alloc_old _ _ hb]
 have hL1:w1.heap[l]?=some (.loop (rec' .ready none)):=by
  rw[←hw1,hl];have:=alloc_new (w.alloc (.deferred (some []))) (.loop (rec' .ready none))
  rwa [show (w.alloc (.deferred (some []))).heap.size=w.heap.size+1 by show (w.heap.push _).size=_;simp] at this
 have hB1:w1.heap[w.heap.size]?=some (.deferred (some [])):=by rw[←hw1,alloc_old _ _ (by show w.heap.size<(w.heap.push _).size;simp)];exact alloc_new _ _
 have hext1:Ext (fun _=>False) G.K w G.K w1:=by rw[←hw1];exact (Ext.alloc _ _ _ _).trans (Ext.alloc _ _ _ _) fun _ _ h=>h
 obtain⟨a',ha'⟩:∃a':Act,a'={a with defers:=[markD w.heap.size]++a.defers }:=⟨_,rfl⟩;have hinv1:Inv G σ w1:=hS.inv.lay (fun b o v hv=>hold b (hS.inv.kok.lt hv)) fun b hb=>hold b (hS.inv.lt hb);have hmarks1:∀r∈w.heap.size::marks,w1.heap[r]?=some (.deferred (some []))∧c.w0.heap.size≤r∧ ¬T r:=by
  intro r hr;rcases List.mem_cons.1 hr with rfl | hr
  · exact⟨hB1,hw0,fun hT=>by have:=hYI.lt hT;omega⟩
  · obtain⟨k1,k2,k3⟩:=hmk r hr;exact⟨by rw[hold r (Array.getElem?_eq_some_iff.1 k1).1];exact k1,k2,k3⟩
 have hYI1:YI c.Y T σ G.K w1:=by
  unfold YI at hYI ⊢
  revert hYI
  cases c.Y with
  | none=>exact id
  | some yc=>rintro⟨s,k1,k2⟩;exact⟨s,k1,yc.stab _ _ _ _ _ _ k2 hinv1.kok (hext1.weak fun _ _ h=>h.elim)⟩
 have hStC1:StC c G e σ a' w1:=by have:=hS.toStC.call (T:=T) (X:=fun _=>False) hTs (fun _ h=>h.elim) hinv1 (.refl G) (hext1.weak fun _ _ h=>h.elim) (fun b hb=> .inl hb);rw[ha'];exact⟨this.env,this.size,this.le,this.inv,this.ext,this.own⟩
 let Jst:Option (List (List AV))→Sig→World→Prop:=fun s σ' w'=>match s with
  | some rest=>w'.heap[l]?=some (.loop (rec' .ready none))∧I rest σ'∧ ∃pre,xs=pre++rest
  | none=>∃cd,w'.heap[l]?=some (.loop (rec' .done (some cd)))∧((cd= .ret∧Q .ret e σ')∨ ∃j,cd= .exit j∧Q (.ex j) e σ')
 let J:Option (List (List AV))→(Nat→Nat→Option Value)→(Nat→Prop)→World→Prop:=fun s K T' w'=>∃G' σ' T0,G'.K=K∧(∀b,T' b↔(b<w.heap.size+2∨Foot G' σ' b∨T0 b))∧StC c G' e σ' a' w'∧
  YI c.Y T0 σ' G'.K w'∧(∀b,Foot G' σ' b→ ¬T0 b)∧(∀b,T0 b→c.T b∨c.w0.heap.size≤b)∧(∀r∈w.heap.size::marks,w'.heap[r]?=some (.deferred (some []))∧c.w0.heap.size≤r∧ ¬T0 r)∧ ¬T0 l∧w.heap.size+2≤w'.heap.size∧Jst s σ' w'
 have loopOf:∀s σ' w',Jst s σ' w'→ ∃r,w'.heap[l]?=some (.loop r):=by
  intro s σ' w' h;cases s with
  | none=>obtain⟨cd,h,_⟩:=h;exact⟨_,h⟩
  | some rest=>exact⟨_,h.1⟩
 let yc:YC P:={
  l:=l
  J:=J
  lt:=by
   rintro s K T' w' ⟨G',σ',T0,rfl,hT,hC,k1,k2,k3,k4,k5,k6,k7⟩ b hb;rcases (hT b).1 hb with hb | hb | hb
   · omega
   · exact hC.inv.lt hb
   · exact k1.lt hb
  stab:=by
   rintro s K T' w' K' w'' ⟨G',σ',T0,rfl,hT,hC,k1,k2,k3,k4,k5,k6,k7⟩ hk hx;have hTb:∀b,T' b→w''.heap[b]?=w'.heap[b]?:=by
    intro b hb;have hlt:b<w'.heap.size:=by
     rcases (hT b).1 hb with hb | hb | hb
     · omega
     · exact hC.inv.lt hb
     · exact k1.lt hb
    exact hx.block b hlt fun h=>h hb
   have hKb:∀b,b<w'.heap.size→T' b→K' b=G'.K b:=fun b hlt hb=>hx.Kb b hlt fun h=>h hb;have hinv:Inv ⟨K',G'.m⟩ σ' w'':=hC.inv.other hx.le hk fun b hb=>⟨hTb b ((hT b).2 (.inr (.inl hb))),hKb b (hC.inv.lt hb) ((hT b).2 (.inr (.inl hb)))⟩;have hle:G'.le ⟨K',G'.m⟩:=⟨hx.le,fun _ _ _ h=>h⟩;refine⟨⟨K',G'.m⟩,σ',T0,rfl,hT,?_,?_,k2,k3,?_,k5,by have:=hx.size;omega,?_⟩
   · refine hC.call (T:=T0) (X:=fun b=>w.heap.size+2≤b) k3 (fun b hb=>by omega) hinv hle (hx.weak fun b _ hn=>?_) fun b hb=> .inl hb;by_cases hb:b<w.heap.size+2
     · exact absurd ((hT b).2 (.inl hb)) hn
     · exact .inr (.inr (by omega))
   · unfold YI at k1 ⊢
     revert k1
     cases c.Y with
     | none=>exact id
     | some yo=>rintro⟨s,q1,q2⟩;exact⟨s,q1,yo.stab _ _ _ _ _ _ q2 hk (hx.weak fun b _ hn hb=>hn ((hT b).2 (.inr (.inr hb))))⟩
   · intro r hr;obtain⟨q1,q2,q3⟩:=k4 r hr;refine⟨?_,q2,q3⟩;rw[hTb r ((hT r).2 (.inl ?_))]
     · exact q1
     · rcases List.mem_cons.1 hr with rfl | hr
       · omega
       · have:=(Array.getElem?_eq_some_iff.1 (hmk r hr).1).1;omega
   · have hlT:T' l:=(hT l).2 (.inl (by omega));cases s with
     | none=>obtain⟨cd,q1,q2⟩:=k7;exact⟨cd,by rw[hTb l hlT];exact q1,q2⟩
     | some rest=>exact⟨by rw[hTb l hlT];exact k7.1,k7.2⟩
  round:=by
   rintro x rest K T' w' vals ⟨G',σ',T0,rfl,hT,hC,k1,k2,k3,k4,k5,k6,hlp,hIx,pre,hpre⟩ hk hv;have hxl:x.length=ps.toList.length:=hlen x (by rw[hpre];simp);have hvl:vals.length=x.length:=hv.length;have hle0:GS.le ⟨G'.K,fun _ _=>none⟩ G':=⟨fun _ _ _ h=>h,fun _ _ _ h=>by cases h⟩;have hvG:RelL G' x vals:=hv.mono hle0;have hyr:=run_yield (P:=P) (args:=vals.toArray) hlp (by rw[hrec];simp;simp at hxl;omega);refine⟨_,_,_,_,hyr,?_⟩;obtain⟨henv,hsize⟩:=setE_rel (e:=e) (tmps:=a'.tmps) hxl hvG hC.env (fun p hp=>by rw[hC.size];exact hps p hp);have hzip:((rec' LoopState.ready none).params.zip vals.toArray).foldl (fun tmps (t,a)=>tmps.setIfInBounds t a) (rec' LoopState.ready none).tmps=(ps.toList.zip vals).foldl (fun tmps (ta:Nat×Value)=>tmps.setIfInBounds ta.1 ta.2) a'.tmps:=by rw[hrec,ha',←Array.foldl_toList];simp
   have hlF:∀G2 σ2 w2,Inv G2 σ2 w2→(∃r,w2.heap[l]?=some (.loop r))→ ¬Foot G2 σ2 l:=by rintro G2 σ2 w2 hi ⟨r,hr⟩ hf;obtain⟨_,hc,hpl⟩:=Foot.cells hi hf;rw[hr] at hc;cases hc;cases hpl
   rw[show (rec' LoopState.ready none).assign=A by rw[hrec],show (rec' LoopState.ready none).body=B by rw[hrec]];refine roundIn_of_wpIn (F:=Fence.wide) trivial ?_
   let cA:Ctx P:=⟨c.n,some l,c.Y,Foot G' σ',T0,G',w'⟩
   have hSA:St cA G' (setE e ps.toList x) σ' {tmps:=((rec' LoopState.ready none).params.zip vals.toArray).foldl (fun tmps (t,a)=>tmps.setIfInBounds t a) (rec' LoopState.ready none).tmps,defers:=[] } w':=
    {env:=by rw[hzip];exact henv,size:=by rw[hzip,hsize];exact hC.size,le:= .refl _,inv:=hC.inv,ext:= .refl _ _ _,own:=fun b hb=> .inl hb,rd:=fun _=>rfl,
     terr:=⟨T0,k1,k2,fun b hb=> .inl hb,[],rfl,List.nodup_nil,by simp⟩ }
   refine wpIn_mono (hA cA _ G' _ σ' _ w' rfl (fun _=>rfl) (hround x rest σ' hxl hIx) hSA) fun ex a1 w2 hp=>?_;obtain⟨ax,G1,e1,σ1,hax,hq1,S1⟩:=hp;cases ex<;>simp only[toAX] at hax<;>cases hax<;>first | exact hq1.elim | skip
   have hq1:awp P ib (rndQ (I rest) Q e) e1 σ1:=hq1;have hll:l<w'.heap.size:=(Array.getElem?_eq_some_iff.1 hlp).1;have hl2:w2.heap[l]?=some (.loop (rec' .ready none)):=by rw[S1.ext.block l hll fun hf=>hf.elim (hlF G' σ' w' hC.inv ⟨_,hlp⟩) k5];exact hlp
   obtain⟨T1,q1,q2,q3,mk1,q4,q5,q6⟩:=S1.terr;have hT1l:¬T1 l:=fun h=>(q3 l h).elim k5 (fun hn=>by have:w'.heap.size≤l:=hn;omega);refine⟨_,run_beginRound hl2 (by rw[hrec]),?_⟩;obtain⟨w3,hw3⟩:∃w3,w2.putObj l (.loop {rec' .ready none with state:= .busy })=w3:=⟨_,rfl⟩;rw[hw3];have hl3:w3.heap[l]?=some (.loop {rec' .ready none with state:= .busy }):=by rw[←hw3];exact World.putObj_heap_same (Array.getElem?_eq_some_iff.1 hl2).1
   have hinv3:Inv G1 σ1 w3:=by rw[←hw3];exact S1.inv.put hl2 _
   have hsz3:w3.heap.size=w2.heap.size:=by rw[←hw3];simp
   let cB:Ctx P:=⟨c.n,some l,c.Y,Foot G1 σ1,T1,G1,w3⟩
   have hSB:St cB G1 e1 σ1 a1 w3:=
    {env:=S1.env,size:=S1.size,le:= .refl _,inv:=hinv3,ext:= .refl _ _ _,own:=fun b hb=> .inl hb,rd:=fun _=>S1.rd rfl,
     terr:=⟨T1,by rw[←hw3];exact q1.put S1.inv.kok hl2 _ hT1l,q2,fun b hb=> .inl hb,[],by rw[S1.rd rfl];rfl,List.nodup_nil,by simp⟩ }
   refine wpIn_mono (hB cB _ G1 e1 σ1 a1 w3 rfl (fun _=>rfl) hq1 hSB) fun ex a2 w4 hp=>?_;obtain⟨ax,G2,e2,σ2,hax,hq2,S2⟩:=hp;have hl4:w4.heap[l]?=some (.loop {rec' .ready none with state:= .busy }):=by rw[S2.ext.block l (by have:w3.heap.size=w2.heap.size:=hsz3;have:=(Array.getElem?_eq_some_iff.1 hl2).1;show l<w3.heap.size;omega) fun hf=>hf.elim (hlF G1 σ1 w3 hinv3 ⟨_,hl3⟩) hT1l];exact hl3
   obtain⟨T2,u1,u2,u3,mk2,u4,u5,u6⟩:=S2.terr;have hs12:w'.heap.size≤w2.heap.size:=S1.ext.size;have hs34:w3.heap.size≤w4.heap.size:=S2.ext.size;have hT2:∀b,T2 b→T0 b∨w'.heap.size≤b:=fun b hb=>(u3 b hb).elim (fun h=>q3 b h) fun hn=> .inr (by have:w3.heap.size≤b:=hn;omega);have hT2l:¬T2 l:=fun h=>(hT2 l h).elim k5 (by omega);have hF2:∀b,Foot G2 σ2 b→Foot G' σ' b∨w'.heap.size≤b:=fun b hb=>(S2.own b hb).elim (fun h=>S1.own b h) fun hn=> .inr (by have:w3.heap.size≤b:=hn;omega)
   have fin:∀(b:Bool) (jump:Option Code) (r:Loop),jump.isNone=b→r=(if b then rec' .ready none else rec' .done jump)→Jst (yNext rest b) σ2 (w4.putObj l (.loop r))→
     ∃v w5,(Instr.endRound l jump).run P w4= .ok v w5∧ ∃b' K' T'',Ending.returned v= .returned (.bool b')∧J (yNext rest b') K' T'' w5∧Kok K' w5∧Ext T' G'.K w' K' w5∧ ∀k,T'' k→T' k∨w'.heap.size≤k:=by
    intro b jump r hb hr hj;have hrun:=run_endRound (P:=P) jump hl4;have hr':({({rec' .ready none with state:= .busy }:Loop) with state:=if jump.isNone then .ready else .done,pending:=jump }:Loop)=r:=by
     rw[hr,hrec,hb];cases b
     · rfl
     · cases jump with
       | none=>rfl
       | some _=>cases hb
    rw[hr'] at hrun;refine⟨_,_,hrun,b,G2.K,fun b=>b<w.heap.size+2∨Foot G2 σ2 b∨T2 b,by rw[hb],?_,S2.inv.kok.put hl4 _,?_,?_⟩
    · have hext:Ext (fun b=>Foot G' σ' b∨T0 b∨b=l) G'.K w' G2.K (w4.putObj l (.loop r)):=by
       have e1:Ext (fun b=>Foot G' σ' b∨T0 b∨b=l) G'.K w' G1.K w2:=S1.ext.weak fun b _ h=>h.elim .inl fun h=> .inr (.inl h);have e2:Ext (fun b=>Foot G' σ' b∨T0 b∨b=l) G'.K w' G1.K w3:=by rw[←hw3];exact e1.trans (Ext.put _ _ _ _) fun b _ h=> .inr (.inr h)
       have e3:Ext (fun b=>Foot G' σ' b∨T0 b∨b=l) G'.K w' G2.K w4:=e2.trans S2.ext fun b hb h=>by
        rcases h with h | h
        · exact .inl ((S1.own b h).resolve_right (by have:w'.heap.size=cA.w0.heap.size:=rfl;omega))
        · exact .inr (.inl ((q3 b h).resolve_right (by have:w'.heap.size=cA.w0.heap.size:=rfl;omega)))
       exact e3.trans (Ext.put _ _ _ _) fun b _ h=> .inr (.inr h)
      have hle2:G'.le G2:=S1.le.trans S2.le;refine⟨G2,σ2,T2,rfl,fun b=>Iff.rfl,?_,u1.put S2.inv.kok hl4 _ hT2l,u2,fun b hb=>(hT2 b hb).elim (k3 b) fun hn=> .inr (by omega),fun r hr=>?_,hT2l,by simp;omega,hj⟩
      · exact hC.call (T:=T0) (X:=fun b=>b=l) k3 (fun b hb=>by omega) (S2.inv.put hl4 _) hle2 hext hF2
      · obtain⟨v1,v2,v3⟩:=k4 r hr;have hrl:r≠l:=by rintro rfl;rw[hlp] at v1;cases v1
        have hrlt:=(Array.getElem?_eq_some_iff.1 v1).1;refine⟨?_,v2,fun h=>(hT2 r h).elim v3 (by omega)⟩;rw[hext.block r hrlt]
        · exact v1
        · rintro (h | h | h)
          · obtain⟨_,hc,hpl⟩:=Foot.cells hC.inv h;rw[v1] at hc;cases hc;cases hpl
          · exact v3 h
          · exact hrl h
    · have e1:Ext T' G'.K w' G1.K w2:=S1.ext.weak fun b _ h=>(hT b).2 (.inr h);have e2:Ext T' G'.K w' G1.K w3:=by rw[←hw3];exact e1.trans (Ext.put _ _ _ _) fun b _ h=>(hT b).2 (.inl (by omega))
      have e3:Ext T' G'.K w' G2.K w4:=e2.trans S2.ext fun b hb h=>by
       rcases h with h | h
       · exact (hT b).2 (.inr (.inl ((S1.own b h).resolve_right (by have:w'.heap.size=cA.w0.heap.size:=rfl;omega))))
       · exact (hT b).2 (.inr (.inr ((q3 b h).resolve_right (by have:w'.heap.size=cA.w0.heap.size:=rfl;omega))))
      exact e3.trans (Ext.put _ _ _ _) fun b _ h=>(hT b).2 (.inl (by omega))
    · rintro k (h | h | h)
      · exact .inl ((hT k).2 (.inl h))
      · exact (hF2 k h).imp (fun h=>(hT k).2 (.inr (.inl h))) id
      · exact (hT2 k h).imp (fun h=>(hT k).2 (.inr (.inr h))) id
   have hput:∀r,(w4.putObj l (.loop r)).heap[l]?=some (.loop r):=fun r=>World.putObj_heap_same (Array.getElem?_eq_some_iff.1 hl4).1;cases ex<;>simp only[toAX] at hax<;>cases hax
   · exact fin true none (rec' .ready none) rfl rfl ⟨hput _,hq2,pre++[x],by rw[hpre];simp⟩
   · rename_i j;exact fin false (some (.exit j)) (rec' .done (some (.exit j))) rfl rfl ⟨_,hput _,.inr ⟨j,rfl,hq2⟩⟩
   · exact fin false (some .ret) (rec' .done (some .ret)) rfl rfl ⟨_,hput _,.inl ⟨rfl,hq2⟩⟩ }
 have hJ0:J (some xs) G.K (fun b=>b<w.heap.size+2∨Foot G σ b∨T b) w1:=
  ⟨G,σ,T,rfl,fun _=>Iff.rfl,hStC1,hYI1,hdis,hTs,hmarks1,fun h=>by have:=hYI.lt h;omega,by omega,hL1,hI0,[],rfl⟩
 have hcall:=hIt.2 yc _ G.K w1 ca.toList hJ0 hinv1.kok h2.strip;refine⟨l,[markD w.heap.size],w1,{target:= .fn (.func g) ca,args:= #[.func (.yield l) #[] #[]] },w1,g,#[.func (.yield l) #[] #[]]++ca,w1,?_,?_,fun _ _=>trivial,?_,fun h=>(by cases h),?_⟩
 · rw[show (FW c.r).round=none from hr,←hw1,hrec,hl];exact run_enterLoop_outer _ _ _ _ _
 · show Sem.run P (Deferred.ofValue (a.eval f) (#[Operand.const (.func (.yield l) #[] #[])].map a.eval)) w1=_
   have hm:(#[Operand.const (.func (.yield l) #[] #[])].map a.eval)= #[.func (.yield l) #[] #[]]:=by simp[Act.eval]
   rw[hfe,hm];rfl
 · exact okFn_run hIt.1
 · have hargs:((Value.func (.yield yc.l) #[] #[])::ca.toList).toArray= #[.func (.yield l) #[] #[]]++ca:=by apply Array.toList_inj.1;simp;rfl
   rw[hargs] at hcall;refine (callsIn_wide (n:=0)).2 (hcall.mono ?_);rintro ed w5 ⟨v,K',T',rfl,hk5,hJ5,_,_⟩;have fin:∀(s:Option (List (List AV))),J s K' T' w5→ ∃G' σ' r,w5.heap[l]?=some (.loop r)∧r.state≠ .busy∧Jst s σ' w5∧ ∀o,St c G' e σ' a' (w5.putObj l o):=by
    rintro s ⟨G',σ',T0,rfl,hT,hC,k1,k2,k3,k4,k5,k6,k7⟩;obtain⟨r,hr5,hbusy⟩:∃r,w5.heap[l]?=some (.loop r)∧r.state≠ .busy:=by
     cases s with
     | none=>obtain⟨cd,h,_⟩:=k7;exact⟨_,h,by rw[hrec];simp⟩
     | some rest=>exact⟨_,k7.1,by rw[hrec];simp⟩
    refine⟨G',σ',r,hr5,hbusy,k7,fun o=>?_⟩;have hC':=hC.call (T:=T0) (X:=fun b=>b=l) k3 (fun b hb=>by omega) (hC.inv.put hr5 o) (.refl G') ((Ext.put G'.K w5 l o).weak fun b _ h=> .inr (.inr h)) fun b hb=> .inl hb;exact {hC' with
     rd:=fun h=>by rw[hr] at h;cases h
     terr:=⟨T0,k1.put hC.inv.kok hr5 o k5,k2,k3,w.heap.size::marks,by rw[ha'];simp[hdef],List.nodup_cons.2 ⟨fun hm=>by have:=(Array.getElem?_eq_some_iff.1 (hmk _ hm).1).1;omega,hnd⟩,fun r' hr'=>by
      obtain⟨v1,v2,v3⟩:=k4 r' hr';refine⟨?_,v2,v3⟩;rw[World.putObj_heap_other (by rintro rfl;rw[hr5] at v1;cases v1)];exact v1⟩ }
   have haa:({a with defers:=[markD w.heap.size]++a.defers }:Act)=a':=ha'.symm;show ∃jump w₄,(Instr.endLoop l).run P w5= .ok jump w₄∧(match jump with | none=>PostW c Q .normal {a with defers:=[markD w.heap.size]++a.defers } w₄ | some cd=>cd.wpIn (FW c.r) 0 P (PostW c Q) {a with defers:=[markD w.heap.size]++a.defers } w₄)
   rw[haa];rcases hJ5 with hJ5 | hJ5
   · obtain⟨G',σ',r,hr5,hbusy,hjst,hst⟩:=fin (some []) hJ5;obtain⟨j1,j2,_⟩:=hjst;rw[hr5] at j1;cases j1;refine⟨_,_,run_endLoop hr5 hbusy,?_⟩;rw[show (rec' LoopState.ready none).pending=none by rw[hrec]];exact⟨.nor,G',e,σ',rfl,hend σ' j2,hst _⟩
   · obtain⟨G',σ',r,hr5,hbusy,hjst,hst⟩:=fin none hJ5;obtain⟨cd,j1,j2⟩:=hjst;rw[hr5] at j1;cases j1;refine⟨_,_,run_endLoop hr5 hbusy,?_⟩;rw[show (rec' LoopState.done (some cd)).pending=some cd by rw[hrec]];rcases j2 with⟨rfl,hq⟩ | ⟨j,rfl,hq⟩
     · exact wpIn_ret ⟨.ret,G',e,σ',rfl,hq,hst _⟩
     · exact wpIn_exit ⟨.ex j,G',e,σ',rfl,hq,hst _⟩
end Go.Abs
namespace Go.Abs
variable {P:Program} {c:Ctx P}
theorem exists_least(p:Nat→Prop):∀n,p n→ ∃m,p m∧ ∀k,p k→m≤k:=by
 intro n;induction n using Nat.strongRecOn with
 | _ n ih=>
   intro hn;by_cases h:∃k,k<n∧p k
   · obtain⟨k,hk,hp⟩:=h;exact ih k hk hp
   · exact⟨n,hn,fun k hk=>Nat.le_of_not_lt fun hlt=>h ⟨k,hlt,hk⟩⟩
open Classical in
noncomputable def leastOf (p:Nat→Prop):Nat:=if h:∃n,p n then Classical.choose (exists_least p (Classical.choose h) (Classical.choose_spec h)) else 0
theorem leastOf_spec{p:Nat→Prop}{n:Nat}(h:p n):p (leastOf p)∧leastOf p≤n:=by have hex:∃n,p n:=⟨n,h⟩;unfold leastOf;rw[dif_pos hex];have:=Classical.choose_spec (exists_least p (Classical.choose hex) (Classical.choose_spec hex));exact⟨this.1,this.2 n h⟩
theorem wpIn_loop_ix{F:Fence}{k:Nat}{b:Code}{Q:Exit→Act→World→Prop}(J:Nat→Act→World→Prop)(round:∀n a w,J n a w→b.wpIn F k P (Exit.then (fun a' w'=>∃m,m<n∧J m a' w') Q) a w){n:Nat}{a:Act}{w:World}(h:J n a w):(Code.loop b).wpIn F k P Q a w:=by
 refine wpIn_loop (fun a w=>∃n,J n a w) (fun a w=>leastOf fun n=>J n a w) ⟨n,h⟩ ?_;rintro a w ⟨n,hn⟩;have hs:=leastOf_spec (p:=fun n=>J n a w) hn;refine wpIn_mono (round _ a w hs.1) fun x a' w' hx=>?_;cases x with
 | normal=> obtain⟨m,hm,hJ⟩:=hx;exact⟨⟨m,hJ⟩,Nat.lt_of_le_of_lt (leastOf_spec (p:=fun n=>J n a' w') hJ).2 hm⟩
 | _=>exact hx
theorem seq_then{A B:Code}{Q:Post}{K:(Nat→AV)→Sig→Prop}{a:Act}{w:World}(hA:A.wpIn (FW c.r) 0 P (PostW c (seqQ K Q)) a w)(hB:∀G e σ a w,K e σ→St c G e σ a w→B.wpIn (FW c.r) 0 P (PostW c Q) a w):(Code.seq A B).wpIn (FW c.r) 0 P (PostW c Q) a w:=by
 refine wpIn_seq (wpIn_mono hA fun x a' w' hx=>?_);obtain⟨ax,G,e,σ,hax,hq,hS⟩:=hx;cases x<;>simp only[toAX] at hax<;>cases hax
 · exact hB G e σ a' w' hq hS
 · exact⟨_,G,e,σ,rfl,hq,hS⟩
 · exact⟨_,G,e,σ,rfl,hq,hS⟩
theorem frz_code{code:Code}{ir:IR}{Q:Post}(h:∀G e σ a w,awp P ir Q e σ→St c G e σ a w→code.wpIn (FW c.r) 0 P (PostW c Q) a w):∀(l:List Nat) G e σ a w,awp P (frzIR l ir) Q e σ→St c G e σ a w→code.wpIn (FW c.r) 0 P (PostW c Q) a w
 | [],G,e,σ,a,w,hw,hS=>h G e σ a w hw hS
 | s::l,G,e,σ,a,w,hw,hS=>by have hw':frzW (e s) e σ (seqQ (awp P (frzIR l ir) Q) Q .nor):=hw;obtain⟨G',e',σ',hk,hS'⟩:=frz_sound hS (hS.env s) hw';exact frz_code h l G' e' σ' a w hk hS'
theorem mve_code{code:Code}{ir:IR}{Q:Post}(h:∀G e σ a w,awp P ir Q e σ→St c G e σ a w→code.wpIn (FW c.r) 0 P (PostW c Q) a w):∀(l:List Nat) G e σ a w,awp P (mveIR l ir) Q e σ→St c G e σ a w→code.wpIn (FW c.r) 0 P (PostW c Q) a w
 | [],G,e,σ,a,w,hw,hS=>h G e σ a w hw hS
 | s::l,G,e,σ,a,w,hw,hS=>by have hw':mveW (e s) e σ (seqQ (awp P (mveIR l ir) Q) Q .nor):=hw;obtain⟨G',e',σ',hk,hS'⟩:=mve_sound hS (hS.env s) hw';exact mve_code h l G' e' σ' a w hk hS'
theorem code_sound{H:Hint}{n:Nat}(hY:n≤YS):∀{code:Code} {ir:IR} {rd:Bool},cCode P H n rd code=some ir→CS P n rd code ir
 | .skip,ir,rd,hc=>fun c Q G e σ a w hn hr h hS=>by simp only[cCode] at hc;cases hc;exact wpIn_skip ⟨_,G,e,σ,rfl,h,hS⟩
 | .region id ops draw,ir,rd,hc=>fun c Q G e σ a w hn hr h hS=>by
   subst hn;cases draw
   · simp only[cCode,Option.map_eq_some_iff] at hc;obtain⟨sts,hs,rfl⟩:=hc;exact mve_code (fun G e σ a w h hS=>frz_code (ir:= .ops sts) (fun G e σ a w h hS=>region_sound (K:=Q .nor) hY hs (fun G e σ a w hk hS=>⟨_,G,e,σ,rfl,hk,hS⟩) hS h) _ G e σ a w h hS) _ G e σ a w h hS
   · simp only[cCode,Option.map_eq_some_iff] at hc;obtain⟨sts,hs,rfl⟩:=hc;exact mve_code (fun G e σ a w h hS=>frz_code (ir:=sts) (fun G e σ a w h hS=>draw_sound (Q':=Q) hY hs (fun G e σ a w hk hS=>⟨_,G,e,σ,rfl,hk,hS⟩) hS h) _ G e σ a w h hS) _ G e σ a w h hS
 | .seq A B,ir,rd,hc=>fun c Q G e σ a w hn hr h hS=>by simp only[cCode,Option.bind_eq_bind,Option.bind_eq_some_iff] at hc;obtain⟨ia,ha,ib,hb,hc⟩:=hc;cases hc;exact seq_then (code_sound hY ha c _ G e σ a w hn hr h hS) fun G e σ a w hk hS=>code_sound hY hb c _ G e σ a w hn hr hk hS
 | .cond x A B,ir,rd,hc=>fun c Q G e σ a w hn hr h hS=>by
   simp only[cCode,Option.bind_eq_bind,Option.bind_eq_some_iff] at hc;obtain⟨y,hy,ia,ha,ib,hb,hc⟩:=hc;cases hc;have h':cndW (y.ev e) (awp P ia Q e σ) (awp P ib Q e σ):=h;unfold cndW at h';split at h'
   · rename_i t ht;have hrel:=orel_act hS.env x y hy;rw[ht] at hrel;simp only[Rel] at hrel;refine wpIn_cond hrel ?_;cases t
     · exact code_sound hY hb c _ G e σ a w hn hr h' hS
     · exact code_sound hY ha c _ G e σ a w hn hr h' hS
   · exact h'.elim
 | .block id B,ir,rd,hc=>fun c Q G e σ a w hn hr h hS=>by
   simp only[cCode,Option.map_eq_some_iff] at hc;obtain⟨ib,hb,rfl⟩:=hc;refine wpIn_block (wpIn_mono (code_sound hY hb c (blkQ id Q) G e σ a w hn hr h hS) fun x a' w' hx=>?_);obtain⟨ax,G',e',σ',hax,hq,hS'⟩:=hx;cases x<;>simp only[toAX] at hax<;>cases hax
   · exact⟨_,G',e',σ',rfl,hq,hS'⟩
   · rename_i j;have hq':(match Nat.beq j id with | true=>Q .nor e' σ' | false=>Q (.ex j) e' σ'):=hq;by_cases hj:j=id
     · subst hj;rw[show Nat.beq j j=true by simp] at hq';simp only[Exit.inBlock,if_true];exact⟨_,G',e',σ',rfl,hq',hS'⟩
     · have hb:Nat.beq j id=false:=by
        cases hb:Nat.beq j id with
        | false=>rfl
        | true=>exact absurd (Nat.eq_of_beq_eq_true hb) hj
       rw[hb] at hq';simp only[Exit.inBlock,if_neg hj];exact⟨_,G',e',σ',rfl,hq',hS'⟩
   · exact⟨_,G',e',σ',rfl,hq,hS'⟩
 | .loop B,ir,rd,hc=>fun c Q G e σ a w hn hr h hS=>by
   simp only[cCode,Option.map_eq_some_iff] at hc;obtain⟨ib,hb,rfl⟩:=hc;obtain⟨I,n0,h0,hround⟩:=h;refine wpIn_loop_ix (fun n a w=>∃G e σ,I n e σ∧St c G e σ a w) ?_ (n:=n0) ⟨G,e,σ,h0,hS⟩;rintro k a w ⟨G,e,σ,hI,hS⟩;refine wpIn_mono (code_sound hY hb c _ G e σ a w hn hr (hround k e σ hI) hS) fun x a' w' hx=>?_;obtain⟨ax,G',e',σ',hax,hq,hS'⟩:=hx;cases x<;>simp only[toAX] at hax<;>cases hax
   · obtain⟨m,hm,hI'⟩:=hq;exact⟨m,hm,G',e',σ',hI',hS'⟩
   · exact⟨_,G',e',σ',rfl,hq,hS'⟩
   · exact⟨_,G',e',σ',rfl,hq,hS'⟩
 | .scope B,ir,true,hc=>by simp[cCode] at hc
 | .scope B,ir,false,hc=>fun c Q G e σ a w hn hr h hS=>by
   simp only[cCode] at hc;have hcr:c.r=none:=by
    cases hcr:c.r with
    | none=>rfl
    | some l=>exact absurd (hr (by rw[hcr];rfl)) (by simp)
   have h1:=code_sound hY hc c Q G e σ a w hn hr h hS;rw[hcr] at h1 ⊢;exact wpIn_wide.2 (wp_scope_straight (wp_mono (wpIn_wide.1 h1) fun x a w hx=>by
    cases x<;>first | exact hx | (obtain⟨ax,_,_,_,hax,_⟩:=hx;cases hax)))
 | .exit id,ir,rd,hc=>fun c Q G e σ a w hn hr h hS=>by simp only[cCode] at hc;cases hc;exact wpIn_exit ⟨_,G,e,σ,rfl,h,hS⟩
 | .ret,ir,rd,hc=>fun c Q G e σ a w hn hr h hS=>by simp only[cCode] at hc;cases hc;exact wpIn_ret ⟨_,G,e,σ,rfl,h,hS⟩
 | .rangeFunc f ps A B,ir,true,hc=>by simp[cCode] at hc
 | .rangeFunc f ps A B,ir,false,hc=>fun c Q G e σ a w hn hr h hS=>by
   simp only[cCode,Option.bind_eq_bind,Option.bind_eq_some_iff] at hc;obtain⟨y,hy,ia,ha,ib,hb,hc⟩:=hc;split at hc
   · rename_i hall;cases hc;subst hn;have hcr:c.r=none:=by
      cases hcr:c.r with
      | none=>rfl
      | some l=>exact absurd (hr (by rw[hcr];rfl)) (by simp)
     refine rf_sound hcr hy (code_sound hY ha) (code_sound hY hb) (fun p hp=>?_) h hS;rw[List.all_eq_true] at hall;exact Nat.le_of_ble_eq_true (hall p hp)
   · cases hc
 | .goto _,_,_,hc=>by cases hc
 | .label _,ir,rd,hc=>fun c Q G e σ a w hn hr h hS=>by simp only[cCode] at hc;cases hc;exact wpIn_label ⟨_,G,e,σ,rfl,h,hS⟩
 | .refuse _,_,_,hc=>by cases hc
theorem res_sound{G:GS}{e:Nat→AV}{σ:Sig}{a:Act}{w:World}(hS:St c G e σ a w):∀{rs:List ResultVar} {irs:List (Nat×Option (Nat×Bool))} {p:Prop} {l:List AV},cRes P rs=some irs→resV e σ irs=some (p,l)→p→
  ∃vs:List Value,(rs.mapM (fun
   | .tmp t=>pure (a.tmps.getD t undef)
   | .cell x t=>do loadVar t (←asAddr (a.tmps.getD x undef)):ResultVar→Sem Value)).run P w= .ok vs w∧RelL G l vs
 | [],irs,p,l,hc,h,hp=>by simp only[cRes] at hc;cases hc;obtain⟨_,rfl⟩:=ov_inj h;exact⟨[],rfl,rfl⟩
 | .tmp t::rs,irs,p,l,hc,h,hp=>by
   simp only[cRes,Option.bind_eq_bind,Option.bind_eq_some_iff] at hc;obtain⟨r,hr,hc⟩:=hc;cases hc;simp only[resV] at h;split at h
   · rename_i v q l' hv hl;obtain⟨rfl,rfl⟩:=ov_inj h;obtain⟨vs,h1,h2⟩:=res_sound hS hr hl hp;refine⟨_::vs,?_,⟨_,_,rfl,by rw[forceA_eq hv];exact hS.env t,h2⟩⟩;rw[List.mapM_cons];simp only[Sem.run_bind,Sem.run_pure,Result.andThen_ok,h1]
   · cases h
 | .cell x t::rs,irs,p,l,hc,h,hp=>by
   simp only[cRes,Option.bind_eq_bind,Option.bind_eq_some_iff] at hc;obtain⟨sz,hs,g,hg,r,hr,hc⟩:=hc;cases hc;simp only[resV] at h;split at h
   · rename_i q v q' l' hv hl;obtain⟨rfl,rfl⟩:=ov_inj h;obtain⟨vs,h1,h2⟩:=res_sound hS hr hl hp.2;obtain⟨v',hrun,hrel⟩:=s_ld (P:=P) hS.inv hs hg (hS.env x) hv hp.1;have hload:(do loadVar t (←asAddr (a.tmps.getD x undef)):Sem Value).run P w= .ok v' w:=by
      rw[←hrun];unfold Instr.loadAt;have hx:=hS.env x;unfold ldO at hv;split at hv
      · rename_i cells he;rw[he] at hx;obtain⟨b,o,hb,_⟩:=hx;rw[hb];rfl
      · rename_i i g' off he;rw[he] at hx;obtain⟨b,o,hb,_⟩:=hx;rw[hb];rfl
      · cases hv
     refine⟨v'::vs,?_,⟨_,_,rfl,hrel,h2⟩⟩;rw[List.mapM_cons];simp only[Sem.run_bind,Sem.run_pure,Result.andThen_ok,h1];simp only[Sem.run_bind] at hload;rw[hload];simp only[Result.andThen_ok,h1]
   · cases h
theorem tup_rel{G:GS}{l:List AV}{vs:List Value}(h:RelL G l vs):Rel G (tupV l) (if h:vs.toArray.size=1 then vs.toArray[0] else .tuple vs.toArray):=by
 have hl:=h.length
 match l,vs,hl,h with
 | [x],[v],_,h=>obtain⟨_,_,hv,hr,_⟩:=h;cases hv;exact hr
 | [],[],_,h=>exact⟨_,rfl,by simpa using h⟩
 | x::y::l,v::u::vs,_,h=> have:tupV (x::y::l)= .tup (x::y::l):=rfl;rw[this,dif_neg (by simp)];exact⟨_,rfl,by simpa using h⟩
end Go.Abs
