/- A part of the layer of abstract values: the program is read into steps over values, each step is sound, and a walk over the steps is a proof of the program. No condition. -/
import Derived.Test.YtioggblimkgioaaGreatSnd0
import Derived.Laws.BytesString
set_option linter.unusedVariables false
set_option linter.unusedSimpArgs false
namespace Go.Abs
section
variable {P:Program} {G:GS} {w:World} {σ:Sig} {a b c v:AV} {p:Prop} {va vb vc:Value}
theorem slElem_some{t e:TypeId}(h:slElem P t=some e):P.underlying t=some (.slice e):=by
 unfold slElem at h;split at h
 · cases h;assumption
 · cases h
theorem szOf_info{t:TypeId}{n:Nat}(h:szOf P t=some n):∃i,P.info? t=some i∧i.size=n:=by unfold szOf at h;rw[Option.map_eq_some_iff] at h;exact h
theorem info_sz{t:TypeId}{i:TypeInfo}(h:P.info? t=some i):szOf P t=some i.size:=by simp[szOf,h]
def OpOK(P:Program)(G:GS)(σ:Sig)(w:World)(r:Result Next)(v:AV)(σ':Sig):Prop:=
 ∃G' w',StepOK G σ w G' σ' w'∧((∃v',r= .ok (.value v') w'∧Rel G' v v')∨(r= .ok .skip w'∧v= .junk))
theorem OpOK.val{x:Sem Value}(hI:Inv G σ w)(h:∃v',x.run P w= .ok v' w∧Rel G v v'):OpOK P G σ w (Sem.run P (do pure (.value (←x)):Sem Next) w) v σ:=by obtain⟨v',h1,h2⟩:=h;exact⟨G,w,.refl hI,.inl ⟨v',by rw[Sem.run_bind,h1];rfl,h2⟩⟩
theorem OpOK.eff{x:Sem Value}{σ':Sig}(h:∃v' w' G',x.run P w= .ok v' w'∧Rel G' v v'∧StepOK G σ w G' σ' w'):OpOK P G σ w (Sem.run P (do pure (.value (←x)):Sem Next) w) v σ':=by obtain⟨v',w',G',h1,h2,h3⟩:=h;exact⟨G',w',h3,.inl ⟨v',by rw[Sem.run_bind,h1];rfl,h2⟩⟩
theorem bytesA_vals{G:GS}:∀{es:List (List AV)} {l:List UInt8} {vs:List Value},bytesA es=some l→RelL G es.flatten vs→ ∃ns:List Int,vs=ns.map (Value.int .u8)∧ ∀s:ByteArray,ns.foldl (fun r n=>r.push (UInt8.ofNat n.toNat)) s=⟨s.data++l.toArray⟩
 | [],l,vs,h,hr=>by simp only[bytesA] at h;cases h;simp only[List.flatten_nil,RelL] at hr;subst hr;exact⟨[],rfl,fun s=>by simp⟩
 | e::es,l,vs,h,hr=>by
   unfold bytesA at h;split at h
   · cases ‹_::_=[]›
   · rename_i n r heq;cases heq;split at h
     · rename_i l' hl;cases h;simp only[List.flatten_cons,List.singleton_append] at hr;obtain⟨v,vs',rfl,hv,hr'⟩:=hr;simp only[Rel] at hv;subst hv;obtain⟨ns,rfl,hf⟩:=bytesA_vals hl hr';refine⟨n::ns,rfl,fun s=>?_⟩;rw[List.foldl_cons,hf]
       congr 1
       apply Array.ext';simp[ByteArray.push]
     · cases h
   · cases h
theorem s_bs{s d u:TypeId}(hI:Inv G σ w)(hs:P.underlying s=some (.slice u))(hd:P.underlying d=some .string)(hu:P.underlying u=some (.int .u8))(ha:Rel G a va)(h:bsO a=some (p,v)):
  ∃v',(convert s d va).run P w= .ok v' w∧Rel G v v':=by
 have go:∀(x:Value) (r:ByteArray),(Conv.bytesToString x).run P w= .ok (.string r) w→(∃a n c,x= .slice a n c)→(convert s d x).run P w= .ok (.string r) w:=by rintro x r hx ⟨a,n,c,rfl⟩;unfold convert;rw[Sem.run_bind,run_underlying hs,Result.andThen_ok,Sem.run_bind,run_underlying hd,Result.andThen_ok];simp only[Sem.run_bind,run_underlying hu,Result.andThen_ok];exact hx
 unfold bsO at h;split at h
 · obtain⟨_,rfl⟩:=ov_inj h;simp only[Rel] at ha;subst ha;exact⟨_,go _ ByteArray.empty (by simp[Conv.bytesToString]) ⟨_,_,_,rfl⟩,rfl⟩
 · rename_i sz es tg;split at h
   · rename_i l hl;obtain⟨_,rfl⟩:=ov_inj h;rcases ha with⟨rfl | ⟨x,_,rfl,_⟩,rfl⟩ | ⟨b,o,cap,rfl,_,hrows,_⟩
     · simp only[bytesA] at hl;cases hl;exact⟨_,go _ ByteArray.empty (by simp[Conv.bytesToString]) ⟨_,_,_,rfl⟩,rfl⟩
     · simp only[bytesA] at hl;cases hl;have hld:=run_loadCells_list (P:=P) w x [] (fun j v hj=>by simp at hj);exact⟨_,go _ _ (run_bytesToString w _ _ _ [] hld) ⟨_,_,_,rfl⟩,rfl⟩
     · obtain⟨vs,hvl,hvr,hvc,_⟩:=rows_vals hI hrows;obtain⟨ns,rfl,hf⟩:=bytesA_vals hl hvr;have hlen:ns.length=es.length:=by
        have:∀(es:List (List AV)) (l:List UInt8),bytesA es=some l→es.flatten.length=es.length:=by
         intro es;induction es with
         | nil=>intro l _;rfl
         | cons e es ih=>
           intro l h;unfold bytesA at h;split at h
           · cases ‹_::_=[]›
           · rename_i n r heq;cases heq;split at h
             · rename_i l' hl;simp[ih _ hl]
             · cases h
           · cases h
        have h2:=hvr.length;rw[this es l hl] at h2
        simpa using h2
       have hld:=run_loadCells_list (P:=P) w ⟨b,o,none⟩ (ns.map (Value.int .u8)) (fun j v hj=>by rw[Addr.add_lit];exact hvc j v hj);rw[List.length_map,hlen] at hld;refine⟨_,go _ _ (run_bytesToString w _ _ _ ns hld) ⟨_,_,_,rfl⟩,?_⟩;show Value.string _=_
       rw[hf];simp[ByteArray.empty,ByteArray.emptyWithCapacity];rfl
   · cases h
 · cases h
theorem e_sb{s d u:TypeId}(hI:Inv G σ w)(hs:P.underlying s=some .string)(hd:P.underlying d=some (.slice u))(hu:P.underlying u=some (.int .u8))(ha:Rel G a va)(h:sbO a=some (p,v))(hp:p):
  ∃v' w' G',(convert s d va).run P w= .ok v' w'∧Rel G' v v'∧StepOK G σ w G' σ w':=by
 unfold sbO at h;split at h
 · rename_i s';obtain⟨rfl,rfl⟩:=ov_inj h;simp only[Rel] at ha;subst ha;generalize hcap:(Question.appendCap s'.size 0 u).cut (w.tape w.drawn (.appendCap s'.size 0 u))=cap;have hge:s'.size≤cap:=by rw[←hcap];simp[Question.cut]
   let vals:Array Value:=s'.data.map (fun b=>Value.int .u8 b.toNat)++Array.replicate (cap-s'.size) (.int .u8 0)
   have hsz:vals.size=cap:=by show (_++_:Array Value).size=_;simp;have:s'.data.size=s'.size:=rfl;omega
   have hget:∀o,o<s'.size→vals[o]?=some (.int .u8 (s'.data.toList.getD o 0).toNat):=by
    intro o ho;have ho':o<s'.data.size:=ho;show (_++_:Array Value)[o]?=_
    rw[Array.getElem?_append_left (by simpa using ho')];simp[List.getD_eq_getElem?_getD,Array.getElem?_eq_getElem ho']
   have hst:=StepOK.drew (w':=w.drew) hI rfl rfl rfl rfl;have hnew:∀o,G.K w.heap.size o=none:=fun o=>by
    cases hv:G.K w.heap.size o with
    | none=>rfl
    | some v=>exact absurd (hI.kok.lt hv) (by omega)
   let G':GS:=⟨fun b o=>if b=w.heap.size then (if o<s'.size then vals[o]? else none) else G.K b o,G.m⟩
   have hle:G.le G':=⟨fun b o v hv=>by
    have:=hI.kok.lt hv;show (if b=w.heap.size then _ else _)=_
    rw[if_neg (by omega)];exact hv,fun _ _ _ h=>h⟩
   let w':World:=(w.drew.alloc (.cells vals u)).freeze ⟨w.heap.size,vals.size,none⟩ 1
   have hheap:w'.heap=w.heap.push (.cells vals u (vals.size,vals.size+1)):=by
    show ((w.drew.alloc (.cells vals u)).freeze _ 1).heap=_
    unfold World.freeze;rw[if_neg (by omega)];apply Array.ext_getElem?;intro i;simp only[Array.getElem?_modify];by_cases hi:w.heap.size=i
    · subst hi;rw[if_pos rfl];show Option.map _ ((w.heap.push (.cells vals u))[w.heap.size]?)=_
      simp
    · rw[if_neg hi];show (w.heap.push (.cells vals u))[i]?=_
      rw[Array.getElem?_push,Array.getElem?_push,if_neg (fun h=>hi h.symm),if_neg (fun h=>hi h.symm)]
   have hold:∀b,b<w.heap.size→w'.heap[b]?=w.heap[b]?:=fun b hb=>by rw[hheap,Array.getElem?_push,if_neg (by omega)]
   have hstep:StepOK G σ w G' σ w':=by
    refine⟨hle,⟨⟨?_⟩,?_,hI.fresh,hI.dist⟩,⟨?_,?_,?_,?_,fun b hb _=>hold b hb,fun b o v=>hle.K b o v,fun b hb _=>?_⟩,fun b hb=> .inl hb⟩
    · intro b o v hv;have hv':(if b=w.heap.size then (if o<s'.size then vals[o]? else none) else G.K b o)=some v:=hv;split at hv'
      · rename_i e;subst e;split at hv'
        · rename_i ho;refine .inl ⟨vals,u,(vals.size,vals.size+1),by rw[hheap];simp,hv',?_⟩;rw[hget o ho] at hv';cases hv';rfl
        · cases hv'
      · rw[hold _ (hI.kok.lt hv')];exact hI.kok.see _ _ _ hv'
    · intro i c hi;rcases hI.res i c hi with h2 | ⟨b,e',lim,vs,T',hR⟩ | ⟨b,hO⟩
      · exact .inl h2
      rotate_left
      · refine .inr (.inr ⟨b,hO.keep hle ?_ (hold _ hO.lt)⟩);have:=hO.lt
        funext o
        show (if b=w.heap.size then _ else _)=_
        rw[if_neg (by omega)]
      · have hb:b<w.heap.size:=(Array.getElem?_eq_some_iff.1 hR.obj).1;refine .inr (.inl ⟨b,e',lim,vs,T',⟨hR.m,by rw[hold _ hb];exact hR.obj,hR.fit,hR.lim,fun o ho=>?_,fun j a hj=>?_⟩⟩)
        · show (if b=w.heap.size then _ else _)=_
          rw[if_neg (by omega)];exact hR.K o ho
        · obtain⟨x,hx,hr⟩:=hR.rel j a hj;exact⟨x,hx,hr.mono hle⟩
    · show ((w.drew.alloc (.cells vals u)).freeze _ 1).os=_
      unfold World.freeze;rw[if_neg (by omega)];rfl
    · show ((w.drew.alloc (.cells vals u)).freeze _ 1).tape=_
      unfold World.freeze;rw[if_neg (by omega)];rfl
    · show ((w.drew.alloc (.cells vals u)).freeze _ 1).output=_
      unfold World.freeze;rw[if_neg (by omega)];rfl
    · rw[hheap];simp
    · funext o
      show (if b=w.heap.size then _ else _)=_
      rw[if_neg (by omega)]
   refine⟨.slice (some ⟨w.heap.size,0,none⟩) s'.size cap,w',G',?_,.inr ⟨w.heap.size,0,cap,?_,?_,?_,trivial⟩,hstep⟩
   · unfold convert;rw[Sem.run_bind,run_underlying hs,Result.andThen_ok,Sem.run_bind,run_underlying hd,Result.andThen_ok];simp only[Sem.run_bind,run_underlying hu,Result.andThen_ok,Conv.stringToBytes,run_choose,Question.forced,Bool.false_eq_true,if_false,hcap,newRow,run_newObj,Sem.run_pure];simp only[markStringish,Sem.run_bind,run_shape,Result.andThen_ok,Sem.run_pure];have hsh:World.shape? {heap:=w.heap.push (.cells vals u),tape:=w.tape,drawn:=w.drawn+1,os:=w.os,output:=w.output } w.heap.size=some (u,vals.size):=by simp[World.shape?]
     rw[show (Array.map (fun b:UInt8=>Value.int IntKind.u8 (b.toNat:Int)) s'.data++Array.replicate (cap-s'.size) (Value.int IntKind.u8 0))=vals from rfl,hsh];simp only[run_freeze];rfl
   · simp
   · simpa using hge
   · refine RelRows.of_get fun i hi=>?_;have hi':i<s'.size:=by simpa using hi
     have e:(List.map (fun b:UInt8=>[AV.int .u8 (b.toNat:Int)]) s'.data.toList).getD i []=[.int .u8 (s'.data.toList.getD i 0).toNat]:=by
      have hi2:i<s'.data.toList.length:=by simpa using hi'
      rw[List.getD_eq_getElem?_getD,List.getElem?_map,List.getD_eq_getElem?_getD,List.getElem?_eq_getElem hi2];rfl
     rw[e];refine⟨⟨⟨_,?_,rfl,rfl⟩,trivial⟩,rfl⟩;show (if w.heap.size=w.heap.size then _ else _)=_
     rw[if_pos rfl,if_pos (by omega)]
     simpa using hget i hi'
 · cases h
theorem e_mks{t u:TypeId}{i:TypeInfo}{z:List AV}{d γ:Nat}{k k':IntKind}{n c:Int}(hI:Inv G σ w)(hγ:G.m d γ=none)(ht:P.underlying t=some (.slice u))(hi:P.info? u=some i)(hz:zeroOf P u=some z)(h0:0<i.size)(hn:0≤n)(hc:c=n)(hb:n*i.bytes≤140737488355328)(h63:n≤9223372036854775807):
  ∃v' w' G',(Instr.makeSlice t (.int k n) (.int k' c)).run P w= .ok v' w'∧Rel G' (.msl d γ n.toNat i.size) v'∧StepOK G σ w G' (newS σ d γ (List.replicate n.toNat z).flatten) w':=by
 subst hc;obtain⟨i',zv,hi',hzv,hzs,_,hzr,hzl,hzo⟩:=zero_rel (G:=G) hz;rw[hi] at hi';cases hi';have hrow:=zeroRow_rel (n:=c.toNat) hzr hzl h0;have hrl:=hrow.length;have hal:=alloc_ok hI (zeroRow zv.cells (c.toNat*i.size)) u 0 d γ hγ (List.replicate c.toNat z).flatten (by simp at hrl ⊢;omega) (by omega) fun j a hj=>by simpa using hrow.get j a hj
 have hw:IntKind.i64.wrap c=c:=IntWalk.i64_in c ⟨by omega,h63⟩;refine⟨.slice (some ⟨w.heap.size,0,none⟩) c.toNat c.toNat,w.alloc (.cells (zeroRow zv.cells (c.toNat*i.size)) u),_,?_,⟨w.heap.size,c.toNat,rfl,Nat.le_refl _,?_⟩,hal⟩
 · have hb':¬(281474976710656<(i.bytes:Int)*c):=by rw[Int.mul_comm];omega
   have hlt:¬(c<0):=by omega
   unfold Instr.makeSlice;rw[Sem.run_bind,run_underlying ht,Result.andThen_ok];simp only[asInt,asIntOf,Sem.run_bind,Sem.run_pure,Result.andThen_ok,run_typeInfo w hi,hw];rw[if_neg (by simp[hlt];omega)];simp only[Sem.run_bind,run_askRoom,Result.andThen_ok,sizeOf,run_typeInfo w hi,Sem.run_pure];by_cases hz0:c.toNat*i.size=0
   · rw[if_pos hz0];simp only[Sem.run_bind,Sem.run_pure,Result.andThen_ok,newRow,run_newObj];have:(Array.range (c.toNat*i.size)).map (fun x=>(#[]:Array Value)[x%(#[]:Array Value).size]!)=zeroRow zv.cells (c.toNat*i.size):=by rw[hz0];simp[zeroRow]
     rw[this];rfl
   · rw[if_neg hz0];simp only[Sem.run_bind,run_zero hi hzv,Sem.run_pure,Result.andThen_ok,newRow,run_newObj];rfl
 · show _=_
   rw[grow_m];simp[zeroRow]
def IOp.isVal:IOp→Bool
 | .st _ _ _ | .new _ | .box _ _ | .mks _ _ _ _ _ | .bsm _ _ _ | .app _ _ _ _ _ | .apm _ _ _ _ _ | .apz _ _ _ _ | .nil _ _ | .kil _ | .chk _ _ _ _=>false
 | .mkm | .mup _ _ _ _ | .men _ _ _ _ | .mst _ _ _ | .mlk _ _ _ _ _ | .rng _ | .nxt _ | .nlq _ | .ent _ | .mln _ | .cpy _ _ _=>false
 | _=>true
theorem eff_val{op:IOp}{e:Nat→AV}{σ':Sig}{d γ:Nat}(hno:op.isVal=true)(h:effO d op e σ γ=some (p,v,σ')):valO op e σ=some (p,v)∧σ'=σ:=by
 have key:(match valO op e σ with | some (p,v)=>some (p,v,σ) | none=>none)=some (p,v,σ'):=by cases op<;>first | exact h | (cases hno;done)
 split at key
 · rename_i q u hq;injection key with key;injection key with k1 k2;injection k2 with k2 k3
   subst k1;subst k2;exact⟨hq,k3.symm⟩
 · cases key
theorem eff3{p q:Prop}{v u:AV}{s s':Sig}(h:some (p,v,s)=some (q,u,s')):p=q∧v=u∧s=s':=by injection h with h;injection h with h1 h2;injection h2 with h2 h3;exact⟨h1,h2,h3⟩
theorem val_ok{op:IOp}{e:Nat→AV}{σ':Sig}{d γ:Nat}{x:Sem Value}{r:Result Next}(hI:Inv G σ w)(hno:op.isVal=true)(h:effO d op e σ γ=some (p,v,σ'))(hr:r=Sem.run P (do pure (.value (←x)):Sem Next) w)(hx:valO op e σ=some (p,v)→ ∃v',x.run P w= .ok v' w∧Rel G v v'):OpOK P G σ w r v σ':=by
 obtain⟨h1,rfl⟩:=eff_val hno h;rw[hr];exact OpOK.val hI (hx h1)
theorem run_b1{b:Builtin}{f:Array TypeId→TypeId→Array Value→Sem Value}(hf:∀ts ty cs as,builtin b ts ty cs as=(do pure (.value (←f ts ty as)))){dst:Option Nat}{x:Operand}{t ty:TypeId}{pos:String}{af:Array Edge}{gd:Option (Nat×Bool)}{ρ:Operand→Value}:
  (execOp ρ ⟨dst,.call ⟨.builtin b,#[x],#[t]⟩,ty,pos,af,gd⟩).run P w=Sem.run P (do pure (.value (←f #[t] ty #[ρ x])):Sem Next) w:=by
 have h:(#[x]:Array Operand).map ρ= #[ρ x]:=by simp
 rw[←h,←hf #[t] ty (#[x].map fun | .const _=>true | _=>false)];rfl
theorem run_b2{b:Builtin}{f:Array TypeId→TypeId→Array Value→Sem Value}(hf:∀ts ty cs as,builtin b ts ty cs as=(do pure (.value (←f ts ty as)))){dst:Option Nat}{x y:Operand}{t u ty:TypeId}{pos:String}{af:Array Edge}{gd:Option (Nat×Bool)}{ρ:Operand→Value}:
  (execOp ρ ⟨dst,.call ⟨.builtin b,#[x,y],#[t,u]⟩,ty,pos,af,gd⟩).run P w=Sem.run P (do pure (.value (←f #[t,u] ty #[ρ x,ρ y])):Sem Next) w:=by
 have h:(#[x,y]:Array Operand).map ρ= #[ρ x,ρ y]:=by simp
 rw[←h,←hf #[t,u] ty (#[x,y].map fun | .const _=>true | _=>false)];rfl
theorem run_b3{b:Builtin}{f:Array TypeId→TypeId→Array Value→Sem Value}(hf:∀ts ty cs as,builtin b ts ty cs as=(do pure (.value (←f ts ty as)))){dst:Option Nat}{x y z:Operand}{t u v ty:TypeId}{pos:String}{af:Array Edge}{gd:Option (Nat×Bool)}{ρ:Operand→Value}:
  (execOp ρ ⟨dst,.call ⟨.builtin b,#[x,y,z],#[t,u,v]⟩,ty,pos,af,gd⟩).run P w=Sem.run P (do pure (.value (←f #[t,u,v] ty #[ρ x,ρ y,ρ z])):Sem Next) w:=by
 have h:(#[x,y,z]:Array Operand).map ρ= #[ρ x,ρ y,ρ z]:=by simp
 rw[←h,←hf #[t,u,v] ty (#[x,y,z].map fun | .const _=>true | _=>false)];rfl
theorem cMap_sound{d γ:Nat}{o:Oper}{op:IOp}{e:Nat→AV}{ρ:Operand→Value}{σ':Sig}(hn:∀x,op≠ .nxt x)(hc:cMap P o.op=some op)(hρ:ORel G e ρ)(hI:Inv G σ w)(hγ:G.m d γ=none)(h:effO d op e σ γ=some (p,v,σ'))(hp:p):OpOK P G σ w ((execOp ρ o).run P w) v σ':=by
 obtain⟨dst,oop,ty,pos,af,gd⟩:=o;simp only at hc;have unit:∀{x:Sem Unit},(execOp ρ ⟨dst,oop,ty,pos,af,gd⟩)=(do x;pure .skip)→(∃w',x.run P w= .ok () w'∧v= .junk∧StepOK G σ w G σ' w')→OpOK P G σ w ((execOp ρ ⟨dst,oop,ty,pos,af,gd⟩).run P w) v σ':=by rintro x hx ⟨w',hr,rfl,hst⟩;refine⟨G,w',hst,.inr ⟨?_,rfl⟩⟩;rw[hx,Sem.run_bind,hr];rfl
 have same:∀{x:Sem Value},(execOp ρ ⟨dst,oop,ty,pos,af,gd⟩)=(do pure (.value (←x)))→(σ'=σ∧ ∃v',x.run P w= .ok v' w∧Rel G v v')→OpOK P G σ w ((execOp ρ ⟨dst,oop,ty,pos,af,gd⟩).run P w) v σ':=by rintro x hx ⟨rfl,hr⟩;rw[hx];exact OpOK.val hI hr
 cases oop<;>simp only[cMap] at hc<;>try (cases hc;done)
 case makeMap t r=>
  split at hc
  · rename_i kt et ht hr;cases hc;obtain⟨rfl,rfl,rfl⟩:=eff3 h;exact OpOK.eff (e_mkm hI hρ hγ ht hr)
  · cases hc
 case mapUpdate t m k x=>
  split at hc
  · rename_i kt et ht;simp only[Option.bind_eq_bind,Option.bind_eq_some_iff] at hc;obtain⟨kk,hk,m',hm,k',hkk,x',hx,hc⟩:=hc;cases hc;exact unit rfl (e_mup hI ht hk (hρ _ _ hm) (hρ _ _ hkk) (hρ _ _ hx) h hp)
  · cases hc
 case insert t m k x=>
  split at hc
  · rename_i kt et ht;simp only[Option.bind_eq_bind,Option.bind_eq_some_iff] at hc;obtain⟨kk,hk,m',hm,k',hkk,x',hx,hc⟩:=hc;cases hc;exact unit rfl (e_mup hI ht hk (hρ _ _ hm) (hρ _ _ hkk) (hρ _ _ hx) h hp)
  · cases hc
 case mapEntry t m k=>
  split at hc
  · rename_i kt et ht;simp only[Option.bind_eq_bind,Option.bind_eq_some_iff] at hc;obtain⟨kk,hk,z,hz,m',hm,k',hkk,hc⟩:=hc;cases hc;exact OpOK.eff (e_men hI ht hk hz (hρ _ _ hm) (hρ _ _ hkk) h hp)
  · cases hc
 case entryStore t m s x=> simp only[Option.bind_eq_bind,Option.bind_eq_some_iff] at hc;obtain⟨m',hm,s',hs,x',hx,hc⟩:=hc;cases hc;exact unit rfl (e_mst hI (hρ _ _ hm) (hρ _ _ hs) (hρ _ _ hx) h hp)
 case lookup t m k ok=>
  split at hc
  · rename_i kt et ht;simp only[Option.bind_eq_bind,Option.bind_eq_some_iff] at hc;obtain⟨kk,hk,z,hz,m',hm,k',hkk,hc⟩:=hc;cases hc;exact same rfl (s_mlk hI ht hk hz (hρ _ _ hm) (hρ _ _ hkk) h hp)
  · cases hc
 case range t x=>
  split at hc
  · rename_i kt et ht;rw[Option.map_eq_some_iff] at hc;obtain⟨y,hy,rfl⟩:=hc;exact OpOK.eff (e_rng hI hγ ht (hρ _ _ hy) h)
  · cases hc
 case next x b=>
  split at hc
  · rw[Option.map_eq_some_iff] at hc;obtain⟨y,hy,rfl⟩:=hc;exact absurd rfl (hn _)
  · cases hc
 case entry x=> rw[Option.map_eq_some_iff] at hc;obtain⟨y,hy,rfl⟩:=hc;exact same rfl (s_ent hI (hρ _ _ hy) h hp)
theorem cOp_sound{site d γ:Nat}{m:Bool}{o:Oper}{op:IOp}{e:Nat→AV}{ρ:Operand→Value}{σ':Sig}(hnx:∀x,op≠ .nxt x)(hc:cOp P site m o.op=some op)(hρ:ORel G e ρ)(hI:Inv G σ w)(hγ:G.m d γ=none)(hγ':G.m site γ=none)(h:effO d op e σ γ=some (p,v,σ'))(hp:p):OpOK P G σ w ((execOp ρ o).run P w) v σ':=by
 obtain⟨dst,oop,ty,pos,af,gd⟩:=o;simp only at hc;cases oop<;>simp only[cOp] at hc<;>try (cases hc;done)
 case move x=> rw[Option.map_eq_some_iff] at hc;obtain⟨y,hy,rfl⟩:=hc;obtain⟨h1,rfl⟩:=eff_val rfl h;exact⟨G,w,.refl hI,.inl ⟨_,rfl,by rw[liftV_force h1];exact hρ _ _ hy⟩⟩
 case assign x=> rw[Option.map_eq_some_iff] at hc;obtain⟨y,hy,rfl⟩:=hc;obtain⟨h1,rfl⟩:=eff_val rfl h;exact⟨G,w,.refl hI,.inl ⟨_,rfl,by rw[liftV_force h1];exact hρ _ _ hy⟩⟩
 case pick c a b=> simp only[Option.bind_eq_bind,Option.bind_eq_some_iff] at hc;obtain⟨c',hc',a',ha',b',hb',hh⟩:=hc;cases hh;obtain⟨h1,rfl⟩:=eff_val rfl h;obtain⟨t,ht,hr⟩:=s_pick (hρ _ _ hc') (hρ _ _ ha') (hρ _ _ hb') h1;refine⟨G,w,.refl hI,.inl ⟨if t then ρ a else ρ b,?_,hr⟩⟩;simp only[execOp,ht,asBool,Sem.run_bind,Sem.run_pure,Result.andThen_ok]
 case alloc t=> rw[Option.map_eq_some_iff] at hc;obtain⟨z,hz,rfl⟩:=hc;obtain⟨rfl,rfl,rfl⟩:=eff3 h;exact OpOK.eff (e_new hI hγ hz)
 case box t x=>
  simp only[Option.bind_eq_bind,Option.bind_eq_some_iff] at hc;obtain⟨sz,hs,y,hy,hh⟩:=hc;cases hh;simp only[effO] at h;split at h
  · rename_i q c hcc;obtain⟨rfl,rfl,rfl⟩:=eff3 h;exact OpOK.eff (e_box hI hγ (hρ _ _ hy) hcc hp)
  · cases h
 case build t parts=>
  simp only[Option.bind_eq_bind,Option.bind_eq_some_iff] at hc;obtain⟨z,hz,hc⟩:=hc;split at hc
  · rename_i fields ht;simp only[Option.bind_eq_some_iff] at hc;obtain⟨ps,hps,hc⟩:=hc;split at hc
    · rename_i hall;cases hc;refine val_ok hI rfl h rfl fun h1=>?_;simp only[valO] at h1;split at h1
      · rename_i q l hl;obtain⟨rfl,rfl⟩:=ov_inj h1;exact s_bld hρ hz (.inl ⟨fields,ht,hall,hps⟩) hl hp
      · cases h1
    · cases hc
  · rename_i n u ht;simp only[Option.bind_eq_some_iff] at hc;obtain⟨sz,hs,ps,hps,hc⟩:=hc;cases hc;refine val_ok hI rfl h rfl fun h1=>?_;simp only[valO] at h1;split at h1
    · rename_i q l hl;obtain⟨rfl,rfl⟩:=ov_inj h1;exact s_bld hρ hz (.inr ⟨n,u,sz,ht,hs,hps⟩) hl hp
    · cases h1
  · cases hc
 case buildSlice t len parts=>
  simp only[Option.bind_eq_bind,Option.bind_eq_some_iff] at hc;obtain⟨u,hu,i,hi,z,hz,ps,hps,hc⟩:=hc;split at hc
  · rename_i hcond;cases m
    case true=>
     cases hc;simp only[effO] at h;split at h
     · rename_i q es hes;obtain⟨rfl,rfl,rfl⟩:=eff3 h;exact OpOK.eff (e_bsm hρ hI hγ (slElem_some hu) hi hz hps hcond.1 hcond.2 hes hp)
     · cases h
    cases hc;obtain⟨h,rfl⟩:=eff_val rfl h;simp only[valO] at h;split at h
    · rename_i q es hes;obtain⟨rfl,rfl⟩:=ov_inj h;exact OpOK.eff (e_bsl hρ hI (slElem_some hu) hi hz hps hcond.1 hcond.2 hes hp)
    · cases h
  · cases hc
 case load t x=> simp only[Option.bind_eq_bind,Option.bind_eq_some_iff] at hc;obtain⟨sz,hs,g,hg,y,hy,hh⟩:=hc;cases hh;exact val_ok hI rfl h rfl fun h1=>s_ld hI hs hg (hρ _ _ hy) h1 hp
 case store t x y=> simp only[Option.bind_eq_bind,Option.bind_eq_some_iff] at hc;obtain⟨sz,hs,x',hx,y',hy,hh⟩:=hc;cases hh;simp only[effO] at h;obtain⟨w',hr,rfl,hst⟩:=e_st (P:=P) hI hs (hρ _ _ hx) (hρ _ _ hy) h hp;refine⟨G,w',hst,.inr ⟨?_,rfl⟩⟩;simp only[execOp,Sem.run_bind,hr,Result.andThen_ok,Sem.run_pure]
 case nilCheck x=> rw[Option.map_eq_some_iff] at hc;obtain⟨y,hy,rfl⟩:=hc;obtain⟨h1,rfl⟩:=eff_val rfl h;obtain⟨v',hr,hv⟩:=s_nck (P:=P) (w:=w) (dst:=dst) (ty:=ty) (pos:=pos) (af:=af) (gd:=gd) (hρ _ _ hy) h1;exact⟨G,w,.refl hI,.inl ⟨v',hr,hv⟩⟩
 case binOp bop t x y yt=>
  simp only[Option.bind_eq_bind,Option.bind_eq_some_iff] at hc;obtain⟨x',hx,y',hy,hc⟩:=hc;have plain:op= .bin bop x' y'→OpOK P G σ w ((execOp ρ ⟨dst,.binOp bop t x y yt,ty,pos,af,gd⟩).run P w) v σ':=by rintro rfl;exact val_ok hI rfl h rfl fun h1=>s_bin (hρ _ _ hx) (hρ _ _ hy) h1 hp
  have eqs:∀k n,eqKind P t=some k→bop=(if n then .neq else .eql)→op= .eqn k n x' y'→OpOK P G σ w ((execOp ρ ⟨dst,.binOp bop t x y yt,ty,pos,af,gd⟩).run P w) v σ':=by rintro k n hk rfl rfl;exact val_ok hI rfl h rfl fun h1=>s_eqn hk (hρ _ _ hx) (hρ _ _ hy) h1 hp
  split at hc
  · split at hc
    · cases hc;exact plain rfl
    · rw[Option.map_eq_some_iff] at hc;obtain⟨k,hk,rfl⟩:=hc;exact eqs k false hk rfl rfl
  · split at hc
    · cases hc;exact plain rfl
    · rw[Option.map_eq_some_iff] at hc;obtain⟨k,hk,rfl⟩:=hc;exact eqs k true hk rfl rfl
  · cases hc;exact plain rfl
 case unOp uop t x=>
  cases uop<;>simp only at hc<;>try (cases hc;done)
  · rw[Option.map_eq_some_iff] at hc;obtain⟨y,hy,rfl⟩:=hc;refine val_ok hI rfl h rfl fun h1=>?_;have hr:=hρ _ _ hy;simp only[valO] at h1;unfold negO at h1;split at h1
    · rename_i k n hk;rw[hk] at hr;simp only[Rel] at hr;obtain⟨_,rfl⟩:=fitV_rel h1 hp;rw[hr];exact⟨_,by simp[Op.unary,Op.intArith],rfl⟩
    · cases h1
  · rw[Option.map_eq_some_iff] at hc;obtain⟨y,hy,rfl⟩:=hc;refine val_ok hI rfl h rfl fun h1=>?_;have hr:=hρ _ _ hy;simp only[valO] at h1;unfold notO at h1;split at h1
    · rename_i b hb;rw[hb] at hr;simp only[Rel] at hr;obtain⟨_,rfl⟩:=ov_inj h1;rw[hr];exact⟨_,by simp[Op.unary],rfl⟩
    · cases h1
 case convert s d x=>
  split at hc
  · rename_i k' k hs hd;rw[Option.map_eq_some_iff] at hc;obtain⟨y,hy,rfl⟩:=hc;exact val_ok hI rfl h rfl fun h1=>s_cvI hs hd (hρ _ _ hy) h1 hp
  · rename_i u hs hd;split at hc
    · rename_i hu;rw[Option.map_eq_some_iff] at hc;obtain⟨y,hy,rfl⟩:=hc;obtain⟨h,rfl⟩:=eff_val rfl h;exact OpOK.eff (e_sb hI hs hd hu (hρ _ _ hy) h hp)
    · cases hc
  · rename_i u hs hd;split at hc
    · rename_i hu;rw[Option.map_eq_some_iff] at hc;obtain⟨y,hy,rfl⟩:=hc;exact val_ok hI rfl h rfl fun h1=>s_bs hI hs hd hu (hρ _ _ hy) h1
    · cases hc
  · cases hc
 case makeFunc fn first caps=>
  simp only[Option.bind_eq_bind,Option.bind_eq_some_iff] at hc;obtain⟨f,hf,c,hcc,hh⟩:=hc;cases hh;refine val_ok hI rfl h rfl fun h1=>?_;simp only[valO] at h1;split at h1
  · rename_i l1 l2 e1 e2;obtain⟨_,rfl⟩:=ov_inj h1;refine⟨.func fn (first.map ρ) (caps.map ρ),rfl,⟨_,_,rfl,?_,?_⟩⟩
    · simpa using cOpds_rel hρ hf e1
    · simpa using cOpds_rel hρ hcc e2
  · cases h1
 case makeSlice t len cap=>
  simp only[Option.bind_eq_bind,Option.bind_eq_some_iff] at hc;obtain⟨u,hu,i,hi,z,hz,l,hl,c,hcc,hc⟩:=hc;split at hc
  · rename_i h0;cases hc;simp only[effO] at h;split at h
    · rename_i k n k' m hn hm;obtain⟨rfl,rfl,rfl⟩:=eff3 h;have r1:=hρ _ _ hl;have r2:=hρ _ _ hcc;rw[hn] at r1;rw[hm] at r2;simp only[Rel] at r1 r2;have:=e_mks (d:=d) (k:=k) (k':=k') hI hγ (slElem_some hu) hi hz h0 hp.1 hp.2.1 hp.2.2.1 hp.2.2.2;refine OpOK.eff (x:=Instr.makeSlice t (ρ len) (ρ cap)) ?_;rw[r1,r2];exact this
    · cases h
  · cases hc
 case slice t x lo hi mx=>
  simp only[Option.bind_eq_bind,Option.bind_eq_some_iff] at hc;obtain⟨y,hy,lo',hlo,hi',hhi,mx',hmx,hc⟩:=hc;split at hc
  · rename_i u ht;simp only[Option.bind_eq_some_iff] at hc;obtain⟨sz,hs,hc⟩:=hc;split at hc
    · rename_i hmh;cases hc;exact val_ok hI rfl h rfl fun h1=>s_slS hρ ht hs hlo hhi hmx hmh (hρ _ _ hy) h1 hp
    · cases hc
  · rename_i ht;split at hc
    · rename_i hn;cases hc;have hmn:mx=none:=by cases mx<;>simp[cOptOpd] at hmx<;>first | rfl | (obtain⟨_,_,rfl⟩:=hmx;simp at hn)
      subst hmn;exact val_ok hI rfl h rfl fun h1=>s_slT hρ ht hlo hhi (hρ _ _ hy) h1 hp
    · cases hc
  · cases hc
 case fieldAddr t x n=>
  split at hc
  · rename_i fields ht;simp only[Option.bind_eq_bind,Option.bind_eq_some_iff] at hc;obtain⟨f,hf,sz,hs,y,hy,hc⟩:=hc;split at hc
    · rename_i hz;cases hc;exact val_ok hI rfl h rfl fun h1=>s_flA ht hf hs hz (hρ _ _ hy) h1 hp
    · cases hc
  · cases hc
 case field t x n=>
  split at hc
  · rename_i fields ht;simp only[Option.bind_eq_bind,Option.bind_eq_some_iff] at hc;obtain⟨f,hf,sz,hs,g,hg,y,hy,hc⟩:=hc;cases hc;exact val_ok hI rfl h rfl fun h1=>s_fl ht hf hs hg (hρ _ _ hy) h1 hp
  · cases hc
 case indexAddr t x i=>
  simp only[Option.bind_eq_bind,Option.bind_eq_some_iff] at hc;obtain⟨x',hx,i',hi,hc⟩:=hc;split at hc
  · rename_i u ht;simp only[Option.bind_eq_some_iff] at hc;obtain⟨sz,hs,hc⟩:=hc;cases hc;exact val_ok hI rfl h rfl fun h1=>s_ixA ht hs (hρ _ _ hx) (hρ _ _ hi) h1 hp
  · rename_i n u ht;simp only[Option.bind_eq_some_iff] at hc;obtain⟨sz,hs,hc⟩:=hc;cases hc;exact val_ok hI rfl h rfl fun h1=>s_ixAr ht hs (hρ _ _ hx) (hρ _ _ hi) h1 hp
  · cases hc
 case index t x i=>
  simp only[Option.bind_eq_bind,Option.bind_eq_some_iff] at hc;obtain⟨x',hx,i',hi,hc⟩:=hc;split at hc
  · rename_i n u ht;simp only[Option.bind_eq_some_iff] at hc;obtain⟨sz,hs,g,hg,hc⟩:=hc;cases hc;refine val_ok hI rfl h rfl fun h1=>?_;simp only[valO] at h1;split at h1
    · rename_i q q' u' hq;obtain⟨rfl,rfl⟩:=ov_inj h1;exact s_ixV ht hs hg (hρ _ _ hx) (hρ _ _ hi) hq hp.1 hp.2
    · cases h1
  · rename_i ht;cases hc;exact val_ok hI rfl h rfl fun h1=>s_ixS ht (hρ _ _ hx) (hρ _ _ hi) h1 hp
  · cases hc
 case extract x i=> rw[Option.map_eq_some_iff] at hc;obtain⟨y,hy,rfl⟩:=hc;exact val_ok hI rfl h rfl fun h1=>s_ext (hρ _ _ hy) h1
 case call c=>
  obtain⟨callee,args,argTypes⟩:=c;simp only at hc;split at hc
  · rw[Option.map_eq_some_iff] at hc;obtain⟨y,hy,rfl⟩:=hc;simp[effO,valO] at h
  · simp only[Option.bind_eq_bind,Option.bind_eq_some_iff] at hc;obtain⟨y,hy,as,has,hc⟩:=hc;cases hc;simp[effO,valO] at h
  · rename_i b;unfold cBuiltin at hc;split at hc
    · rename_i t x hts hxs;obtain rfl:argTypes= #[t]:=by apply Array.toList_inj.1;simpa using hts
      obtain rfl:args= #[x]:=by apply Array.toList_inj.1;simpa using hxs
      split at hc
      · rename_i u ht;rw[Option.map_eq_some_iff] at hc;obtain⟨y,hy,rfl⟩:=hc;exact val_ok (x:=Builtin.len_ #[t] ty #[ρ x]) hI rfl h (run_b1 (fun _ _ _ _=>rfl)) fun h1=>s_len (str:=false) ⟨_,ht⟩ (hρ _ _ hy) h1
      · rename_i ht;rw[Option.map_eq_some_iff] at hc;obtain⟨y,hy,rfl⟩:=hc;exact val_ok (x:=Builtin.len_ #[t] ty #[ρ x]) hI rfl h (run_b1 (fun _ _ _ _=>rfl)) fun h1=>s_len (str:=true) ht (hρ _ _ hy) h1
      · rename_i n u ht;cases hc;refine val_ok (x:=Builtin.len_ #[t] ty #[ρ x]) hI rfl h (run_b1 (fun _ _ _ _=>rfl)) fun h1=>?_;obtain⟨_,rfl⟩:=ov_inj h1;exact⟨_,by simp[Builtin.len_,run_underlying ht,goInt],rfl⟩
      · rename_i kt et ht;rw[Option.map_eq_some_iff] at hc;obtain⟨y,hy,rfl⟩:=hc;obtain⟨rfl,hr⟩:=s_mln (ty:=ty) hI ht (hρ _ _ hy) h hp;rw[run_b1 (b:= .len) (P:=P) (w:=w) (f:=Builtin.len_) (fun _ _ _ _=>rfl)];exact OpOK.val hI hr
      · cases hc
    · rename_i t u x y hts hxs;obtain rfl:argTypes= #[t,u]:=by apply Array.toList_inj.1;simpa using hts
      obtain rfl:args= #[x,y]:=by apply Array.toList_inj.1;simpa using hxs
      simp only[Option.bind_eq_bind,Option.bind_eq_some_iff] at hc;obtain⟨e1,he1,e2,he2,i,hi,i',hi',z,hz,x',hx,y',hy,hc⟩:=hc;split at hc
      · rename_i hcond;obtain⟨c1,c2,c3,c4⟩:=hcond;cases m
        case true=>
         dsimp only at hc;unfold apX at hc;split at hc
         · cases hc;rw[run_b2 (b:= .append) (P:=P) (w:=w) (f:=Builtin.append_) (fun _ _ _ _=>rfl)];exact OpOK.eff (e_apz hI hγ (slElem_some he1) (slElem_some he2) hi hz c4 c2 c3 (hρ _ _ hx) (hρ _ _ hy) h hp)
         cases hc;simp only[effO] at h;split at h
         · rename_i q n c s' q' ys hb hr;rw[run_b2 (b:= .append) (P:=P) (w:=w) (f:=Builtin.append_) (fun _ _ _ _=>rfl)];split at h
           · obtain⟨rfl,rfl,rfl⟩:=eff3 h;exact OpOK.val hI (e_apm0 hI (slElem_some he1) (slElem_some he2) hi (hρ _ _ hx) (hρ _ _ hy) hb hp.1 hr hp.2)
           · rename_i y0 yr;obtain⟨rfl,rfl,rfl⟩:=eff3 h;exact OpOK.eff (e_apm hI hγ' (slElem_some he1) (slElem_some he2) hi hz c4 c2 c3 (hρ _ _ hx) (hρ _ _ hy) hb hp.1 hr hp.2.1 (by simp) hp.2.2)
         · rename_i q n c s' hb hr;rw[run_b2 (b:= .append) (P:=P) (w:=w) (f:=Builtin.append_) (fun _ _ _ _=>rfl)];split at h
           · rename_i q' m' ys' hr';obtain⟨rfl,rfl,rfl⟩:=eff3 h;exact OpOK.eff (e_apmM hI hγ' (slElem_some he1) (slElem_some he2) hi hz c4 c2 c3 (hρ _ _ hx) (hρ _ _ hy) hb hp.1 hr' hp.2.1 hp.2.2)
           · cases h
         · cases h
        cases hc;simp only[effO] at h;split at h
        · rename_i q es s' q' ys hb hr;obtain⟨rfl,rfl,rfl⟩:=eff3 h;rw[run_b2 (b:= .append) (P:=P) (w:=w) (f:=Builtin.append_) (fun _ _ _ _=>rfl)];exact OpOK.eff (e_app hI hγ' (slElem_some he1) (slElem_some he2) hi hz c4 c2 c3 (hρ _ _ hx) (hρ _ _ hy) hb hp.1 hr hp.2.1 hp.2.2)
        · cases h
      · cases hc
    · rename_i t u x y hts hxs;obtain rfl:argTypes= #[t,u]:=by apply Array.toList_inj.1;simpa using hts
      obtain rfl:args= #[x,y]:=by apply Array.toList_inj.1;simpa using hxs
      simp only[Option.bind_eq_bind,Option.bind_eq_some_iff] at hc;obtain⟨x',hx,y',hy,hc⟩:=hc;cases hc;exact val_ok (x:=Builtin.max_ #[t,u] ty #[ρ x,ρ y]) hI rfl h (run_b2 (fun _ _ _ _=>rfl)) fun h1=>s_mxi (m:=true) (ts:= #[t,u]) (ty:=ty) (hρ _ _ hx) (hρ _ _ hy) h1
    · rename_i t u x y hts hxs;obtain rfl:argTypes= #[t,u]:=by apply Array.toList_inj.1;simpa using hts
      obtain rfl:args= #[x,y]:=by apply Array.toList_inj.1;simpa using hxs
      simp only[Option.bind_eq_bind,Option.bind_eq_some_iff] at hc;obtain⟨x',hx,y',hy,hc⟩:=hc;cases hc;exact val_ok (x:=Builtin.min_ #[t,u] ty #[ρ x,ρ y]) hI rfl h (run_b2 (fun _ _ _ _=>rfl)) fun h1=>s_mxi (m:=false) (ts:= #[t,u]) (ty:=ty) (hρ _ _ hx) (hρ _ _ hy) h1
    · rename_i t u s x y z hts hxs;obtain rfl:argTypes= #[t,u,s]:=by apply Array.toList_inj.1;simpa using hts
      obtain rfl:args= #[x,y,z]:=by apply Array.toList_inj.1;simpa using hxs
      simp only[Option.bind_eq_bind,Option.bind_eq_some_iff] at hc;obtain⟨x',hx,y',hy,z',hz,hc⟩:=hc;cases hc;exact val_ok (x:=Builtin.max_ #[t,u,s] ty #[ρ x,ρ y,ρ z]) hI rfl h (run_b3 (fun _ _ _ _=>rfl)) fun h1=>s_mx3 (m:=true) (ts:= #[t,u,s]) (ty:=ty) (hρ _ _ hx) (hρ _ _ hy) (hρ _ _ hz) h1
    · rename_i t u s x y z hts hxs;obtain rfl:argTypes= #[t,u,s]:=by apply Array.toList_inj.1;simpa using hts
      obtain rfl:args= #[x,y,z]:=by apply Array.toList_inj.1;simpa using hxs
      simp only[Option.bind_eq_bind,Option.bind_eq_some_iff] at hc;obtain⟨x',hx,y',hy,z',hz,hc⟩:=hc;cases hc;exact val_ok (x:=Builtin.min_ #[t,u,s] ty #[ρ x,ρ y,ρ z]) hI rfl h (run_b3 (fun _ _ _ _=>rfl)) fun h1=>s_mx3 (m:=false) (ts:= #[t,u,s]) (ty:=ty) (hρ _ _ hx) (hρ _ _ hy) (hρ _ _ hz) h1
    · rename_i t u x y hts hxs;obtain rfl:argTypes= #[t,u]:=by apply Array.toList_inj.1;simpa using hts
      obtain rfl:args= #[x,y]:=by apply Array.toList_inj.1;simpa using hxs
      simp only[Option.bind_eq_bind,Option.bind_eq_some_iff] at hc;obtain⟨e1,he1,e2,he2,s1,hs1,s2,hs2,x',hx,y',hy,hc⟩:=hc;split at hc
      · cases hc;rw[run_b2 (b:= .copy) (P:=P) (w:=w) (f:=Builtin.copy_) (fun _ _ _ _=>rfl)];obtain⟨v',w',k1,k2,k3⟩:=e_cpy (P:=P) (u:=u) (ty:=ty) hI (slElem_some he1) hs1 (hρ _ _ hx) (hρ _ _ hy) h hp;exact OpOK.eff ⟨v',w',G,k1,k2,k3⟩
      · cases hc
    · cases hc
  · cases hc
 all_goals exact cMap_sound hnx hc hρ hI hγ h hp
def IOp.isMap:IOp→Bool
 | .mkm | .mup _ _ _ _ | .men _ _ _ _ | .mst _ _ _ | .mlk _ _ _ _ _ | .rng _ | .nxt _ | .ent _=>true
 | _=>false
theorem cMap_is{oop:Op}{op:IOp}(h:cMap P oop=some op):op.isMap=true:=by
 cases oop<;>simp only[cMap] at h<;>try (cases h;done)
 all_goals (revert h;(repeat' split)<;>simp[Option.bind_eq_some_iff,Option.map_eq_some_iff])
 all_goals (intros;subst_vars;rfl)
theorem cMap_nxt{oop:Op}{x:IOpd}(h:cMap P oop=some (.nxt x)):∃y,oop= .next y false∧cOpd y=some x:=by
 cases oop<;>simp only[cMap] at h<;>try (cases h;done)
 case next y b=>
  split at h
  · rw[Option.map_eq_some_iff] at h;obtain⟨z,hz,h⟩:=h;cases h;exact⟨y,rfl,hz⟩
  · cases h
 all_goals (exfalso;revert h;(repeat' split)<;>simp[Option.bind_eq_some_iff,Option.map_eq_some_iff])
theorem cOp_nxt{site:Nat}{m:Bool}{oop:Op}{x:IOpd}(h:cOp P site m oop=some (.nxt x)):∃y,oop= .next y false∧cOpd y=some x:=by
 cases oop<;>simp only[cOp] at h<;>try (exact cMap_nxt h)
 case call c=>
  exfalso;obtain⟨callee,cargs,ts⟩:=c;simp only at h;split at h
  · simp[Option.map_eq_some_iff] at h
  · simp[Option.bind_eq_some_iff] at h
  · unfold cBuiltin at h;split at h
    · split at h<;>simp[Option.map_eq_some_iff] at h
    · cases hz:Nat.beq site 7777<;>cases m<;>simp[Option.bind_eq_some_iff,apX,hz] at h
    · simp[Option.bind_eq_some_iff] at h
    · simp[Option.bind_eq_some_iff] at h
    · simp[Option.bind_eq_some_iff] at h
    · simp[Option.bind_eq_some_iff] at h
    · simp[Option.bind_eq_some_iff] at h
    · cases h
  · cases h
 all_goals (exfalso;revert h;(repeat' split)<;>simp[Option.bind_eq_some_iff,Option.map_eq_some_iff])
 all_goals ((intros;(repeat' split)<;>simp_all [Option.bind_eq_some_iff,Option.map_eq_some_iff]))
theorem cOp_nlq{site:Nat}{m:Bool}{oop:Op}{x:IOpd}(h:cOp P site m oop=some (.nlq x)):False:=by
 cases oop<;>simp only[cOp] at h<;>try (have:=cMap_is h;cases this;done)
 case call c=>
  obtain⟨callee,cargs,ts⟩:=c;simp only at h;split at h
  · simp[Option.map_eq_some_iff] at h
  · simp[Option.bind_eq_some_iff] at h
  · unfold cBuiltin at h;split at h
    · split at h<;>simp[Option.map_eq_some_iff] at h
    · cases hz:Nat.beq site 7777<;>cases m<;>simp[Option.bind_eq_some_iff,apX,hz] at h
    · simp[Option.bind_eq_some_iff] at h
    · simp[Option.bind_eq_some_iff] at h
    · simp[Option.bind_eq_some_iff] at h
    · simp[Option.bind_eq_some_iff] at h
    · simp[Option.bind_eq_some_iff] at h
    · cases h
  · cases h
 all_goals (revert h;(repeat' split)<;>simp[Option.bind_eq_some_iff,Option.map_eq_some_iff])
 all_goals ((intros;(repeat' split)<;>simp_all [Option.bind_eq_some_iff,Option.map_eq_some_iff]))
theorem nlq_run{t u:TypeId}{y:Operand}{va vb:Value}{x:Operand}(r:Bool)(hd:P.underlying t=some (.slice u))(hv:(va= .slice none 0 0∧r=true)∨ ∃z m n,va= .slice (some z) m n∧r=false)(hb:vb= .slice none 0 0):
  (do eqGuard .eql t x y va vb;binOp .eql t va vb).run P w= .ok (.bool r) w:=by
 subst hb;rcases hv with⟨rfl,rfl⟩ | ⟨z,m,n,rfl,rfl⟩
 · rw[Sem.run_bind,run_eqGuard_pure (by rintro _ _ ⟨h,_⟩;cases h) (by rintro⟨h,_⟩;cases h),Result.andThen_ok];show (do pure (.bool (←Op.equal t _ _)):Sem Value).run P w=_
   rw[Sem.run_bind,eq_slnn hd];rfl
 · rw[Sem.run_bind,run_eqGuard_pure (by rintro _ _ ⟨h,_⟩;cases h) (by rintro⟨h,_⟩;cases h),Result.andThen_ok];show (do pure (.bool (←Op.equal t _ _)):Sem Value).run P w=_
   rw[Sem.run_bind,eq_slsn hd];rfl
theorem nlq_sound{H:Hint}{o:Oper}{x':IOpd}{e:Nat→AV}{ρ:Operand→Value}{K:AV→Sig→Prop}(hc:cOp' P H o=some (.nlq x'))(hρ:ORel G e ρ)(hI:Inv G σ w)(h:detW (effO (o.dst.getD 0) (.nlq x') e σ) K):∃v σ',K v σ'∧OpOK P G σ w ((execOp ρ o).run P w) v σ':=by
 have hc1:cNlq P o.op=some (.nlq x'):=by
  unfold cOp' at hc;split at hc
  · exact hc
  · exfalso;unfold cOp0 at hc;split at hc
    · cases hc
    · exact cOp_nlq hc
 obtain⟨t,x,yt,u,x2,hop,hu,hx,he⟩:=cNlq_some hc1;cases he;have ha:=hρ _ _ hx;have hn0:Rel G .nsl (ρ (.const (.slice none 0 0))):=hρ _ (.k .nsl) rfl;simp only[Rel] at hn0;have key:∃r:Bool,K (.bool r) σ∧((ρ x= .slice none 0 0∧r=true)∨ ∃z m n,ρ x= .slice (some z) m n∧r=false):=by
  have h0:=h 0;have h1:=h 1;simp only[effO] at h0 h1;cases hxe:x'.ev e<;>rw[hxe] at h0 h1 ha<;>simp only[nlqO] at h0 h1
  · simp only[Rel] at ha;exact⟨true,h0.2,.inl ⟨ha,rfl⟩⟩
  · rename_i sz es tg;cases es with
    | nil=>
      rcases ha with⟨hz | ⟨a,cap,h2,_⟩,_⟩ | ⟨b,o,cap,h2,_⟩
      · exact⟨true,h1.2,.inl ⟨hz,rfl⟩⟩
      · exact⟨false,h0.2,.inr ⟨_,_,_,h2,rfl⟩⟩
      · exact⟨false,h0.2,.inr ⟨_,_,_,h2,rfl⟩⟩
    | cons y ys=>
      rcases ha with⟨_,hz⟩ | ⟨b,o,cap,h2,_⟩
      · cases hz
      · exact⟨false,h0.2,.inr ⟨_,_,_,h2,rfl⟩⟩
 obtain⟨r,hval,hv⟩:=key;have hr:=nlq_run (P:=P) (w:=w) (x:=x) (y:= .const (.slice none 0 0)) r hu hv hn0;refine⟨.bool r,σ,hval,?_⟩;obtain⟨dst,oop,ty,pos,af,gd⟩:=o;simp only at hop;subst hop;exact OpOK.val hI ⟨.bool r,hr,rfl⟩
theorem det_sound{H:Hint}{o:Oper}{op:IOp}{e:Nat→AV}{ρ:Operand→Value}{K:AV→Sig→Prop}(hc:cOp' P H o=some op)(hρ:ORel G e ρ)(hI:Inv G σ w)(h:detW (effO (o.dst.getD 0) op e σ) K):∃v σ',K v σ'∧OpOK P G σ w ((execOp ρ o).run P w) v σ':=by
 by_cases hnl:∃x,op= .nlq x
 · obtain⟨x,rfl⟩:=hnl;exact nlq_sound hc hρ hI h
 have hc:cOp0 P H o=some op:=cOp0_of hc fun x hx=>hnl ⟨x,hx⟩;by_cases hex:∃x,op= .nxt x
 · obtain⟨x,rfl⟩:=hex;unfold cOp0 at hc;split at hc
   · cases hc
   · obtain⟨y,hop,hy⟩:=cOp_nxt hc;obtain⟨u,s',v',w',h1,h2,h3,h4,_⟩:=e_nxt (ty:=o.type) (K:=K) hI (hρ _ _ hy) fun γ=>by
      have hk:=h γ;cases hq:nxtO σ γ (x.ev e) with
      | none=>rw[show effO (o.dst.getD 0) (.nxt x) e σ γ=nxtO σ γ (x.ev e) from rfl,hq] at hk;exact hk.elim
      | some q=>rw[show effO (o.dst.getD 0) (.nxt x) e σ γ=nxtO σ γ (x.ev e) from rfl,hq] at hk;exact⟨_,_,_,rfl,hk⟩
     obtain⟨dst,oop,ty,pos,af,gd⟩:=o;simp only at hop h2;subst hop;exact⟨u,s',h1,G,w',h4,.inl ⟨v',by show (do pure (.value (←Instr.next (ρ y) false ty)):Sem Next).run P w=_;rw[Sem.run_bind,h2];rfl,h3⟩⟩
 have hnx:∀x,op≠ .nxt x:=fun x hx=>hex ⟨x,hx⟩;have go:∀{γ p v σ'},G.m (o.dst.getD 0) γ=none→G.m ((o.dst.bind (look H.site)).getD (o.dst.getD 0)) γ=none→effO (o.dst.getD 0) op e σ γ=some (p,v,σ')→p→OpOK P G σ w ((execOp ρ o).run P w) v σ':=by
  intro γ p v σ' hγ hγ' h hp;unfold cOp0 at hc;split at hc
  · rename_i sz d hx hd;cases hc;obtain⟨rfl,rfl,rfl⟩:=eff3 h;split at hx
    · rename_i hn;obtain⟨dst,oop,ty,pos,af,gd⟩:=o;simp only at hn;unfold isNil at hn;split at hn
      · simp only at hd;subst hd;refine⟨G,w,nil_ok hI _ _ hγ',.inl ⟨.slice none 0 0,?_,.inl ⟨.inl rfl,rfl⟩⟩⟩;have:Rel G .nsl (ρ (.const (.slice none 0 0))):=hρ _ (.k .nsl) rfl;simp only[Rel] at this;simp only[execOp,this];rfl
      · cases hn
    · cases hx
  · exact cOp_sound hnx hc hρ hI hγ hγ' h hp
 obtain⟨N,hN⟩:=hI.fresh (o.dst.getD 0);obtain⟨M,hM⟩:=hI.fresh ((o.dst.bind (look H.site)).getD (o.dst.getD 0));have hk:=h (N+M);split at hk
 · rename_i p v σ' he;exact⟨v,σ',hk.2,go (hN _ (by omega)) (hM _ (by omega)) he hk.1⟩
 · exact hk.elim
end
end Go.Abs
namespace Go.Abs
theorem cOp_callF{P:Program}{site:Nat}{m:Bool}{oop:Op}{f:Nat}{args:List IOpd}(h:cOp P site m oop=some (.callF f args)):
  ∃cargs ts,oop= .call ⟨.value (.func f),cargs,ts⟩∧cOpds cargs.toList=some args:=by
 cases oop<;>simp only[cOp] at h<;>try (have:=cMap_is h;cases this;done)
 case call c=>
  obtain⟨callee,cargs,ts⟩:=c;simp only at h;split at h
  · rw[Option.map_eq_some_iff] at h;obtain⟨y,hy,h⟩:=h;cases h;exact⟨_,_,rfl,hy⟩
  · simp[Option.bind_eq_some_iff] at h
  · unfold cBuiltin at h;split at h
    · split at h<;>simp[Option.map_eq_some_iff] at h
    · cases hz:Nat.beq site 7777<;>cases m<;>simp[Option.bind_eq_some_iff,apX,hz] at h
    · simp[Option.bind_eq_some_iff] at h
    · simp[Option.bind_eq_some_iff] at h
    · simp[Option.bind_eq_some_iff] at h
    · simp[Option.bind_eq_some_iff] at h
    · simp[Option.bind_eq_some_iff] at h
    · cases h
  · cases h
 all_goals (exfalso;revert h;(repeat' split)<;>simp[Option.bind_eq_some_iff,Option.map_eq_some_iff])
 all_goals ((intros;(repeat' split)<;>simp_all [Option.bind_eq_some_iff,Option.map_eq_some_iff]))
theorem cOp_callV{P:Program}{site:Nat}{m:Bool}{oop:Op}{x:IOpd}{args:List IOpd}(h:cOp P site m oop=some (.callV x args)):
  ∃y cargs ts,oop= .call ⟨.value y,cargs,ts⟩∧cOpd y=some x∧cOpds cargs.toList=some args:=by
 cases oop<;>simp only[cOp] at h<;>try (have:=cMap_is h;cases this;done)
 case call c=>
  obtain⟨callee,cargs,ts⟩:=c;simp only at h;split at h
  · simp[Option.map_eq_some_iff] at h
  · simp only[Option.bind_eq_bind,Option.bind_eq_some_iff] at h;obtain⟨y,hy,as,has,h⟩:=h;cases h;exact⟨_,_,_,rfl,hy,has⟩
  · unfold cBuiltin at h;split at h
    · split at h<;>simp[Option.map_eq_some_iff] at h
    · cases hz:Nat.beq site 7777<;>cases m<;>simp[Option.bind_eq_some_iff,apX,hz] at h
    · simp[Option.bind_eq_some_iff] at h
    · simp[Option.bind_eq_some_iff] at h
    · simp[Option.bind_eq_some_iff] at h
    · simp[Option.bind_eq_some_iff] at h
    · simp[Option.bind_eq_some_iff] at h
    · cases h
  · cases h
 all_goals (exfalso;revert h;(repeat' split)<;>simp[Option.bind_eq_some_iff,Option.map_eq_some_iff])
 all_goals ((intros;(repeat' split)<;>simp_all [Option.bind_eq_some_iff,Option.map_eq_some_iff]))
theorem cOp_kil{P:Program}{site:Nat}{m:Bool}{oop:Op}{i:Nat}(h:cOp P site m oop=some (.kil i)):False:=by
 cases oop<;>simp only[cOp] at h<;>try (have:=cMap_is h;cases this;done)
 case call c=>
  obtain⟨callee,cargs,ts⟩:=c;simp only at h;split at h
  · simp[Option.map_eq_some_iff] at h
  · simp[Option.bind_eq_some_iff] at h
  · unfold cBuiltin at h;split at h
    · split at h<;>simp[Option.map_eq_some_iff] at h
    · cases hz:Nat.beq site 7777<;>cases m<;>simp[Option.bind_eq_some_iff,apX,hz] at h
    · simp[Option.bind_eq_some_iff] at h
    · simp[Option.bind_eq_some_iff] at h
    · simp[Option.bind_eq_some_iff] at h
    · simp[Option.bind_eq_some_iff] at h
    · simp[Option.bind_eq_some_iff] at h
    · cases h
  · cases h
 all_goals (revert h;(repeat' split)<;>simp[Option.bind_eq_some_iff,Option.map_eq_some_iff])
 all_goals ((intros;(repeat' split)<;>simp_all [Option.bind_eq_some_iff,Option.map_eq_some_iff]))
end Go.Abs
namespace Go.Abs
structure Ctx (P:Program) where
 n:Nat
 r:Option Nat
 Y:Option (YC P)
 F:Nat→Prop
 T:Nat→Prop
 G0:GS
 w0:World
abbrev FW(r:Option Nat):Fence:={Fence.wide with round:=r }
def markD(r:Nat):Deferred:={target:= .collected r,args:= #[] }
structure StC {P:Program} (c:Ctx P) (G:GS) (e:Nat→AV) (σ:Sig) (a:Act) (w:World):Prop where
 env:∀t,Rel G (e t) (a.tmps.getD t undef)
 size:a.tmps.size=c.n
 le:c.G0.le G
 inv:Inv G σ w
 ext:Ext (fun b=>c.F b∨c.T b) c.G0.K c.w0 G.K w
 own:∀b,Foot G σ b→c.F b∨c.w0.heap.size≤b
structure St {P:Program} (c:Ctx P) (G:GS) (e:Nat→AV) (σ:Sig) (a:Act) (w:World):Prop extends StC c G e σ a w where
 rd:c.r.isSome=true→a.defers=[]
 terr:∃T,YI c.Y T σ G.K w∧(∀b,Foot G σ b→ ¬T b)∧(∀b,T b→c.T b∨c.w0.heap.size≤b)∧
  ∃marks:List Nat,a.defers=marks.map markD∧marks.Nodup∧ ∀r∈marks,w.heap[r]?=some (.deferred (some []))∧c.w0.heap.size≤r∧ ¬T r
variable {P:Program} {c:Ctx P}
def Obj.plain:Obj→Bool
 | .cells _ _ _ | .map _ _ | .mapIter _ _ _ _=>true
 | _=>false
theorem ObjRel.plain{G:GS}{c:List AV}{o:Obj}(h:ObjRel G c o):Obj.plain o=true:=by
 unfold ObjRel at h;split at h
 · obtain⟨ks,vs,rfl,_⟩:=h;rfl
 · rcases h with⟨_,_,_,s,l,rfl⟩ | ⟨b,ks,vs,seen,rfl,_⟩<;>rfl
 · exact h.elim
theorem Foot.cells{G:GS}{σ:Sig}{w:World}(h:Inv G σ w){b:Nat}(hf:Foot G σ b):∃o,w.heap[b]?=some o∧Obj.plain o=true:=by
 obtain⟨i,x,⟨c,hc⟩,hm⟩:=hf;rcases h.res i c hc with⟨_,hn⟩ | ⟨b',e,lim,vals,T,hR⟩ | ⟨b',hO⟩
 · rw[hm] at hn;cases hn
 · have:=hR.m;rw[hm] at this;cases this;exact⟨_,hR.obj,rfl⟩
 · have:=hO.m;rw[hm] at this;cases this;obtain⟨o,h1,h2⟩:=hO.obj;exact⟨o,h1,h2.plain⟩
theorem Kok.no{K:Nat→Nat→Option Value}{w:World}(h:Kok K w){b:Nat}(hd:w.heap[b]?=some (.deferred (some [])))(o:Nat):K b o=none:=by
 cases hk:K b o with
 | none=>rfl
 | some v=>rcases h.see _ _ _ hk with⟨_,_,_,h1,_⟩ | ⟨_,_,_,h1,_⟩<;>(rw[hd] at h1;cases h1)
theorem YI.step{Y:Option (YC P)}{T:Nat→Prop}{G G':GS}{σ σ':Sig}{w w':World}(h:YI Y T σ G.K w)(hd:∀b,Foot G σ b→ ¬T b)(hs:StepOK G σ w G' σ' w')(hy:σ' YS=σ YS):YI Y T σ' G'.K w':=by
 unfold YI at*;cases Y with
 | none=>exact⟨h.1,by rw[hy];exact h.2⟩
 | some y=> obtain⟨s,h1,h2⟩:=h;refine⟨s,by rw[hy];exact h1,y.stab _ _ _ _ _ _ h2 hs.inv.kok ⟨hs.ext.os,hs.ext.tape,hs.ext.output,hs.ext.size,fun b hb hn=>hs.ext.block b hb fun hf=>hd b hf (Classical.not_not.1 hn),hs.ext.le,fun b hb hn=>hs.ext.Kb b hb fun hf=>hd b hf (Classical.not_not.1 hn)⟩⟩
theorem YI.lt{Y:Option (YC P)}{T:Nat→Prop}{σ:Sig}{K:Nat→Nat→Option Value}{w:World}(h:YI Y T σ K w){b:Nat}(hb:T b):b<w.heap.size:=by
 unfold YI at h;cases Y with
 | none=>exact absurd hb (h.1 b)
 | some y=>obtain⟨s,_,h2⟩:=h;exact y.lt _ _ _ _ h2 b hb
theorem St.step{G G':GS}{e:Nat→AV}{σ σ':Sig}{a:Act}{w w':World}(h:St c G e σ a w)(hs:StepOK G σ w G' σ' w')(hy:σ' YS=σ YS):St c G' e σ' a w' where
 env t:=(h.env t).mono hs.le
 size:=h.size
 le:=h.le.trans hs.le
 inv:=hs.inv
 ext:=h.ext.trans hs.ext fun b hb hf=> .inl ((h.own b hf).resolve_right (by have:=h.ext.size;omega))
 own b hb:=(hs.own b hb).elim (h.own b) fun hn=> .inr (Nat.le_trans h.ext.size hn)
 rd:=h.rd
 terr:=by
  obtain⟨T,h1,h2,h3,marks,h4,h5,h6⟩:=h.terr;refine⟨T,h1.step h2 hs hy,fun b hb hT=>(hs.own b hb).elim (fun hf=>h2 b hf hT) fun hn=>?_,h3,marks,h4,h5,fun r hr=>?_⟩
  · have:=h1.lt hT;omega
  · obtain⟨k1,k2,k3⟩:=h6 r hr;refine⟨?_,k2,k3⟩;rw[hs.ext.block r (Array.getElem?_eq_some_iff.1 k1).1 fun hf=>by
     obtain⟨_,hc,hp⟩:=Foot.cells h.inv hf;rw[k1] at hc;cases hc;cases hp]
    exact k1
theorem St.put{G:GS}{e:Nat→AV}{σ:Sig}{a:Act}{w:World}(h:St c G e σ a w){d:Nat}(hd:d<c.n){v:AV}{v':Value}(hv:Rel G v v'):St c G (upd e d v) σ (a.put (some d) v') w where
 env t:=by
  rw[upd_eq];have hs:=h.size;by_cases ht:t=d
  · subst ht;rw[if_pos rfl];simp only[Act.put,Array.getD_eq_getD_getElem?,Array.getElem?_setIfInBounds_self];rw[if_pos (by omega)];exact hv
  · rw[if_neg ht];simp only[Act.put,Array.getD_eq_getD_getElem?,Array.getElem?_setIfInBounds_ne (Ne.symm ht)];have:=h.env t
    rwa [Array.getD_eq_getD_getElem?] at this
 size:=by simp[Act.put];exact h.size
 le:=h.le
 inv:=h.inv
 ext:=h.ext
 own:=h.own
 rd:=h.rd
 terr:=h.terr
theorem StC.call{G:GS}{e:Nat→AV}{σ:Sig}{a:Act}{w:World}{T X:Nat→Prop}(h:StC c G e σ a w)(h3:∀b,T b→c.T b∨c.w0.heap.size≤b)(hX:∀b,X b→c.w0.heap.size≤b){σ':Sig}{G':GS}{w':World}(k1:Inv G' σ' w')(k2:G.le G')(k3:Ext (fun b=>Foot G σ b∨T b∨X b) G.K w G'.K w')(k4:∀b,Foot G' σ' b→Foot G σ b∨w.heap.size≤b):StC c G' e σ' a w' where
 env t:=(h.env t).mono k2
 size:=h.size
 le:=h.le.trans k2
 inv:=k1
 ext:=h.ext.trans k3 fun b hb hf=>by
  have:=h.ext.size;rcases hf with hf | hf | hf
  · exact .inl ((h.own b hf).resolve_right (by omega))
  · exact .inr ((h3 b hf).resolve_right (by omega))
  · have:=hX b hf;omega
 own b hb:=(k4 b hb).elim (h.own b) fun hn=> .inr (Nat.le_trans h.ext.size hn)
theorem St.call{G:GS}{e:Nat→AV}{σ:Sig}{a:Act}{w:World}{T:Nat→Prop}(h:St c G e σ a w)(h1:YI c.Y T σ G.K w)(h3:∀b,T b→c.T b∨c.w0.heap.size≤b){marks:List Nat}(h4:a.defers=marks.map markD)(h5:marks.Nodup)(h6:∀r∈marks,w.heap[r]?=some (.deferred (some []))∧c.w0.heap.size≤r∧ ¬T r){σ':Sig}{G':GS}{w':World}{T':Nat→Prop}(k1:Inv G' σ' w')(k2:G.le G')(k3:Ext (fun b=>Foot G σ b∨T b) G.K w G'.K w')(k4:∀b,Foot G' σ' b→Foot G σ b∨w.heap.size≤b)(k5:YI c.Y T' σ' G'.K w')(k6:∀b,Foot G' σ' b→ ¬T' b)(k7:∀b,T' b→T b∨w.heap.size≤b):St c G' e σ' a w' where
 toStC:=h.toStC.call (X:=fun _=>False) h3 (fun _ h=>h.elim) k1 k2 ⟨k3.os,k3.tape,k3.output,k3.size,fun b hb hn=>k3.block b hb fun hf=>hn (hf.imp id .inl),k3.le,fun b hb hn=>k3.Kb b hb fun hf=>hn (hf.imp id .inl)⟩ k4
 rd:=h.rd
 terr:=by
  refine⟨T',k5,k6,fun b hb=>(k7 b hb).elim (h3 b) fun hn=> .inr (Nat.le_trans h.ext.size hn),marks,h4,h5,fun r hr=>?_⟩;obtain⟨q1,q2,q3⟩:=h6 r hr;have hlt:=(Array.getElem?_eq_some_iff.1 q1).1;refine⟨?_,q2,fun hT=>(k7 r hT).elim q3 (by omega)⟩;rw[k3.block r hlt]
  · exact q1
  · rintro (hf | hf)
    · obtain⟨_,hc,hp⟩:=Foot.cells h.inv hf;rw[q1] at hc;cases hc;cases hp
    · exact q3 hf
def KW(c:Ctx P)(K:(Nat→AV)→Sig→Prop)(a:Act)(w:World):Prop:=∃G e σ,K e σ∧St c G e σ a w
theorem okFn_run{f:Nat}{args:Array Value}{w:World}(h:okFn P f=true):(callFunc f args).run P w= .ok (.enter f args) w:=by
 unfold okFn at h;split at h
 · rename_i fn hf;simp only[Bool.and_eq_true,Bool.not_eq_true'] at h;unfold callFunc;simp only[Sem.run_bind,run_program,Result.andThen_ok,hf];rw[if_neg (by rw[h.2];simp),if_neg (by cases hb:fn.body<;>simp_all)];rfl
 · cases h
def YSame(σ σ':Sig):Prop:=σ' YS=σ YS∨((∀l s,(σ YS).2≠ .yld l s)∧ ∀l s,(σ' YS).2≠ .yld l s)
theorem YSame.refl(σ:Sig):YSame σ σ:= .inl rfl
theorem YSame.row{σ:Sig}{i:Nat}{r:Nat×Res}{g:Nat}{c:List AV}(h:σ i=(g,.row c))(hr:∀l s,r.2≠ .yld l s):YSame σ (upd σ i r):=by
 by_cases hi:i=YS
 · subst hi;exact .inr ⟨fun l s=>(by rw[h];simp),fun l s=>by rw[upd_eq,if_pos rfl];exact hr l s⟩
 · exact .inl (by rw[upd_eq,if_neg (Ne.symm hi)])
theorem YSame.new{σ:Sig}{d g:Nat}{c:List AV}(h:d≠YS):YSame σ (newS σ d g c):= .inl (by rw[newS,upd_eq,if_neg (Ne.symm h)])
theorem YSame.trans{σ σ' σ'':Sig}(h:YSame σ σ')(k:YSame σ' σ''):YSame σ σ'':=by
 rcases h with h | h<;>rcases k with k | k
 · exact .inl (k.trans h)
 · exact .inr ⟨fun l s=>by rw[←h];exact k.1 l s,k.2⟩
 · exact .inr ⟨h.1,fun l s=>by rw[k];exact h.2 l s⟩
 · exact .inr ⟨h.1,k.2⟩
theorem YI.same{Y:Option (YC P)}{T:Nat→Prop}{σ σ':Sig}{K:Nat→Nat→Option Value}{w:World}(h:YI Y T σ K w)(hs:YSame σ σ'):YI Y T σ' K w:=by
 unfold YI at*;rcases hs with hs | hs
 · cases Y with
   | none=>rw[hs];exact h
   | some y=>rw[hs];exact h
 · cases Y with
   | none=>exact⟨h.1,hs.2⟩
   | some y=>obtain⟨s,h1,_⟩:=h;exact absurd (by rw[h1]) (hs.1 y.l s)
theorem blt_ne{a b:Nat}(h:Nat.blt a b=true):a≠b:=by have:=Nat.le_of_ble_eq_true h;omega
theorem base_ys{σ σ':Sig}{sz:Nat}{a:AV}{p:Prop}{es:List (List AV)}(h:baseO sz σ a=some (p,es,σ')):YSame σ σ':=by
 unfold baseO at h;split at h
 · cases h;exact .refl _
 · cases h;exact .refl _
 · split at h
   · rename_i hσ;cases h;exact .row hσ (by simp)
   · cases h
 · cases h
theorem baseM_ys{σ σ':Sig}{sz n:Nat}{a:AV}{p:Prop}{c:List AV}(h:baseM sz σ a=some (p,n,c,σ')):YSame σ σ':=by
 unfold baseM at h;split at h
 · cases h;exact .refl _
 · cases h;exact .refl _
 · split at h
   · rename_i hσ;cases h;exact .row hσ (by simp)
   · cases h
 · cases h
theorem mapW_ys{σ:Sig}{a:AV}{i h:Nat}{p:Prop}{ks vs c:List AV}(hx:mapW σ a=some (i,h,p,ks,vs)):YSame σ (upd σ i (h,.row c)):=by
 unfold mapW at hx;split at hx
 · split at hx
   · rename_i hσ;cases hx;exact .row hσ (by simp)
   · cases hx
 · cases hx
theorem eff_ys{op:IOp}{d:Nat}{e:Nat→AV}{σ σ':Sig}{g:Nat}{p:Prop}{v:AV}(h:effO d op e σ g=some (p,v,σ'))(hd:d≠YS)(hs:siteLt op=true)(hk:∀i,op≠ .kil i):YSame σ σ':=by
 have val:∀{o:OV},(match o with | some (p,v)=>some (p,v,σ) | none=>none)=some (p,v,σ')→YSame σ σ':=by
  intro o ho;cases o with
  | none=>cases ho
  | some pv=>cases ho;exact .refl _
 cases op<;>simp only[effO] at h<;>first | (exact val h) | skip
 case st=>
  unfold stO at h;split at h
  · split at h
    · rename_i hσ;cases h;exact .row hσ (by simp)
    · cases h
  · cases h
 case new=>cases h;exact .new hd
 case box=>
  split at h
  · cases h;exact .new hd
  · cases h
 case mks=>
  split at h
  · cases h;exact .new hd
  · cases h
 case app=>
  split at h
  · rename_i hb hr;cases h;exact (base_ys hb).trans (.new (blt_ne hs))
  · cases h
 case bsm=>
  split at h
  · cases h;exact .new hd
  · cases h
 case apz=>
  unfold apzO at h;split at h
  · cases h;exact .new hd
  · cases h
 case apm=>
  split at h
  · rename_i hb hr;split at h
    · cases h;exact .refl _
    · cases h;exact (baseM_ys hb).trans (.new (blt_ne hs))
  · rename_i hb hr;split at h
    · cases h;exact (baseM_ys hb).trans (.new (blt_ne hs))
    · cases h
  · cases h
 case nil=>cases h;exact .new (blt_ne hs)
 case kil=>exact absurd rfl (hk _)
 case chk=>
  split at h
  · cases h;exact .refl _
  · cases h
 case callF=>simp[valO] at h
 case callV=>simp[valO] at h
 case bad=>simp[valO] at h
 case mkm=>cases h;exact .new hd
 case mup=>
  unfold mupO at h;split at h
  · rename_i hW _;split at h<;>first | (cases h;done) | (cases h;exact mapW_ys hW)
  · cases h
 case men=>
  unfold menO at h;split at h
  · rename_i hW;split at h<;>first | (cases h;done) | (cases h;exact .refl _) | (cases h;exact mapW_ys hW)
  · cases h
 case mst=>
  unfold mstO at h;split at h
  · rename_i hW _ _;cases h;exact mapW_ys hW
  · cases h
 case cpy=>
  unfold cpyO at h;split at h
  · split at h
    · rename_i hσ;split at h
      · cases h;exact .row hσ (by simp)
      · cases h
    · cases h
  · cases h
 case mlk=>
  unfold mlkO at h;split at h
  · split at h<;>first | (cases h;done) | (cases h;exact .refl _)
  · cases h
 case mln=> unfold mlnO at h;split at h<;>first | (cases h;done) | (cases h;exact .refl _)
 case rng=> unfold rngO at h;split at h<;>first | (cases h;done) | (cases h;exact .new hd)
 case nlq=>
  unfold nlqO at h;split at h
  · cases h;exact .refl _
  · split at h<;>(cases h;exact .refl _)
  · cases h
 case nxt=>
  unfold nxtO at h;split at h
  · split at h
    · rename_i hσ;split at h
      · cases h;exact .refl _
      · cases h;exact .row hσ (by simp)
    · cases h
  · cases h
 case ent=>
  unfold entO at h;split at h
  · split at h<;>first | (cases h;done) | (cases h;exact .refl _)
  · cases h
theorem St.stepY{G G':GS}{e:Nat→AV}{σ σ':Sig}{a:Act}{w w':World}(h:St c G e σ a w)(hs:StepOK G σ w G' σ' w')(hy:YSame σ σ'):St c G' e σ' a w':=by
 obtain⟨T,h1,h2,h3,marks,h4,h5,h6⟩:=h.terr;have h1':YI c.Y T σ' G'.K w':=by
  have:YI c.Y T σ G'.K w':=by
   unfold YI at h1 ⊢
   revert h1
   cases c.Y with
   | none=>exact id
   | some y=> rintro⟨s,h1,h2'⟩;exact⟨s,h1,y.stab _ _ _ _ _ _ h2' hs.inv.kok ⟨hs.ext.os,hs.ext.tape,hs.ext.output,hs.ext.size,fun b hb hn=>hs.ext.block b hb fun hf=>h2 b hf (Classical.not_not.1 hn),hs.ext.le,fun b hb hn=>hs.ext.Kb b hb fun hf=>h2 b hf (Classical.not_not.1 hn)⟩⟩
  exact this.same hy
 refine h.call h1 h3 h4 h5 h6 hs.inv hs.le ⟨hs.ext.os,hs.ext.tape,hs.ext.output,hs.ext.size,fun b hb hn=>hs.ext.block b hb fun hf=>hn (.inl hf),hs.ext.le,fun b hb hn=>hs.ext.Kb b hb fun hf=>hn (.inl hf)⟩ hs.own h1' (fun b hb hT=>?_) (fun b hb=> .inl hb);exact (hs.own b hb).elim (fun hf=>h2 b hf hT) fun hn=>by have:=h1.lt hT;omega
theorem upon_enter_ok{o:Oper}{a:Act}{f:Nat}{args:List Value}{w:World}{G:GS}{e:Nat→AV}{σ:Sig}{l:List AV}{d:Nat}{K:AV→Sig→Prop}{next:Act→World→Prop}{Q:Exit→Act→World→Prop}(hS:St c G e σ a w)(hl:RelL G l args)(hk:ACall P f l σ d K)(hn:∀G' σ' w' v av,St c G' e σ' a w'→Rel G' av v→K av σ'→next (a.put o.dst v) w'):o.uponIn (FW c.r) 0 P a next Q (.ok (.enter f args.toArray) w):=by
 rw[Oper.uponIn_enter];refine⟨fun h=>(by cases h),?_⟩;obtain⟨T,h1,h2,h3,marks,h4,h5,h6⟩:=hS.terr
 have hcall:Calls P f args.toArray w fun
   | .returned v,w''=>next (a.put o.dst v) w''
   | .panicked chain,w''=>Q (.panic chain) a w''
   | .outgrown,_=>LetsOut Q:=by
  refine (hk.2 c.Y T G w args hS.inv h1 h2 hl).mono fun e w' h=>?_;obtain⟨v,av,σ',G',T',rfl,k1,k2,k3,k4,k5,k6,_,k7,k8,k9⟩:=h;exact hn G' σ' w' v av (hS.call h1 h3 h4 h5 h6 k1 k4 k5 k6 k7 k8 k9) k2 k3
 exact (callsIn_wide (n:=0)).2 hcall
theorem upon_round_ok{o:Oper}{a:Act}{y:YC P}{args:List Value}{w:World}{G:GS}{e:Nat→AV}{σ:Sig}{x:List AV}{rest:List (List AV)}{next:Act→World→Prop}{Q:Exit→Act→World→Prop}(hS:St c G e σ a w)(hY:c.Y=some y)(hs:σ YS=(0,.yld y.l (some (x::rest))))(hl:RelL (GS.pure G.K) x args)(hn:∀(b:Bool) G' w',St c G' e (upd σ YS (0,.yld y.l (yNext rest b))) a w'→next (a.put o.dst (.bool b)) w'):
  o.uponIn (FW c.r) 0 P a next Q ((Instr.yield y.l args.toArray).run P w):=by
 obtain⟨T,h1,h2,h3,marks,h4,h5,h6⟩:=hS.terr;rw[hY] at h1;obtain⟨s,hs1,hJ⟩:=h1;rw[hs] at hs1;simp only[Prod.mk.injEq,Res.yld.injEq,true_and] at hs1;subst hs1;obtain⟨fn,tmps,assign,body,hrun,hround⟩:=y.round _ _ _ _ _ _ hJ hS.inv.kok hl;rw[hrun,Oper.uponIn_round];refine⟨fun h=>(by cases h),?_⟩
 have hr:RoundIn Fence.wide 0 P y.l fn tmps assign body w fun
   | .returned v,w''=>next (a.put o.dst v) w''
   | .panicked chain,w''=>Q (.panic chain) a w''
   | .outgrown,_=>LetsOut Q:=by
  refine hround.mono fun e' w' h=>?_;obtain⟨b,K',T',rfl,k1,k2,k3,k4⟩:=h
  let G':GS:=⟨K',G.m⟩
  have hle:G.le G':=⟨fun b o v hv=>k3.le _ _ _ hv,fun _ _ _ h=>h⟩;have hfl:∀k,Foot G (upd σ YS (0,.yld y.l (yNext rest b))) k→Foot G σ k:=by
   rintro k ⟨i,z,⟨cc,hc⟩,hm⟩;have hi:i≠YS:=by rintro rfl;rw[upd_eq,if_pos rfl] at hc;cases hc
   rw[upd_eq,if_neg hi] at hc hm;exact⟨i,z,⟨cc,hc⟩,hm⟩
  have hlt:∀k,Foot G σ k→k<w.heap.size:=fun k hk=>hS.inv.lt hk
  refine hn b G' w' (hS.call (T:=T) (by rw[hY];exact⟨_,hs,hJ⟩) h3 h4 h5 h6 ?_ hle ⟨k3.os,k3.tape,k3.output,k3.size,fun k hk hn=>k3.block k hk fun hT=>hn (.inr hT),k3.le,fun k hk hn=>k3.Kb k hk fun hT=>hn (.inr hT)⟩ (fun k hk=> .inl (hfl k hk))
   (by rw[hY];exact⟨(yNext rest b),by rw[upd_eq,if_pos rfl],k1⟩) (fun k hk hT=>(k4 k hT).elim (h2 k (hfl k hk)) fun hn=>by have:=hlt k (hfl k hk);omega) k4)
  refine⟨k2,fun i c' hi=>?_,hS.inv.fresh,fun i j b' p q hij hi hj hp hq=>?_⟩
  · have hiy:i≠YS:=by rintro rfl;rw[upd_eq,if_pos rfl] at hi;cases hi
    rw[upd_eq,if_neg hiy] at hi ⊢;rcases hS.inv.res i c' hi with h7 | ⟨b',e',lim,vs,T'',hR⟩ | ⟨b',hO⟩
    · exact .inl h7
    rotate_left
    · have hnT:¬T b':=h2 b' ⟨i,_,⟨c',hi⟩,hO.m⟩;exact .inr (.inr ⟨b',hO.keep hle (k3.Kb b' hO.lt hnT) (k3.block b' hO.lt hnT)⟩)
    · have hb:b'<w.heap.size:=(Array.getElem?_eq_some_iff.1 hR.obj).1;have hnT:¬T b':=h2 b' ⟨i,_,⟨c',hi⟩,hR.m⟩;refine .inr (.inl ⟨b',e',lim,vs,T'',⟨hR.m,by rw[k3.block b' hb hnT];exact hR.obj,hR.fit,hR.lim,fun o ho=>?_,fun j a hj=>?_⟩⟩)
      · show K' b' o=none
        rw[congrFun (k3.Kb b' hb hnT) o];exact hR.K o ho
      · obtain⟨x,hx,hr⟩:=hR.rel j a hj;exact⟨x,hx,hr.mono hle⟩
  · have hiy:i≠YS:=by rintro rfl;obtain⟨_,hc⟩:=hi;rw[upd_eq,if_pos rfl] at hc;cases hc
    have hjy:j≠YS:=by rintro rfl;obtain⟨_,hc⟩:=hj;rw[upd_eq,if_pos rfl] at hc;cases hc
    rw[live_upd hiy] at hi;rw[live_upd hjy] at hj;rw[upd_eq,if_neg hiy] at hp;rw[upd_eq,if_neg hjy] at hq;exact hS.inv.dist i j b' p q hij hi hj hp hq
 exact hr
theorem putE_none{e:Nat→AV}{v:AV}:putE e none v=e:=rfl
theorem cOp_defer{site:Nat}{m:Bool}{oop:Op}{op:IOp}(h:cOp P site m oop=some op)(x:Call):oop≠ .defer x:=by rintro rfl;simp[cOp] at h
theorem step_sound{H:Hint}{ops:Array Oper}{o:Oper}{st:IStep}{i:Nat}{Q:Exit→Act→World→Prop}{N:Act→World→Prop}{K:(Nat→AV)→Sig→Prop}{G:GS}{e:Nat→AV}{σ:Sig}{a:Act}{w:World}(hY:c.n≤YS)(hc:cStep P H c.n ops o=some st)(hi:ops[i]?=some o)(hS:St c G e σ a w)(h:st.wp P K e σ)(hn:∀G' e' σ' a' w',K e' σ'→St c G' e' σ' a' w'→N a' w'):wpOpIn (FW c.r) 0 P ops Q i N a w:=by
 simp only[cStep,Option.bind_eq_bind,Option.bind_eq_some_iff] at hc;obtain⟨op,hop0,g,hg,hc⟩:=hc;split at hc
 · cases hc
 rename_i hsl0;have hsl:siteLt op=true:=by simpa using hsl0
 have hρ:=orel_act hS.env;have hopB:cOp' P H o=some op∨op= .bad:=by
  unfold cOpB at hop0;split at hop0
  · left;rw[←hop0];assumption
  · right;exact (Option.some.inj hop0).symm
 have hsem0:cOp' P H o=some op→o.semAt (FW c.r).round a.eval=execOp a.eval o:=fun hop=>Oper.semAt_eq _ _ _ fun x hx=>by
  unfold cOp' at hop;split at hop
  · rw[hx] at hop;cases hop
  unfold cOp0 at hop;split at hop
  · rename_i h1 h2;split at h1
    · rename_i hnil;unfold isNil at hnil;rw[hx] at hnil;cases hnil
    · cases h1
  · exact cOp_defer hop x hx
 have run:∀(d:Option Nat),d=o.dst→(∀x,d=some x→x<c.n)→d.getD 0≠YS→stepW P (d.getD 0) op e σ (contS e d K)→o.wpIn (FW c.r) 0 P a w N Q:=by
  intro d hd hlt hdy hw;have hop:=hopB.resolve_right (by rintro rfl;exact (hw:detW (effO (d.getD 0) .bad e σ) _) 0);refine⟨fun _ _=>trivial,?_⟩;rw[hsem0 hop];have fin:∀G' σ' w' v av,St c G' e σ' a w'→Rel G' av v→contS e d K av σ'→N (a.put o.dst v) w':=by
   intro G' σ' w' v av hst hr hk;rw[←hd];cases d with
   | none=>exact hn G' e σ' _ w' hk hst
   | some x=>exact hn G' _ σ' _ w' hk (hst.put (hlt x rfl) hr)
  have det:∀(op':IOp),op'=op→(∀i,op≠ .kil i)→detW (effO (d.getD 0) op e σ) (contS e d K)→o.uponIn (FW c.r) 0 P a N Q ((execOp a.eval o).run P w):=by
   intro op' _ hkil hw;rw[hd] at hw;obtain⟨v,σ',⟨hw2,hys⟩,G',w',hst,h2⟩:=det_sound (K:=fun v s=>contS e o.dst K v s∧YSame σ s) hop hρ hS.inv (fun g=>by
    have h3:=hw g;cases he:effO (o.dst.getD 0) op e σ g with
    | none=>rw[he] at h3;exact h3.elim
    | some q=>
      obtain⟨p,v,s⟩:=q;rw[he] at h3;exact⟨h3.1,h3.2,eff_ys he (by rw[←hd];exact hdy) hsl hkil⟩)
   rw[←hd] at hw2;rcases h2 with⟨v',hr,hrel⟩ | ⟨hr,rfl⟩
   · rw[hr,Oper.uponIn_value];exact fin _ _ _ _ _ (hS.stepY hst hys) hrel hw2
   · rw[hr,Oper.uponIn_skip];exact fin G' σ' w' undef .junk (hS.stepY hst hys) trivial hw2
  cases op<;>try (refine det _ rfl ?_ hw;simp;done)
  case kil j=>
   exfalso;have hop:=cOp0_of hop (by rintro _ hh;cases hh);unfold cOp0 at hop;split at hop
   · cases hop
   · exact cOp_kil hop
  case callF f args=>
   have hw':argW (evO e args) (fun l=>ACall P f l σ (d.getD 0) (contS e d K)):=hw;unfold argW at hw';split at hw'
   · rename_i l hl;have hop:=cOp0_of hop (by rintro _ hh;cases hh);unfold cOp0 at hop;split at hop
     · cases hop
     · obtain⟨cargs,ts,ho,has⟩:=cOp_callF hop;have hrl:=cOpds_rel hρ has hl;have hrun:(execOp a.eval o).run P w= .ok (.enter f (cargs.toList.map a.eval).toArray) w:=by
        obtain⟨dst,oop,ty,pos,af,gd⟩:=o;simp only at ho;subst ho;have:(execOp a.eval ⟨dst,.call ⟨.value (.func f),cargs,ts⟩,ty,pos,af,gd⟩)=callFunc f ((#[]++cargs.map a.eval)++ #[]):=rfl;rw[this,okFn_run hw'.1]
        congr 2
        apply Array.toList_inj.1;simp
       rw[hrun];exact upon_enter_ok hS hrl hw' fin
   · exact hw'.elim
  case callV x args=>
   have hw':argW (evO e args) (fun l=>callVW P (x.ev e) l σ (d.getD 0) (contS e d K)):=hw;unfold argW at hw';split at hw'
   · rename_i l hl;unfold callVW at hw';split at hw'
     · rename_i f first caps hx
       have hop:=cOp0_of hop (by rintro _ hh;cases hh);unfold cOp0 at hop;split at hop
       · cases hop
       · obtain⟨y,cargs,ts,ho,hy,has⟩:=cOp_callV hop;have hrl:=cOpds_rel hρ has hl;have hrx:=hρ _ _ hy;rw[hx] at hrx;obtain⟨fa,ca,hv,h1,h2⟩:=hrx;have hrun:(execOp a.eval o).run P w= .ok (.enter f (fa.toList++cargs.toList.map a.eval++ca.toList).toArray) w:=by
          obtain⟨dst,oop,ty,pos,af,gd⟩:=o;simp only at ho;subst ho;have:(execOp a.eval ⟨dst,.call ⟨.value y,cargs,ts⟩,ty,pos,af,gd⟩)=(do let d ←Deferred.ofValue (a.eval y) (cargs.map a.eval);invoke d.target d.args):=rfl;rw[this,hv];show (callFunc f ((fa++cargs.map a.eval)++ca)).run P w=_
          rw[okFn_run hw'.1]
          congr 2
          apply Array.toList_inj.1;simp
         rw[hrun];refine upon_enter_ok hS (l:=first++l++caps) (RelL.of_get (by simp[h1.length,h2.length,hrl.length]) fun j x hj=>?_) hw' fin;rw[List.getElem?_append] at hj ⊢;rw[List.length_append] at hj ⊢;rw[h1.length,hrl.length];split at hj
         · rw[if_pos (by assumption)];rw[List.getElem?_append] at hj ⊢;rw[h1.length];split at hj
           · rw[if_pos (by assumption)];exact h1.get _ _ hj
           · rw[if_neg (by assumption)];exact hrl.get _ _ hj
         · rw[if_neg (by assumption)];exact h2.get _ _ hj
     · rename_i l0 hx;split at hw'
       · rename_i l1 x0 rest hys;obtain⟨rfl,hst,hk⟩:=hw';have hop:=cOp0_of hop (by rintro _ hh;cases hh);unfold cOp0 at hop;split at hop
         · cases hop
         · obtain⟨y,cargs,ts,ho,hy,has⟩:=cOp_callV hop;have hrl:=cOpds_rel hρ has hl;have hrx:=hρ _ _ hy;rw[hx] at hrx;obtain⟨fa,ca,hv,h1,h2⟩:=hrx;have hfa:fa= #[]:=Array.toList_inj.1 h1;have hca:ca= #[]:=Array.toList_inj.1 h2;subst hfa;subst hca;have hrun:(execOp a.eval o).run P w=(Instr.yield l1 (cargs.toList.map a.eval).toArray).run P w:=by
            obtain⟨dst,oop,ty,pos,af,gd⟩:=o;simp only at ho;subst ho;have:(execOp a.eval ⟨dst,.call ⟨.value y,cargs,ts⟩,ty,pos,af,gd⟩)=(do let d ←Deferred.ofValue (a.eval y) (cargs.map a.eval);invoke d.target d.args):=rfl;rw[this,hv];show (Instr.yield l1 (#[]++cargs.map a.eval)).run P w=_
            congr 2
            apply Array.toList_inj.1;simp
           rw[hrun];obtain⟨T,k1,k2,k3,kk⟩:=hS.terr;have hcy:∃y,c.Y=some y∧y.l=l1:=by
            unfold YI at k1;cases hcY:c.Y with
            | none=>rw[hcY] at k1;exact absurd (by rw[hys]) (k1.2 l1 (some (x0::rest)))
            | some y=> rw[hcY] at k1;obtain⟨s,h3,_⟩:=k1;rw[hys] at h3;simp only[Prod.mk.injEq,Res.yld.injEq,true_and] at h3;exact⟨y,rfl,h3.1.symm⟩
           obtain⟨y,hcy,rfl⟩:=hcy;refine upon_round_ok hS hcy (x:=x0) (rest:=rest) hys (by rw[←hst];exact hrl.strip) fun b G' w' hS'=>?_;exact fin G' _ w' (.bool b) (.bool b) hS' rfl (hk b)
       · exact hw'.elim
     · exact hw'.elim
   · exact hw'.elim
 have dlt:∀x,o.dst=some x→x<c.n∧st=⟨some x,g,op⟩:=by
  intro x hx;rw[hx] at hc;simp only at hc;split at hc
  · cases hc;exact⟨by assumption,rfl⟩
  · cases hc
 have stq:st=⟨o.dst,g,op⟩:=by
  cases hd:o.dst with
  | some x=>exact (dlt x hd).2
  | none=> rw[hd] at hc;simp only at hc;cases op<;>simp only at hc<;>first | (cases hc;rfl) | cases hc
 have hdy:o.dst.getD 0≠YS:=by
  cases hd:o.dst with
  | none=>exact fun h=>(by cases h)
  | some x=>exact Nat.ne_of_lt (Nat.lt_of_lt_of_le (dlt x hd).1 hY)
 subst stq;simp only[wpOpIn,hi];unfold IStep.wp at h;unfold cGuard at hg;cases hgd:o.guard with
 | none=> rw[hgd] at hg;cases hg;rw[if_pos (by simp[Region.wanted,hgd])];exact run _ rfl (fun x hx=>(dlt x hx).1) hdy h
 | some gb=>
   obtain⟨j,b⟩:=gb;rw[hgd] at hg;simp only at hg;split at hg
   · rename_i t ht;cases hg;simp only at h;unfold guardW at h;split at h
     · rename_i cv hcv;have hr:=hS.env t;rw[hcv] at hr;simp only[Rel] at hr;have hy:yielded ops a.tmps j=if t<a.tmps.size then some cv else none:=by
        unfold yielded;rw[ht];simp only[Option.bind_some];by_cases hlt:t<a.tmps.size
        · rw[if_pos hlt];have:a.tmps[t]?=some (.bool cv):=by rw[Array.getD_eq_getD_getElem?,Array.getElem?_eq_getElem hlt] at hr;rw[Array.getElem?_eq_getElem hlt];simpa using hr
          rw[this]
        · rw[Array.getD_eq_getD_getElem?,Array.getElem?_eq_none (Nat.le_of_not_lt hlt)] at hr;simp[undef] at hr
       have hlt:t<a.tmps.size:=Decidable.byContradiction fun hn=>by rw[Array.getD_eq_getD_getElem?,Array.getElem?_eq_none (Nat.le_of_not_lt hn)] at hr;simp[undef] at hr
       rw[if_pos hlt] at hy;by_cases hcb:cv=b
       · rw[if_pos hcb] at h;rw[if_pos (by simp[Region.wanted,hgd,hy,hcb])];exact run _ rfl (fun x hx=>(dlt x hx).1) hdy h
       · rw[if_neg hcb] at h;rw[if_neg (by simp[Region.wanted,hgd,hy,hcb])];refine⟨fun _ _=>trivial,?_⟩;cases hd:o.dst with
         | none=>rw[hd] at h;exact hn G e σ _ w h hS
         | some x=>rw[hd] at h;exact hn G _ σ _ w h (hS.put (dlt x hd).1 ⟨#[],rfl,rfl⟩)
     · rename_i hcv;have hr:=hS.env t;rw[hcv] at hr;obtain⟨vs,hvs,hvl⟩:=hr;have hvl':vs= #[]:=Array.toList_inj.1 hvl;have hy:yielded ops a.tmps j=none:=by
        unfold yielded;rw[ht];simp only[Option.bind_some];by_cases hlt:t<a.tmps.size
        · have:a.tmps[t]?=some (.tuple #[]):=by rw[Array.getD_eq_getD_getElem?,Array.getElem?_eq_getElem hlt] at hvs;rw[Array.getElem?_eq_getElem hlt];simpa[hvl'] using hvs
          rw[this]
        · rw[Array.getElem?_eq_none (Nat.le_of_not_lt hlt)]
       rw[if_neg (by simp[Region.wanted,hgd,hy])];refine⟨fun _ _=>trivial,?_⟩;cases hd:o.dst with
       | none=>rw[hd] at h;exact hn G e σ _ w h hS
       | some x=>rw[hd] at h;exact hn G _ σ _ w h (hS.put (dlt x hd).1 ⟨#[],rfl,rfl⟩)
     · exact h.elim
   · cases hg
theorem steps_sound{H:Hint}{ops:Array Oper}{Q:Exit→Act→World→Prop}{K:(Nat→AV)→Sig→Prop}(hY:c.n≤YS)(hQ:∀G e σ a w,K e σ→St c G e σ a w→Q .normal a w):
  ∀(l:List Oper) (k:Nat) (sts:List IStep),ops.toList.drop k=l→cSteps P H c.n ops l=some sts→ ∀G e σ a w,St c G e σ a w→stepsW P sts K e σ→wpOpsIn (FW c.r) 0 P ops Q (List.range' k l.length) a w
 | [],k,sts,_,hc,G,e,σ,a,w,hS,h=>by simp[cSteps] at hc;subst hc;exact hQ _ _ _ _ _ h hS
 | o::l,k,sts,hl,hc,G,e,σ,a,w,hS,h=>by
   simp only[cSteps,Option.bind_eq_bind,Option.bind_eq_some_iff] at hc;obtain⟨st,hst,r,hr,hc⟩:=hc;cases hc;have hk:ops[k]?=some o:=by
    have:=congrArg (·[0]?) hl;simp only[List.getElem?_drop,Nat.add_zero,List.getElem?_cons_zero] at this
    simpa using this
   rw[List.length_cons,List.range'_succ,wpOpsIn_cons];refine step_sound (K:=stepsW P r K) hY hst hk hS h fun G' e' σ' a' w' hK hS'=>?_;exact steps_sound hY hQ l (k+1) r (by rw[←List.drop_drop,hl];rfl) hr G' e' σ' a' w' hS' hK
theorem region_sound{H:Hint}{id:Nat}{ops:Array Oper}{sts:List IStep}{Q:Exit→Act→World→Prop}{K:(Nat→AV)→Sig→Prop}(hY:c.n≤YS)(hc:cSteps P H c.n ops ops.toList=some sts)(hQ:∀G e σ a w,K e σ→St c G e σ a w→Q .normal a w){G:GS}{e:Nat→AV}{σ:Sig}{a:Act}{w:World}(hS:St c G e σ a w)(h:stepsW P sts K e σ):(Code.region id ops false).wpIn (FW c.r) 0 P Q a w:=by
 refine wpIn_region ?_;have:=steps_sound hY hQ ops.toList 0 sts rfl hc G e σ a w hS h
 rwa [←List.range_eq_range',Array.length_toList] at this
def toAX:Exit→Option AX
 | .normal=>some .nor
 | .exit id=>some (.ex id)
 | .ret=>some .ret
 | _=>none
def PostW(c:Ctx P)(Q:Post)(x:Exit)(a:Act)(w:World):Prop:=∃ax G e σ,toAX x=some ax∧Q ax e σ∧St c G e σ a w
end Go.Abs
namespace Go.Abs
variable {P:Program} {c:Ctx P}
def Agree(l:List Nat)(e e':Nat→AV):Prop:=∀t∈l,e t=e' t
theorem Agree.left{l m:List Nat}{e e':Nat→AV}(h:Agree (l++m) e e'):Agree l e e':=fun t ht=>h t (List.mem_append_left _ ht)
theorem Agree.right{l m:List Nat}{e e':Nat→AV}(h:Agree (l++m) e e'):Agree m e e':=fun t ht=>h t (List.mem_append_right _ ht)
theorem Agree.refl{l:List Nat}{e:Nat→AV}:Agree l e e:=fun _ _=>rfl
theorem Agree.symm{l:List Nat}{e e':Nat→AV}(h:Agree l e e'):Agree l e' e:=fun t ht=>(h t ht).symm
theorem Agree.trans{l:List Nat}{e e' e'':Nat→AV}(h:Agree l e e')(k:Agree l e' e''):Agree l e e'':=fun t ht=>(h t ht).trans (k t ht)
theorem ev_agree{x:IOpd}{e e':Nat→AV}(h:Agree x.rd e e'):x.ev e=x.ev e':=by
 cases x with
 | t n=>exact h n (by simp[IOpd.rd])
 | k a=>rfl
theorem evO_agree{e e':Nat→AV}:∀{l:List IOpd},Agree (rdL l) e e'→evO e l=evO e' l
 | [],_=>rfl
 | x::l,h=>by simp only[evO];rw[ev_agree (Agree.left h),evO_agree (Agree.right h)]
theorem bound_agree{e e':Nat→AV}{d:Int}:∀{x:Option IOpd},Agree (rdO x) e e'→boundO e d x=boundO e' d x
 | none,_=>rfl
 | some x,h=>by simp only[boundO];rw[ev_agree (x:=x) h]
theorem bld_agree{e e':Nat→AV}:∀{ps:List (Nat×Nat×IOpd)} {c:List AV},Agree (rdL (ps.map fun p=>p.2.2)) e e'→bldO e c ps=bldO e' c ps
 | [],_,_=>rfl
 | (a,b,x)::l,_,h=>by
   simp only[bldO];rw[ev_agree (Agree.left (l:=x.rd) h)];split
   · rw[bld_agree (Agree.right (l:=x.rd) h)]
   · rfl
theorem bsl_agree{e e':Nat→AV}{sz:Nat}:∀{ps:List (Nat×IOpd)} {c:List (List AV)},Agree (rdL (ps.map fun p=>p.2)) e e'→bslO e sz c ps=bslO e' sz c ps
 | [],_,_=>rfl
 | (a,x)::l,_,h=>by
   simp only[bslO];rw[ev_agree (Agree.left (l:=x.rd) h)];split
   · rw[bsl_agree (Agree.right (l:=x.rd) h)]
   · rfl
theorem bsm_agree{e e':Nat→AV}{sz:Nat}:∀{ps:List (Nat×IOpd)} {c:List (List AV)},Agree (rdL (ps.map fun p=>p.2)) e e'→bsmO e sz c ps=bsmO e' sz c ps
 | [],_,_=>rfl
 | (a,x)::l,_,h=>by
   simp only[bsmO];rw[ev_agree (Agree.left (l:=x.rd) h)];split
   · rw[bsm_agree (Agree.right (l:=x.rd) h)]
   · rfl
theorem val_agree{op:IOp}{e e':Nat→AV}{σ:Sig}(h:Agree op.reads e e'):valO op e σ=valO op e' σ:=by
 cases op<;>simp only[IOp.reads] at h<;>simp only[valO]<;>first
  | rfl
  | (rw[ev_agree h];done)
  | (rw[ev_agree h.left,ev_agree h.right];done)
  | (rw[ev_agree h.left,ev_agree h.right.left,ev_agree h.right.right];done)
  | (rw[bld_agree h];done)
  | (rw[bsl_agree h];done)
  | (rw[evO_agree h.left,evO_agree h.right];done)
  | skip
 · rename_i sz x lo hi mx;unfold slSO;rw[ev_agree h.left];have h1:=h.right.left;have h2:=h.right.right.left;have h3:=h.right.right.right;split
   · rw[bound_agree h1,bound_agree h2,bound_agree h3]
   · rw[bound_agree h1,bound_agree h2];split
     · split
       · rfl
       · rename_i m;rw[ev_agree (x:=m) h3]
     · rfl
   · rw[bound_agree h1,bound_agree h2]
   · rw[bound_agree h1,bound_agree h2]
   · rfl
 · rename_i x lo hi;unfold slTO;rw[ev_agree h.left];split
   · rw[bound_agree h.right.left,bound_agree h.right.right]
   · rfl
theorem eff_agree{op:IOp}{d:Nat}{e e':Nat→AV}{σ:Sig}{g:Nat}(h:Agree op.reads e e'):effO d op e σ g=effO d op e' σ g:=by
 have hv:=val_agree (σ:=σ) h
 cases op<;>simp only[effO]<;>first
  | (rw[hv];done)
  | rfl
  | skip
 all_goals simp only[IOp.reads] at h
 case chk sz agg x t=>rw[ev_agree h.left,h t (by simp)]
 all_goals first|(rw[ev_agree h.left,ev_agree h.right.left,ev_agree h.right.right];done)|(rw[ev_agree h.left,ev_agree h.right];done)|(rw[ev_agree h];done)|(rw[bsm_agree h];done)
theorem step_xfer{d:Nat}{op:IOp}{e e':Nat→AV}{σ:Sig}{A B:AV→Sig→Prop}(h:Agree op.reads e e')(hAB:∀v σ,A v σ→B v σ)(hA:stepW P d op e σ A):stepW P d op e' σ B:=by
 have am:∀{f:Nat} {l:List AV} {σ:Sig} {d:Nat},ACall P f l σ d A→ACall P f l σ d B:=by intro f l σ d hA;exact⟨hA.1,fun Y T G w vals hI hy ht hr=>(hA.2 Y T G w vals hI hy ht hr).mono fun e w' ⟨v,av,σ',G',T',h1,h2,h3,h4,h5⟩=>⟨v,av,σ',G',T',h1,h2,h3,hAB _ _ h4,h5⟩⟩
 have det:detW (effO d op e σ) A→detW (effO d op e' σ) B:=by
  intro h1 g;have h1:=h1 g;rw[eff_agree h] at h1
  revert h1
  split
  · exact fun h=>⟨h.1,hAB _ _ h.2⟩
  · exact id
 cases op<;>try (exact det hA)
 case callF f args=>
  have hA':argW (evO e args) (fun l=>ACall P f l σ d A):=hA;show argW (evO e' args) (fun l=>ACall P f l σ d B)
  rw[evO_agree h] at hA';unfold argW at*;split
  · rename_i l hl;rw[hl] at hA';exact am hA'
  · rename_i hl;rw[hl] at hA';exact hA'
 case callV x args=>
  simp only[IOp.reads] at h;have hA':argW (evO e args) (fun l=>callVW P (x.ev e) l σ d A):=hA;show argW (evO e' args) (fun l=>callVW P (x.ev e') l σ d B)
  rw[evO_agree h.right,ev_agree h.left] at hA';cases hl:evO e' args with
  | none=>rw[hl] at hA';exact hA'
  | some l=>
    rw[hl] at hA';have hA2:callVW P (x.ev e') l σ d A:=hA';show callVW P (x.ev e') l σ d B
    generalize x.ev e'=y at hA2 ⊢;cases y<;>try (exact hA2)
    rename_i fn a b;cases fn<;>try (exact hA2)
    · exact am hA2
    · rename_i yl;cases a<;>cases b<;>try (exact hA2)
      unfold callVW at hA2 ⊢;simp only at hA2 ⊢;split at hA2
      · exact⟨hA2.1,hA2.2.1,fun b=>hAB _ _ (hA2.2.2 b)⟩
      · exact hA2
theorem IStep.xfer{s:IStep}{e e':Nat→AV}{σ:Sig}{K K':(Nat→AV)→Sig→Prop}(h:Agree s.reads e e')(hK:∀v σ,K (putE e s.dst v) σ→K' (putE e' s.dst v) σ)(hs:s.wp P K e σ):s.wp P K' e' σ:=by
 obtain⟨d,g,op⟩:=s;cases g with
 | none=>exact step_xfer h (fun v σ hv=>hK v σ hv) hs
 | some gb=>
   obtain⟨g,b⟩:=gb;have hg:e g=e' g:=h g (by simp[IStep.reads]);have ho:Agree op.reads e e':=fun t ht=>h t (by simp[IStep.reads,ht]);have hs':guardW (e g) b (stepW P (d.getD 0) op e σ (contS e d K)) (K (putE e d (.tup [])) σ):=hs;show guardW (e' g) b (stepW P (d.getD 0) op e' σ (contS e' d K')) (K' (putE e' d (.tup [])) σ)
   rw[hg] at hs';unfold guardW at*;split
   · rename_i cv hcv;rw[hcv] at hs';simp only at hs';split
     · rw[if_pos (by assumption)] at hs';exact step_xfer ho (fun v σ hv=>hK v σ hv) hs'
     · rw[if_neg (by assumption)] at hs';exact hK _ _ hs'
   · rename_i hcv;rw[hcv] at hs';exact hK _ _ hs'
   · rename_i hn hn2
     revert hs';split
     · rename_i cv hcv;exact absurd hcv (hn _)
     · rename_i hcv;exact absurd hcv hn2
     · exact id
theorem IStep.mono{s:IStep}{e:Nat→AV}{σ:Sig}{K K':(Nat→AV)→Sig→Prop}(hs:s.wp P K e σ)(hK:∀e σ,K e σ→K' e σ):s.wp P K' e σ:=s.xfer Agree.refl (fun _ _ h=>hK _ _ h) hs
theorem mem_false{d t:Nat}:∀{l:List Nat},mem d l=false→t∈l→t≠d
 | a::r,h1,h2=>by
   simp only[mem] at h1;split at h1
   · cases h1
   · rename_i hb;rcases List.mem_cons.1 h2 with rfl | h2
     · rintro rfl;simp at hb
     · exact mem_false h1 h2
theorem mem_true{d:Nat}:∀{l:List Nat},mem d l=true→d∈l
 | a::r,h1=>by
   simp only[mem] at h1;split at h1
   · rename_i hb;rw[Nat.eq_of_beq_eq_true hb];exact List.mem_cons_self
   · exact List.mem_cons_of_mem _ (mem_true h1)
theorem putE_agree{s:IStep}{l:List Nat}{e:Nat→AV}{v:AV}(h:dstIn s l=false):Agree l (putE e s.dst v) e:=by
 intro t ht;unfold dstIn at h;cases hd:s.dst with
 | none=>rfl
 | some d=>
   rw[hd] at h;show upd e d v t=e t
   rw[upd_eq,if_neg (mem_false h ht)]
theorem putE_comm{a x:IStep}{e:Nat→AV}{v u:AV}(h:sameDst a x=false):putE (putE e a.dst v) x.dst u=putE (putE e x.dst u) a.dst v:=by
 unfold putE;unfold sameDst at h;cases ha:a.dst with
 | none=>rfl
 | some p=>
   cases hx:x.dst with
   | none=>rfl
   | some q=>
     rw[ha,hx] at h;simp only at h ⊢
     funext t
     simp only[upd_eq];have:p≠q:=by rintro rfl;simp at h
     by_cases h1:t=q
     · subst h1;simp[Ne.symm this]
     · simp[h1]
theorem isV_det{op:IOp}(h:op.cls= .v∨op.cls= .l){d:Nat}{e:Nat→AV}{σ:Sig}{K:AV→Sig→Prop}:stepW P d op e σ K↔(match valO op e σ with | some (p,v)=>p∧K v σ | none=>False):=by
 have key:∀g,effO d op e σ g=(match valO op e σ with | some (p,v)=>some (p,v,σ) | none=>none):=by intro g;cases op<;>first | rfl | (simp[IOp.cls] at h)
 have hd:detW (effO d op e σ) K↔(match valO op e σ with | some (p,v)=>p∧K v σ | none=>False):=by
  constructor
  · intro h1;have h1:=h1 0;rw[key] at h1;cases hv:valO op e σ with
    | none=>rw[hv] at h1;exact h1
    | some pv=>rw[hv] at h1;exact h1
  · intro h1 g;rw[key];cases hv:valO op e σ with
    | none=>rw[hv] at h1;exact h1
    | some pv=>rw[hv] at h1;exact h1
 cases op<;>first | exact hd | (simp[IOp.cls] at h)
theorem NFl{s:IStep}(hs:s.op.cls= .v∨s.op.cls= .l)(e:Nat→AV)(σ:Sig):∃p v,∀e',Agree s.reads e e'→ ∀K,s.wp P K e' σ↔(p∧K (putE e' s.dst v) σ):=by
 obtain⟨d,g,op⟩:=s;simp only at hs;have base:∃p v,∀e',Agree op.reads e e'→ ∀K,stepW P (d.getD 0) op e' σ (contS e' d K)↔(p∧K (putE e' d v) σ):=by
  cases hv:valO op e σ with
  | none=> refine⟨False,.junk,fun e' he K=>?_⟩;rw[isV_det hs,←val_agree he,hv];simp
  | some pv=> refine⟨pv.1,pv.2,fun e' he K=>?_⟩;rw[isV_det hs,←val_agree he,hv];rfl
 obtain⟨p,v,hb⟩:=base;cases g with
 | none=>exact⟨p,v,hb⟩
 | some gb=>
   obtain⟨g,b⟩:=gb;have ho:∀e',Agree (IStep.reads ⟨d,some (g,b),op⟩) e e'→Agree op.reads e e':=fun e' h t ht=>h t (by simp[IStep.reads,ht]);have hg:∀e',Agree (IStep.reads ⟨d,some (g,b),op⟩) e e'→e g=e' g:=fun e' h=>h g (by simp[IStep.reads]);have red:∀e' K,IStep.wp P ⟨d,some (g,b),op⟩ K e' σ=guardW (e' g) b (stepW P (d.getD 0) op e' σ (contS e' d K)) (K (putE e' d (.tup [])) σ):=fun _ _=>rfl;cases hc:e g with
   | bool cv=>
     by_cases hb':cv=b
     · refine⟨p,v,fun e' he K=>?_⟩;rw[red,←hg e' he,hc];simp only[guardW,if_pos hb'];exact hb e' (ho e' he) K
     · refine⟨True,.tup [],fun e' he K=>?_⟩;rw[red,←hg e' he,hc];simp only[guardW,if_neg hb',true_and]
   | tup l=>
     cases l with
     | nil=> refine⟨True,.tup [],fun e' he K=>?_⟩;rw[red,←hg e' he,hc];simp only[guardW,true_and]
     | cons a l=> refine⟨False,.junk,fun e' he K=>?_⟩;rw[red,←hg e' he,hc];simp[guardW]
   | _=> refine⟨False,.junk,fun e' he K=>?_⟩;rw[red,←hg e' he,hc];simp[guardW]
theorem NFv{s:IStep}(hs:s.op.cls= .v)(e:Nat→AV):∃p v,∀e',Agree s.reads e e'→ ∀σ K,s.wp P K e' σ↔(p∧K (putE e' s.dst v) σ):=by
 obtain⟨d,g,op⟩:=s;simp only at hs;have hval:∀σ σ',valO op e σ=valO op e σ':=by intro σ σ';cases op<;>first | rfl | (simp[IOp.cls] at hs)
 have base:∃p v,∀e',Agree op.reads e e'→ ∀σ K,stepW P (d.getD 0) op e' σ (contS e' d K)↔(p∧K (putE e' d v) σ):=by
  cases hv:valO op e sig0 with
  | none=> refine⟨False,.junk,fun e' he σ K=>?_⟩;rw[isV_det (.inl hs),←val_agree he,hval σ sig0,hv];simp
  | some pv=> refine⟨pv.1,pv.2,fun e' he σ K=>?_⟩;rw[isV_det (.inl hs),←val_agree he,hval σ sig0,hv];rfl
 obtain⟨p,v,hb⟩:=base;cases g with
 | none=>exact⟨p,v,hb⟩
 | some gb=>
   obtain⟨g,b⟩:=gb;have ho:∀e',Agree (IStep.reads ⟨d,some (g,b),op⟩) e e'→Agree op.reads e e':=fun e' h t ht=>h t (by simp[IStep.reads,ht]);have hg:∀e',Agree (IStep.reads ⟨d,some (g,b),op⟩) e e'→e g=e' g:=fun e' h=>h g (by simp[IStep.reads]);have red:∀e' σ K,IStep.wp P ⟨d,some (g,b),op⟩ K e' σ=guardW (e' g) b (stepW P (d.getD 0) op e' σ (contS e' d K)) (K (putE e' d (.tup [])) σ):=fun _ _ _=>rfl;cases hc:e g with
   | bool cv=>
     by_cases hb':cv=b
     · refine⟨p,v,fun e' he σ K=>?_⟩;rw[red,←hg e' he,hc];simp only[guardW,if_pos hb'];exact hb e' (ho e' he) σ K
     · refine⟨True,.tup [],fun e' he σ K=>?_⟩;rw[red,←hg e' he,hc];simp only[guardW,if_neg hb',true_and]
   | tup l=>
     cases l with
     | nil=> refine⟨True,.tup [],fun e' he σ K=>?_⟩;rw[red,←hg e' he,hc];simp only[guardW,true_and]
     | cons a l=> refine⟨False,.junk,fun e' he σ K=>?_⟩;rw[red,←hg e' he,hc];simp[guardW]
   | _=> refine⟨False,.junk,fun e' he σ K=>?_⟩;rw[red,←hg e' he,hc];simp[guardW]
theorem isN_eff{op:IOp}(h:op.cls= .n)(d:Nat)(e:Nat→AV):∃(p:Prop) (val:Nat→AV) (c:List AV),∀e',Agree op.reads e e'→ ∀σ K,stepW P d op e' σ K↔ ∀g,p∧K (val g) (newS σ d g c):=by
 have mk:∀{p:Prop} {val:Nat→AV} {c:List AV},(∀σ g,effO d op e σ g=some (p,val g,newS σ d g c))→ ∃(p:Prop) (val:Nat→AV) (c:List AV),∀e',Agree op.reads e e'→ ∀σ K,stepW P d op e' σ K↔ ∀g,p∧K (val g) (newS σ d g c):=by
  intro p val c hh;refine⟨p,val,c,fun e' he σ K=>?_⟩;have hd:detW (effO d op e' σ) K↔ ∀g,p∧K (val g) (newS σ d g c):=by
   constructor
   · intro h1 g;have h1:=h1 g;rw[←eff_agree he,hh] at h1;exact h1
   · intro h1 g;rw[←eff_agree he,hh];exact h1 g
  cases op<;>first | exact hd | (simp[IOp.cls] at h)
 have no:(∀σ g,effO d op e σ g=none)→ ∃(p:Prop) (val:Nat→AV) (c:List AV),∀e',Agree op.reads e e'→ ∀σ K,stepW P d op e' σ K↔ ∀g,p∧K (val g) (newS σ d g c):=by
  intro hh;refine⟨False,fun _=> .junk,[],fun e' he σ K=>?_⟩;have hd:detW (effO d op e' σ) K↔ ∀g:Nat,False∧K .junk (newS σ d g []):=by
   constructor
   · intro h1;have h1:=h1 0;rw[←eff_agree he,hh] at h1;exact h1.elim
   · intro h1;exact (h1 0).1.elim
  cases op<;>first | exact hd | (simp[IOp.cls] at h)
 cases op<;>first | (simp[IOp.cls] at h;done) | skip
 case new=>exact mk (p:=True) fun σ g=>rfl
 case mkm=>exact mk (p:=True) fun σ g=>rfl
 case rng x=>
  cases hx:x.ev e<;>first | (refine no fun σ g=>?_;simp only[effO,rngO,hx];done) | skip
  · exact mk (p:=True) fun σ g=>by simp only[effO,rngO,hx];rfl
  · exact mk (p:=True) fun σ g=>by simp only[effO,rngO,hx];rfl
 case box sz v=>
  cases hc:cellsO sz (v.ev e) with
  | none=>exact no fun σ g=>by simp only[effO,hc]
  | some pc=>exact mk fun σ g=>by simp only[effO,hc];rfl
 case apz sz by' x y=>
  have key:∀a b,(∀σ g,apzO d g σ sz by' a b=none)∨ ∃(p:Prop) (val:Nat→AV) (c:List AV),∀σ g,apzO d g σ sz by' a b=some (p,val g,newS σ d g c):=by
   intro a b;unfold apzO;split
   · exact .inr ⟨_,_,_,fun σ g=>rfl⟩
   · exact .inl fun σ g=>rfl
  rcases key (x.ev e) (y.ev e) with hk | ⟨p,val,c,hk⟩
  · exact no fun σ g=>hk σ g
  · exact mk (p:=p) (val:=val) (c:=c) fun σ g=>hk σ g
 case bsm sz rows parts=>
  cases hc:bsmO e sz rows parts with
  | none=>exact no fun σ g=>by simp only[effO,hc]
  | some pc=>exact mk fun σ g=>by simp only[effO,hc];rfl
 case mks sz by' z len cap=>
  cases h1:len.ev e<;>cases h2:cap.ev e<;>first | (refine no fun σ g=>?_;simp only[effO,h1,h2];done) | skip
  exact mk fun σ g=>by simp only[effO,h1,h2];rfl
theorem NFn{s:IStep}(hs:s.op.cls= .n)(e:Nat→AV):
  (∃p:Prop,∀e',Agree s.reads e e'→ ∀σ K,s.wp P K e' σ↔(p∧K (putE e' s.dst (.tup [])) σ))∨
  ∃(p:Prop) (val:Nat→AV) (c:List AV),∀e',Agree s.reads e e'→ ∀σ K,s.wp P K e' σ↔ ∀g,p∧K (putE e' s.dst (val g)) (newS σ (s.dst.getD 0) g c):=by
 obtain⟨d,g,op⟩:=s;simp only at hs;obtain⟨p,val,c,hb⟩:=isN_eff (P:=P) hs (d.getD 0) e;cases g with
 | none=>exact .inr ⟨p,val,c,fun e' he σ K=>hb e' he σ _⟩
 | some gb=>
   obtain⟨g,b⟩:=gb;have ho:∀e',Agree (IStep.reads ⟨d,some (g,b),op⟩) e e'→Agree op.reads e e':=fun e' h t ht=>h t (by simp[IStep.reads,ht]);have hg:∀e',Agree (IStep.reads ⟨d,some (g,b),op⟩) e e'→e g=e' g:=fun e' h=>h g (by simp[IStep.reads]);have red:∀e' σ K,IStep.wp P ⟨d,some (g,b),op⟩ K e' σ=guardW (e' g) b (stepW P (d.getD 0) op e' σ (contS e' d K)) (K (putE e' d (.tup [])) σ):=fun _ _ _=>rfl;cases hc:e g with
   | bool cv=>
     by_cases hb':cv=b
     · refine .inr ⟨p,val,c,fun e' he σ K=>?_⟩;rw[red,←hg e' he,hc];simp only[guardW,if_pos hb'];exact hb e' (ho e' he) σ _
     · refine .inl ⟨True,fun e' he σ K=>?_⟩;rw[red,←hg e' he,hc];simp only[guardW,if_neg hb',true_and]
   | tup l=>
     cases l with
     | nil=> refine .inl ⟨True,fun e' he σ K=>?_⟩;rw[red,←hg e' he,hc];simp only[guardW,true_and]
     | cons a l=> refine .inl ⟨False,fun e' he σ K=>?_⟩;rw[red,←hg e' he,hc];simp[guardW]
   | _=> refine .inl ⟨False,fun e' he σ K=>?_⟩;rw[red,←hg e' he,hc];simp[guardW]
def chkP(sz:Nat)(agg:Bool)(y:IOpd)(t:Nat)(e:Nat→AV)(σ:Sig):Prop:=match ldO sz agg σ (y.ev e) with
 | some (p,v)=>p∧v=e t
 | none=>False
def CH(s:IStep)(e:Nat→AV)(σ:Sig):Prop:=match s with
 | ⟨some t,none,.ld sz agg y⟩=>chkP sz agg y t e σ
 | ⟨some t,some (g,b),.ld sz agg y⟩=>guardW (e g) b (chkP sz agg y t e σ) True
 | _=>True
theorem chk_steps{s s':IStep}(h:chkOf s=some s'){r:List IStep}{K:(Nat→AV)→Sig→Prop}{e:Nat→AV}{σ:Sig}(hs:stepsW P (s'::r) K e σ):CH s e σ∧stepsW P r K e σ:=by
 have base:∀{sz agg y t},stepW P 0 (.chk sz agg y t) e σ (contS e none (stepsW P r K))→chkP sz agg y t e σ∧stepsW P r K e σ:=by
  intro sz agg y t h;have h1:detW (effO 0 (.chk sz agg y t) e σ) (contS e none (stepsW P r K)):=h;have h1:=h1 0;simp only[effO] at h1;unfold chkP;cases hl:ldO sz agg σ (y.ev e) with
  | none=>rw[hl] at h1;exact h1.elim
  | some pv=>rw[hl] at h1;exact h1
 unfold chkOf at h;split at h
 · rename_i t g sz agg x;cases h;cases g with
   | none=>exact base hs
   | some gb=>
     obtain⟨g,b⟩:=gb;have hs':guardW (e g) b (stepW P 0 (.chk sz agg x t) e σ (contS e none (stepsW P r K))) (stepsW P r K e σ):=hs;show guardW (e g) b (chkP sz agg x t e σ) True∧stepsW P r K e σ
     unfold guardW at*;split
     · rename_i cv hcv;rw[hcv] at hs';simp only at hs';split
       · rw[if_pos (by assumption)] at hs';exact base hs'
       · rw[if_neg (by assumption)] at hs';exact⟨trivial,hs'⟩
     · rename_i hcv;rw[hcv] at hs';exact⟨trivial,hs'⟩
     · rename_i hn hn2
       revert hs';split
       · rename_i cv hcv;exact absurd hcv (hn _)
       · rename_i hcv;exact absurd hcv hn2
       · exact False.elim
 · cases h
theorem CH_none{s:IStep}(h:chkOf s=none)(e:Nat→AV)(σ:Sig):CH s e σ:=by
 unfold CH;split
 · simp[chkOf] at h
 · simp[chkOf] at h
 · trivial
theorem CH_agree{s:IStep}{e e':Nat→AV}{σ:Sig}(h:(chkOf s).isSome=true→Agree s.reads e e'∧ ∀t,s.dst=some t→e t=e' t)(hc:CH s e σ):CH s e' σ:=by
 unfold CH at*;split
 · rename_i t sz agg y;obtain⟨h1,h2⟩:=h rfl;have h2:=h2 t rfl;simp only[IStep.reads,IOp.reads] at h1;simp only at hc;unfold chkP at*;rw[ev_agree h1,h2] at hc;exact hc
 · rename_i t g b sz agg y;obtain⟨h1,h2⟩:=h rfl;have h2:=h2 t rfl;have h3:e g=e' g:=h1 g (by simp[IStep.reads]);have h4:Agree y.rd e e':=fun t ht=>h1 t (by simp[IStep.reads,IOp.reads,ht]);simp only at hc;unfold chkP at*;rw[ev_agree h4,h2,h3] at hc;exact hc
 · trivial
theorem newS_dead{σ:Sig}{d g:Nat}{c:List AV}{sz:Nat}{agg:Bool}{a:AV}{r:Prop×AV}(h:σ d=(0,.dead))(hl:ldO sz agg σ a=some r):ldO sz agg (newS σ d g c) a=some r:=by
 cases a<;>try (exact hl)
 rename_i i g' off;simp only[ldO] at hl ⊢;by_cases hi:i=d
 · subst hi;rw[h] at hl;cases hl
 · rw[newS,upd_eq,if_neg hi];exact hl
theorem newS_all{σ:Sig}{d:Nat}{c:List AV}{sz:Nat}{agg:Bool}{a:AV}(h:∀g,∃p v,ldO sz agg (newS σ d g c) a=some (p,v)∧p)(g:Nat):ldO sz agg (newS σ d g c) a=ldO sz agg σ a:=by
 cases a<;>try rfl
 rename_i i g' off;simp only[ldO] at h ⊢;by_cases hi:i=d
 · subst hi;obtain⟨p,v,h1,h2⟩:=h (g'+1);rw[newS,upd_eq,if_pos rfl] at h1;simp only at h1;split at h1
   · cases h1;omega
   · cases h1
 · rw[newS,upd_eq,if_neg hi]
theorem CH_new{s:IStep}{e:Nat→AV}{σ:Sig}{d g:Nat}{c:List AV}(h:σ d=(0,.dead))(hc:CH s e σ):CH s e (newS σ d g c):=by
 have base:∀{sz agg y t},chkP sz agg y t e σ→chkP sz agg y t e (newS σ d g c):=by
  intro sz agg y t h1;unfold chkP at*;cases hl:ldO sz agg σ (y.ev e) with
  | none=>rw[hl] at h1;exact h1.elim
  | some pv=>rw[newS_dead h hl];rw[hl] at h1;exact h1
 unfold CH at*;split
 · exact base hc
 · simp only at hc;unfold guardW at*;split
   · rename_i cv hcv;rw[hcv] at hc;simp only at hc;split
     · rw[if_pos (by assumption)] at hc;exact base hc
     · trivial
   · trivial
   · rename_i hn hn2
     revert hc;split
     · rename_i cv hcv;exact absurd hcv (hn _)
     · rename_i hcv;exact absurd hcv hn2
     · exact id
 · trivial
theorem isL_inv{s:IStep}(h:s.op.cls= .l)(hd:s.dst.isSome=true):∃t g sz agg y,s=⟨some t,g,.ld sz agg y⟩:=by
 obtain⟨d,g,op⟩:=s;cases op<;>first | (simp[IOp.cls] at h;done) | skip
 cases d with
 | none=>cases hd
 | some t=>exact⟨_,_,_,_,_,rfl⟩
theorem NFL{s:IStep}{t:Nat}{g:Option (Nat×Bool)}{sz:Nat}{agg:Bool}{y:IOpd}(hs:s=⟨some t,g,.ld sz agg y⟩)(hown:dstIn s s.reads=false){e:Nat→AV}{σ:Sig}{K:(Nat→AV)→Sig→Prop}(h:s.wp P K e σ):
  ∃v,K (upd e t v) σ∧CH s (upd e t v) σ∧ ∀e' σ' K',Agree s.reads e e'→CH s (upd e' t v) σ'→K' (upd e' t v) σ'→s.wp P K' e' σ':=by
 subst hs;have ha:∀e v,Agree (IStep.reads ⟨some t,g,.ld sz agg y⟩) (upd e t v) e:=fun e v=>putE_agree (s:=⟨some t,g,.ld sz agg y⟩) hown;cases g with
 | none=>
   have h':stepW P t (.ld sz agg y) e σ (contS e (some t) K):=h;rw[isV_det (.inr rfl)] at h';simp only[valO] at h';cases hl:ldO sz agg σ (y.ev e) with
   | none=>rw[hl] at h';exact h'.elim
   | some pv=>
     rw[hl] at h';refine⟨pv.2,h'.2,?_,fun e' σ' K' hA hc hk=>?_⟩
     · show chkP sz agg y t (upd e t pv.2) σ
       unfold chkP;rw[ev_agree (x:=y) (ha e _),hl,upd_eq,if_pos rfl];exact⟨h'.1,rfl⟩
     · have hc':chkP sz agg y t (upd e' t pv.2) σ':=hc;unfold chkP at hc';rw[ev_agree (x:=y) (ha e' _),upd_eq,if_pos rfl] at hc';show stepW P t (.ld sz agg y) e' σ' (contS e' (some t) K')
       rw[isV_det (.inr rfl)];simp only[valO];cases hl':ldO sz agg σ' (y.ev e') with
       | none=>rw[hl'] at hc';exact hc'
       | some pv'=>
         rw[hl'] at hc';refine⟨hc'.1,?_⟩;show K' (upd e' t pv'.2) σ'
         rw[hc'.2];exact hk
 | some gb=>
   obtain⟨g,b⟩:=gb;have red:∀e' σ' K',IStep.wp P ⟨some t,some (g,b),.ld sz agg y⟩ K' e' σ'=guardW (e' g) b (stepW P t (.ld sz agg y) e' σ' (contS e' (some t) K')) (K' (upd e' t (.tup [])) σ'):=fun _ _ _=>rfl;have redC:∀e' σ',CH ⟨some t,some (g,b),.ld sz agg y⟩ e' σ'=guardW (e' g) b (chkP sz agg y t e' σ') True:=fun _ _=>rfl;have hgt:∀(e:Nat→AV) v,upd e t v g=e g:=fun e v=>ha e v g (by simp[IStep.reads]);have hy:∀(e:Nat→AV) v,y.ev (upd e t v)=y.ev e:=fun e v=>ev_agree fun x hx=>ha e v x (by simp[IStep.reads,IOp.reads,hx]);rw[red] at h;cases hc:e g with
   | bool cv=>
     rw[hc] at h;by_cases hb:cv=b
     · simp only[guardW,if_pos hb] at h;rw[isV_det (.inr rfl)] at h;simp only[valO] at h;cases hl:ldO sz agg σ (y.ev e) with
       | none=>rw[hl] at h;exact h.elim
       | some pv=>
         rw[hl] at h;refine⟨pv.2,h.2,?_,fun e' σ' K' hA hcc hk=>?_⟩
         · rw[redC,hgt,hc];simp only[guardW,if_pos hb];unfold chkP;rw[hy,hl,upd_eq,if_pos rfl];exact⟨h.1,rfl⟩
         · have hg':e' g= .bool cv:=by rw[←hA g (by simp[IStep.reads])];exact hc
           rw[redC,hgt,hg'] at hcc;rw[red,hg'];simp only[guardW,if_pos hb] at hcc ⊢;unfold chkP at hcc;rw[hy,upd_eq,if_pos rfl] at hcc;rw[isV_det (.inr rfl)];simp only[valO];cases hl':ldO sz agg σ' (y.ev e') with
           | none=>rw[hl'] at hcc;exact hcc
           | some pv'=>
             rw[hl'] at hcc;refine⟨hcc.1,?_⟩;show K' (upd e' t pv'.2) σ'
             rw[hcc.2];exact hk
     · simp only[guardW,if_neg hb] at h;refine⟨.tup [],h,?_,fun e' σ' K' hA hcc hk=>?_⟩
       · rw[redC,hgt,hc];simp only[guardW,if_neg hb]
       · have hg':e' g= .bool cv:=by rw[←hA g (by simp[IStep.reads])];exact hc
         rw[red,hg'];simp only[guardW,if_neg hb];exact hk
   | tup l=>
     rw[hc] at h;cases l with
     | nil=>
       refine⟨.tup [],h,?_,fun e' σ' K' hA hcc hk=>?_⟩
       · rw[redC,hgt,hc];trivial
       · have hg':e' g= .tup []:=by rw[←hA g (by simp[IStep.reads])];exact hc
         rw[red,hg'];exact hk
     | cons _ _=>exact h.elim
   | _=>rw[hc] at h;exact h.elim
end Go.Abs
namespace Go.Abs
variable {P:Program} {c:Ctx P}
theorem newS_comm{σ:Sig}{i j g h:Nat}{z y:List AV}(hij:i≠j):newS (newS σ i g z) j h y=newS (newS σ j h y) i g z:=by
 funext k;simp only[newS,upd_eq]
 by_cases h1:k=j<;>by_cases h2:k=i<;>simp[h1,h2]<;>omega
theorem newS_upd{σ:Sig}{i j g:Nat}{z:List AV}{r:Nat×Res}(hij:i≠j):upd (newS σ i g z) j r=newS (upd σ j r) i g z:=by
 funext k;simp only[newS,upd_eq]
 by_cases h1:k=j<;>by_cases h2:k=i<;>simp[h1,h2]<;>omega
theorem base_dead{σ:Sig}{i sz:Nat}{a:AV}{p:Prop}{es:List (List AV)}{σ1:Sig}(h0:σ i=(0,.dead))(h:baseO sz σ a=some (p,es,σ1)):
  σ1 i=(0,.dead)∧ ∀g z,baseO sz (newS σ i g z) a=some (p,es,newS σ1 i g z):=by
 unfold baseO at h;split at h
 · cases h;exact⟨h0,fun g z=>rfl⟩
 · cases h;exact⟨h0,fun g z=>rfl⟩
 · rename_i j g';by_cases hj:j=i
   · subst hj;rw[h0] at h;cases h
   · split at h
     · rename_i g'' c hσ;cases h;refine⟨by rw[upd_eq,if_neg (Ne.symm hj)];exact h0,fun g z=>?_⟩;unfold baseO;have:newS σ i g z j=σ j:=by rw[newS,upd_eq,if_neg hj]
       simp only[this,hσ];rw[newS_upd (Ne.symm hj)]
     · cases h
 · cases h
theorem beq_ne{a b:Nat}(h:(!Nat.beq a b)=true):a≠b:=by rintro rfl;simp at h
theorem beqf_ne{a b:Nat}(h:Nat.beq a b=false):a≠b:=by rintro rfl;simp at h
theorem ne_beq{a b:Nat}(h:a≠b):Nat.beq a b=false:=by
 cases hb:Nat.beq a b with
 | false=>rfl
 | true=>exact absurd (Nat.eq_of_beq_eq_true hb) h
theorem mup_dead{kk:KK}{σ σ1:Sig}{i:Nat}{k v m w:AV}{p:Prop}(h0:σ i=(0,.dead))(h:mupO kk σ k v m=some (p,w,σ1)):σ1 i=(0,.dead)∧ ∀g z,mupO kk (newS σ i g z) k v m=some (p,w,newS σ1 i g z):=by
 cases m
 case map j g0=>
  by_cases hj:j=i
  · subst hj;unfold mupO mapW at h;simp only[h0] at h;cases h
  · have hs:∀g z,mapW (newS σ i g z) (.map j g0)=mapW σ (.map j g0):=fun g z=>by
     have:newS σ i g z j=σ j:=by simp[newS,upd_eq,hj]
     simp only[mapW,this]
    cases hw:mapW σ (.map j g0) with
    | none=>unfold mupO at h;rw[hw] at h;cases h
    | some x=>
      obtain⟨i',hh,q,ks,vs⟩:=x;have hij:i'=j:=by
       unfold mapW at hw;simp only at hw;split at hw
       · cases hw;rfl
       · cases hw
      subst hij;have hu:∀r,upd σ i' r i=(0,.dead):=fun r=>by rw[upd_eq,if_neg (Ne.symm hj)];exact h0
      unfold mupO at h ⊢;simp only[hs];rw[hw] at h ⊢;cases hv:forceA v with
      | none=>rw[hv] at h;cases h
      | some v'=>
        rw[hv] at h;dsimp only at h ⊢;cases hf:findA kk k ks 0 with
        | none=>rw[hf] at h;cases h
        | some o=>
          rw[hf] at h;cases o with
          | none=> cases h;refine⟨hu _,fun g z=>?_⟩;dsimp only;rw[newS_upd (Ne.symm hj)]
          | some y=> cases h;refine⟨hu _,fun g z=>?_⟩;dsimp only;rw[newS_upd (Ne.symm hj)]
 all_goals
  simp[mupO,mapW] at h
theorem eff_dead{op:IOp}{d i:Nat}{e:Nat→AV}{σ σ1:Sig}{γ:Nat}{p:Prop}{v:AV}(hs:siteOK d i op=true)(h0:σ i=(0,.dead))(h:effO d op e σ γ=some (p,v,σ1)):
  (∀f a,op≠ .callF f a)→(∀f a,op≠ .callV f a)→σ1 i=(0,.dead)∧ ∀g z,effO d op e (newS σ i g z) γ=some (p,v,newS σ1 i g z):=by
 intro hf hv;cases op<;>simp only[siteOK] at hs<;>first | (cases hs;done) | skip
 · rename_i sz x y;simp only[effO] at h ⊢;unfold stO at h;split at h
   · rename_i j g' off hx;by_cases hj:j=i
     · subst hj;rw[h0] at h;split at h
       · rename_i hh;cases hh
       · cases h
     · split at h
       · rename_i q cs g'' c hcc hσ;cases h;refine⟨by rw[upd_eq,if_neg (Ne.symm hj)];exact h0,fun g z=>?_⟩;unfold stO;have:newS σ i g z j=σ j:=by rw[newS,upd_eq,if_neg hj]
         simp only[hx,this,hσ,hcc];rw[newS_upd (Ne.symm hj)]
       · cases h
   · cases h
 · rename_i sz bytes x y site;simp only[effO] at h ⊢;have hsi:=beq_ne hs;split at h
   · rename_i q es σ' q' ys hb hr;cases h;obtain⟨h1,h2⟩:=base_dead h0 hb;refine⟨by rw[newS,upd_eq,if_neg (Ne.symm hsi)];exact h1,fun g z=>?_⟩;rw[h2,hr];simp only;rw[newS_comm (Ne.symm hsi)]
   · cases h
 · rename_i sz site;simp only[effO] at h ⊢;have hsi:=beq_ne hs;cases h;refine⟨by rw[newS,upd_eq,if_neg (Ne.symm hsi)];exact h0,fun g z=>?_⟩;rw[newS_comm (Ne.symm hsi)]
 · simp only[effO] at h ⊢;exact mup_dead h0 h
 · exact absurd rfl (hf _ _)
 · exact absurd rfl (hv _ _)
theorem siteC{d i:Nat}(h:(!Nat.beq d i && Nat.blt i YS)=true):d≠i∧i<YS:=by simp only[Bool.and_eq_true] at h;exact⟨beq_ne h.1,Nat.le_of_ble_eq_true h.2⟩
theorem ACall.dead{f:Nat}{l:List AV}{σ:Sig}{d:Nat}{A:AV→Sig→Prop}{S:Nat→Prop}(hS:∀i,S i→σ i=(0,.dead)∧d≠i∧i<YS)(h:ACall P f l σ d A):
  ACall P f l σ d fun v σ'=>A v σ'∧ ∀i,S i→σ' i=(0,.dead):=by
 refine⟨h.1,fun Y T G w vals hI hy ht hr=>(h.2 Y T G w vals hI hy ht hr).mono ?_⟩;rintro e w' ⟨v,av,σ',G',T',h1,h2,h3,h4,h5,h6,h7,h8,h9⟩;refine⟨v,av,σ',G',T',h1,h2,h3,⟨h4,fun i hi=>?_⟩,h5,h6,h7,h8,h9⟩;obtain⟨k1,k2,k3⟩:=hS i hi;rw[h8 i (Ne.symm k2) (by rintro⟨c,hc⟩;rw[k1] at hc;cases hc) k3];exact k1
theorem ACall.frame{f:Nat}{l:List AV}{σ:Sig}{d i g:Nat}{z:List AV}{A:AV→Sig→Prop}(h0:σ i=(0,.dead))(hd:d≠i)(hiy:i<YS)(hz:z≠[])(h:ACall P f l σ d A):
  ACall P f l (newS σ i g z) d fun v σ'=>∃σ'',σ'=newS σ'' i g z∧σ'' i=(0,.dead)∧A v σ'':=by
 refine⟨h.1,fun Y T G w vals hI hy ht hr=>?_⟩;have hni:∀j,j≠i→newS σ i g z j=σ j:=fun j hj=>by rw[newS,upd_eq,if_neg hj]
 have hi:newS σ i g z i=(g,.row z):=by rw[newS,upd_eq,if_pos rfl]
 have hσ:σ=upd (newS σ i g z) i (0,.dead):=by
  funext j;rw[upd_eq];split
  · subst j;exact h0
  · rw[hni j (by assumption)]
 have hI0:Inv G σ w:=by rw[hσ];exact hI.kill i 0
 have notlive:¬live σ i:=by rintro⟨c,hc⟩;rw[h0] at hc;cases hc
 have hF:∀b,Foot G σ b→Foot G (newS σ i g z) b:=by
  rintro b ⟨j,x,hj,hm⟩;have hji:j≠i:=by rintro rfl;exact notlive hj
  exact⟨j,x,by unfold live;rw[hni j hji];exact hj,by rw[hni j hji];exact hm⟩
 refine (h.2 Y T G w vals hI0 (hy.same (.inl (by rw[hni YS (Ne.symm (Nat.ne_of_lt hiy))]))) (fun b hb=>ht b (hF b hb)) hr).mono ?_;rintro e w' ⟨v,av,σ',G',T',h1,h2,h3,h4,h5,h6,h7,h8,h9,h10,h11⟩;have h0':σ' i=(0,.dead):=by rw[h8 i (Ne.symm hd) notlive hiy];exact h0
 have hni':∀j,j≠i→newS σ' i g z j=σ' j:=fun j hj=>by rw[newS,upd_eq,if_neg hj]
 have hi':newS σ' i g z i=(g,.row z):=by rw[newS,upd_eq,if_pos rfl]
 have live_i:live (newS σ i g z) i:=⟨z,by rw[hi]⟩;obtain⟨b0,x0,hm0,hb0,hfin⟩:∃b0 x0,G.m i g=some (b0,x0)∧b0<w.heap.size∧ ∀(G':GS) (w':World),G.le G'→G'.K b0=G.K b0→w'.heap[b0]?=w.heap[b0]?→(∃b e lim vals T,ResOK G' w' i g z b e lim vals T)∨ ∃b,ObjOK G' w' i g z b:=by
  rcases hI.res i z (by rw[hi]) with⟨hz',_⟩ | ⟨b,e,lim,vals,T,hR⟩ | ⟨b,hO⟩
  · exact absurd hz' hz
  · rw[hi] at hR;refine⟨b,_,hR.m,(Array.getElem?_eq_some_iff.1 hR.obj).1,fun G' w' hle hk hb=> .inl ⟨b,e,lim,vals,T,hle.m _ _ _ hR.m,by rw[hb];exact hR.obj,hR.fit,hR.lim,fun o ho=>by rw[hk];exact hR.K o ho,fun q a hq=>?_⟩⟩;obtain⟨x,hx,hrel⟩:=hR.rel q a hq;exact⟨x,hx,hrel.mono hle⟩
  · rw[hi] at hO;exact⟨b,_,hO.m,hO.lt,fun G' w' hle hk hb=> .inr ⟨b,hO.keep hle hk hb⟩⟩
 have hmi:G.m i (newS σ i g z i).1=some (b0,x0):=by rw[hi];exact hm0
 have hnf:¬Foot G σ b0:=by
  rintro⟨j,x,hj,hm⟩;have hji:j≠i:=by rintro rfl;exact notlive hj
  exact hI.dist j i b0 x _ hji (by unfold live;rw[hni j hji];exact hj) live_i (by rw[hni j hji];exact hm) hmi
 have hnT:¬T b0:=ht b0 ⟨i,_,live_i,hmi⟩;have hnx:¬(Foot G σ b0∨T b0):=fun h=>h.elim hnf hnT;have hnf':¬Foot G' σ' b0:=fun hf=>(h7 b0 hf).elim hnf (by omega)
 refine⟨v,av,newS σ' i g z,G',T',h1,⟨h2.kok,fun j c' hj=>?_,h2.fresh,fun j k b x y hjk hj hk hx hy=>?_⟩,h3,⟨σ',rfl,h0',h4⟩,h5,
  ⟨h6.os,h6.tape,h6.output,h6.size,fun b hb hn=>h6.block b hb fun hf=>hn (hf.imp (hF b) id),h6.le,fun b hb hn=>h6.Kb b hb fun hf=>hn (hf.imp (hF b) id)⟩,fun b hf=>?_,fun j hj hl hjy=>?_,h9.same (.inl (by rw[hni' YS (Ne.symm (Nat.ne_of_lt hiy))])),fun b hf hT=>?_,h11⟩
 · by_cases hji:j=i
   · subst hji;rw[hi'] at hj ⊢;cases hj;exact .inr (hfin G' w' h5 (h6.Kb b0 hb0 hnx) (h6.block b0 hb0 hnx))
   · rw[hni' j hji] at hj ⊢;exact h2.res j c' hj
 · have key:∀j,j≠i→live (newS σ' i g z) j→ ∀b x,G'.m j (newS σ' i g z j).1=some (b,x)→live σ' j∧G'.m j (σ' j).1=some (b,x):=by intro j hj hl b x hx;unfold live at hl ⊢;rw[hni' j hj] at hl hx;exact⟨hl,hx⟩
   have keyi:∀b x,G'.m i (newS σ' i g z i).1=some (b,x)→b=b0:=by intro b x hx;rw[hi'] at hx;have:=h5.m _ _ _ hm0;simp only at hx;rw[this] at hx;cases hx;rfl
   by_cases hji:j=i
   · subst hji;obtain rfl:=keyi _ _ hx;obtain⟨l1,l2⟩:=key k (Ne.symm hjk) hk _ _ hy;exact hnf' ⟨k,y,l1,l2⟩
   · obtain⟨l1,l2⟩:=key j hji hj _ _ hx;by_cases hki:k=i
     · subst hki;obtain rfl:=keyi _ _ hy;exact hnf' ⟨j,x,l1,l2⟩
     · obtain⟨l3,l4⟩:=key k hki hk _ _ hy;exact h2.dist j k b x y hjk l1 l3 l2 l4
 · obtain⟨j,x,hj,hm⟩:=hf;by_cases hji:j=i
   · subst hji;rw[hi'] at hm;have:=h5.m _ _ _ hm0;simp only at hm;rw[this] at hm;cases hm;exact .inl ⟨j,_,live_i,hmi⟩
   · unfold live at hj;rw[hni' j hji] at hj hm;exact (h7 b ⟨j,x,hj,hm⟩).imp (hF b) id
 · have hji:j≠i:=by rintro rfl;exact hl live_i
   rw[hni j hji,hni' j hji];refine h8 j hj ?_ hjy;unfold live at hl ⊢;rw[hni j hji] at hl;exact hl
 · obtain⟨j,x,hj,hm⟩:=hf;by_cases hji:j=i
   · subst hji;rw[hi'] at hm;have:=h5.m _ _ _ hm0;simp only at hm;rw[this] at hm;cases hm;exact (h11 _ hT).elim hnT (by omega)
   · unfold live at hj;rw[hni' j hji] at hj hm;exact h10 b ⟨j,x,hj,hm⟩ hT
theorem E_dead{op:IOp}{d:Nat}{e:Nat→AV}{σ:Sig}{A:AV→Sig→Prop}{S:Nat→Prop}(hS:∀i,S i→σ i=(0,.dead)∧siteOK d i op=true)(hc:op.cls= .e)(h:stepW P d op e σ A):
  (∃i,S i)→stepW P d op e σ (fun v σ'=>A v σ'∧ ∀i,S i→σ' i=(0,.dead)):=by
 rintro⟨i0,hi0⟩;have det:(∀f a,op≠ .callF f a)→(∀f a,op≠ .callV f a)→detW (effO d op e σ) A→detW (effO d op e σ) (fun v σ'=>A v σ'∧ ∀i,S i→σ' i=(0,.dead)):=by
  intro hf hv h1 g;have h1:=h1 g
  revert h1
  split
  · rename_i p v σ' he;exact fun h=>⟨h.1,h.2,fun i hi=>(eff_dead (hS i hi).2 (hS i hi).1 he hf hv).1⟩
  · exact id
 have hs0:=(hS i0 hi0).2;cases op<;>simp only[siteOK] at hs0<;>first | (cases hs0;done) | skip
 · exact det (by simp) (by simp) h
 · exact det (by simp) (by simp) h
 · exact det (by simp) (by simp) h
 · exact det (by simp) (by simp) h
 · rename_i f args;have h':argW (evO e args) (fun l=>ACall P f l σ d A):=h;show argW (evO e args) (fun l=>ACall P f l σ d _)
   cases hl:evO e args with
   | none=>rw[hl] at h';exact h'
   | some l=>rw[hl] at h';exact ACall.dead (fun i hi=>⟨(hS i hi).1,(siteC (hS i hi).2).1,(siteC (hS i hi).2).2⟩) h'
 · rename_i x args;have h':argW (evO e args) (fun l=>callVW P (x.ev e) l σ d A):=h;show argW (evO e args) (fun l=>callVW P (x.ev e) l σ d _)
   cases hl:evO e args with
   | none=>rw[hl] at h';exact h'
   | some l=>
     rw[hl] at h';have h2:callVW P (x.ev e) l σ d A:=h';show callVW P (x.ev e) l σ d _
     generalize x.ev e=y at h2 ⊢;cases y<;>try (exact h2)
     rename_i fn a b;cases fn<;>try (exact h2)
     · exact ACall.dead (fun i hi=>⟨(hS i hi).1,(siteC (hS i hi).2).1,(siteC (hS i hi).2).2⟩) h2
     · rename_i yl;cases a<;>cases b<;>try (exact h2)
       unfold callVW at h2 ⊢;simp only at h2 ⊢;split at h2
       · refine⟨h2.1,h2.2.1,fun b=>⟨h2.2.2 b,fun i hi=>?_⟩⟩;rw[upd_eq,if_neg (Nat.ne_of_lt (siteC (hS i hi).2).2)];exact (hS i hi).1
       · exact h2
theorem E_frame{op:IOp}{d i g:Nat}{z:List AV}{e:Nat→AV}{σ:Sig}{A:AV→Sig→Prop}(h0:σ i=(0,.dead))(hs:siteOK d i op=true)(hz:z≠[])(h:stepW P d op e σ A):
  stepW P d op e (newS σ i g z) (fun v σ'=>∃σ'',σ'=newS σ'' i g z∧σ'' i=(0,.dead)∧A v σ''):=by
 have det:(∀f a,op≠ .callF f a)→(∀f a,op≠ .callV f a)→detW (effO d op e σ) A→detW (effO d op e (newS σ i g z)) (fun v σ'=>∃σ'',σ'=newS σ'' i g z∧σ'' i=(0,.dead)∧A v σ''):=by
  intro hf hv h1 γ;have h1:=h1 γ
  revert h1
  split
  · rename_i p v σ' he;intro h;obtain⟨k1,k2⟩:=eff_dead hs h0 he hf hv;rw[k2];exact⟨h.1,σ',rfl,k1,h.2⟩
  · exact False.elim
 have hs0:=hs;cases op<;>simp only[siteOK] at hs0<;>first | (cases hs0;done) | skip
 · exact det (by simp) (by simp) h
 · exact det (by simp) (by simp) h
 · exact det (by simp) (by simp) h
 · exact det (by simp) (by simp) h
 · rename_i f args;have h':argW (evO e args) (fun l=>ACall P f l σ d A):=h;show argW (evO e args) (fun l=>ACall P f l (newS σ i g z) d _)
   cases hl:evO e args with
   | none=>rw[hl] at h';exact h'
   | some l=>rw[hl] at h';exact ACall.frame h0 (siteC hs0).1 (siteC hs0).2 hz h'
 · rename_i x args;have h':argW (evO e args) (fun l=>callVW P (x.ev e) l σ d A):=h;show argW (evO e args) (fun l=>callVW P (x.ev e) l (newS σ i g z) d _)
   cases hl:evO e args with
   | none=>rw[hl] at h';exact h'
   | some l=>
     rw[hl] at h';have h2:callVW P (x.ev e) l σ d A:=h';show callVW P (x.ev e) l (newS σ i g z) d _
     generalize x.ev e=y at h2 ⊢;cases y<;>try (exact h2)
     rename_i fn a b;cases fn<;>try (exact h2)
     · exact ACall.frame h0 (siteC hs0).1 (siteC hs0).2 hz h2
     · rename_i yl;cases a<;>cases b<;>try (exact h2)
       have hiy:=Nat.ne_of_lt (siteC hs0).2;have hny:newS σ i g z YS=σ YS:=by rw[newS,upd_eq,if_neg (Ne.symm hiy)]
       unfold callVW at h2 ⊢;simp only[hny] at h2 ⊢;split at h2
       · refine⟨h2.1,h2.2.1,fun b=>⟨_,newS_upd hiy,?_,h2.2.2 b⟩⟩;rw[upd_eq,if_neg hiy];exact h0
       · exact h2
theorem wp_dead{s:IStep}{e:Nat→AV}{σ:Sig}{K:(Nat→AV)→Sig→Prop}{S:Nat→Prop}(hS:∀i,S i→σ i=(0,.dead)∧keeps s i=true)(h:s.wp P K e σ):
  s.wp P (fun e' σ'=>K e' σ'∧ ∀i,S i→σ' i=(0,.dead)) e σ:=by
 by_cases hex:∃i,S i
 case neg=>exact s.mono h fun e' σ' hk=>⟨hk,fun i hi=>absurd ⟨i,hi⟩ hex⟩
 cases hc:s.op.cls with
 | v=> obtain⟨p,v,hnf⟩:=NFl (P:=P) (s:=s) (.inl hc) e σ;rw[hnf e Agree.refl] at h ⊢;exact⟨h.1,h.2,fun i hi=>(hS i hi).1⟩
 | l=> obtain⟨p,v,hnf⟩:=NFl (P:=P) (s:=s) (.inr hc) e σ;rw[hnf e Agree.refl] at h ⊢;exact⟨h.1,h.2,fun i hi=>(hS i hi).1⟩
 | n=>
   rcases NFn (P:=P) hc e with⟨p,hnf⟩ | ⟨p,val,z,hnf⟩
   · rw[hnf e Agree.refl] at h ⊢;exact⟨h.1,h.2,fun i hi=>(hS i hi).1⟩
   · rw[hnf e Agree.refl] at h ⊢;refine fun g=>⟨(h g).1,(h g).2,fun i hi=>?_⟩;obtain⟨h1,h2⟩:=hS i hi;simp only[keeps,hc] at h2;rw[newS,upd_eq,if_neg (Ne.symm (beq_ne h2))];exact h1
 | e=>
   have hS':∀i,S i→σ i=(0,.dead)∧siteOK (s.dst.getD 0) i s.op=true:=fun i hi=>by obtain⟨h1,h2⟩:=hS i hi;simp only[keeps,hc] at h2;exact⟨h1,h2⟩
   obtain⟨d,g,op⟩:=s;cases g with
   | none=>exact step_xfer Agree.refl (fun v σ' hk=>hk) (E_dead hS' hc h hex)
   | some gb=>
     obtain⟨g,b⟩:=gb;have h':guardW (e g) b (stepW P (d.getD 0) op e σ (contS e d K)) (K (putE e d (.tup [])) σ):=h;show guardW (e g) b (stepW P (d.getD 0) op e σ _) (_∧_)
     unfold guardW at*;split
     · rename_i cv hcv;rw[hcv] at h';simp only at h';split
       · rw[if_pos (by assumption)] at h';exact step_xfer Agree.refl (fun v σ' hk=>hk) (E_dead hS' hc h' hex)
       · rw[if_neg (by assumption)] at h';exact⟨h',fun i hi=>(hS i hi).1⟩
     · rename_i hcv;rw[hcv] at h';exact⟨h',fun i hi=>(hS i hi).1⟩
     · rename_i hn hn2
       revert h';split
       · rename_i cv hcv;exact absurd hcv (hn _)
       · rename_i hcv;exact absurd hcv hn2
       · exact False.elim
def CHs(T:List Nat)(seen:List DS)(x:DS)(e:Nat→AV)(σ:Sig):Prop:=x.st.op.cls= .e→ ∀l∈seen,anc T l.i x.i=false→CH l.st e σ
def DW(P:Program)(T:List Nat)(K:(Nat→AV)→Sig→Prop)(seen:List DS):List DS→(Nat→AV)→Sig→Prop
 | [],e,σ=>K e σ
 | x::r,e,σ=>x.st.wp P (fun e σ=>CHs T seen x e σ∧DW P T K (seen++[x]) r e σ) e σ
theorem chks_ok{T:List Nat}{x:DS}{K:(Nat→AV)→Sig→Prop}{e:Nat→AV}{σ:Sig}:∀{seen:List DS} {r:List IStep},stepsW P (chks T x seen++r) K e σ→(∀l∈seen,anc T l.i x.i=false→CH l.st e σ)∧stepsW P r K e σ
 | [],r,h=>⟨fun l hl=>(by cases hl),h⟩
 | l::seen,r,h=>by
   simp only[chks] at h;split at h
   · rename_i ha;obtain⟨h1,h2⟩:=chks_ok h;refine⟨fun m hm hn=>?_,h2⟩;rcases List.mem_cons.1 hm with rfl | hm
     · rw[ha] at hn;cases hn
     · exact h1 m hm hn
   · split at h
     · rename_i s hs;obtain⟨h0,h⟩:=chk_steps hs h;obtain⟨h1,h2⟩:=chks_ok h;refine⟨fun m hm hn=>?_,h2⟩;rcases List.mem_cons.1 hm with rfl | hm
       · exact h0
       · exact h1 m hm hn
     · rename_i hs;obtain⟨h1,h2⟩:=chks_ok h;refine⟨fun m hm hn=>?_,h2⟩;rcases List.mem_cons.1 hm with rfl | hm
       · exact CH_none hs _ _
       · exact h1 m hm hn
theorem emit_DW{T:List Nat}{K:(Nat→AV)→Sig→Prop}:∀{τ seen:List DS} {e:Nat→AV} {σ:Sig},stepsW P (emit T seen τ) K e σ→DW P T K seen τ e σ
 | [],_,_,_,h=>h
 | x::r,seen,e,σ,h=>by
   simp only[emit] at h;refine IStep.mono (s:=x.st) h fun e' σ' hk=>?_;by_cases hE:x.st.op.cls= .e
   · have:isE x.st=true:=by unfold isE;rw[hE]
     rw[this,if_pos rfl] at hk;obtain⟨h1,h2⟩:=chks_ok hk;exact⟨fun _=>h1,emit_DW h2⟩
   · have:isE x.st=false:=by unfold isE;split<;>first | (rename_i h;exact absurd h hE) | rfl
     rw[this,if_neg (by simp)] at hk;exact⟨fun h=>absurd h hE,emit_DW hk⟩
theorem CHs_mono{T:List Nat}{seen seen':List DS}{x:DS}{e:Nat→AV}{σ:Sig}(hs:∀l∈seen',l∈seen)(h:CHs T seen x e σ):CHs T seen' x e σ:=fun hE l hl hn=>h hE l (hs l hl) hn
theorem DW_mono{T:List Nat}{K:(Nat→AV)→Sig→Prop}:∀{τ seen seen':List DS} {e:Nat→AV} {σ:Sig},(∀l∈seen',l∈seen)→DW P T K seen τ e σ→DW P T K seen' τ e σ
 | [],_,_,_,_,_,h=>h
 | x::r,seen,seen',e,σ,hs,h=>x.st.mono h fun e' σ' hk=>⟨CHs_mono hs hk.1,DW_mono (fun l hl=>by
    rcases List.mem_append.1 hl with h | h
    · exact List.mem_append_left _ (hs l h)
    · exact List.mem_append_right _ h) hk.2⟩
def noW(l t:IStep):Prop:=(chkOf l).isSome=true→noClash l t=true
theorem noClash_iff{s t:IStep}(h:noClash s t=true):dstIn t s.reads=false∧sameDst s t=false:=by unfold noClash at h;simpa[Bool.and_eq_true] using h
theorem sameDst_comm{s t:IStep}(h:sameDst s t=false):sameDst t s=false:=by unfold sameDst at*;cases hs:s.dst<;>cases ht:t.dst<;>rw[hs,ht] at h<;>simp only at h ⊢;exact ne_beq fun h'=>beqf_ne h h'.symm
theorem CH_put{l t:IStep}{e:Nat→AV}{σ:Sig}{v:AV}(h:noW l t):CH l (putE e t.dst v) σ↔CH l e σ:=by
 have key:(chkOf l).isSome=true→Agree l.reads (putE e t.dst v) e∧ ∀x,l.dst=some x→putE e t.dst v x=e x:=by
  intro hl;obtain⟨h1,h2⟩:=noClash_iff (h hl);refine⟨putE_agree h1,fun x hx=>?_⟩;unfold putE;cases ht:t.dst with
  | none=>rfl
  | some y=>
    unfold sameDst at h2;rw[hx,ht] at h2;have:x≠y:=by rintro rfl;simp at h2
    simp only[upd_eq,if_neg this]
 exact⟨CH_agree fun hl=>⟨(key hl).1,(key hl).2⟩,CH_agree fun hl=>⟨(key hl).1.symm,fun t ht=>((key hl).2 t ht).symm⟩⟩
theorem wp_ex{s:IStep}(hc:noCall s=true){K:(Nat→AV)→Sig→Prop}{e:Nat→AV}{σ:Sig}(h:s.wp P K e σ):∃v σ',K (putE e s.dst v) σ':=by
 obtain⟨d,g,op⟩:=s;have base:∀{K:AV→Sig→Prop} {d':Nat},stepW P d' op e σ K→ ∃v σ',K v σ':=by
  intro K d' h;have key:∀{o:Nat→Option (Prop×AV×Sig)},detW o K→ ∃v σ',K v σ':=by
   intro o h;have h:=h 0;split at h
   · exact⟨_,_,h.2⟩
   · exact h.elim
  cases op
  case new=>exact key (o:=effO d' (.new _) e σ) h
  case nil=>exact key (o:=effO d' (.nil _ _) e σ) h
  case kil=>exact key (o:=effO d' (.kil _) e σ) h
  case mkm=>exact key (o:=effO d' .mkm e σ) h
  case bad=>exact key (o:=effO d' .bad e σ) h
  all_goals first | (cases hc;done) | exact key (o:=effO d' _ e σ) h
 cases g with
 | none=>exact base h
 | some gb=>
   obtain⟨g,b⟩:=gb;have h':guardW (e g) b (stepW P (d.getD 0) op e σ (contS e d K)) (K (putE e d (.tup [])) σ):=h;unfold guardW at h';split at h'
   · split at h'
     · exact base h'
     · exact⟨_,_,h'⟩
   · exact⟨_,_,h'⟩
   · exact h'.elim
theorem CH_unnew{s:IStep}{e:Nat→AV}{σ:Sig}{i:Nat}{z:List AV}(h:∀g,CH s e (newS σ i g z)):CH s e σ:=by
 have base:∀{sz agg y t},(∀g,chkP sz agg y t e (newS σ i g z))→chkP sz agg y t e σ:=by
  intro sz agg y t h1;have hall:∀g,∃p v,ldO sz agg (newS σ i g z) (y.ev e)=some (p,v)∧p:=fun g=>by
   have h2:=h1 g;unfold chkP at h2;cases hl:ldO sz agg (newS σ i g z) (y.ev e) with
   | none=>rw[hl] at h2;exact h2.elim
   | some pv=>rw[hl] at h2;exact⟨pv.1,pv.2,rfl,h2.1⟩
  have heq:=newS_all hall;have h2:=h1 0;unfold chkP at h2 ⊢;rw[heq] at h2;exact h2
 unfold CH at*;split
 · simp only at h;exact base h
 · simp only at h;unfold guardW at*;split
   · rename_i cv hcv;simp only[hcv] at h;split
     · rename_i hb;simp only[if_pos hb] at h;exact base h
     · trivial
   · trivial
   · rename_i hn hn2;have h0:=h 0
     revert h0;split
     · rename_i cv hcv;exact absurd hcv (hn _)
     · rename_i hcv;exact absurd hcv hn2
     · exact False.elim
 · trivial
theorem mup_frame{kk:KK}{σ:Sig}{i:Nat}{z:List AV}{k v m:AV}(h:∀g,∃p w σ',mupO kk (newS σ i g z) k v m=some (p,w,σ')∧p):
  ∃p w σ'',p∧mupO kk σ k v m=some (p,w,σ'')∧ ∀g,mupO kk (newS σ i g z) k v m=some (p,w,newS σ'' i g z):=by
 cases m
 case map j g0=>
  have hji:i≠j:=by
   rintro rfl;obtain⟨p,w,σ',h1,hp⟩:=h (g0+1);have hz:newS σ i (g0+1) z i=(g0+1,.row z):=by simp[newS,upd_eq]
   unfold mupO mapW at h1;simp only[hz] at h1;split at h1
   · rename_i a b hw hv;split at hw
     · rename_i c ks vs hc;cases hc;cases hw;split at h1
       · cases h1;omega
       · cases h1;omega
       · cases h1
     · cases hw
   · cases h1
  have hs:∀g,mapW (newS σ i g z) (.map j g0)=mapW σ (.map j g0):=fun g=>by
   have:newS σ i g z j=σ j:=by simp[newS,upd_eq,Ne.symm hji]
   simp only[mapW,this]
  have hj:∀i' hh p ks vs,mapW σ (.map j g0)=some (i',hh,p,ks,vs)→i'=j:=fun i' hh p ks vs hw=>by
   unfold mapW at hw;simp only at hw;split at hw
   · cases hw;rfl
   · cases hw
  have key:∀g,mupO kk (newS σ i g z) k v (.map j g0)=(mupO kk σ k v (.map j g0)).map fun x=>(x.1,x.2.1,newS x.2.2 i g z):=fun g=>by
   unfold mupO;rw[hs];cases hw:mapW σ (.map j g0) with
   | none=>rfl
   | some x=>
     obtain⟨i',hh,p,ks,vs⟩:=x;have hij:=hj _ _ _ _ _ hw;subst hij;cases hv:forceA v with
     | none=>rfl
     | some v'=>
       dsimp only;cases hf:findA kk k ks 0 with
       | none=>rfl
       | some o=>
         cases o with
         | none=>dsimp only;rw[newS_upd hji];rfl
         | some q=>dsimp only;rw[newS_upd hji];rfl
  obtain⟨p,w,σ',h1,hp⟩:=h 0;rw[key] at h1;obtain⟨x,hx,hx2⟩:=Option.map_eq_some_iff.1 h1;obtain⟨p',w',σ''⟩:=x;cases hx2;exact⟨p',w',σ'',hp,hx,fun g=>by rw[key,hx];rfl⟩
 all_goals
  obtain⟨p,w,σ',h1,_⟩:=h 0;simp[mupO,mapW] at h1
theorem swap{T D:List Nat}{a x:DS}{seen:List DS}{M:(Nat→AV)→Sig→Prop}{e:Nat→AV}{σ:Sig}(hax:dstIn a.st x.st.reads=false)(hnc:noClash a.st x.st=true)(hgood:goodC D a.st x.st=true)(hun:anc T a.i x.i=false)(hwa:∀l∈seen,noW l.st a.st)(hwx:∀l∈seen,noW l.st x.st)(hla:a.st.op.cls= .l→a.st.dst.isSome=true∧dstIn a.st a.st.reads=false)(hlx:x.st.op.cls= .l→x.st.dst.isSome=true∧dstIn x.st x.st.reads=false)(hnx:x.st.op.cls= .n→x.st.dst.isSome=true)(hna:a.st.op.cls= .n→a.st.dst.isSome=true)(hdead:x.st.op.cls= .n→mem (x.st.dst.getD 0) D=true→σ (x.st.dst.getD 0)=(0,.dead)∧keeps a.st (x.st.dst.getD 0)=true)(h:a.st.wp P (fun e σ=>CHs T seen a e σ∧x.st.wp P (fun e σ=>CHs T (seen++[a]) x e σ∧M e σ) e σ) e σ):
  x.st.wp P (fun e σ=>CHs T seen x e σ∧a.st.wp P (fun e σ=>CHs T seen a e σ∧M e σ) e σ) e σ:=by
 obtain⟨hxa,hsd⟩:=noClash_iff hnc;have triv:∀{y:DS} {seen:List DS} {e:Nat→AV} {σ:Sig},y.st.op.cls≠ .e→CHs T seen y e σ:=fun hy hE=>absurd hE hy;have agx:∀v,Agree x.st.reads (putE e a.st.dst v) e:=fun v=>putE_agree hax;have aga:∀(e:Nat→AV) v,Agree a.st.reads e (putE e x.st.dst v):=fun e v=>(putE_agree hxa).symm;cases ha:a.st.op.cls with
 | v=>
   obtain⟨p,v,hnf⟩:=NFv (P:=P) ha e;rw[hnf e Agree.refl] at h;obtain⟨hp,_,h⟩:=h;refine x.st.xfer (agx v) (fun u σ' hk=>?_) h;refine⟨fun hE l hl hn=>?_,?_⟩
   · have:=hk.1 hE l (List.mem_append_left _ hl) hn;rw[putE_comm hsd] at this
     rwa [CH_put (hwa l hl)] at this
   · rw[hnf _ (aga e u)];refine⟨hp,triv (by rw[ha];simp),?_⟩;rw[←putE_comm hsd];exact hk.2
 | l=>
   obtain⟨hd1,hd2⟩:=hla ha;obtain⟨t,g,sz,agg,y,hs⟩:=isL_inv ha hd1;have hdst:a.st.dst=some t:=by rw[hs]
   obtain⟨v,h,hch,hback⟩:=NFL hs hd2 h;have hput:∀e,upd e t v=putE e a.st.dst v:=fun e=>by rw[hdst];rfl
   rw[hput] at h hch;simp only[hput] at hback;have h2:=h.2;have finv:x.st.op.cls= .v∨x.st.op.cls= .l→x.st.wp P (fun e σ=>CHs T seen x e σ∧a.st.wp P (fun e σ=>CHs T seen a e σ∧M e σ) e σ) e σ:=by
    intro hx;obtain⟨p,u,hnf⟩:=NFl (P:=P) hx (putE e a.st.dst v) σ;rw[hnf _ Agree.refl] at h2;rw[hnf e (agx v)];obtain⟨hp,_,h2⟩:=h2;refine⟨hp,triv (by rcases hx with h | h<;>rw[h]<;>simp),hback _ _ _ (aga e u) ?_ ⟨triv (by rw[ha];simp),?_⟩⟩
    · rw[←putE_comm hsd];exact (CH_put (fun _=>hnc)).2 hch
    · rw[←putE_comm hsd];exact h2
   cases hx:x.st.op.cls with
   | v=>exact finv (.inl hx)
   | l=>exact finv (.inr hx)
   | n=>
     have hD:mem (x.st.dst.getD 0) D=true:=by unfold goodC at hgood;rw[ha,hx] at hgood;exact hgood
     obtain⟨hd0,_⟩:=hdead hx hD;rcases NFn (P:=P) hx (putE e a.st.dst v) with⟨p,hnf⟩ | ⟨p,val,z,hnf⟩
     · rw[hnf _ Agree.refl] at h2;rw[hnf e (agx v)];obtain⟨hp,_,h2⟩:=h2;refine⟨hp,triv (by rw[hx];simp),hback _ _ _ (aga e _) ?_ ⟨triv (by rw[ha];simp),?_⟩⟩
       · rw[←putE_comm hsd];exact (CH_put (fun _=>hnc)).2 hch
       · rw[←putE_comm hsd];exact h2
     · rw[hnf _ Agree.refl] at h2;rw[hnf e (agx v)];intro g;obtain⟨hp,_,h2⟩:=h2 g;refine⟨hp,triv (by rw[hx];simp),hback _ _ _ (aga e _) ?_ ⟨triv (by rw[ha];simp),?_⟩⟩
       · rw[←putE_comm hsd];exact CH_new hd0 ((CH_put (fun _=>hnc)).2 hch)
       · rw[←putE_comm hsd];exact h2
   | e=>
     refine x.st.xfer (agx v) (fun u σ' hk=>?_) h2;have hCa:CH a.st (putE (putE e x.st.dst u) a.st.dst v) σ':=by rw[←putE_comm hsd];exact hk.1 hx a (by simp) hun
     refine⟨fun hE l hl hn=>?_,hback _ _ _ (aga e u) hCa ⟨triv (by rw[ha];simp),?_⟩⟩
     · have:=hk.1 hE l (List.mem_append_left _ hl) hn;rw[putE_comm hsd] at this
       rwa [CH_put (hwa l hl)] at this
     · rw[←putE_comm hsd];exact hk.2
 | n=>
   rcases NFn (P:=P) ha e with⟨p,hnf⟩ | ⟨p,val,z,hnf⟩
   ·
    rw[hnf e Agree.refl] at h;obtain⟨hp,_,h⟩:=h;refine x.st.xfer (agx (.tup [])) (fun u σ' hk=>?_) h;refine⟨fun hE l hl hn=>?_,?_⟩
    · have:=hk.1 hE l (List.mem_append_left _ hl) hn;rw[putE_comm hsd] at this
      rwa [CH_put (hwa l hl)] at this
    · rw[hnf _ (aga e u)];refine⟨hp,triv (by rw[ha];simp),?_⟩;rw[←putE_comm hsd];exact hk.2
   · rw[hnf e Agree.refl] at h;cases hx:x.st.op.cls with
     | v=>
       obtain⟨q,u,hnx⟩:=NFv (P:=P) hx e;have h':∀g,p∧q∧M (putE (putE e a.st.dst (val g)) x.st.dst u) (newS σ (a.st.dst.getD 0) g z):=fun g=>by obtain⟨hp,_,h⟩:=h g;rw[hnx _ (agx _).symm] at h;exact⟨hp,h.1,h.2.2⟩
       rw[hnx e Agree.refl];refine⟨(h' 0).2.1,triv (by rw[hx];simp),?_⟩;rw[hnf _ (aga e u)];refine fun g=>⟨(h' g).1,triv (by rw[ha];simp),?_⟩;rw[←putE_comm hsd];exact (h' g).2.2
     | l=>
       obtain⟨hd1,hd2⟩:=hlx hx;obtain⟨t,g0,sz,agg,y,hs⟩:=isL_inv hx hd1;have hdst:x.st.dst=some t:=by rw[hs]
       have hput:∀e v,upd e t v=putE e x.st.dst v:=fun e v=>by rw[hdst];rfl
       have same:∃q u,(∀K,x.st.wp P K e σ↔(q∧K (putE e x.st.dst u) σ))∧ ∀g K,x.st.wp P K (putE e a.st.dst (val g)) (newS σ (a.st.dst.getD 0) g z)↔(q∧K (putE (putE e a.st.dst (val g)) x.st.dst u) (newS σ (a.st.dst.getD 0) g z)):=by
        have hv:∀g,valO (.ld sz agg y) (putE e a.st.dst (val g)) (newS σ (a.st.dst.getD 0) g z)=ldO sz agg (newS σ (a.st.dst.getD 0) g z) (y.ev e):=by intro g;simp only[valO];rw[ev_agree (x:=y) (e:=putE e a.st.dst (val g)) (e':=e) fun k hk=>agx _ k (by rw[hs];cases g0<;>simp[IStep.reads,IOp.reads,hk])]
        have exec:(∀g,∃p v,ldO sz agg (newS σ (a.st.dst.getD 0) g z) (y.ev e)=some (p,v)∧p)→ ∃q u,(∀d K,stepW P d (.ld sz agg y) e σ K↔(q∧K u σ))∧ ∀g d K,stepW P d (.ld sz agg y) (putE e a.st.dst (val g)) (newS σ (a.st.dst.getD 0) g z) K↔(q∧K u (newS σ (a.st.dst.getD 0) g z)):=by
         intro hall;have heq:=newS_all hall;obtain⟨q,u,h1,_⟩:=hall 0;rw[heq] at h1;refine⟨q,u,fun d K=>?_,fun g d K=>?_⟩
         · rw[isV_det (.inr rfl)];simp only[valO];rw[h1]
         · rw[isV_det (.inr rfl),hv,heq,h1]
        cases g0 with
        | none=>
          have hall:∀g,∃p v,ldO sz agg (newS σ (a.st.dst.getD 0) g z) (y.ev e)=some (p,v)∧p:=by
           intro g;have h1:=(h g).2.2;rw[hs] at h1;have h1:stepW P t (.ld sz agg y) (putE e a.st.dst (val g)) (newS σ (a.st.dst.getD 0) g z) (contS _ (some t) _):=h1;rw[isV_det (.inr rfl),hv] at h1;cases hl:ldO sz agg (newS σ (a.st.dst.getD 0) g z) (y.ev e) with
           | none=>rw[hl] at h1;exact h1.elim
           | some pv=>rw[hl] at h1;exact⟨pv.1,pv.2,rfl,h1.1⟩
          obtain⟨q,u,k1,k2⟩:=exec hall;rw[hs];exact⟨q,u,fun K=>k1 t _,fun g K=>k2 g t _⟩
        | some gb=>
          obtain⟨g1,b⟩:=gb;have hg1:∀g,putE e a.st.dst (val g) g1=e g1:=fun g=>agx _ g1 (by rw[hs];simp[IStep.reads]);have red:∀e' σ' K',IStep.wp P ⟨some t,some (g1,b),.ld sz agg y⟩ K' e' σ'=guardW (e' g1) b (stepW P t (.ld sz agg y) e' σ' (contS e' (some t) K')) (K' (upd e' t (.tup [])) σ'):=fun _ _ _=>rfl;cases hc:e g1 with
          | bool cv=>
            by_cases hb:cv=b
            · have hall:∀g,∃p v,ldO sz agg (newS σ (a.st.dst.getD 0) g z) (y.ev e)=some (p,v)∧p:=by
               intro g;have h1:=(h g).2.2;rw[hs,red,hg1,hc] at h1;simp only[guardW,if_pos hb] at h1;rw[isV_det (.inr rfl),hv] at h1;cases hl:ldO sz agg (newS σ (a.st.dst.getD 0) g z) (y.ev e) with
               | none=>rw[hl] at h1;exact h1.elim
               | some pv=>rw[hl] at h1;exact⟨pv.1,pv.2,rfl,h1.1⟩
              obtain⟨q,u,k1,k2⟩:=exec hall;rw[hs];refine⟨q,u,fun K=>?_,fun g K=>?_⟩
              · rw[red,hc];simp only[guardW,if_pos hb];exact k1 t _
              · rw[red,hg1,hc];simp only[guardW,if_pos hb];exact k2 g t _
            · rw[hs];refine⟨True,.tup [],fun K=>?_,fun g K=>?_⟩
              · rw[red,hc];simp only[guardW,if_neg hb,true_and];rfl
              · rw[red,hg1,hc];simp only[guardW,if_neg hb,true_and];rfl
          | tup l=>
            cases l with
            | nil=>
              rw[hs];refine⟨True,.tup [],fun K=>?_,fun g K=>?_⟩
              · rw[red,hc];simp only[guardW,true_and];rfl
              · rw[red,hg1,hc];simp only[guardW,true_and];rfl
            | cons _ _=> have h1:=(h 0).2.2;rw[hs,red,hg1,hc] at h1;exact h1.elim
          | _=> have h1:=(h 0).2.2;rw[hs,red,hg1,hc] at h1;exact h1.elim
       obtain⟨q,u,k1,k2⟩:=same;rw[k1];have h':∀g,p∧q∧M (putE (putE e a.st.dst (val g)) x.st.dst u) (newS σ (a.st.dst.getD 0) g z):=fun g=>by obtain⟨hp,_,h⟩:=h g;rw[k2] at h;exact⟨hp,h.1,h.2.2⟩
       refine⟨(h' 0).2.1,triv (by rw[hx];simp),?_⟩;rw[hnf _ (aga e u)];refine fun g=>⟨(h' g).1,triv (by rw[ha];simp),?_⟩;rw[←putE_comm hsd];exact (h' g).2.2
     | n=>
       rcases NFn (P:=P) hx e with⟨q,hnfx⟩ | ⟨q,val',z',hnfx⟩
       · have h':∀g,p∧q∧M (putE (putE e a.st.dst (val g)) x.st.dst (.tup [])) (newS σ (a.st.dst.getD 0) g z):=fun g=>by obtain⟨hp,_,h⟩:=h g;rw[hnfx _ (agx _).symm] at h;exact⟨hp,h.1,h.2.2⟩
         rw[hnfx e Agree.refl];refine⟨(h' 0).2.1,triv (by rw[hx];simp),?_⟩;rw[hnf _ (aga e _)];refine fun g=>⟨(h' g).1,triv (by rw[ha];simp),?_⟩;rw[←putE_comm hsd];exact (h' g).2.2
       · have hdd:x.st.dst.getD 0≠a.st.dst.getD 0:=by
          have h1:=hnx hx;have h2:=hna ha;unfold sameDst at hsd;cases hxd:x.st.dst with
          | none=>rw[hxd] at h1;cases h1
          | some xd=>
            cases had:a.st.dst with
            | none=>rw[had] at h2;cases h2
            | some ad=> rw[hxd,had] at hsd;rintro hh;simp only[Option.getD_some] at hh hsd;exact beqf_ne hsd hh.symm
         have h':∀g g',p∧q∧M (putE (putE e a.st.dst (val g)) x.st.dst (val' g')) (newS (newS σ (a.st.dst.getD 0) g z) (x.st.dst.getD 0) g' z'):=fun g g'=>by obtain⟨hp,_,h⟩:=h g;rw[hnfx _ (agx _).symm] at h;exact⟨hp,(h g').1,(h g').2.2⟩
         rw[hnfx e Agree.refl];refine fun g'=>⟨(h' 0 0).2.1,triv (by rw[hx];simp),?_⟩;rw[hnf _ (aga e _)];refine fun g=>⟨(h' g g').1,triv (by rw[ha];simp),?_⟩;rw[←putE_comm hsd,newS_comm hdd];exact (h' g g').2.2
     | e=>
       obtain⟨kk,m,k,v,hop,hxg⟩:∃kk m k v,x.st.op= .mup kk m k v∧x.st.g=none:=by
        unfold goodC at hgood;rw[ha,hx] at hgood;simp only at hgood;split at hgood
        · rename_i kk m k v hh;refine⟨kk,m,k,v,hh,?_⟩;cases hg:x.st.g with
          | none=>rfl
          | some _=>rw[hg] at hgood;cases hgood
        · cases hgood
       have hxs:x.st=⟨x.st.dst,none,.mup kk m k v⟩:=by rw[←hop,←hxg]
       have rd:∀(y:IOpd) (w:AV),(∀t∈y.rd,t∈x.st.reads)→y.ev (putE e a.st.dst w)=y.ev e:=fun y w hy=>ev_agree (x:=y) (e:=putE e a.st.dst w) (e':=e) fun t ht=>agx w t (hy t ht);have rm:∀w,m.ev (putE e a.st.dst w)=m.ev e:=fun w=>rd m w fun t ht=>by rw[hxs];simp[IStep.reads,IOp.reads,ht]
       have rk:∀w,k.ev (putE e a.st.dst w)=k.ev e:=fun w=>rd k w fun t ht=>by rw[hxs];simp[IStep.reads,IOp.reads,ht]
       have rv:∀w,v.ev (putE e a.st.dst w)=v.ev e:=fun w=>rd v w fun t ht=>by rw[hxs];simp[IStep.reads,IOp.reads,ht]
       have xwp:∀(e:Nat→AV) σ K,x.st.wp P K e σ↔detW (effO (x.st.dst.getD 0) (.mup kk m k v) e σ) (contS e x.st.dst K):=by intro e σ K;rw[hxs];exact Iff.rfl
       have hall:∀g,∃q w σ',mupO kk (newS σ (a.st.dst.getD 0) g z) (k.ev e) (v.ev e) (m.ev e)=some (q,w,σ')∧q∧CHs T (seen++[a]) x (putE (putE e a.st.dst (val g)) x.st.dst w) σ'∧M (putE (putE e a.st.dst (val g)) x.st.dst w) σ':=fun g=>by
        have h1:=(h g).2.2;rw[xwp] at h1;have h2:=h1 0;have e1:effO (x.st.dst.getD 0) (.mup kk m k v) (putE e a.st.dst (val g)) (newS σ (a.st.dst.getD 0) g z) 0=mupO kk (newS σ (a.st.dst.getD 0) g z) (k.ev e) (v.ev e) (m.ev e):=by
         show mupO kk _ (k.ev _) (v.ev _) (m.ev _)=_
         rw[rm,rk,rv]
        rw[e1] at h2;cases hm:mupO kk (newS σ (a.st.dst.getD 0) g z) (k.ev e) (v.ev e) (m.ev e) with
        | none=>rw[hm] at h2;exact h2.elim
        | some y=>rw[hm] at h2;exact⟨y.1,y.2.1,y.2.2,rfl,h2.1,h2.2.1,h2.2.2⟩
       obtain⟨q,w,σ'',hq,hm,hm2⟩:=mup_frame fun g=>by obtain⟨q,w,σ',h1,h2,_⟩:=hall g;exact⟨q,w,σ',h1,h2⟩
       have hk:∀g,CHs T (seen++[a]) x (putE (putE e a.st.dst (val g)) x.st.dst w) (newS σ'' (a.st.dst.getD 0) g z)∧M (putE (putE e a.st.dst (val g)) x.st.dst w) (newS σ'' (a.st.dst.getD 0) g z):=fun g=>by obtain⟨q',w',σ',h1,_,h3⟩:=hall g;rw[hm2 g] at h1;cases h1;exact h3
       rw[xwp];intro γ;have e2:effO (x.st.dst.getD 0) (.mup kk m k v) e σ γ=some (q,w,σ''):=hm;rw[e2];refine⟨hq,fun hE l hl hn=>?_,?_⟩
       · refine CH_unnew (i:=a.st.dst.getD 0) (z:=z) fun g=>?_;have h4:=(hk g).1 hE l (List.mem_append_left _ hl) hn;rw[putE_comm hsd] at h4;exact (CH_put (hwa l hl)).1 h4
       · show a.st.wp P _ (putE e x.st.dst w) σ''
         rw[hnf _ (aga e w)];refine fun g=>⟨(h g).1,triv (by rw[ha];simp),?_⟩;rw[←putE_comm hsd];exact (hk g).2
 | e=>
   by_cases hxv:x.st.op.cls= .v
   · have hnc':noCall a.st=true:=by unfold goodC at hgood;rw[ha,hxv] at hgood;exact hgood
     obtain⟨p,u,hnf⟩:=NFv (P:=P) hxv e;obtain⟨v0,σ0,_,h0⟩:=wp_ex hnc' h;rw[hnf _ (agx v0).symm] at h0;rw[hnf e Agree.refl];refine⟨h0.1,triv (by rw[hxv];simp),?_⟩;refine a.st.xfer (aga e u) (fun v σ' hk=>?_) h;obtain⟨k1,k2⟩:=hk;rw[hnf _ (agx v).symm] at k2;refine⟨fun hE l hl hn=>?_,?_⟩
     · rw[←putE_comm hsd];exact (CH_put (hwx l hl)).2 (k1 hE l hl hn)
     · rw[←putE_comm hsd];exact k2.2.2
   have hx:x.st.op.cls= .n:=by cases hx:x.st.op.cls<;>unfold goodC at hgood<;>rw[ha,hx] at hgood<;>first | rfl | exact absurd hx hxv | cases hgood
   have hg:=hgood;unfold goodC at hg;rw[ha,hx] at hg;simp only[Bool.and_eq_true] at hg;obtain⟨⟨hD,hgn⟩,hnew⟩:=hg;obtain⟨hd0,hkeep⟩:=hdead hx hD;obtain⟨zc,zr,hop⟩:∃zc zr,x.st.op= .new (zc::zr):=by
    split at hnew
    · rename_i a b hh;exact⟨a,b,hh⟩
    · cases hnew
   have hxg:x.st.g=none:=by cases hh:x.st.g with
    | none=>rfl
    | some _=>rw[hh] at hgn;cases hgn
   have hxs:x.st=⟨x.st.dst,none,.new (zc::zr)⟩:=by rw[←hop,←hxg]
   have hsite:siteOK (a.st.dst.getD 0) (x.st.dst.getD 0) a.st.op=true:=by simpa only[keeps,ha] using hkeep
   have xwp:∀(e:Nat→AV) σ K,x.st.wp P K e σ↔ ∀g,K (putE e x.st.dst (.ref (x.st.dst.getD 0) g 0)) (newS σ (x.st.dst.getD 0) g (zc::zr)):=by
    intro e σ K;have e1:x.st.wp P K e σ↔detW (effO (x.st.dst.getD 0) (.new (zc::zr)) e σ) (contS e x.st.dst K):=by rw[hxs];exact Iff.rfl
    rw[e1];exact⟨fun h g=>(h g).2,fun h g=>⟨trivial,h g⟩⟩
   rw[xwp];intro g;refine⟨triv (by rw[hx];simp),?_⟩;generalize hdx:x.st.dst.getD 0=dx at*
   have fin:∀v σ'',σ'' dx=(0,.dead)→(CHs T seen a (putE e a.st.dst v) σ''∧x.st.wp P (fun e σ=>CHs T (seen++[a]) x e σ∧M e σ) (putE e a.st.dst v) σ'')→
     CHs T seen a (putE (putE e x.st.dst (.ref dx g 0)) a.st.dst v) (newS σ'' dx g (zc::zr))∧M (putE (putE e x.st.dst (.ref dx g 0)) a.st.dst v) (newS σ'' dx g (zc::zr)):=by
    rintro v σ'' hd'' ⟨k1,k2⟩;rw[xwp] at k2;have k2:=(k2 g).2;rw[←putE_comm hsd];refine⟨fun hE l hl hn=>?_,k2⟩;exact CH_new hd'' ((CH_put (hwx l hl)).2 (k1 hE l hl hn))
   obtain⟨ai,ad,ag,aop⟩:=a;simp only at*;have agop:Agree aop.reads e (putE e x.st.dst (.ref dx g 0)):=fun t ht=>aga e _ t (by cases ag<;>simp[IStep.reads,ht]);cases ag with
   | none=> have h1:stepW P (ad.getD 0) aop e σ (contS e ad _):=h;refine step_xfer agop ?_ (E_frame (g:=g) (z:=zc::zr) hd0 hsite (by simp) h1);rintro v σ' ⟨σ'',rfl,k1,k2⟩;exact fin v σ'' k1 k2
   | some gb=>
     obtain⟨g1,b⟩:=gb;have hg1:putE e x.st.dst (.ref dx g 0) g1=e g1:=(aga e _ g1 (by simp[IStep.reads])).symm;have h1:guardW (e g1) b (stepW P (ad.getD 0) aop e σ (contS e ad _)) (_∧_):=h;show guardW (putE e x.st.dst (.ref dx g 0) g1) b (stepW P (ad.getD 0) aop _ _ (contS _ ad _)) (_∧_)
     rw[hg1];unfold guardW at*;split
     · rename_i cv hcv;rw[hcv] at h1;simp only at h1;split
       · rw[if_pos (by assumption)] at h1;refine step_xfer agop ?_ (E_frame (g:=g) (z:=zc::zr) hd0 hsite (by simp) h1);rintro v σ' ⟨σ'',rfl,k1,k2⟩;exact fin v σ'' k1 k2
       · rw[if_neg (by assumption)] at h1;exact fin (.tup []) σ hd0 h1
     · rename_i hcv;rw[hcv] at h1;exact fin (.tup []) σ hd0 h1
     · rename_i hn hn2
       revert h1;split
       · rename_i cv hcv;exact absurd hcv (hn _)
       · rename_i hcv;exact absurd hcv hn2
       · exact False.elim
end Go.Abs
namespace Go.Abs
variable {P:Program} {c:Ctx P}
theorem mask_bit{T:List Nat}{j:Nat}:∀{ps:List Nat},Nat.testBit (maskOf T ps) j=true→ ∃p∈ps,p=j∨Nat.testBit (T.getD p 0) j=true
 | [],h=>by simp[maskOf] at h
 | p::r,h=>by
   simp only[maskOf,Nat.testBit_or,Bool.or_eq_true] at h;rcases h with (h | h) | h
   · rw[Nat.testBit_two_pow] at h;exact⟨p,by simp,.inl (by simpa using h)⟩
   · exact⟨p,by simp,.inr h⟩
   · obtain⟨q,hq,hh⟩:=mask_bit h;exact⟨q,by simp[hq],hh⟩
def TOK(ops:Array Oper)(T:List Nat)(k:Nat):Prop:=T.length=k∧ ∀i,i<k→ ∀j,Nat.testBit (T.getD i 0) j=true→ ∃p∈predsOf ops i,p=j∨(p<i∧Nat.testBit (T.getD p 0) j=true)
theorem tblGo_ok{ops:Array Oper}:∀(m k:Nat) (T:List Nat),TOK ops T k→TOK ops (tblGo ops m k T) (k+m)
 | 0,k,T,h=>h
 | m+1,k,T,h=>by
   have:=tblGo_ok m (k+1) (T++[maskOf T (predsOf ops k)]) (by
    obtain⟨h1,h2⟩:=h;have old:∀i,i<k→(T++[maskOf T (predsOf ops k)]).getD i 0=T.getD i 0:=fun i hi=>by simp only[List.getD_eq_getElem?_getD];rw[List.getElem?_append_left (by omega)]
    refine⟨by simp[h1],fun i hi j hj=>?_⟩;by_cases hik:i<k
    · rw[old i hik] at hj;obtain⟨p,hp,hh⟩:=h2 i hik j hj;refine⟨p,hp,hh.imp id fun⟨k1,k2⟩=>⟨k1,by rw[old p (by omega)];exact k2⟩⟩
    · have:i=k:=by omega
      subst this;have e:(T++[maskOf T (predsOf ops i)]).getD i 0=maskOf T (predsOf ops i):=by simp only[List.getD_eq_getElem?_getD];rw[List.getElem?_append_right (by omega),h1];simp
      rw[e] at hj;obtain⟨p,hp,hh⟩:=mask_bit hj;refine⟨p,hp,hh.imp id fun k2=>?_⟩;have hpi:p<i:=Decidable.byContradiction fun hn=>by rw[List.getD_eq_getElem?_getD,List.getElem?_eq_none (by omega)] at k2;simp at k2
      exact⟨hpi,by rw[old p hpi];exact k2⟩)
   simp only[tblGo];rw[show k+(m+1)=k+1+m by omega];exact this
theorem anc_ok{ops:Array Oper}{L:Nat→Prop}(hL:∀i,L i→ ∀p∈predsOf ops i,L p){n:Nat}:∀i,(∀p∈predsOf ops i,L p)→ ∀j,anc (tblGo ops n 0 []) j i=true→L j:=by
 have hT:=tblGo_ok (ops:=ops) n 0 [] ⟨rfl,fun i hi=>by omega⟩;rw[Nat.zero_add] at hT;intro i;induction i using Nat.strongRecOn with
 | _ i ih=>
   intro hi j hj;unfold anc at hj;have hin:i<n:=Decidable.byContradiction fun hn=>by rw[List.getD_eq_getElem?_getD,List.getElem?_eq_none (by rw[hT.1];omega)] at hj;simp at hj
   obtain⟨p,hp,hh⟩:=hT.2 i hin j hj;rcases hh with rfl | ⟨h1,h2⟩
   · exact hi _ hp
   · exact ih p h1 (hL p (hi p hp)) j h2
theorem isN_iff{s:IStep}:isN s=true↔s.op.cls= .n:=by unfold isN;cases h:s.op.cls<;>simp
def DeadW(D:List Nat)(τ:List DS)(σ:Sig):Prop:=∀y∈τ,y.st.op.cls= .n→mem (y.st.dst.getD 0) D=true→σ (y.st.dst.getD 0)=(0,.dead)
theorem pairB_of{ops:Array Oper}{T D:List Nat}{E:List (Nat×Nat)}{a y:DS}(h:pairX ops T D E a y=true):pairB ops D a y=true:=by unfold pairX at h;simp only[Bool.and_eq_true] at h;exact h.1
theorem pair_keeps{ops:Array Oper}{T D:List Nat}{E:List (Nat×Nat)}{a y:DS}(h:pairX ops T D E a y=true)(hn:y.st.op.cls= .n)(hD:mem (y.st.dst.getD 0) D=true):keeps a.st (y.st.dst.getD 0)=true:=by
 have h:=pairB_of h;unfold pairB at h;simp only[Bool.and_eq_true] at h;have:=h.2;rw[isN_iff.2 hn,hD] at this
 simpa using this
theorem pair_noW{ops:Array Oper}{T D:List Nat}{E:List (Nat×Nat)}{a y:DS}(h:pairX ops T D E a y=true):noW a.st y.st:=by
 have h:=pairB_of h;unfold pairB at h;simp only[Bool.and_eq_true] at h;intro hc;have:=h.1.2;rw[hc] at this
 simpa using this
theorem pair_good{ops:Array Oper}{T D:List Nat}{E:List (Nat×Nat)}{a y:DS}(h:pairX ops T D E a y=true)(hx:exm E a y=false)(hu:anc T a.i y.i=false):dstIn a.st y.st.reads=false∧noClash a.st y.st=true∧goodC D a.st y.st=true:=by unfold pairX at h;simp only[Bool.and_eq_true] at h;have:=h.2;rw[hx,hu] at this;simp only[Bool.false_or,Bool.and_eq_true,Bool.not_eq_true'] at this;exact⟨this.1,this.2.1,this.2.2⟩
theorem pair_ne{ops:Array Oper}{T D:List Nat}{E:List (Nat×Nat)}{a y:DS}(h:pairX ops T D E a y=true):a.i≠y.i∧y.i∉predsOf ops a.i:=by have h:=pairB_of h;unfold pairB at h;simp only[Bool.and_eq_true,Bool.not_eq_true'] at h;exact⟨beqf_ne h.1.1.1,fun hm=>mem_false h.1.1.2 hm rfl⟩
theorem pairX_weak{ops:Array Oper}{T D:List Nat}{E E':List (Nat×Nat)}{a y:DS}(hE:exm E a y=true→exm E' a y=true)(h:pairX ops T D E a y=true):pairX ops T D E' a y=true:=by unfold pairX at*;simp only[Bool.and_eq_true,Bool.or_eq_true] at*;exact⟨h.1,h.2.imp hE id⟩
theorem self_l{ops:Array Oper}{a:DS}(h:selfOK ops a=true)(hl:a.st.op.cls= .l):a.st.dst.isSome=true∧dstIn a.st a.st.reads=false:=by unfold selfOK at h;rw[hl] at h;simp only[Bool.and_eq_true,Bool.not_eq_true'] at h;exact h.2
theorem self_n{ops:Array Oper}{a:DS}(h:selfOK ops a=true)(hl:a.st.op.cls= .n):a.st.dst.isSome=true:=by unfold selfOK at h;rw[hl] at h;simp only[Bool.and_eq_true] at h;exact h.2
theorem move{ops:Array Oper}{T D:List Nat}{E:List (Nat×Nat)}{K:(Nat→AV)→Sig→Prop}{x:DS}{post:List DS}:∀{pre seen:List DS} {e:Nat→AV} {σ:Sig},
  (seen++(pre++x::post)).Pairwise (fun a b=>pairX ops T D E a b=true)→(∀a∈pre++x::post,selfOK ops a=true)→(∀a∈pre,anc T a.i x.i=false)→(∀a∈pre,exm E a x=false)→DeadW D (pre++x::post) σ→
  DW P T K seen (pre++x::post) e σ→x.st.wp P (fun e σ=>CHs T seen x e σ∧DW P T K seen (pre++post) e σ) e σ
 | [],seen,e,σ,_,_,_,_,_,h=>x.st.mono h fun e' σ' hk=>⟨hk.1,DW_mono (fun l hl=>List.mem_append_left _ hl) hk.2⟩
 | a::pre,seen,e,σ,hp,hs,hu,hxm,hd,h=>by
   have hp':((seen++[a])++(pre++x::post)).Pairwise (fun a b=>pairX ops T D E a b=true):=by simpa using hp
   have hpa:∀y∈pre++x::post,pairX ops T D E a y=true:=by rw[List.pairwise_append] at hp';exact fun y hy=>hp'.2.2 a (by simp) y hy
   have hpl:∀l∈seen,∀y∈a::(pre++x::post),pairX ops T D E l y=true:=by rw[List.pairwise_append] at hp;exact fun l hl y hy=>hp.2.2 l hl y (by simpa using hy)
   have hax:=hpa x (by simp);obtain⟨g1,g2,g3⟩:=pair_good hax (hxm a (by simp)) (hu a (by simp));have h1:a.st.wp P (fun e σ=>CHs T seen a e σ∧DW P T K (seen++[a]) (pre++x::post) e σ) e σ:=h;have h2:=wp_dead (S:=fun i=>∃y∈pre++x::post,y.st.op.cls= .n∧mem (y.st.dst.getD 0) D=true∧i=y.st.dst.getD 0) (by
    rintro i ⟨y,hy,k1,k2,rfl⟩;exact⟨hd y (List.mem_cons_of_mem _ hy) k1 k2,pair_keeps (hpa y hy) k1 k2⟩) h1
   refine swap g1 g2 g3 (hu a (by simp)) (fun l hl=>pair_noW (hpl l hl a (by simp))) (fun l hl=>pair_noW (hpl l hl x (by simp)))
    (self_l (hs a (by simp))) (self_l (hs x (by simp))) (self_n (hs x (by simp))) (self_n (hs a (by simp)))
    (fun k1 k2=>⟨hd x (by simp) k1 k2,pair_keeps hax k1 k2⟩) ?_
   refine a.st.mono h2 fun e' σ' hk=>⟨hk.1.1,?_⟩;exact move hp' (fun b hb=>hs b (List.mem_cons_of_mem _ hb)) (fun b hb=>hu b (List.mem_cons_of_mem _ hb)) (fun b hb=>hxm b (List.mem_cons_of_mem _ hb)) (fun y hy k1 k2=>hk.2 _ ⟨y,hy,k1,k2,rfl⟩) hk.1.2
def PW(P:Program)(T:List Nat)(K:(Nat→AV)→Sig→Prop):List DS→Plan→(Nat→AV)→Sig→Prop
 | seen,.fin τ=>DW P T K seen τ
 | seen,.alt τ _ _ a b=>DW P T (fun e σ=>PW P T K (seen++τ) a e σ∧PW P T K (seen++τ) b e σ) seen τ
theorem DW_append{T:List Nat}{K:(Nat→AV)→Sig→Prop}:∀{τ τ' seen:List DS},DW P T K seen (τ++τ')=DW P T (DW P T K (seen++τ) τ') seen τ
 | [],τ',seen=>by funext e σ;simp[DW]
 | x::r,τ',seen=>by
   funext e σ
   show x.st.wp P (fun e σ=>CHs T seen x e σ∧DW P T K (seen++[x]) (r++τ') e σ) e σ=x.st.wp P (fun e σ=>CHs T seen x e σ∧DW P T _ (seen++[x]) r e σ) e σ
   rw[DW_append];simp
theorem DW_imp{T:List Nat}{K K':(Nat→AV)→Sig→Prop}(hK:∀e σ,K e σ→K' e σ):∀{τ seen:List DS} {e:Nat→AV} {σ:Sig},DW P T K seen τ e σ→DW P T K' seen τ e σ
 | [],_,_,_,h=>hK _ _ h
 | x::r,_,_,_,h=>x.st.mono h fun _ _ hk=>⟨hk.1,DW_imp hK hk.2⟩
theorem DW_dead{T D:List Nat}{K:(Nat→AV)→Sig→Prop}{S:List DS}:∀{τ seen:List DS} {e:Nat→AV} {σ:Sig},(∀a∈τ,∀y∈S,y.st.op.cls= .n→mem (y.st.dst.getD 0) D=true→keeps a.st (y.st.dst.getD 0)=true)→DeadW D S σ→DW P T K seen τ e σ→
  DW P T (fun e σ=>K e σ∧DeadW D S σ) seen τ e σ
 | [],_,_,_,_,hd,h=>⟨h,hd⟩
 | x::r,seen,e,σ,hk,hd,h=>by
   have h1:x.st.wp P (fun e σ=>CHs T seen x e σ∧DW P T K (seen++[x]) r e σ) e σ:=h;have h2:=wp_dead (S:=fun i=>∃y∈S,y.st.op.cls= .n∧mem (y.st.dst.getD 0) D=true∧i=y.st.dst.getD 0) (by
    rintro i ⟨y,hy,k1,k2,rfl⟩;exact⟨hd y hy k1 k2,hk x (by simp) y hy k1 k2⟩) h1
   exact x.st.mono h2 fun e σ h=>⟨h.1.1,DW_dead (fun a ha=>hk a (by simp[ha])) (fun y hy k1 k2=>h.2 _ ⟨y,hy,k1,k2,rfl⟩) h.1.2⟩
theorem wp_and{s:IStep}(hc:noCall s=true){A B:(Nat→AV)→Sig→Prop}{e:Nat→AV}{σ:Sig}(h1:s.wp P A e σ)(h2:s.wp P B e σ):s.wp P (fun e σ=>A e σ∧B e σ) e σ:=by
 obtain⟨d,g,op⟩:=s;have base:∀{d':Nat} {A B:AV→Sig→Prop},stepW P d' op e σ A→stepW P d' op e σ B→stepW P d' op e σ (fun v σ=>A v σ∧B v σ):=by
  intro d' A B h1 h2;have key:∀{o:Nat→Option (Prop×AV×Sig)},detW o A→detW o B→detW o (fun v σ=>A v σ∧B v σ):=by
   intro o h1 h2 g;have h1:=h1 g;have h2:=h2 g;split
   · rename_i ho;rw[ho] at h1 h2;exact⟨h1.1,h1.2,h2.2⟩
   · rename_i ho;rw[ho] at h1;exact h1
  cases op
  case new=>exact key (o:=effO d' (.new _) e σ) h1 h2
  case nil=>exact key (o:=effO d' (.nil _ _) e σ) h1 h2
  case kil=>exact key (o:=effO d' (.kil _) e σ) h1 h2
  case mkm=>exact key (o:=effO d' .mkm e σ) h1 h2
  case bad=>exact key (o:=effO d' .bad e σ) h1 h2
  all_goals first | (cases hc;done) | exact key (o:=effO d' _ e σ) h1 h2
 cases g with
 | none=>exact base h1 h2
 | some gb=>
   obtain⟨g,b⟩:=gb;have h1':guardW (e g) b (stepW P (d.getD 0) op e σ (contS e d A)) (A (putE e d (.tup [])) σ):=h1;have h2':guardW (e g) b (stepW P (d.getD 0) op e σ (contS e d B)) (B (putE e d (.tup [])) σ):=h2;show guardW (e g) b (stepW P (d.getD 0) op e σ (contS e d fun e σ=>A e σ∧B e σ)) (A (putE e d (.tup [])) σ∧B (putE e d (.tup [])) σ)
   unfold guardW at*;split
   · rename_i cv hcv;rw[hcv] at h1' h2';simp only at h1' h2';split
     · rw[if_pos (by assumption)] at h1' h2';exact base h1' h2'
     · rw[if_neg (by assumption)] at h1' h2';exact⟨h1',h2'⟩
   · rename_i hcv;rw[hcv] at h1' h2';exact⟨h1',h2'⟩
   · rename_i hn hn2
     revert h1';split
     · rename_i cv hcv;exact absurd hcv (hn _)
     · rename_i hcv;exact absurd hcv hn2
     · exact False.elim
def OKp(ops:Array Oper)(T D:List Nat):List (Nat×Nat)→List DS→Plan→Prop
 | E,seen,.fin τ=>(seen++τ).Pairwise (fun a b=>pairX ops T D E a b=true)∧ ∀a∈τ,selfOK ops a=true
 | E,seen,.alt τ i j a b=>OKp ops T D ((i,j)::E) (seen++τ) a∧OKp ops T D ((j,i)::E) (seen++τ) b∧i≠j∧(seen++τ).Pairwise (fun a b=>pairX ops T D E a b=true)∧(∀a∈τ,selfOK ops a=true)∧
     (∀d∈seen++τ,d.i≠i∧d.i≠j)∧(∀d,d∈a.els↔d∈b.els)∧a.els.length=b.els.length∧ ∀d∈a.els,d.i=i∨d.i=j∨noCall d.st=true
theorem exm_cons{i j:Nat}{E:List (Nat×Nat)}{a x:DS}:exm ((i,j)::E) a x=true↔(i=a.i∧j=x.i)∨exm E a x=true:=by simp[exm,Bool.or_eq_true]
theorem exm_cons_f{i j:Nat}{E:List (Nat×Nat)}{a x:DS}(h:exm E a x=false)(h2:¬(i=a.i∧j=x.i)):exm ((i,j)::E) a x=false:=by
 cases hh:exm ((i,j)::E) a x with
 | false=>rfl
 | true=>rcases exm_cons.1 hh with h3 | h3
         · exact absurd h3 h2
         · rw[h] at h3;cases h3
theorem OKp.weak{ops:Array Oper}{T D:List Nat}:∀{p:Plan} {E E':List (Nat×Nat)} {seen:List DS},(∀a∈seen++p.els,∀x∈seen++p.els,exm E a x=true→exm E' a x=true)→OKp ops T D E seen p→OKp ops T D E' seen p
 | .fin τ,E,E',seen,hE,⟨h1,h2⟩=>⟨h1.imp_of_mem fun ha hb h=>pairX_weak (hE _ ha _ hb) h,h2⟩
 | .alt τ i j a b,E,E',seen,hE,⟨h1,h2,h3,h4,h5,h9,h6,h7,h8⟩=>by
   have hmem:∀x,x∈seen++τ++a.els→x∈seen++(Plan.alt τ i j a b).els:=fun x hx=>by simpa[Plan.els,or_assoc] using hx
   have hmemb:∀x,x∈seen++τ++b.els→x∈seen++(Plan.alt τ i j a b).els:=fun x hx=>by simpa[Plan.els,or_assoc,h6] using hx
   refine⟨OKp.weak (fun u hu v hv h=>?_) h1,OKp.weak (fun u hu v hv h=>?_) h2,h3,h4.imp_of_mem fun ha hb h=>pairX_weak (hE _ ?_ _ ?_) h,h5,h9,h6,h7,h8⟩
   · rw[exm_cons] at h ⊢;exact h.imp id (hE _ (hmem _ hu) _ (hmem _ hv))
   · rw[exm_cons] at h ⊢;exact h.imp id (hE _ (hmemb _ hu) _ (hmemb _ hv))
   · exact hmem _ (List.mem_append_left _ ha)
   · exact hmem _ (List.mem_append_left _ hb)
theorem OKp.seen{ops:Array Oper}{T D:List Nat}{a y:DS}:∀{p:Plan} {E:List (Nat×Nat)} {seen:List DS},OKp ops T D E seen p→a∈seen→y∈p.els→pairX ops T D E a y=true
 | .fin τ,E,seen,⟨h1,h2⟩,ha,hy=>(List.pairwise_append.1 h1).2.2 a ha y hy
 | .alt τ i j u v,E,seen,⟨h1,h2,h3,h4,h5,h9,h6,h7,h8⟩,ha,hy=>by
   rcases List.mem_append.1 hy with hy | hy
   · exact (List.pairwise_append.1 h4).2.2 a ha y hy
   · refine pairX_weak (fun h=>?_) (OKp.seen h1 (List.mem_append_left _ ha) hy);rcases exm_cons.1 h with h | h
     · exact absurd h.1.symm (h9 a (List.mem_append_left _ ha)).1
     · exact h
theorem OKp.sub{ops:Array Oper}{T D:List Nat}:∀{p:Plan} {E:List (Nat×Nat)} {seen seen':List DS},seen'.Sublist seen→OKp ops T D E seen p→OKp ops T D E seen' p
 | .fin τ,E,seen,seen',hs,⟨h1,h2⟩=>⟨h1.sublist (List.Sublist.append_right hs τ),h2⟩
 | .alt τ i j u v,E,seen,seen',hs,⟨h1,h2,h3,h4,h5,h9,h6,h7,h8⟩=>
   have h:=List.Sublist.append_right hs τ
   ⟨OKp.sub h h1,OKp.sub h h2,h3,h4.sublist h,h5,fun d hd=>h9 d (h.subset hd),h6,h7,h8⟩
def Plan.pre(τ:List DS):Plan→Plan
 | .fin r=> .fin (τ++r)
 | .alt r i j a b=> .alt (τ++r) i j a b
theorem Plan.pre_els{τ:List DS}{p:Plan}:(p.pre τ).els=τ++p.els:=by cases p<;>simp[Plan.pre,Plan.els]
theorem OKp.pre{ops:Array Oper}{T D:List Nat}{E:List (Nat×Nat)}{seen τ:List DS}{p:Plan}(hs:∀a∈τ,selfOK ops a=true)(h:OKp ops T D E (seen++τ) p):OKp ops T D E seen (p.pre τ):=by
 cases p with
 | fin r=>
   obtain⟨h1,h2⟩:=h;refine⟨by simpa using h1,fun a ha=>?_⟩;rcases List.mem_append.1 ha with ha | ha
   · exact hs a ha
   · exact h2 a ha
 | alt r i j a b=>
   obtain⟨h1,h2,h3,h4,h5,h9,h6,h7,h8⟩:=h;refine⟨by simpa using h1,by simpa using h2,h3,by simpa using h4,fun a ha=>?_,by simpa using h9,h6,h7,h8⟩;rcases List.mem_append.1 ha with ha | ha
   · exact hs a ha
   · exact h5 a ha
theorem PW_pre{T:List Nat}{K:(Nat→AV)→Sig→Prop}{seen τ:List DS}{p:Plan}:PW P T K seen (p.pre τ)=DW P T (PW P T K (seen++τ) p) seen τ:=by
 cases p with
 | fin r=>exact DW_append
 | alt r i j a b=>
   show DW P T _ seen (τ++r)=DW P T (DW P T _ (seen++τ) r) seen τ
   rw[DW_append];simp
theorem PW_mono{T:List Nat}{K:(Nat→AV)→Sig→Prop}:∀{p:Plan} {seen seen':List DS} {e:Nat→AV} {σ:Sig},(∀l∈seen',l∈seen)→PW P T K seen p e σ→PW P T K seen' p e σ
 | .fin τ,_,_,_,_,hs,h=>DW_mono hs h
 | .alt τ i j a b,seen,seen',e,σ,hs,h=>by
   have hs':∀l∈seen'++τ,l∈seen++τ:=fun l hl=>by
    rcases List.mem_append.1 hl with h | h
    · exact List.mem_append_left _ (hs l h)
    · exact List.mem_append_right _ h
   exact DW_imp (fun e σ hk=>⟨PW_mono hs' hk.1,PW_mono hs' hk.2⟩) (DW_mono hs h)
theorem front{ops:Array Oper}{T D:List Nat}{x:DS}:∀{p:Plan} {E:List (Nat×Nat)} {seen:List DS},OKp ops T D E seen p→x∈p.els→selfOK ops x=true→(∀b∈p.els,b.i≠x.i→anc T b.i x.i=false)→(∀b∈p.els,exm E b x=false)→
  ∃p':Plan,OKp ops T D E seen p'∧(∀d,d∈p'.els↔d∈p.els∧d.i≠x.i)∧p'.els.length+1=p.els.length∧
   ∀(K:(Nat→AV)→Sig→Prop) (e:Nat→AV) (σ:Sig),DeadW D p.els σ→PW P T K seen p e σ→x.st.wp P (fun e σ=>CHs T seen x e σ∧PW P T K seen p' e σ) e σ
 | .fin τ,E,seen,⟨h1,h2⟩,hx,hsx,hu,hE=>by
   obtain⟨pre,post,rfl⟩:=List.append_of_mem (show x∈τ from hx);have hp2:=List.pairwise_append.1 (List.pairwise_append.1 h1).2.1;have hp3:=List.pairwise_cons.1 hp2.2.1;have hne:∀d∈pre++post,d.i≠x.i:=by
    intro d hd;rcases List.mem_append.1 hd with h | h
    · exact (pair_ne (hp2.2.2 d h x (by simp))).1
    · exact Ne.symm (pair_ne (hp3.1 d h)).1
   refine⟨.fin (pre++post),⟨h1.sublist (List.Sublist.append_left (List.Sublist.append_left (List.sublist_cons_self _ _) _) _),fun a ha=>h2 a (by rcases List.mem_append.1 ha with h | h<;>simp[h])⟩,fun d=>⟨fun hd=>⟨?_,hne d hd⟩,fun⟨hd,hn⟩=>?_⟩,by simp[Plan.els];omega,fun K e σ hd h=>?_⟩
   · show d∈pre++x::post
     rcases List.mem_append.1 (show d∈pre++post from hd) with h | h<;>simp[h]
   · show d∈pre++post
     rcases List.mem_append.1 (show d∈pre++x::post from hd) with h | h
     · simp[h]
     · rcases List.mem_cons.1 h with rfl | h
       · exact absurd rfl hn
       · simp[h]
   · exact move h1 h2 (fun a ha=>hu a (by show a∈pre++x::post;simp[ha]) (hne a (by simp[ha]))) (fun a ha=>hE a (by show a∈pre++x::post;simp[ha])) hd h
 | .alt τ i j u v,E,seen,hok,hx,hsx,hu,hE=>by
   obtain⟨h1,h2,h3,h4,h5,h9,h6,h7,h8⟩:=hok;by_cases hxτ:x∈τ
   · obtain⟨pre,post,rfl⟩:=List.append_of_mem hxτ;have hp2:=List.pairwise_append.1 (List.pairwise_append.1 h4).2.1;have hp3:=List.pairwise_cons.1 hp2.2.1;have hsl:(seen++(pre++post)).Sublist (seen++(pre++x::post)):=List.Sublist.append_left (List.Sublist.append_left (List.sublist_cons_self _ _) _) _;have hne:∀d∈pre++post,d.i≠x.i:=by
      intro d hd;rcases List.mem_append.1 hd with h | h
      · exact (pair_ne (hp2.2.2 d h x (by simp))).1
      · exact Ne.symm (pair_ne (hp3.1 d h)).1
     have hneu:∀d∈u.els,d.i≠x.i:=fun d hd=>Ne.symm (pair_ne (OKp.seen h1 (a:=x) (by simp) hd)).1;refine⟨.alt (pre++post) i j u v,⟨OKp.sub hsl h1,OKp.sub hsl h2,h3,h4.sublist hsl,fun a ha=>h5 a (by rcases List.mem_append.1 ha with h | h<;>simp[h]),fun d hd=>h9 d (hsl.subset hd),h6,h7,h8⟩,fun d=>⟨fun hd=>?_,fun⟨hd,hn⟩=>?_⟩,by simp[Plan.els];omega,fun K e σ hd h=>?_⟩
     · rcases List.mem_append.1 (show d∈(pre++post)++u.els from hd) with h | h
       · refine⟨?_,hne d h⟩;show d∈(pre++x::post)++u.els
         rcases List.mem_append.1 h with h | h<;>simp[h]
       · exact⟨by show d∈(pre++x::post)++u.els;simp[h],hneu d h⟩
     · show d∈(pre++post)++u.els
       rcases List.mem_append.1 (show d∈(pre++x::post)++u.els from hd) with h | h
       · rcases List.mem_append.1 h with h | h
         · simp[h]
         · rcases List.mem_cons.1 h with rfl | h
           · exact absurd rfl hn
           · simp[h]
       · simp[h]
     · have hmemE:∀a∈pre++x::post,a∈(Plan.alt (pre++x::post) i j u v).els:=fun a ha=>List.mem_append_left _ ha;have hm:=move h4 h5 (fun a ha=>hu a (hmemE a (by simp[ha])) (hne a (by simp[ha]))) (fun a ha=>hE a (hmemE a (by simp[ha]))) (fun y hy=>hd y (hmemE y hy)) h;exact x.st.mono hm fun e σ hk=>⟨hk.1,DW_imp (fun e σ hk=>⟨PW_mono (fun l hl=>hsl.subset hl) hk.1,PW_mono (fun l hl=>hsl.subset hl) hk.2⟩) hk.2⟩
   · have hxu:x∈u.els:=(List.mem_append.1 hx).resolve_left hxτ;have hxv:x∈v.els:=(h6 x).1 hxu;have hmu:∀b∈u.els,b∈(Plan.alt τ i j u v).els:=fun b hb=>List.mem_append_right _ hb;have hmv:∀b∈v.els,b∈(Plan.alt τ i j u v).els:=fun b hb=>List.mem_append_right _ ((h6 b).2 hb);have hmt:∀b∈τ,b∈(Plan.alt τ i j u v).els:=fun b hb=>List.mem_append_left _ hb;have hxt:∀a∈seen++τ,pairX ops T D E a x=true:=fun a ha=>pairX_weak (fun h=>by
      rcases exm_cons.1 h with h | h
      · exact absurd h.1.symm (h9 a ha).1
      · exact h) (OKp.seen h1 ha hxu)
     have htx:∀a∈τ,a.i≠x.i:=fun a ha=>(pair_ne (hxt a (List.mem_append_right _ ha))).1
     have bring:∀(K K':(Nat→AV)→Sig→Prop) (e:Nat→AV) (σ:Sig),DeadW D (Plan.alt τ i j u v).els σ→(∀e σ,DeadW D u.els σ→K e σ→x.st.wp P (fun e σ=>CHs T (seen++τ) x e σ∧K' e σ) e σ)→DW P T K seen τ e σ→
       x.st.wp P (fun e σ=>CHs T seen x e σ∧DW P T K' seen τ e σ) e σ:=by
      intro K K' e σ hd hK h;have hkeep:∀a∈τ,∀y∈u.els,y.st.op.cls= .n→mem (y.st.dst.getD 0) D=true→keeps a.st (y.st.dst.getD 0)=true:=fun a ha y hy k1 k2=>pair_keeps (OKp.seen h1 (List.mem_append_right _ ha) hy) k1 k2;have g1:=DW_dead hkeep (fun y hy=>hd y (hmu y hy)) h;have g2:DW P T K' seen (τ++[x]) e σ:=by rw[DW_append];exact DW_imp (fun e σ hk=>hK e σ hk.2 hk.1) g1
      have g3:=move (pre:=τ) (post:=[]) (E:=E) (x:=x) (seen:=seen) (K:=K') (by
        rw[←List.append_assoc,List.pairwise_append];exact⟨h4,List.pairwise_singleton _ _,fun a ha y hy=>by rw[List.mem_singleton] at hy;subst hy;exact hxt a ha⟩)
       (fun a ha=>by
         rcases List.mem_append.1 ha with ha | ha
         · exact h5 a ha
         · rw[List.mem_singleton] at ha;subst ha;exact hsx)
       (fun a ha=>hu a (hmt a ha) (htx a ha)) (fun a ha=>hE a (hmt a ha))
       (fun y hy=>by
         rcases List.mem_append.1 hy with hy | hy
         · exact hd y (hmt y hy)
         · rw[List.mem_singleton] at hy;subst hy;exact hd _ hx) g2
      rw[List.append_nil] at g3;exact g3
     have huu:∀b∈u.els,b.i≠x.i→anc T b.i x.i=false:=fun b hb=>hu b (hmu b hb);have huv:∀b∈v.els,b.i≠x.i→anc T b.i x.i=false:=fun b hb=>hu b (hmv b hb);have hdv:∀{σ},DeadW D u.els σ→DeadW D v.els σ:=fun h y hy=>h y ((h6 y).2 hy);by_cases hxj:x.i=j
     · have hxi:x.i≠i:=fun h=>h3 (h.symm.trans hxj);obtain⟨v',k1,k2,k3,k4⟩:=front h2 hxv hsx huv fun b hb=>exm_cons_f (hE b (hmv b hb)) fun h=>hxi h.2.symm;refine⟨v'.pre τ,OKp.pre h5 (OKp.weak (fun a ha y hy h=>?_) k1),fun d=>?_,by rw[Plan.pre_els];simp[Plan.els];omega,fun K e σ hd h=>?_⟩
       · rcases exm_cons.1 h with h | h
         · exfalso;rcases List.mem_append.1 ha with ha | ha
           · exact (h9 a ha).2 h.1.symm
           · exact ((k2 a).1 ha).2 (h.1.symm.trans hxj.symm)
         · exact h
       · rw[Plan.pre_els,List.mem_append,k2,←h6]
         constructor
         · rintro (h | h)
           · exact⟨hmt d h,htx d h⟩
           · exact⟨hmu d h.1,h.2⟩
         · rintro⟨h,hn⟩;exact (List.mem_append.1 h).imp id fun h=>⟨h,hn⟩
       · rw[PW_pre];exact bring _ _ e σ hd (fun e σ hd hk=>k4 K e σ (hdv hd) hk.2) h
     · by_cases hxi:x.i=i
       · obtain⟨u',k1,k2,k3,k4⟩:=front h1 hxu hsx huu fun b hb=>exm_cons_f (hE b (hmu b hb)) fun h=>hxj h.2.symm;refine⟨u'.pre τ,OKp.pre h5 (OKp.weak (fun a ha y hy h=>?_) k1),fun d=>?_,by rw[Plan.pre_els];simp[Plan.els];omega,fun K e σ hd h=>?_⟩
         · rcases exm_cons.1 h with h | h
           · exfalso;rcases List.mem_append.1 ha with ha | ha
             · exact (h9 a ha).1 h.1.symm
             · exact ((k2 a).1 ha).2 (h.1.symm.trans hxi.symm)
           · exact h
         · rw[Plan.pre_els,List.mem_append,k2]
           constructor
           · rintro (h | h)
             · exact⟨hmt d h,htx d h⟩
             · exact⟨hmu d h.1,h.2⟩
           · rintro⟨h,hn⟩;exact (List.mem_append.1 h).imp id fun h=>⟨h,hn⟩
         · rw[PW_pre];exact bring _ _ e σ hd (fun e σ hd hk=>k4 K e σ hd hk.1) h
       · obtain⟨u',k1,k2,k3,k4⟩:=front h1 hxu hsx huu fun b hb=>exm_cons_f (hE b (hmu b hb)) fun h=>hxj h.2.symm;obtain⟨v',l1,l2,l3,l4⟩:=front h2 hxv hsx huv fun b hb=>exm_cons_f (hE b (hmv b hb)) fun h=>hxi h.2.symm;have hnc:noCall x.st=true:=((h8 x hxu).resolve_left hxi).resolve_left hxj;refine⟨.alt τ i j u' v',⟨k1,l1,h3,h4,h5,h9,fun d=>by rw[k2,l2,h6],by omega,fun d hd=>h8 d ((k2 d).1 hd).1⟩,fun d=>?_,by simp[Plan.els];omega,fun K e σ hd h=>?_⟩
         · show d∈τ++u'.els↔d∈τ++u.els∧_
           rw[List.mem_append,List.mem_append,k2]
           constructor
           · rintro (h | h)
             · exact⟨.inl h,htx d h⟩
             · exact⟨.inr h.1,h.2⟩
           · rintro⟨h,hn⟩;exact h.imp id fun h=>⟨h,hn⟩
         · exact bring _ _ e σ hd (fun e σ hd hk=>IStep.mono (wp_and hnc (k4 K e σ hd hk.1) (l4 K e σ (hdv hd) hk.2)) fun e σ h=>⟨h.1.1,h.1.2,h.2.2⟩) h
theorem OKp.rel{ops:Array Oper}{T D:List Nat}{x y:DS}:∀{p:Plan} {E:List (Nat×Nat)} {seen:List DS},OKp ops T D E seen p→x∈p.els→y∈p.els→x.i≠y.i→(∀b∈p.els,exm E b x=false)→
  (∃E',pairX ops T D E' x y=true)∨ ∃E',pairX ops T D E' y x=true∧exm E' y x=false
 | .fin τ,E,seen,⟨h1,h2⟩,hx,hy,hne,hE=>by
   obtain⟨pre,post,rfl⟩:=List.append_of_mem (show x∈τ from hx);have hp2:=List.pairwise_append.1 (List.pairwise_append.1 h1).2.1;have hp3:=List.pairwise_cons.1 hp2.2.1;rcases List.mem_append.1 (show y∈pre++x::post from hy) with h | h
   · exact .inr ⟨E,hp2.2.2 y h x (by simp),hE y hy⟩
   · rcases List.mem_cons.1 h with rfl | h
     · exact absurd rfl hne
     · exact .inl ⟨E,hp3.1 y h⟩
 | .alt τ i j u v,E,seen,⟨h1,h2,h3,h4,h5,h9,h6,h7,h8⟩,hx,hy,hne,hE=>by
   have hmu:∀b∈u.els,b∈(Plan.alt τ i j u v).els:=fun b hb=>List.mem_append_right _ hb;have hmv:∀b∈v.els,b∈(Plan.alt τ i j u v).els:=fun b hb=>List.mem_append_right _ ((h6 b).2 hb);by_cases hxτ:x∈τ
   · by_cases hyτ:y∈τ
     · obtain⟨pre,post,rfl⟩:=List.append_of_mem hxτ;have hp2:=List.pairwise_append.1 (List.pairwise_append.1 h4).2.1;have hp3:=List.pairwise_cons.1 hp2.2.1;rcases List.mem_append.1 hyτ with h | h
       · exact .inr ⟨E,hp2.2.2 y h x (by simp),hE y hy⟩
       · rcases List.mem_cons.1 h with rfl | h
         · exact absurd rfl hne
         · exact .inl ⟨E,hp3.1 y h⟩
     · exact .inl ⟨_,OKp.seen h1 (List.mem_append_right _ hxτ) ((List.mem_append.1 hy).resolve_left hyτ)⟩
   · have hxu:x∈u.els:=(List.mem_append.1 hx).resolve_left hxτ;by_cases hyτ:y∈τ
     · refine .inr ⟨_,OKp.seen h1 (List.mem_append_right _ hyτ) hxu,exm_cons_f (hE y hy) fun h=>?_⟩;exact (h9 y (List.mem_append_right _ hyτ)).1 h.1.symm
     · have hyu:y∈u.els:=(List.mem_append.1 hy).resolve_left hyτ;by_cases hxj:x.i=j
       · have hxi:x.i≠i:=fun h=>h3 (h.symm.trans hxj);exact OKp.rel h2 ((h6 x).1 hxu) ((h6 y).1 hyu) hne fun b hb=>exm_cons_f (hE b (hmv b hb)) fun h=>hxi h.2.symm
       · exact OKp.rel h1 hxu hyu hne fun b hb=>exm_cons_f (hE b (hmu b hb)) fun h=>hxj h.2.symm
theorem getD_lt{listed:Array Bool}{i:Nat}(h:listed.getD i false=true):i<listed.size:=by
 rcases Nat.lt_or_ge i listed.size with h' | h'
 · exact h'
 · simp[Array.getElem?_eq_none h'] at h
theorem preds_mem{ops:Array Oper}{i:Nat}{o:Oper}(ho:ops[i]?=some o){p:Nat}:p∈predsOf ops i↔ ∃e∈o.after,Region.binds .any e=true∧e.on=p:=by
 unfold predsOf;rw[ho];simp only[List.mem_map,List.mem_filter,Array.mem_toList_iff]
 constructor
 · rintro⟨e,⟨h1,h2⟩,h3⟩;exact⟨e,h1,h2,h3⟩
 · rintro⟨e,h1,h2,h3⟩;exact⟨e,⟨h1,h2⟩,h3⟩
theorem first_ok{ops:Array Oper}{T D:List Nat}:∀{p:Plan} {E:List (Nat×Nat)} {seen:List DS},OKp ops T D E seen p→p.els≠[]→ ∃x∈p.els,∀d∈p.els,d≠x→d.i∉predsOf ops x.i
 | .fin τ,E,seen,⟨h1,h2⟩,h0=>by
   cases τ with
   | nil=>exact absurd rfl h0
   | cons x r=>
     have hp:=List.pairwise_cons.1 (List.pairwise_append.1 h1).2.1;exact⟨x,by simp[Plan.els],fun d hd hn=>by
      rcases List.mem_cons.1 (show d∈x::r from hd) with rfl | h
      · exact absurd rfl hn
      · exact (pair_ne (hp.1 d h)).2⟩
 | .alt τ i j u v,E,seen,⟨h1,h2,h3,h4,h5,h9,h6,h7,h8⟩,h0=>by
   cases τ with
   | nil=> obtain⟨x,k1,k2⟩:=first_ok h1 (by intro h;exact h0 (by simp[Plan.els,h]));exact⟨x,by simpa[Plan.els] using k1,fun d hd=>k2 d (by simpa[Plan.els] using hd)⟩
   | cons x r=>
     have hp:=List.pairwise_cons.1 (List.pairwise_append.1 h4).2.1;refine⟨x,by simp[Plan.els],fun d hd hn=>?_⟩;rcases List.mem_append.1 (show d∈(x::r)++u.els from hd) with h | h
     · rcases List.mem_cons.1 h with rfl | h
       · exact absurd rfl hn
       · exact (pair_ne (hp.1 d h)).2
     · exact (pair_ne (OKp.seen h1 (a:=x) (by simp) h)).2
theorem draw_main{H:Hint}{ops:Array Oper}{D:List Nat}{n:Nat}{Q:Exit→Act→World→Prop}{K:(Nat→AV)→Sig→Prop}(hY:c.n≤YS)(hQ:∀G e σ a w,K e σ→St c G e σ a w→Q .normal a w):
  ∀(fuel:Nat) (τ:Plan) (listed:Array Bool) (G:GS) (e:Nat→AV) (σ:Sig) (a:Act) (w:World),τ.els.length=fuel→OKp ops (tblGo ops n 0 []) D [] [] τ→(∀a∈τ.els,selfOK ops a=true)→
   listed.size=ops.size→(∀i,i<ops.size→(listed.getD i false=false↔ ∃d∈τ.els,d.i=i))→(∀d∈τ.els,∃o,ops[d.i]?=some o∧cStep P H c.n ops o=some d.st)→
   (∀i,listed.getD i false=true→ ∀p∈predsOf ops i,listed.getD p false=true)→DeadW D τ.els σ→St c G e σ a w→PW P (tblGo ops n 0 []) K [] τ e σ→(∀x∈τ.els,∀y∈τ.els,x.i=y.i→x=y)→wpAnyIn (FW c.r) 0 P .any ops Q fuel listed a w:=by
 have tf:∀{listed:Array Bool} {i:Nat},i<listed.size→listed.getD i true=listed.getD i false:=by intro listed i h;simp[h]
 intro fuel;have nodead:∀{τ:Plan} {e:Nat→AV} {σ:Sig},τ.els=[]→PW P (tblGo ops n 0 []) K [] τ e σ→K e σ:=by
  intro τ;induction τ with
  | fin l=>intro e σ h hk;have h:l=[]:=h;subst h;exact hk
  | alt l i j a b iha ihb=> intro e σ h hk;have h:l++a.els=[]:=h;rw[List.append_eq_nil_iff] at h;obtain⟨rfl,h2⟩:=h;exact iha h2 hk.1
 induction fuel with
 | zero=> intro τ listed G e σ a w hlen hp hs hsz hl hc hcl hd hS h hinj;have h0:τ.els=[]:=List.eq_nil_of_length_eq_zero hlen;refine⟨?_,hQ _ _ _ _ _ (nodead h0 h) hS⟩;rw[List.eq_nil_iff_forall_not_mem];intro j hj;obtain⟨h1,o,ho,_⟩:=mem_ready.1 hj;have hlt:j<ops.size:=(Array.getElem?_eq_some_iff.1 ho).1;rw[tf (by omega)] at h1;obtain⟨d,hd,_⟩:=(hl j hlt).1 h1;rw[h0] at hd;cases hd
 | succ fuel ih=>
   intro τ listed G e σ a w hlen hp hs hsz hl hc hcl hd hS h hinj;have hexm:∀b x:DS,exm [] b x=false:=fun _ _=>rfl;refine⟨fun hr=>?_,fun i hi=>?_⟩
   · exfalso;obtain⟨x,hx,hfirst⟩:=first_ok hp (by intro h0;rw[h0] at hlen;cases hlen);obtain⟨o,ho,_⟩:=hc x hx;have hlt:x.i<ops.size:=(Array.getElem?_eq_some_iff.1 ho).1;have:x.i∈Region.ready .any ops listed:=by
      rw[mem_ready];refine⟨by rw[tf (by omega)];exact (hl _ hlt).2 ⟨x,hx,rfl⟩,o,ho,fun ed hed hb=>?_⟩;have hpm:ed.on∈predsOf ops x.i:=(preds_mem ho).2 ⟨ed,hed,hb,rfl⟩;have hsx:=hs x hx;unfold selfOK at hsx;simp only[Bool.and_eq_true,Bool.not_eq_true',List.all_eq_true] at hsx;have hlt2:ed.on<ops.size:=by have:=hsx.1.2 _ hpm;exact Nat.le_of_ble_eq_true this
      cases hf:listed.getD ed.on false with
      | true=>rfl
      | false=>
        exfalso;obtain⟨d,hdm,hdi⟩:=(hl _ hlt2).1 hf;by_cases hdx:d=x
        · subst hdx;exact mem_false hsx.1.1 hpm hdi.symm
        · exact hfirst d hdm hdx (by rw[hdi];exact hpm)
     rw[hr] at this;cases this
   · obtain⟨h1,o,ho,hall⟩:=mem_ready.1 hi;have hlt:i<ops.size:=(Array.getElem?_eq_some_iff.1 ho).1;rw[tf (by omega)] at h1;obtain⟨x,hx,rfl⟩:=(hl i hlt).1 h1;have hpreds:∀p∈predsOf ops x.i,listed.getD p false=true:=fun p hpm=>by obtain⟨ed,h2,h3,rfl⟩:=(preds_mem ho).1 hpm;exact hall ed h2 h3
     have hu:∀b∈τ.els,b.i≠x.i→anc (tblGo ops n 0 []) b.i x.i=false:=by
      intro b hb _;cases hh:anc (tblGo ops n 0 []) b.i x.i with
      | false=>rfl
      | true=> have:=anc_ok (L:=fun i=>listed.getD i false=true) hcl x.i hpreds b.i hh;obtain⟨ob,hob,_⟩:=hc b hb;have hltb:b.i<ops.size:=(Array.getElem?_eq_some_iff.1 hob).1;rw[(hl b.i hltb).2 ⟨b,hb,rfl⟩] at this;cases this
     obtain⟨τ',k1,k2,k3,k4⟩:=front (P:=P) hp hx (hs x hx) hu fun b _=>hexm b x;have hm:=k4 K e σ hd h;obtain⟨o',ho',hcs⟩:=hc x hx;have hm2:=wp_dead (S:=fun i=>∃y∈τ'.els,y.st.op.cls= .n∧mem (y.st.dst.getD 0) D=true∧i=y.st.dst.getD 0) (by
      rintro i ⟨y,hy,k1,k2',rfl⟩;obtain⟨hy',hyx⟩:=(k2 y).1 hy;refine⟨hd y hy' k1 k2',?_⟩;rcases OKp.rel hp hx hy' (Ne.symm hyx) (fun b _=>hexm b x) with⟨E',hpx⟩ | ⟨E',hpx,hex⟩
      · exact pair_keeps hpx k1 k2'
      ·
       obtain⟨g1,g2,g3⟩:=pair_good hpx hex (hu y hy' hyx);unfold goodC at g3;rw[k1] at g3;unfold keeps;cases hxc:x.st.op.cls<;>simp only
       ·
        obtain⟨_,hsd⟩:=noClash_iff g2;have s1:=self_n (hs y hy') k1;have s2:=self_n (hs x hx) hxc;unfold sameDst at hsd;cases hyd:y.st.dst with
        | none=>rw[hyd] at s1;cases s1
        | some yd=>
          cases hxd:x.st.dst with
          | none=>rw[hxd] at s2;cases s2
          | some xd=> rw[hyd,hxd] at hsd;simp only[Option.getD_some];rw[ne_beq (Ne.symm (beqf_ne hsd))];rfl
       · rw[hxc] at g3;simp only at g3;split at g3
         · rename_i hh;rw[hh];rfl
         · cases g3) hm
     refine step_sound hY hcs ho' hS hm2 fun G' e' σ' a' w' hk hS'=>?_
     refine ih τ' _ G' e' σ' a' w' (by omega) k1 (fun b hb=>hs b ((k2 b).1 hb).1) (by simp[hsz]) (fun i hi=>?_)
      (fun d hd=>hc d ((k2 d).1 hd).1) (fun i hi p hpm=>?_) (fun y hy k1 k2=>hk.2 _ ⟨y,hy,k1,k2,rfl⟩) hS' hk.1.2 (fun u hu v hv=>hinj u ((k2 u).1 hu).1 v ((k2 v).1 hv).1)
     · by_cases hix:x.i=i
       · subst hix
         constructor
         · intro hf;simp[hsz,hi] at hf
         · rintro⟨d,hd,hdi⟩;exact absurd hdi ((k2 d).1 hd).2
       · rw[getD_set_ne false hix,hl i hi]
         constructor
         · rintro⟨d,hd,rfl⟩;exact⟨d,(k2 d).2 ⟨hd,Ne.symm hix⟩,rfl⟩
         · rintro⟨d,hd,rfl⟩;exact⟨d,((k2 d).1 hd).1,rfl⟩
     · by_cases hix:x.i=i
       · subst hix;exact getD_set_true (hpreds p hpm)
       · rw[getD_set_ne false hix] at hi;exact getD_set_true (hcl i hi p hpm)
theorem kil_steps'{K:(Nat→AV)→Sig→Prop}{G:GS}{e:Nat→AV}{a:Act}{w:World}:∀{D:List Nat} {σ:Sig},(∀d∈D,d≠YS)→stepsW P (kils D) K e σ→St c G e σ a w→
  ∃σ',K e σ'∧St c G e σ' a w∧(∀i,σ i=(0,.dead)→σ' i=(0,.dead))∧ ∀d∈D,σ' d=(0,.dead)
 | [],σ,_,h,hS=>⟨σ,h,hS,fun _ h=>h,fun d hd=>by cases hd⟩
 | d::D,σ,hD,h,hS=>by
   have h1:detW (effO 0 (.kil d) e σ) (contS e none (stepsW P (kils D) K)):=h;have h2:stepsW P (kils D) K e (upd σ d (0,.dead)):=(h1 0).2;obtain⟨σ',k1,k2,k3,k4⟩:=kil_steps' (fun d hd=>hD d (List.mem_cons_of_mem _ hd)) h2 (hS.stepY (StepOK.kill hS.inv d 0) (.inl (by rw[upd_eq,if_neg (Ne.symm (hD d (by simp)))])));have hdd:upd σ d (0,Res.dead) d=(0,.dead):=by rw[upd_eq,if_pos rfl]
   refine⟨σ',k1,k2,fun i hi=>k3 i ?_,fun j hj=>?_⟩
   · rw[upd_eq];split
     · rfl
     · exact hi
   · rcases List.mem_cons.1 hj with rfl | hj
     · exact k3 _ hdd
     · exact k4 j hj
theorem stepsW_app{r:List IStep}{K K':(Nat→AV)→Sig→Prop}:∀{l:List IStep} {e:Nat→AV} {σ:Sig},stepsW P (l++r) K e σ→(∀e σ,stepsW P r K e σ→K' e σ)→stepsW P l K' e σ
 | [],_,_,h,hk=>hk _ _ h
 | s::l,_,_,h,hk=>IStep.mono (s:=s) h fun _ _ h=>stepsW_app h hk
theorem cTau_spec{H:Hint}{n:Nat}{ops:Array Oper}:∀{l:List Nat} {τ:List DS},cTau P H n ops l=some τ→ ∀d∈τ,∃o,ops[d.i]?=some o∧cStep P H n ops o=some d.st
 | [],τ,h,d,hd=>by simp[cTau] at h;subst h;cases hd
 | i::r,τ,h,d,hd=>by
   simp only[cTau,Option.bind_eq_bind,Option.bind_eq_some_iff] at h;obtain⟨o,ho,s,hs,τ',ht,h⟩:=h;cases h;rcases List.mem_cons.1 hd with rfl | hd
   · exact⟨o,ho,hs⟩
   · exact cTau_spec ht d hd
theorem pairs_spec{ops:Array Oper}{T D:List Nat}{E:List (Nat×Nat)}:∀{τ:List DS},pairsOK ops T D E τ=true→τ.Pairwise (fun a b=>pairX ops T D E a b=true)∧ ∀a∈τ,selfOK ops a=true
 | [],_=>⟨.nil,fun a ha=>by cases ha⟩
 | x::r,h=>by
   simp only[pairsOK,Bool.and_eq_true,List.all_eq_true] at h;obtain⟨h1,h2⟩:=pairs_spec h.2;refine⟨List.pairwise_cons.2 ⟨fun a ha=>h.1.2 a ha,h1⟩,fun a ha=>?_⟩;rcases List.mem_cons.1 ha with rfl | ha
   · exact h.1.1
   · exact h2 a ha
theorem mem_iff{i:Nat}{l:List Nat}:mem i l=true↔i∈l:=⟨mem_true,fun h=>by
 cases hh:mem i l with
 | true=>rfl
 | false=>exact absurd rfl (mem_false hh h)⟩
def Plan.all:Plan→List DS
 | .fin τ=>τ
 | .alt τ _ _ a b=>τ++(a.all++b.all)
theorem Plan.els_all:∀{p:Plan} {d:DS},d∈p.els→d∈p.all
 | .fin τ,d,h=>h
 | .alt τ i j a b,d,h=>by
   rcases List.mem_append.1 (show d∈τ++a.els from h) with h | h
   · exact List.mem_append_left _ h
   · exact List.mem_append_right _ (List.mem_append_left _ (Plan.els_all h))
theorem plan_spec{ops:Array Oper}{T D:List Nat}:∀{p:Plan} {E:List (Nat×Nat)} {seen:List DS},(∀a∈p.all,∀b∈p.all,a.i=b.i→a=b)→planOK ops T D E seen p=true→OKp ops T D E seen p
 | .fin τ,E,seen,hi,h=>by obtain⟨h1,h2⟩:=pairs_spec (show pairsOK ops T D E (seen++τ)=true from h);exact⟨h1,fun a ha=>h2 a (List.mem_append_right _ ha)⟩
 | .alt τ i j a b,E,seen,hi,h=>by
   simp only[planOK,Bool.and_eq_true,List.all_eq_true,Bool.not_eq_true',Bool.or_eq_true] at h;obtain⟨⟨⟨⟨⟨⟨⟨⟨h1,h2⟩,h3⟩,h4⟩,h5⟩,h6⟩,h7⟩,h8⟩,h9⟩:=h;obtain⟨p1,p2⟩:=pairs_spec h4;have ha:∀d∈a.els,d∈(Plan.alt τ i j a b).all:=fun d hd=>List.mem_append_right _ (List.mem_append_left _ (Plan.els_all hd));have hb:∀d∈b.els,d∈(Plan.alt τ i j a b).all:=fun d hd=>List.mem_append_right _ (List.mem_append_right _ (Plan.els_all hd))
   refine⟨plan_spec (fun x hx y hy=>hi x (List.mem_append_right _ (List.mem_append_left _ hx)) y (List.mem_append_right _ (List.mem_append_left _ hy))) h1,
    plan_spec (fun x hx y hy=>hi x (List.mem_append_right _ (List.mem_append_right _ hx)) y (List.mem_append_right _ (List.mem_append_right _ hy))) h2,
    beqf_ne h3,p1,fun d hd=>p2 d (List.mem_append_right _ hd),fun d hd=>⟨beqf_ne (h5 d hd).1,beqf_ne (h5 d hd).2⟩,fun d=>⟨fun hd=>?_,fun hd=>?_⟩,Nat.eq_of_beq_eq_true h6,fun d hd=>?_⟩
   · obtain⟨y,hy,hyd⟩:=List.mem_map.1 (mem_true (h7 d hd));rw[hi d (ha d hd) y (hb y hy) hyd.symm];exact hy
   · obtain⟨y,hy,hyd⟩:=List.mem_map.1 (mem_true (h8 d hd));rw[hi d (hb d hd) y (ha y hy) hyd.symm];exact hy
   · rcases h9 d hd with h | h | h
     · exact .inl (Nat.eq_of_beq_eq_true h)
     · exact .inr (.inl (Nat.eq_of_beq_eq_true h))
     · exact .inr (.inr h)
theorem byIdx_mem{l:List DS}:∀{r:List Nat} {d:DS},d∈byIdx l r→d∈l
 | i::r,d,h=>by
   simp only[byIdx] at h;split at h
   · rename_i x hx;rcases List.mem_cons.1 h with rfl | h
     · exact List.mem_of_find?_eq_some hx
     · exact byIdx_mem h
   · exact byIdx_mem h
theorem badOf_eq{ops:Array Oper}{T D:List Nat}{E:List (Nat×Nat)}:∀{l pre p r:List DS} {i j:Nat},badOf ops T D E pre l=some (p,r,i,j)→p++r=pre++l
 | a::l,pre,p,r,i,j,h=>by
   simp only[badOf] at h;split at h
   · simp only[Option.some.injEq,Prod.mk.injEq] at h;obtain⟨rfl,rfl,_⟩:=h;rfl
   · have:=badOf_eq h;rw[this];simp
theorem mkPlan_mem{sd:Sched}{ops:Array Oper}{T D:List Nat}:∀{k:Nat} {E:List (Nat×Nat)} {pre l:List DS} {d:DS},d∈(mkPlan sd ops T D k E pre l).all→d∈l
 | 0,_,_,_,_,h=>h
 | k+1,E,pre,l,d,h=>by
   simp only[mkPlan] at h;split at h
   · exact h
   · rename_i p r i j hb;have he:=badOf_eq hb;rw[List.nil_append] at he;rw[←he];rcases List.mem_append.1 h with h | h
     · exact List.mem_append_left _ h
     · rcases List.mem_append.1 h with h | h
       · exact List.mem_append_right _ (mkPlan_mem h)
       · exact List.mem_append_right _ (byIdx_mem (mkPlan_mem h))
theorem OKp.inj{ops:Array Oper}{T D:List Nat}{p:Plan}{E:List (Nat×Nat)}{seen:List DS}(hs:∀a∈p.els,selfOK ops a=true)(h:∀a∈p.all,∀b∈p.all,a.i=b.i→a=b):∀x∈p.els,∀y∈p.els,x.i=y.i→x=y:=fun x hx y hy=>h x (Plan.els_all hx) y (Plan.els_all hy)
theorem OKp.self{ops:Array Oper}{T D:List Nat}:∀{p:Plan} {E:List (Nat×Nat)} {seen:List DS},OKp ops T D E seen p→ ∀a∈p.els,selfOK ops a=true
 | .fin τ,E,seen,⟨h1,h2⟩,a,ha=>h2 a ha
 | .alt τ i j u v,E,seen,⟨h1,h2,h3,h4,h5,h9,h6,h7,h8⟩,a,ha=>by
   rcases List.mem_append.1 (show a∈τ++u.els from ha) with h | h
   · exact h5 a h
   · exact OKp.self h1 a h
theorem planIR_PW{T:List Nat}{Q:Post}:∀{p:Plan} {seen:List DS} {e:Nat→AV} {σ:Sig},awp P (planIR T seen p) Q e σ→PW P T (Q .nor) seen p e σ
 | .fin τ,seen,e,σ,h=>emit_DW h
 | .alt τ i j a b,seen,e,σ,h=>DW_imp (fun e σ hk=>⟨planIR_PW hk.1,planIR_PW hk.2⟩) (emit_DW (K:=fun e σ=>awp P (planIR T (seen++τ) a) Q e σ∧awp P (planIR T (seen++τ) b) Q e σ) h)
theorem plan_any{H:Hint}{ops:Array Oper}{p:Plan}{τ:List DS}{l':List Nat}{D:List Nat}{K:(Nat→AV)→Sig→Prop}{Q:Exit→Act→World→Prop}(hY:c.n≤YS)(hτ:cTau P H c.n ops l'=some τ)(hall:∀d∈p.all,d∈τ)(hcov:(List.range ops.size).all (fun i=>mem i (idx p.els))=true)(hlen:p.els.length=ops.size)(hok:planOK ops (tblGo ops ops.size 0 []) D [] [] p=true)(hD:∀d∈D,Nat.blt d YS=true)(hQ:∀G e σ a w,K e σ→St c G e σ a w→Q .normal a w){G:GS}{e:Nat→AV}{σ:Sig}{a:Act}{w:World}(hS:St c G e σ a w)(h:stepsW P (kils D) (PW P (tblGo ops ops.size 0 []) K [] p) e σ):wpAnyIn (FW c.r) 0 P .any ops Q ops.size (Array.replicate ops.size false) a {w with drawn:=w.drawn+1 }:=by
 have hinj:∀a∈p.all,∀b∈p.all,a.i=b.i→a=b:=by intro a ha b hb hab;obtain⟨o,h1,h2⟩:=cTau_spec hτ a (hall a ha);obtain⟨o',h3,h4⟩:=cTau_spec hτ b (hall b hb);rw[←hab,h1] at h3;cases h3;rw[h2] at h4;have h5:a.st=b.st:=Option.some.inj h4;obtain⟨ai,as⟩:=a;obtain⟨bi,bs⟩:=b;simp only at hab h5;rw[hab,h5]
 have hop:=plan_spec hinj hok;have hS':=hS.stepY (StepOK.drew (w':={w with drawn:=w.drawn+1 }) hS.inv rfl rfl rfl rfl) (.refl _);obtain⟨σ',k1,k2,_,k4⟩:=kil_steps' (fun d hd=>blt_ne (hD d hd)) h hS';refine draw_main hY hQ ops.size p _ G e σ' a _ hlen hop (OKp.self hop) (by simp) (fun i hi=>?_) (fun d hd=>cTau_spec hτ d (hall d (Plan.els_all hd))) (fun i hi=>?_) (fun y hy k5 k6=>k4 _ (mem_true k6)) k2 k1 (OKp.inj (OKp.self hop) hinj (T:=tblGo ops ops.size 0 []) (D:=D) (E:=[]) (seen:=[]))
 · constructor
   · intro _;rw[List.all_eq_true] at hcov;obtain⟨y,hy,h⟩:=List.mem_map.1 (mem_true (hcov i (List.mem_range.2 hi)));exact⟨y,hy,h⟩
   · intro _;simp[hi]
 · have:=getD_lt hi;simp at this;simp[this] at hi
theorem draw_sound{H:Hint}{id:Nat}{ops:Array Oper}{ir:IR}{Q:Exit→Act→World→Prop}{Q':Post}(hY:c.n≤YS)(hc:cDraws P H c.n ops=some ir)(hQ:∀G e σ a w,Q' .nor e σ→St c G e σ a w→Q .normal a w){G:GS}{e:Nat→AV}{σ:Sig}{a:Act}{w:World}(hS:St c G e σ a w)(h:awp P ir Q' e σ):(Code.region id ops true).wpIn (FW c.r) 0 P Q a w:=by
 unfold cDraws at hc;split at hc
 · rename_i sts hd;cases hc;simp only[cDraw,Option.bind_eq_bind,Option.bind_eq_some_iff] at hd;obtain⟨l,hl,τ,hτ,hc⟩:=hd;split at hc
   · rename_i hcond;cases hc;simp only[Bool.and_eq_true,tauOK] at hcond;obtain⟨hm,⟨hall,hpair⟩,hDl⟩:=hcond;rw[List.all_eq_true] at hDl;have hlen:τ.length=ops.size:=by
      obtain⟨hp,hs⟩:=pairs_spec hpair;have hnd:(τ.map (·.i)).Nodup:=by rw[List.Nodup,List.pairwise_map];exact hp.imp fun h=>(pair_ne h).1
      have hsub:∀i∈τ.map (·.i),i<ops.size:=fun i hi=>by obtain⟨d,hd,rfl⟩:=List.mem_map.1 hi;obtain⟨o,ho,_⟩:=cTau_spec hτ d hd;exact (Array.getElem?_eq_some_iff.1 ho).1
      have hperm:(τ.map (·.i)).Perm (List.range ops.size):=by rw[List.perm_ext_iff_of_nodup hnd List.nodup_range];intro i;rw[List.mem_range];refine⟨hsub i,fun hi=>?_⟩;rw[List.all_eq_true] at hall;exact mem_true (hall i (List.mem_range.2 hi))
      have:=hperm.length_eq
      simpa using this
     refine wpIn_region_any hm (plan_any (p:= .fin τ) (K:=Q' .nor) hY hτ (fun d hd=>hd) hall hlen hpair hDl hQ hS ?_);exact stepsW_app (stepsW_mono (fun _ _ h=>h) h) fun _ _ h=>emit_DW h
   · cases hc
 · have fin:∀sd:Sched,cPlanS sd P H c.n ops=some ir→(Code.region id ops true).wpIn (FW c.r) 0 P Q a w:=by
    intro sd hc;simp only[cPlanS,Option.bind_eq_bind,Option.bind_eq_some_iff] at hc;obtain⟨l,hl,τ,hτ,hc⟩:=hc;split at hc
    · rename_i hcond;cases hc;simp only[Bool.and_eq_true] at hcond;obtain⟨hm,⟨⟨hall,hlen⟩,hok⟩,hDl⟩:=hcond;rw[List.all_eq_true] at hDl;refine wpIn_region_any hm (plan_any (K:=Q' .nor) hY hτ (fun d hd=>mkPlan_mem hd) hall (Nat.eq_of_beq_eq_true hlen) hok hDl hQ hS ?_);exact stepsW_mono (fun _ _ h=>planIR_PW h) h
    · cases hc
   unfold cPlan at hc;split at hc
   · rename_i l hl;cases hc;exact fin sched hl
   · exact fin schedE hc
end Go.Abs
