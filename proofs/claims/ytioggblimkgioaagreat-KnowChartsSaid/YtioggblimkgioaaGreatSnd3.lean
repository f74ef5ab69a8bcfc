/- A part of the layer of abstract values: the program is read into steps over values, each step is sound, and a walk over the steps is a proof of the program. No condition. -/
import Derived.Test.YtioggblimkgioaaGreatSnd2
set_option linter.unusedVariables false
set_option linter.unusedSimpArgs false
namespace Go.Abs
variable {P:Program} {c:Ctx P}
theorem Kok.putD{K:Nat→Nat→Option Value}{w:World}(h:Kok K w){l:Nat}{ds}(hl:w.heap[l]?=some (.deferred ds))(o:Obj):Kok K (w.putObj l o):=
 h.other fun b _ v hv=>World.putObj_heap_other (by rintro rfl;obtain⟨_,hc,hpl⟩:=h.cells hv;rw[hl] at hc;cases hc;cases hpl)
theorem Inv.putD{G:GS}{σ:Sig}{w:World}(h:Inv G σ w){l:Nat}{ds}(hl:w.heap[l]?=some (.deferred ds))(o:Obj):Inv G σ (w.putObj l o):=
 h.other (fun _ _ _ h=>h) (h.kok.putD hl o) fun b hb=>⟨World.putObj_heap_other (by rintro rfl;obtain⟨_,hc,hpl⟩:=Foot.cells h hb;rw[hl] at hc;cases hc;cases hpl),rfl⟩
theorem YI.putD{Y:Option (YC P)}{T:Nat→Prop}{σ:Sig}{K:Nat→Nat→Option Value}{w:World}(h:YI Y T σ K w)(hk:Kok K w){l:Nat}{ds}(hl:w.heap[l]?=some (.deferred ds))(o:Obj)(hT:¬T l):YI Y T σ K (w.putObj l o):=by
 unfold YI at*;cases Y with
 | none=>exact h
 | some y=> obtain⟨s,h1,h2⟩:=h;exact⟨s,h1,y.stab _ _ _ _ _ _ h2 (hk.putD hl o) ((Ext.put K w l o).weak fun b _ hb=>by subst hb;exact hT)⟩
def ROut{P:Program}(Y:Option (YC P))(T:Nat→Prop)(G:GS)(σ:Sig)(w:World)(R:AV→Sig→Prop)(e:Ending)(w':World):Prop:=
 ∃v av σ' G' T',e= .returned v∧Inv G' σ' w'∧Rel G' av v∧R av σ'∧G.le G'∧Ext (fun b=>Foot G σ b∨T b) G.K w G'.K w'∧
  (∀b,Foot G' σ' b→Foot G σ b∨w.heap.size≤b)∧YI Y T' σ' G'.K w'∧(∀b,Foot G' σ' b→ ¬T' b)∧ ∀b,T' b→T b∨w.heap.size≤b
def RawC(P:Program)(f:Nat)(args:List AV)(σ:Sig)(R:AV→Sig→Prop):Prop:=
 okFn P f=true∧ ∀(Y:Option (YC P)) (T:Nat→Prop) (G:GS) (w:World) (vals:List Value),Inv G σ w→YI Y T σ G.K w→(∀b,Foot G σ b→ ¬T b)→RelL G args vals→
  Calls P f vals.toArray w (ROut Y T G σ w R)
def EndS(res:List (Nat×Option (Nat×Bool)))(R:AV→Sig→Prop):Post:=fun x e σ=>match x with
 | .ex _=>False
 | _=>endW (resV e σ res) (fun av=>R av σ)
theorem leaves_of{fn:Func}{irs:List (Nat×Option (Nat×Bool))}{R:AV→Sig→Prop}{R':Ending→World→Prop}(hres:cRes P fn.results.toList=some irs){ax:AX}(hax:∀j,ax≠ .ex j){G:GS}{e:Nat→AV}{σ:Sig}(hq:EndS irs R ax e σ)(hfin:∀v av w T,Inv G σ w→Rel G av v→R av σ→Ext (fun b=>c.F b∨c.T b) c.G0.K c.w0 G.K w→YI c.Y T σ G.K w→(∀b,Foot G σ b→ ¬T b)→(∀b,T b→c.T b∨c.w0.heap.size≤b)→R' (.returned v) w):
  ∀(marks:List Nat) (a:Act) (w:World),a.defers=marks.map markD→St c G e σ a w→LeavesInM (FW none) 0 P fn a.tmps R' a.defers .returning w
 | [],a,w,hd,hS=>by
   rw[hd];have hq':endW (resV e σ irs) (fun av=>R av σ):=by
    cases ax with
    | ex j=>exact absurd rfl (hax j)
    | nor=>exact hq
    | ret=>exact hq
   unfold endW at hq';split at hq'
   · rename_i p l hl;obtain⟨vs,hrun,hrel⟩:=res_sound hS hres hl hq'.1
     have hm:(fn.results.mapM (fun
      | .tmp t=>pure (a.tmps.getD t undef)
      | .cell x t=>do loadVar t (←asAddr (a.tmps.getD x undef)):ResultVar→Sem Value)).run P w= .ok vs.toArray w:=by
      rw[Array.mapM_eq_mapM_toList,Sem.run_map];exact Eq.trans (congrArg (fun r=>Result.andThen r fun a w'=>Result.ok a.toArray w') hrun) rfl
     obtain⟨T,k1,k2,k3,_⟩:=hS.terr;refine⟨_,?_,hfin _ (tupV l) w T hS.inv (tup_rel hrel) hq'.2 hS.ext k1 k2 k3⟩;unfold results;rw[Sem.run_bind];exact Eq.trans (congrArg (fun r=>Result.andThen r _) hm) rfl
   · exact hq'.elim
 | r::marks,a,w,hd,hS=>by
   obtain⟨T,k1,k2,k3,ms,h4,h5,h6⟩:=hS.terr;have hms:ms=r::marks:=by
    have:ms.map markD=(r::marks).map markD:=by rw[←h4,hd]
    exact (List.map_inj_right (f:=markD) (fun a b h=>by simp[markD] at h;exact h)).1 this
   subst hms;obtain⟨q1,q2,q3⟩:=h6 r (by simp);obtain⟨hn1,hn2⟩:=List.nodup_cons.1 h5;rw[hd];refine⟨by simp,.inl ⟨r,_,rfl,run_takeDeferred q1,?_⟩⟩;refine leaves_of hres hax hq hfin marks {a with defers:=marks.map markD } (w.putObj r (.deferred none)) rfl ?_;have hw0:c.w0.heap.size≤w.heap.size:=hS.ext.size;have hC:=hS.toStC.call (T:=T) (X:=fun b=>b=r) k3 (fun b hb=>by subst hb;exact q2) (hS.inv.putD q1 (.deferred none)) (.refl G) ((Ext.put G.K w r (.deferred none)).weak fun b _ h=> .inr (.inr h)) fun b hb=> .inl hb
   exact {env:=hC.env,size:=hC.size,le:=hC.le,inv:=hC.inv,ext:=hC.ext,own:=hC.own
          rd:=fun hr=>by have:=hS.rd hr;rw[hd] at this;cases this
          terr:=⟨T,k1.putD hS.inv.kok q1 _ q3,k2,k3,marks,rfl,hn2,fun r' hr'=>by
           obtain⟨v1,v2,v3⟩:=h6 r' (by simp[hr']);exact⟨by rw[World.putObj_heap_other (by rintro rfl;exact hn1 hr')];exact v1,v2,v3⟩⟩ }
theorem RawC.of_awp{H:Hint}{f:Nat}{fn:Func}{fi:IFn}{args:List AV}{σ:Sig}{R:AV→Sig→Prop}(hf:P.funcs[f]?=some fn)(hok:okFn P f=true)(hc:cFn P H fn=some fi)(hlen:Nat.ble args.length fi.n=true)(h:awp P fi.body (EndS fi.res R) (envOf args) σ):RawC P f args σ R:=by
 refine⟨hok,fun Y T G w vals hI hY hT hr=>?_⟩;simp only[cFn,Option.bind_eq_bind,Option.bind_eq_some_iff] at hc;obtain⟨code,hcode,irs,hres,ir,hir,hc⟩:=hc;split at hc
 case isFalse=>cases hc
 rename_i hYS;cases hc;have hlen':=Nat.le_of_ble_eq_true hlen
 let c:Ctx P:=⟨fn.ntmps,none,Y,Foot G σ,T,G,w⟩
 refine (callsIn_wide (n:=0)).1 (callsIn_of_wp_marks (F:=Fence.wide) hf hcode trivial ?_);have hl:=hr.length;have hS:St c G (envOf args) σ {tmps:=vals.toArray++Array.replicate (fn.ntmps-vals.toArray.size) undef,defers:=[] } w:=by
  refine {env:=fun t=>?_,size:=?_,le:= .refl G,inv:=hI,ext:= .refl _ _ _,own:=fun b hb=> .inl hb,rd:=fun _=>rfl,terr:=⟨T,hY,hT,fun b hb=> .inl hb,[],rfl,List.nodup_nil,by simp⟩ }
  · unfold envOf;rw[List.getD_eq_getElem?_getD,Array.getD_eq_getD_getElem?,Array.getElem?_append];cases ha:args[t]? with
    | none=>exact trivial
    | some x=>
      obtain⟨v,hv,hx⟩:=hr.get t x ha;have hlt:=(List.getElem?_eq_some_iff.1 hv).1;rw[if_pos (by simpa using hlt)];simp only[Option.getD_some]
      simpa[hv] using hx
  · simp only[Array.size_append,Array.size_replicate,List.size_toArray];simp only at hlen';show _=fn.ntmps
    omega
 refine wpIn_mono (code_sound (H:=H) (Nat.le_of_ble_eq_true hYS) hir c _ G _ σ _ w rfl (fun h=>by cases h) h hS) fun x a' w' hx=>?_;obtain⟨ax,G',e',σ',hax,hq,hS'⟩:=hx;obtain⟨_,_,_,_,marks,hd,_,_⟩:=hS'.terr;have fin:(∀j,ax≠ .ex j)→LeavesInM (FW none) 0 P fn a'.tmps (ROut Y T G σ w R) a'.defers .returning w':=fun hax=>leaves_of (c:=c) hres hax hq (fun v av w2 T2 k1 k2 k3 k4 k5 k6 k7=>⟨v,av,σ',G',T2,rfl,k1,k2,k3,hS'.le,k4,hS'.own,k5,k6,k7⟩) marks a' w' hd hS';cases x<;>simp only[toAX] at hax<;>cases hax
 · exact fin (by simp)
 · exact hq.elim
 · exact fin (by simp)
def Sub(a b:AV):Prop:=∀G v,Rel G a v→Rel G b v
theorem RawC.sub{f:Nat}{args:List AV}{σ:Sig}{R R':AV→Sig→Prop}(h:RawC P f args σ R)(hm:∀a s,R a s→ ∃a',Sub a a'∧R' a' s):RawC P f args σ R':=
 ⟨h.1,fun Y T G w vals a b c d=>(h.2 Y T G w vals a b c d).mono fun e w' ⟨v,av,σ',G',T',k1,k2,k3,k4,k5⟩=>by
   obtain⟨a',hs,hr⟩:=hm _ _ k4;exact⟨v,a',σ',G',T',k1,k2,hs _ _ k3,hr,k5⟩⟩
mutual
def untag:AV→AV
 | .slc sz es _=> .slc sz es .non
 | .tup l=> .tup (untagL l)
 | .agg l=> .agg (untagL l)
 | a=>a
def untagL:List AV→List AV
 | []=>[]
 | a::r=>untag a::untagL r
end
mutual
theorem untag_sub:∀a:AV,Sub a (untag a)
 | .slc sz es t,G,v,h=>h.imp (fun h=>⟨h.1.weak,h.2⟩) fun⟨b,o,cap,h1,h2,h3,h4⟩=>⟨b,o,cap,h1,h2,h3,trivial⟩
 | .tup l,G,v,⟨vs,h1,h2⟩=>⟨vs,h1,untagL_sub l h2⟩
 | .agg l,G,v,⟨vs,h1,h2⟩=>⟨vs,h1,untagL_sub l h2⟩
 | .junk,_,_,h | .int _ _,_,_,h | .bool _,_,_,h | .str _,_,_,h | .nsl,_,_,h | .npt,_,_,h | .nfn,_,_,h | .nif,_,_,h | .nmp,_,_,h
 | .msl _ _ _ _,_,_,h | .pin _,_,_,h | .ref _ _ _,_,_,h | .clo _ _ _,_,_,h | .ifc _ _,_,_,h | .map _ _,_,_,h | .fmp _ _,_,_,h | .itr _ _,_,_,h | .mpv _ _,_,_,h | .itv _ _ _,_,_,h | .sub _ _ _ _ _,_,_,h=>h
theorem untagL_sub{G:GS}:∀(l:List AV) {vs:List Value},RelL G l vs→RelL G (untagL l) vs
 | [],_,h=>h
 | a::r,_,⟨v,t,h1,h2,h3⟩=>⟨v,t,h1,untag_sub a _ _ h2,untagL_sub r h3⟩
end
end Go.Abs
namespace Go.Abs
variable {P:Program}
def lk:List (Nat×Nat)→Nat→Option Nat
 | [],_=>none
 | (a,b)::r,i=>match Nat.beq a i with
   | true=>some b
   | false=>lk r i
def renT(ρ:List (Nat×Nat)):Tag→Tag
 | .own i g=>match lk ρ i with
   | some j=> .own j g
   | none=> .non
 | .full=> .non
 | .non=> .non
mutual
def ren(ρ:List (Nat×Nat)):AV→AV
 | .slc sz es t=> .slc sz es (renT ρ t)
 | .msl i g n sz=>match lk ρ i with
   | some j=> .msl j g n sz
   | none=> .junk
 | .ref i g o=>match lk ρ i with
   | some j=> .ref j g o
   | none=> .junk
 | .agg c=> .agg (renL ρ c)
 | .tup c=> .tup (renL ρ c)
 | .clo f a b=> .clo f (renL ρ a) (renL ρ b)
 | .ifc t v=> .ifc t (ren ρ v)
 | .map i g=>match lk ρ i with
   | some j=> .map j g
   | none=> .junk
 | .itr i g=>match lk ρ i with
   | some j=> .itr j g
   | none=> .junk
 | .sub i g o n s=>match lk ρ i with
   | some j=> .sub j g o n s
   | none=> .junk
 | a=>a
def renL(ρ:List (Nat×Nat)):List AV→List AV
 | []=>[]
 | a::r=>ren ρ a::renL ρ r
end
def renR(ρ:List (Nat×Nat)):Res→Res
 | .row c=> .row (renL ρ c)
 | .dead=> .dead
 | .yld _ _=> .dead
def flipL:List (Nat×Nat)→List (Nat×Nat)
 | []=>[]
 | (a,b)::r=>(b,a)::flipL r
def sg:List (Nat×(Nat×Res))→Sig
 | [],_=>(0,.dead)
 | (a,x)::r,i=>match Nat.beq a i with
   | true=>x
   | false=>sg r i
def pull(ρ:List (Nat×Nat))(σ:Sig):List (Nat×Nat)→List (Nat×(Nat×Res))
 | []=>[]
 | (a,b)::r=>(a,((σ b).1,renR ρ (σ b).2))::pull ρ σ r
def push(ρ:List (Nat×Nat))(σ0:Sig):List (Nat×Nat)→Sig→Sig
 | [],σ=>σ
 | (a,b)::r,σ=>upd (push ρ σ0 r σ) b ((σ0 a).1,renR ρ (σ0 a).2)
structure RenOK (ρ:List (Nat×Nat)) (G G':GS):Prop where
 K:∀b o v,G.K b o=some v→G'.K b o=some v
 m:∀i j,lk ρ i=some j→ ∀g x,G.m i g=some x→G'.m j g=some x
theorem RenOK.pl{ρ:List (Nat×Nat)}{G G':GS}(h:RenOK ρ G G'):(GS.pure G.K).le G':=⟨h.K,fun _ _ _ h=>by cases h⟩
mutual
theorem ren_rel{ρ:List (Nat×Nat)}{G G':GS}(h:RenOK ρ G G'):∀{a:AV} {v:Value},Rel G a v→Rel G' (ren ρ a) v
 | .junk,_,_=>trivial
 | .int _ _,_,hh=>hh
 | .bool _,_,hh=>hh
 | .str _,_,hh=>hh
 | .nsl,_,hh=>hh
 | .npt,_,hh=>hh
 | .nfn,_,hh=>hh
 | .nif,_,hh=>hh
 | .nmp,_,hh=>hh
 | .slc sz es .non,_,hh=>hh.imp (fun h=>⟨h.1.weak,h.2⟩) fun⟨b,o,cap,h1,h2,h3,h4⟩=>⟨b,o,cap,h1,h2,h3.toPure.mono h.pl,trivial⟩
 | .slc sz es .full,_,hh=>hh.imp (fun h=>⟨h.1.weak,h.2⟩) fun⟨b,o,cap,h1,h2,h3,h4⟩=>⟨b,o,cap,h1,h2,h3.toPure.mono h.pl,trivial⟩
 | .slc sz es (.own i g),v,hh=>by
   simp only[ren,renT];split
   · rename_i j hj;refine hh.imp (fun h=>⟨h.1.own,h.2⟩) fun⟨b,o,cap,h1,h2,h3,h4⟩=>⟨b,o,cap,h1,h2,h3.toPure.mono h.pl,?_⟩;exact Or.imp (h.m _ _ hj _ _) id h4
   · exact hh.imp (fun h=>⟨h.1.weak,h.2⟩) fun⟨b,o,cap,h1,h2,h3,h4⟩=>⟨b,o,cap,h1,h2,h3.toPure.mono h.pl,trivial⟩
 | .msl i g n sz,v,hh=>by
   simp only[ren];split
   · rename_i j hj;obtain⟨b,cap,h1,h2,h3⟩:=hh;exact⟨b,cap,h1,h2,h.m _ _ hj _ _ h3⟩
   · trivial
 | .pin _,_,⟨b,o,h1,h2⟩=>⟨b,o,h1,h2.toPure.mono h.pl⟩
 | .ref i g o,v,hh=>by
   simp only[ren];split
   · rename_i j hj;obtain⟨b,lim,h1,h2⟩:=hh;exact⟨b,lim,h1,h.m _ _ hj _ _ h2⟩
   · trivial
 | .agg _,_,⟨vs,h1,h2⟩=>⟨vs,h1,renL_rel h h2⟩
 | .tup _,_,⟨vs,h1,h2⟩=>⟨vs,h1,renL_rel h h2⟩
 | .clo _ _ _,_,⟨f,c,h1,h2,h3⟩=>⟨f,c,h1,renL_rel h h2,renL_rel h h3⟩
 | .ifc _ _,_,⟨y,h1,h2⟩=>⟨y,h1,ren_rel h h2⟩
 | .map i g,v,hh=>by
   simp only[ren];split
   · rename_i j hj;obtain⟨b,h1,h2⟩:=hh;exact⟨b,h1,h.m _ _ hj _ _ h2⟩
   · trivial
 | .fmp _ _,_,⟨b,ks,vs,h1,h2,h3,h4⟩=>⟨b,ks,vs,h1,h.K _ _ _ h2,RelL.mono (GS.pure_mono h.pl) h3,RelL.mono (GS.pure_mono h.pl) h4⟩
 | .itr i g,v,hh=>by
   simp only[ren];split
   · rename_i j hj;obtain⟨b,h1,h2⟩:=hh;exact⟨b,h1,h.m _ _ hj _ _ h2⟩
   · trivial
 | .mpv _ _,_,hh=>hh.elim
 | .itv _ _ _,_,hh=>hh.elim
 | .sub i g o n s,v,hh=>by
   simp only[ren];split
   · rename_i j hj;obtain⟨b,o',cap,lim,h1,h2,h3,h4⟩:=hh;exact⟨b,o',cap,lim,h1,h2,h.m _ _ hj _ _ h3,h4⟩
   · trivial
theorem renL_rel{ρ:List (Nat×Nat)}{G G':GS}(h:RenOK ρ G G'):∀{l:List AV} {vs:List Value},RelL G l vs→RelL G' (renL ρ l) vs
 | [],_,hh=>hh
 | _::_,_,⟨v,r,h1,h2,h3⟩=>⟨v,r,h1,ren_rel h h2,renL_rel h h3⟩
end
theorem ObjRel.ren{ρ:List (Nat×Nat)}{G G':GS}(hK:∀b o v,G.K b o=some v→G'.K b o=some v){c:List AV}{o:Obj}(h:ObjRel G c o):ObjRel G' (renL ρ c) o:=by
 have hle:(GS.pure G.K).le (GS.pure G'.K):=⟨hK,fun _ _ _ h=>h⟩;unfold ObjRel at h;split at h
 · obtain⟨ks,vs,h1,h2,h3,h4⟩:=h;exact⟨ks,vs,h1,RelL.mono hle h2,RelL.mono hle h3,h4⟩
 · rcases h with h | ⟨b,ks,vs,seen,h1,h2,h3,h4,h5,h6⟩
   · exact .inl h
   · exact .inr ⟨b,ks,vs,seen,h1,hK _ _ _ h2,h3,RelL.mono hle h4,RelL.mono hle h5,h6.imp id fun⟨j,k1,k2,k3⟩=>⟨j,k1,k2,RelL.mono hle k3⟩⟩
 · exact h.elim
theorem renL_len{ρ:List (Nat×Nat)}:∀l:List AV,(renL ρ l).length=l.length
 | []=>rfl
 | _::l=>by simp[renL,renL_len l]
theorem renL_get{ρ:List (Nat×Nat)}:∀(l:List AV) (j:Nat),(renL ρ l)[j]?=(l[j]?).map (ren ρ)
 | [],_=>rfl
 | _::_,0=>rfl
 | _::l,j+1=>by simpa[renL] using renL_get l j
theorem nbeq{a b:Nat}:Nat.beq a b=true↔a=b:=⟨Nat.eq_of_beq_eq_true,fun h=>by subst h;simp⟩
theorem nbeq_f{a b:Nat}:Nat.beq a b=false↔a≠b:=by
 cases h:Nat.beq a b with
 | true=>simp[nbeq.1 h]
 | false=>exact⟨fun _ hab=>(by rw[nbeq.2 hab] at h;cases h),fun _=>rfl⟩
theorem look_cons{a b i:Nat}{r:List (Nat×Nat)}:lk ((a,b)::r) i=if a=i then some b else lk r i:=by
 simp only[lk];by_cases h:a=i
 · rw[nbeq.2 h,if_pos h]
 · rw[nbeq_f.2 h,if_neg h]
structure OneOne (ρ:List (Nat×Nat)):Prop where
 a:(ρ.map (·.1)).Nodup
 b:(ρ.map (·.2)).Nodup
theorem look_mem{i j:Nat}:∀{ρ:List (Nat×Nat)},lk ρ i=some j→(i,j)∈ρ
 | (a,b)::r,h=>by
   rw[look_cons] at h;split at h
   · rename_i hi;cases h;subst hi;simp
   · exact List.mem_cons_of_mem _ (look_mem h)
theorem mem_look{i j:Nat}:∀{ρ:List (Nat×Nat)},(ρ.map (·.1)).Nodup→(i,j)∈ρ→lk ρ i=some j
 | (a,b)::r,hn,h=>by
   rw[look_cons];rw[List.map_cons,List.nodup_cons] at hn;rcases List.mem_cons.1 h with h | h
   · cases h;rw[if_pos rfl]
   · rw[if_neg]
     · exact mem_look hn.2 h
     · rintro rfl;exact hn.1 (List.mem_map.2 ⟨_,h,rfl⟩)
theorem mem_flip{i j:Nat}:∀{ρ:List (Nat×Nat)},(i,j)∈ρ↔(j,i)∈flipL ρ
 | []=>by simp[flipL]
 | (a,b)::r=>by simp only[flipL,List.mem_cons,Prod.mk.injEq,mem_flip (ρ:=r)];exact⟨fun h=>h.imp And.symm id,fun h=>h.imp And.symm id⟩
theorem flip_fst:∀(ρ:List (Nat×Nat)),(flipL ρ).map (·.1)=ρ.map (·.2)
 | []=>rfl
 | (a,b)::r=>by simp[flipL,flip_fst r]
theorem OneOne.look_flip{ρ:List (Nat×Nat)}(h:OneOne ρ){i j:Nat}:lk (flipL ρ) j=some i↔lk ρ i=some j:=
 ⟨fun hl=>mem_look h.a (mem_flip.2 (look_mem hl)),fun hl=>mem_look (by rw[flip_fst];exact h.b) (mem_flip.1 (look_mem hl))⟩
theorem push_get{ρ:List (Nat×Nat)}{σ0 σ:Sig}:∀{l:List (Nat×Nat)},(l.map (·.2)).Nodup→ ∀j,push ρ σ0 l σ j=match lk (flipL l) j with
  | some i=>((σ0 i).1,renR ρ (σ0 i).2)
  | none=>σ j
 | [],_,j=>rfl
 | (a,b)::r,hn,j=>by
   rw[List.map_cons,List.nodup_cons] at hn;simp only[push,flipL,look_cons,upd_eq];by_cases h:j=b
   · subst h;simp
   · rw[if_neg h,if_neg (Ne.symm h)];exact push_get hn.2 j
theorem pull_get{ρ:List (Nat×Nat)}{σ:Sig}:∀{l:List (Nat×Nat)} (i:Nat),sg (pull ρ σ l) i=match lk l i with
  | some j=>((σ j).1,renR ρ (σ j).2)
  | none=>(0,.dead)
 | [],i=>rfl
 | (a,b)::r,i=>by
   simp only[pull,sg,look_cons];by_cases h:a=i
   · rw[nbeq.2 h,if_pos h]
   · rw[nbeq_f.2 h,if_neg h];exact pull_get i
end Go.Abs
namespace Go.Abs
variable {P:Program}
structure LiftIn (ρ:List (Nat×Nat)) (σ σ0:Sig):Prop where
 one:OneOne ρ
 row:∀i c,(σ0 i).2= .row c→ ∃j c',lk ρ i=some j∧σ j=((σ0 i).1,.row c')
def G0of(ρ:List (Nat×Nat))(G:GS):GS:=⟨G.K,fun i g=>match lk ρ i with | some j=>G.m j g | none=>none⟩
def G1of(ρ:List (Nat×Nat))(G G0':GS):GS:=⟨G0'.K,fun j g=>match lk (flipL ρ) j with | some i=>G0'.m i g | none=>G.m j g⟩
theorem LiftIn.foot{ρ:List (Nat×Nat)}{σ σ0:Sig}{G:GS}(h:LiftIn ρ σ σ0){b:Nat}(hb:Foot (G0of ρ G) σ0 b):∃i j x,lk ρ i=some j∧live σ j∧G.m j (σ j).1=some (b,x):=by obtain⟨i,x,⟨c,hc⟩,hm⟩:=hb;obtain⟨j,c',hj,hs⟩:=h.row i c hc;simp only[G0of,hj] at hm;exact⟨i,j,x,hj,⟨c',by rw[hs]⟩,by rw[hs];exact hm⟩
theorem lift_inv{ρ:List (Nat×Nat)}{σ σ0 σ0' σ':Sig}{G G0':GS}{w w':World}{T0:Nat→Prop}(hL:LiftIn ρ σ σ0)(hI:Inv G σ w)(hI':Inv G0' σ0' w')(hle:(G0of ρ G).le G0')(hext:Ext (fun b=>Foot (G0of ρ G) σ0 b∨T0 b) G.K w G0'.K w')(hown:∀b,Foot G0' σ0' b→Foot (G0of ρ G) σ0 b∨w.heap.size≤b)(hT0:∀b,Foot G σ b→ ¬T0 b)(h1:∀i j,lk ρ i=some j→σ' j=((σ0' i).1,renR ρ (σ0' i).2))(h2:∀j c,lk (flipL ρ) j=none→(σ' j).2= .row c→σ' j=σ j):
  Inv (G1of ρ G G0') σ' w'∧G.le (G1of ρ G G0')∧RenOK ρ G0' (G1of ρ G G0')∧ ∀b,Foot (G1of ρ G G0') σ' b→Foot G σ b∨w.heap.size≤b:=by
 have hle':G.le (G1of ρ G G0'):=by
  refine⟨fun b o v h=>hle.K b o v h,fun j g x h=>?_⟩;simp only[G1of];cases hj:lk (flipL ρ) j with
  | none=>exact h
  | some i=> refine hle.m i g x ?_;simp only[G0of,hL.one.look_flip.1 hj];exact h
 have hren:RenOK ρ G0' (G1of ρ G G0'):=by refine⟨fun _ _ _ h=>h,fun i j hij g x h=>?_⟩;simp only[G1of,hL.one.look_flip.2 hij];exact h
 have hcase:∀j c,(σ' j).2= .row c→(∃i c0,lk ρ i=some j∧(σ0' i).2= .row c0∧c=renL ρ c0∧(σ' j).1=(σ0' i).1)∨(lk (flipL ρ) j=none∧σ' j=σ j):=by
  intro j c hc;cases hj:lk (flipL ρ) j with
  | none=>exact .inr ⟨rfl,h2 j c hj hc⟩
  | some i=>
    have hij:=hL.one.look_flip.1 hj;have:=h1 i j hij;rw[this] at hc;cases hs:(σ0' i).2 with
    | row c0=>rw[hs] at hc;simp only[renR] at hc;cases hc;exact .inl ⟨i,c0,hij,hs,rfl,by rw[this]⟩
    | dead=>rw[hs] at hc;cases hc
    | yld l s=>rw[hs] at hc;cases hc
 have hm1:∀i j g,lk ρ i=some j→(G1of ρ G G0').m j g=G0'.m i g:=by intro i j g h;simp only[G1of,hL.one.look_flip.2 h]
 have hm2:∀j g,lk (flipL ρ) j=none→(G1of ρ G G0').m j g=G.m j g:=by intro j g h;simp only[G1of,h]
 have hsep:∀j b x,lk (flipL ρ) j=none→live σ j→G.m j (σ j).1=some (b,x)→ ¬(Foot (G0of ρ G) σ0 b∨T0 b)∧b<w.heap.size:=by
  intro j b x hj hlv hm;have hf:Foot G σ b:=⟨j,x,hlv,hm⟩;refine⟨?_,hI.lt hf⟩;rintro (hb | hb)
  · obtain⟨i',j',x',k1,k2,k3⟩:=hL.foot hb;refine hI.dist j j' b _ _ ?_ hlv k2 hm k3;rintro rfl;rw[hL.one.look_flip.2 k1] at hj;cases hj
  · exact hT0 b hf hb
 have hfoot:∀b,Foot (G1of ρ G G0') σ' b→Foot G σ b∨w.heap.size≤b:=by
  rintro b ⟨j,x,⟨c,hc⟩,hm⟩;rcases hcase j c hc with⟨i,c0,k1,k2,_,k4⟩ | ⟨k1,k2⟩
  · rw[k4,hm1 _ _ _ k1] at hm;rcases hown b ⟨i,x,⟨c0,k2⟩,hm⟩ with h | h
    · obtain⟨i',j',x',q1,q2,q3⟩:=hL.foot h;exact .inl ⟨j',x',q2,q3⟩
    · exact .inr h
  · rw[k2,hm2 _ _ k1] at hm;exact .inl ⟨j,x,⟨c,by rw[←k2];exact hc⟩,hm⟩
 refine⟨⟨hI'.kok,fun j c hc=>?_,fun j=>?_,fun j k b x y hjk hj hk hxj hyk=>?_⟩,hle',hren,hfoot⟩
 · rcases hcase j c hc with⟨i,c0,k1,k2,rfl,k4⟩ | ⟨k1,k2⟩
   · rw[k4];rcases hI'.res i c0 k2 with⟨h,hn⟩ | ⟨b,e',lim,vals,T',hR⟩ | ⟨b,hO⟩
     · subst h;exact .inl ⟨rfl,by rw[hm1 _ _ _ k1];exact hn⟩
     rotate_left
     · obtain⟨o,ho,hrel⟩:=hO.obj;exact .inr (.inr ⟨b,by rw[hm1 _ _ _ k1];exact hO.m,hO.K,o,ho,hrel.ren fun _ _ _ h=>h⟩)
     · refine .inr (.inl ⟨b,e',lim,vals,T',⟨by rw[hm1 _ _ _ k1];exact hR.m,hR.obj,by rw[renL_len];exact hR.fit,hR.lim,hR.K,fun q a hq=>?_⟩⟩);rw[renL_get,Option.map_eq_some_iff] at hq;obtain⟨a0,hq,rfl⟩:=hq;obtain⟨v,hv,hr⟩:=hR.rel q a0 hq;exact⟨v,hv,ren_rel hren hr⟩
   · rw[k2] at hc ⊢;rcases hI.res j c hc with⟨h,hn⟩ | ⟨b,e',lim,vals,T',hR⟩ | ⟨b,hO⟩
     · exact .inl ⟨h,by rw[hm2 _ _ k1];exact hn⟩
     rotate_left
     · obtain⟨hnf,hlt⟩:=hsep j b _ k1 ⟨c,hc⟩ hO.m;exact .inr (.inr ⟨b,hO.keep hle' (hext.Kb b hlt hnf) (hext.block b hlt hnf)⟩)
     · obtain⟨hnf,hlt⟩:=hsep j b _ k1 ⟨c,hc⟩ hR.m;refine .inr (.inl ⟨b,e',lim,vals,T',⟨by rw[hm2 _ _ k1];exact hR.m,by rw[hext.block b hlt hnf];exact hR.obj,hR.fit,hR.lim,fun o ho=>?_,fun q a hq=>?_⟩⟩)
       · show G0'.K b o=none
         rw[hext.Kb b hlt hnf];exact hR.K o ho
       · obtain⟨v,hv,hr⟩:=hR.rel q a hq;exact⟨v,hv,hr.mono hle'⟩
 · cases hj:lk (flipL ρ) j with
   | none=>obtain⟨N,hN⟩:=hI.fresh j;exact⟨N,fun g hg=>by rw[hm2 _ _ hj];exact hN g hg⟩
   | some i=>obtain⟨N,hN⟩:=hI'.fresh i;exact⟨N,fun g hg=>by rw[hm1 _ _ _ (hL.one.look_flip.1 hj)];exact hN g hg⟩
 · obtain⟨cj,hcj⟩:=hj;obtain⟨ck,hck⟩:=hk;have key:∀j k cj x y,(∃i c0,lk ρ i=some j∧(σ0' i).2= .row c0∧cj=renL ρ c0∧(σ' j).1=(σ0' i).1)→(lk (flipL ρ) k=none∧σ' k=σ k)→live σ' k→(G1of ρ G G0').m j (σ' j).1=some (b,x)→(G1of ρ G G0').m k (σ' k).1=some (b,y)→False:=by
    rintro j k cj x y ⟨i,c0,k1,k2,_,k4⟩ ⟨q1,q2⟩ ⟨c2,hl⟩ hx hy;rw[k4,hm1 _ _ _ k1] at hx;rw[q2,hm2 _ _ q1] at hy;rw[q2] at hl;obtain⟨hnf,hlt⟩:=hsep k b _ q1 ⟨c2,hl⟩ hy;rcases hown b ⟨i,x,⟨c0,k2⟩,hx⟩ with h | h
    · exact hnf (.inl h)
    · omega
   rcases hcase j cj hcj with hj | hj<;>rcases hcase k ck hck with hk | hk
   · obtain⟨i,c0,k1,k2,_,k4⟩:=hj;obtain⟨i',c0',q1,q2,_,q4⟩:=hk;rw[k4,hm1 _ _ _ k1] at hxj;rw[q4,hm1 _ _ _ q1] at hyk;refine hI'.dist i i' b x y ?_ ⟨_,k2⟩ ⟨_,q2⟩ hxj hyk;rintro rfl;rw[k1] at q1;cases q1;exact hjk rfl
   · exact key j k cj x y hj hk ⟨ck,hck⟩ hxj hyk
   · exact key k j ck y x hk hj ⟨cj,hcj⟩ hyk hxj
   · obtain⟨k1,k2⟩:=hj;obtain⟨q1,q2⟩:=hk;rw[k2,hm2 _ _ k1] at hxj;rw[q2,hm2 _ _ q1] at hyk;exact hI.dist j k b x y hjk ⟨cj,by rw[←k2];exact hcj⟩ ⟨ck,by rw[←q2];exact hck⟩ hxj hyk
def noMem(x:Nat):List Nat→Bool
 | []=>true
 | y::r=>!Nat.beq y x && noMem x r
def nodupB:List Nat→Bool
 | []=>true
 | x::r=>noMem x r && nodupB r
theorem noMem_iff{x:Nat}:∀{l:List Nat},noMem x l=true→x∉l
 | [],_=>by simp
 | y::r,h=>by simp only[noMem,Bool.and_eq_true,Bool.not_eq_true'] at h;have h1:=nbeq_f.1 h.1;have h2:=noMem_iff h.2;simp only[List.mem_cons,not_or];exact⟨Ne.symm h1,h2⟩
theorem nodupB_iff:∀{l:List Nat},nodupB l=true→l.Nodup
 | [],_=>List.nodup_nil
 | x::r,h=>by simp only[nodupB,Bool.and_eq_true] at h;exact List.nodup_cons.2 ⟨noMem_iff h.1,nodupB_iff h.2⟩
def fstL:List (Nat×Nat)→List Nat
 | []=>[]
 | (a,_)::r=>a::fstL r
def sndL:List (Nat×Nat)→List Nat
 | []=>[]
 | (_,b)::r=>b::sndL r
theorem fstL_eq:∀l:List (Nat×Nat),fstL l=l.map (·.1)
 | []=>rfl
 | (a,b)::r=>by simp[fstL,fstL_eq r]
theorem sndL_eq:∀l:List (Nat×Nat),sndL l=l.map (·.2)
 | []=>rfl
 | (a,b)::r=>by simp[sndL,sndL_eq r]
def renOK(ρ:List (Nat×Nat)):Bool:=nodupB (fstL ρ) && nodupB (sndL ρ) && noMem YS (sndL ρ) && noMem YS (fstL ρ)
def liveL(σ:Sig):List (Nat×Nat)→Prop
 | []=>True
 | (_,b)::r=>live σ b∧liveL σ r
theorem liveL_iff{σ:Sig}:∀{l:List (Nat×Nat)},liveL σ l→ ∀i j,(i,j)∈l→live σ j
 | (a,b)::r,h,i,j,hm=>by
   rcases List.mem_cons.1 hm with h' | h'
   · cases h';exact h.1
   · exact liveL_iff h.2 i j h'
def outs(d:Nat):Option Nat→List (Nat×Nat)
 | none=>[]
 | some s=>[(s,d)]
def outsB(d:Nat):List (Nat×Nat)→Bool
 | []=>true
 | (_,j)::r=>(Nat.beq j d || Nat.ble YS j) && outsB d r
theorem outsB_iff{d:Nat}:∀{os:List (Nat×Nat)},outsB d os=true→ ∀i j,(i,j)∈os→j=d∨YS≤j
 | (a,b)::r,h,i,j,hm=>by
   simp only[outsB,Bool.and_eq_true,Bool.or_eq_true] at h;rcases List.mem_cons.1 hm with h' | h'
   · cases h';exact h.1.imp Nat.eq_of_beq_eq_true Nat.le_of_ble_eq_true
   · exact outsB_iff h.2 i j h'
theorem outs_ok(d:Nat)(s:Option Nat):∀i j,(i,j)∈outs d s→j=d∨YS≤j:=by
 intro i j h;cases s with
 | none=>cases h
 | some s=>simp[outs] at h;exact .inl h.2
theorem renOK_iff{ρ:List (Nat×Nat)}(h:renOK ρ=true):OneOne ρ∧YS∉ρ.map (·.2)∧YS∉ρ.map (·.1):=by simp only[renOK,Bool.and_eq_true] at h;obtain⟨⟨⟨h1,h2⟩,h3⟩,h4⟩:=h;have k1:=nodupB_iff h1;have k2:=nodupB_iff h2;have k3:=noMem_iff h3;have k4:=noMem_iff h4;rw[fstL_eq] at k1 k4;rw[sndL_eq] at k2 k3;exact⟨⟨k1,k2⟩,k3,k4⟩
theorem RawC.liftCore{f:Nat}{args0 args:List AV}{σ0 σ:Sig}{R:AV→Sig→Prop}{d:Nat}{Q:AV→Sig→Prop}(h:RawC P f args0 σ0 R)(ρi:List (Nat×Nat))(os:List (Nat×Nat))(hos:∀i j,(i,j)∈os→j=d∨YS≤j)(hr:renOK (os++ρi)=true)(ha:args0=renL (flipL ρi) args)(hl:liveL σ ρi)(keep:Bool)(hs1:∀i j,(i,j)∈ρi→σ0 i=((σ j).1,renR (flipL ρi) (σ j).2))(hs2:∀i,(∀j,(i,j)∉ρi)→i≠YS→σ0 i=(0,.dead))(hk:keep=true→σ0 YS=σ YS∧ ∃l s,σ YS=(0,.yld l s))(hk':keep=false→σ0 YS=(0,.dead))(hQ:∀av σ0',R av σ0'→Q (ren (os++ρi) av) (push (os++ρi) σ0' (os++ρi) (if keep then upd σ YS (σ0' YS) else σ))):ACall P f args σ d Q:=by
 refine⟨h.1,fun Y T G w vals hI hY hT hvals=>?_⟩;obtain⟨hone,hy2,hy1⟩:=renOK_iff hr;generalize hρ:os++ρi=ρ at*;have hsub:∀i j,(i,j)∈ρi→lk ρ i=some j:=fun i j hm=>mem_look hone.a (by rw[←hρ];simp[hm]);have hmem:∀i j,lk ρ i=some j→(i,j)∈ρi∨(j=d∨YS≤j):=by
  intro i j hij;have:=look_mem hij;rw[←hρ,List.mem_append] at this;rcases this with h | h
  · exact .inr (hos i j h)
  · exact .inl h
 have hYS:lk (flipL ρ) YS=none:=by
  cases hh:lk (flipL ρ) YS with
  | none=>rfl
  | some i=>exact absurd (List.mem_map.2 ⟨_,look_mem (hone.look_flip.1 hh),rfl⟩) hy2
 have hL:LiftIn ρ σ σ0:=by
  refine⟨hone,fun i c hc=>?_⟩;by_cases hex:∃j,(i,j)∈ρi
  · obtain⟨j,hj⟩:=hex;have:=hs1 i j hj;obtain⟨c',hc'⟩:=liveL_iff hl i j hj;exact⟨j,c',hsub i j hj,by rw[this,←hc']⟩
  · by_cases hi:i=YS
    · subst hi;cases hkp:keep with
      | true=>obtain⟨k1,l,s',k2⟩:=hk hkp;rw[k1,k2] at hc;cases hc
      | false=>rw[hk' hkp] at hc;cases hc
    · rw[hs2 i (fun j hj=>hex ⟨j,hj⟩) hi] at hc;cases hc
 have hrin:RenOK (flipL ρi) G (G0of ρ G):=by refine⟨fun _ _ _ h=>h,fun j i hji g x hm=>?_⟩;have:lk ρ i=some j:=hsub i j (mem_flip.2 (look_mem hji));simp only[G0of,this];exact hm
 have hI0:Inv (G0of ρ G) σ0 w:=by
  refine⟨hI.kok,fun i c hc=>?_,fun i=>?_,fun i i' b x y hii h1 h2 h3 h4=>?_⟩
  · obtain⟨j,c',hj,hsj⟩:=hL.row i c hc;have hm0:∀g,(G0of ρ G).m i g=G.m j g:=fun g=>by simp only[G0of,hj]
    have hji:(i,j)∈ρi:=by
     by_cases hex:∃j',(i,j')∈ρi
     · obtain⟨j',hj'⟩:=hex;have:=hsub i j' hj';rw[hj] at this;cases this;exact hj'
     · by_cases hi:i=YS
       · subst hi;exact absurd (List.mem_map.2 ⟨_,look_mem hj,rfl⟩) hy1
       · rw[hs2 i (fun j hj=>hex ⟨j,hj⟩) hi] at hc;cases hc
    have hs0:=hs1 i j hji;rw[hs0,hsj] at hc;simp only[renR] at hc;cases hc;have hg:(σ0 i).1=(σ j).1:=by rw[hs0]
    rw[hg];rcases hI.res j c' (by rw[hsj]) with⟨h1,h2⟩ | ⟨b,e',lim,vs,T',hR⟩ | ⟨b,hO⟩
    · subst h1;exact .inl ⟨rfl,by rw[hm0];exact h2⟩
    rotate_left
    · obtain⟨o,ho,hrel⟩:=hO.obj;exact .inr (.inr ⟨b,by rw[hm0];exact hO.m,hO.K,o,ho,hrel.ren fun _ _ _ h=>h⟩)
    · refine .inr (.inl ⟨b,e',lim,vs,T',⟨by rw[hm0];exact hR.m,hR.obj,by rw[renL_len];exact hR.fit,hR.lim,hR.K,fun q a hq=>?_⟩⟩);rw[renL_get,Option.map_eq_some_iff] at hq;obtain⟨a0,hq,rfl⟩:=hq;obtain⟨v,hv,hr⟩:=hR.rel q a0 hq;exact⟨v,hv,ren_rel hrin hr⟩
  · cases hj:lk ρ i with
    | none=>exact⟨0,fun g _=>by simp only[G0of,hj]⟩
    | some j=>obtain⟨N,hN⟩:=hI.fresh j;exact⟨N,fun g hg=>by simp only[G0of,hj];exact hN g hg⟩
  · obtain⟨c1,h1⟩:=h1;obtain⟨c2,h2⟩:=h2;obtain⟨j1,c1',k1,q1⟩:=hL.row i c1 h1;obtain⟨j2,c2',k2,q2⟩:=hL.row i' c2 h2;simp only[G0of,k1] at h3;simp only[G0of,k2] at h4;refine hI.dist j1 j2 b x y ?_ ⟨c1',by rw[q1]⟩ ⟨c2',by rw[q2]⟩ (by rw[q1];exact h3) (by rw[q2];exact h4);rintro rfl;have e1:=hone.look_flip.2 k1;have e2:=hone.look_flip.2 k2;rw[e1] at e2;cases e2;exact hii rfl
 have hv0:RelL (G0of ρ G) args0 vals:=by rw[ha];exact renL_rel hrin hvals
 have hf0:∀b,Foot (G0of ρ G) σ0 b→Foot G σ b:=fun b hb=>by obtain⟨i,j,x,_,k2,k3⟩:=hL.foot hb;exact⟨j,x,k2,k3⟩
 cases hkp:keep with
 | true=>
   obtain⟨kk,l,s',kk2⟩:=hk hkp;have hY0:YI Y T σ0 (G0of ρ G).K w:=by
    unfold YI at hY ⊢;cases Y with
    | none=>exact absurd (by rw[kk2]) (hY.2 l s')
    | some y=>obtain⟨s,k1,k2⟩:=hY;exact⟨s,by rw[kk];exact k1,k2⟩
   refine (h.2 Y T (G0of ρ G) w vals hI0 hY0 (fun b hb=>hT b (hf0 b hb)) hv0).mono ?_;rintro e w' ⟨v,av,σ0',G0',T',rfl,k1,k2,k3,k4,k5,k6,k7,k8,k9⟩;have hQ':=hQ av σ0' k3;rw[hkp] at hQ';simp only[if_true] at hQ';have hpg:=fun j=>push_get (ρ:=ρ) (σ0:=σ0') (σ:=upd σ YS (σ0' YS)) hone.b j;obtain⟨r1,r2,r3,r4⟩:=lift_inv (T0:=T) (σ':=push ρ σ0' ρ (upd σ YS (σ0' YS))) hL hI k1 k4 k5 k6 hT (fun i j hij=>by rw[hpg,hone.look_flip.2 hij]) (fun j c hj hc=>by
    rw[hpg,hj] at hc ⊢;simp only[upd_eq] at hc ⊢;by_cases hjy:j=YS
    · subst hjy;rw[if_pos rfl] at hc;unfold YI at k7;cases Y with
      | none=>exact absurd (by rw[kk2]) (hY.2 l s')
      | some y=>obtain⟨s,q1,_⟩:=k7;rw[q1] at hc;cases hc
    · rw[if_neg hjy])
   have hys:push ρ σ0' ρ (upd σ YS (σ0' YS)) YS=σ0' YS:=by rw[hpg,hYS];simp[upd_eq]
   refine⟨v,_,_,_,T',rfl,r1,ren_rel r3 k2,hQ',r2,k5.weak fun b _ hb=>hb.imp (hf0 b) id,r4,fun i hi hli hiy=>?_,?_,?_,k9⟩
   · rw[hpg];cases hf:lk (flipL ρ) i with
     | none=>simp only[upd_eq,if_neg (Nat.ne_of_lt hiy)]
     | some i'=>
       rcases hmem i' i (hone.look_flip.1 hf) with hm | hm | hm
       · exact absurd (liveL_iff hl _ _ hm) hli
       · exact absurd hm hi
       · omega
   · unfold YI at k7 ⊢;cases Y with
     | none=>exact absurd (by rw[kk2]) (hY.2 l s')
     | some y=>obtain⟨s,q1,q2⟩:=k7;exact⟨s,by rw[hys];exact q1,q2⟩
   · intro b hb hTb;have hpg':=hpg;rcases r4 b hb with hF | hn
     ·
      obtain⟨j,x,⟨c,hc⟩,hm⟩:=hb;cases hj:lk (flipL ρ) j with
      | none=>
        have hlt:=hI.lt hF;rcases k9 b hTb with h | h
        · exact hT b hF h
        · omega
      | some i=>
        have e:=hpg j;rw[hj] at e;dsimp only at e;rw[e] at hc hm;simp only[G1of,hj] at hm;cases hs:(σ0' i).2 with
        | row c0=>exact k8 b ⟨i,x,⟨c0,hs⟩,hm⟩ hTb
        | dead=>rw[hs] at hc;cases hc
        | yld l s=>rw[hs] at hc;cases hc
     · obtain⟨j,x,⟨c,hc⟩,hm⟩:=hb;cases hj:lk (flipL ρ) j with
       | none=>
         have e:=hpg j;rw[hj] at e;dsimp only at e;simp only[upd_eq] at e;by_cases hjy:j=YS
         · subst hjy;rw[hys] at hc;unfold YI at k7;cases Y with
           | none=>exact absurd (by rw[kk2]) (hY.2 l s')
           | some y=>obtain⟨s,q1,_⟩:=k7;rw[q1] at hc;cases hc
         · rw[if_neg hjy] at e;rw[e] at hc hm;simp only[G1of,hj] at hm;have:=hI.lt (b:=b) ⟨j,x,⟨c,hc⟩,hm⟩;omega
       | some i=>
         have e:=hpg j;rw[hj] at e;dsimp only at e;rw[e] at hc hm;simp only[G1of,hj] at hm;cases hs:(σ0' i).2 with
         | row c0=>exact k8 b ⟨i,x,⟨c0,hs⟩,hm⟩ hTb
         | dead=>rw[hs] at hc;cases hc
         | yld l s=>rw[hs] at hc;cases hc
 | false=>
   have kk:=hk' hkp;have hY0:YI (P:=P) none (fun _=>False) σ0 (G0of ρ G).K w:=⟨fun _ h=>h,fun l s=>by rw[kk];simp⟩;refine (h.2 none (fun _=>False) (G0of ρ G) w vals hI0 hY0 (fun b hb h=>h) hv0).mono ?_;rintro e w' ⟨v,av,σ0',G0',T',rfl,k1,k2,k3,k4,k5,k6,k7,k8,k9⟩;have hQ':=hQ av σ0' k3;rw[hkp] at hQ';simp only[Bool.false_eq_true,if_false] at hQ';have hpg:=fun j=>push_get (ρ:=ρ) (σ0:=σ0') (σ:=σ) hone.b j;obtain⟨r1,r2,r3,r4⟩:=lift_inv (T0:=fun _=>False) (σ':=push ρ σ0' ρ σ) hL hI k1 k4 k5 k6 (fun b _ h=>h) (fun i j hij=>by rw[hpg,hone.look_flip.2 hij]) (fun j c hj hc=>by rw[hpg,hj]);have hys:push ρ σ0' ρ σ YS=σ YS:=by rw[hpg,hYS]
   refine⟨v,_,_,_,T,rfl,r1,ren_rel r3 k2,hQ',r2,k5.weak fun b _ hb=> .inl (hf0 b (hb.resolve_right id)),r4,fun i hi hli hiy=>?_,?_,?_,fun b hb=> .inl hb⟩
   · rw[hpg];cases hf:lk (flipL ρ) i with
     | none=>rfl
     | some i'=>
       rcases hmem i' i (hone.look_flip.1 hf) with hm | hm | hm
       · exact absurd (liveL_iff hl _ _ hm) hli
       · exact absurd hm hi
       · omega
   · have hst:Ext (fun b=>¬T b) G.K w G0'.K w':=k5.weak fun b _ hb hTb=>hT b (hf0 b (hb.resolve_right id)) hTb;unfold YI at hY ⊢;cases Y with
     | none=>exact⟨hY.1,fun l s=>by rw[hys];exact hY.2 l s⟩
     | some y=> obtain⟨s,q1,q2⟩:=hY;exact⟨s,by rw[hys];exact q1,y.stab _ _ _ _ _ _ q2 k1.kok hst⟩
   · intro b hb hTb;rcases r4 b hb with hF | hn
     · exact hT b hF hTb
     · have:=hY.lt hTb;omega
end Go.Abs
namespace Go.Abs
variable {P:Program}
theorem pull_spec{ρi:List (Nat×Nat)}(hn:(ρi.map (·.1)).Nodup){ρ:List (Nat×Nat)}{σ:Sig}:
  (∀i j,(i,j)∈ρi→sg (pull ρ σ ρi) i=((σ j).1,renR ρ (σ j).2))∧ ∀i,(∀j,(i,j)∉ρi)→sg (pull ρ σ ρi) i=(0,.dead):=by
 refine⟨fun i j h=>by rw[pull_get,mem_look hn h],fun i h=>?_⟩;rw[pull_get];cases hh:lk ρi i with
 | none=>rfl
 | some j=>exact absurd (look_mem hh) (h j)
theorem sg_append{l m:List (Nat×(Nat×Res))}{i:Nat}(h:∀x∈l,x.1≠i):sg (l++m) i=sg m i:=by
 induction l with
 | nil=>rfl
 | cons a l ih=> obtain⟨a,x⟩:=a;have ha:a≠i:=h (a,x) (by simp);simp only[List.cons_append,sg,nbeq_f.2 ha];exact ih fun y hy=>h y (by simp[hy])
theorem sg_append'{l m:List (Nat×(Nat×Res))}{i:Nat}(h:∀x∈m,x.1≠i):sg (l++m) i=sg l i:=by
 induction l with
 | nil=>
   induction m with
   | nil=>rfl
   | cons a m ih=> obtain⟨a,x⟩:=a;have ha:a≠i:=h (a,x) (by simp);simp only[List.nil_append,sg,nbeq_f.2 ha];exact ih fun y hy=>h y (by simp[hy])
 | cons a l ih=>
   obtain⟨a,x⟩:=a;simp only[List.cons_append,sg];split
   · rfl
   · exact ih
theorem pull_fst{ρ:List (Nat×Nat)}{σ:Sig}:∀{l:List (Nat×Nat)} {x},x∈pull ρ σ l→ ∃j,(x.1,j)∈l
 | (a,b)::r,x,h=>by
   simp only[pull,List.mem_cons] at h;rcases h with rfl | h
   · exact⟨b,by simp⟩
   · obtain⟨j,hj⟩:=pull_fst h;exact⟨j,by simp[hj]⟩
theorem ACall.lift{f:Nat}{args0 args:List AV}{l0:List (Nat×(Nat×Res))}{σ:Sig}{R:AV→Sig→Prop}{d:Nat}{Q:AV→Sig→Prop}(h:RawC P f args0 (sg l0) R)(ρi:List (Nat×Nat))(s:Option Nat)(hr:renOK (outs d s++ρi)=true)(ha:args0=renL (flipL ρi) args)(h0:l0=pull (flipL ρi) σ ρi)(hl:liveL σ ρi)(hQ:∀av σ0',R av σ0'→Q (ren (outs d s++ρi) av) (push (outs d s++ρi) σ0' (outs d s++ρi) σ)):ACall P f args σ d Q:=by
 subst h0;obtain⟨hone,hy2,hy1⟩:=renOK_iff hr;have hn:(ρi.map (·.1)).Nodup:=(List.nodup_append.1 (by simpa using hone.a)).2.1;have hy:∀j,(YS,j)∉ρi:=fun j hj=>hy1 (List.mem_map.2 ⟨_,List.mem_append.2 (.inr hj),rfl⟩);refine RawC.liftCore h ρi (outs d s) (outs_ok d s) hr ha hl false (pull_spec hn).1 (fun i hi _=>(pull_spec hn).2 i hi) (fun h=>by cases h) (fun _=>(pull_spec hn).2 _ hy) fun av σ0' hR=>by simpa using hQ av σ0' hR
theorem ACall.liftN{f:Nat}{args0 args:List AV}{l0:List (Nat×(Nat×Res))}{σ:Sig}{R:AV→Sig→Prop}{d:Nat}{Q:AV→Sig→Prop}(h:RawC P f args0 (sg l0) R)(ρi os:List (Nat×Nat))(hos:outsB d os=true)(hr:renOK (os++ρi)=true)(ha:args0=renL (flipL ρi) args)(h0:l0=pull (flipL ρi) σ ρi)(hl:liveL σ ρi)(hQ:∀av σ0',R av σ0'→Q (ren (os++ρi) av) (push (os++ρi) σ0' (os++ρi) σ)):ACall P f args σ d Q:=by
 subst h0;obtain⟨hone,hy2,hy1⟩:=renOK_iff hr;have hn:(ρi.map (·.1)).Nodup:=(List.nodup_append.1 (by simpa using hone.a)).2.1;have hy:∀j,(YS,j)∉ρi:=fun j hj=>hy1 (List.mem_map.2 ⟨_,List.mem_append.2 (.inr hj),rfl⟩);refine RawC.liftCore h ρi os (outsB_iff hos) hr ha hl false (pull_spec hn).1 (fun i hi _=>(pull_spec hn).2 i hi) (fun h=>by cases h) (fun _=>(pull_spec hn).2 _ hy) fun av σ0' hR=>by simpa using hQ av σ0' hR
theorem ACall.liftY{f:Nat}{args0 args:List AV}{l0:List (Nat×(Nat×Res))}{σ:Sig}{R:AV→Sig→Prop}{d:Nat}{Q:AV→Sig→Prop}(h:RawC P f args0 (sg l0) R)(ρi:List (Nat×Nat))(s:Option Nat)(hr:renOK (outs d s++ρi)=true){l:Nat}{xs:Option (List (List AV))}(hy:σ YS=(0,.yld l xs))(ha:args0=renL (flipL ρi) args)(h0:l0=pull (flipL ρi) σ ρi++[(YS,(0,.yld l xs))])(hl:liveL σ ρi)(hQ:∀av σ0',R av σ0'→Q (ren (outs d s++ρi) av) (push (outs d s++ρi) σ0' (outs d s++ρi) (upd σ YS (σ0' YS)))):ACall P f args σ d Q:=by
 subst h0;obtain⟨hone,hy2,hy1⟩:=renOK_iff hr;have hn:(ρi.map (·.1)).Nodup:=(List.nodup_append.1 (by simpa using hone.a)).2.1;have hyn:∀j,(YS,j)∉ρi:=fun j hj=>hy1 (List.mem_map.2 ⟨_,List.mem_append.2 (.inr hj),rfl⟩);have hys:sg (pull (flipL ρi) σ ρi++[(YS,(0,.yld l xs))]) YS=(0,.yld l xs):=by
  rw[sg_append fun x hx hxy=>by
   obtain⟨j,hj⟩:=pull_fst hx;rw[hxy] at hj;exact hyn j hj]
  rfl
 have hoth:∀i,i≠YS→sg (pull (flipL ρi) σ ρi++[(YS,(0,.yld l xs))]) i=sg (pull (flipL ρi) σ ρi) i:=fun i hi=>sg_append' fun x hx=>by simp only[List.mem_singleton] at hx;subst hx;exact Ne.symm hi
 refine RawC.liftCore h ρi (outs d s) (outs_ok d s) hr ha hl true (fun i j hij=>?_) (fun i hi hiy=>?_) (fun _=>⟨by rw[hys,hy],l,xs,hy⟩) (fun h=>by cases h) fun av σ0' hR=>by simpa using hQ av σ0' hR
 · rw[hoth i fun h=>by subst h;exact hyn j hij];exact (pull_spec hn).1 i j hij
 · rw[hoth i hiy];exact (pull_spec hn).2 i hi
theorem RawC.mono{f:Nat}{args:List AV}{σ:Sig}{R R':AV→Sig→Prop}(h:RawC P f args σ R)(hm:∀a s,R a s→R' a s):RawC P f args σ R':=
 ⟨h.1,fun Y T G w vals a b c d=>(h.2 Y T G w vals a b c d).mono fun e w' ⟨v,av,σ',G',T',k1,k2,k3,k4,k5⟩=>⟨v,av,σ',G',T',k1,k2,k3,hm _ _ k4,k5⟩⟩
abbrev Fn0(P:Program)(f:Nat)(args:List AV)(R:AV→Prop):Prop:=RawC P f args (sg []) fun av _=>R av
theorem ACall.fn0{f:Nat}{args0 args:List AV}{σ:Sig}{R:AV→Prop}{d:Nat}{Q:AV→Sig→Prop}(h:Fn0 P f args0 R)(ha:args0=renL [] args)(hQ:∀av,R av→Q (ren [] av) σ):ACall P f args σ d Q:=
 ACall.lift h [] none rfl ha rfl trivial fun av σ0' hR=>hQ av hR
theorem ACall.val{f:Nat}{args0 args:List AV}{σ:Sig}{v v':AV}{d:Nat}{Q:AV→Sig→Prop}(h:Fn0 P f args0 (fun a=>a=v))(ha:args0=renL [] args)(hv:ren [] v=v')(hQ:Q v' σ):ACall P f args σ d Q:=
 ACall.fn0 h ha fun av h=>by rw[h,hv];exact hQ
theorem ItC.of{g:Nat}{lb:List AV}{xs:List (List AV)}(h:∀l,RawC P g (.clo (.yield l) [] []::lb) (sg [(YS,(0,.yld l (some xs)))]) fun _ σ'=>σ' YS=(0,.yld l none)∨σ' YS=(0,.yld l (some []))):ItC P g lb xs:=by
 refine⟨(h 0).1,fun y T K w vals hJ hK hr=>?_⟩;have hnl:∀b,¬Foot (GS.pure K) (sg [(YS,(0,.yld y.l (some xs)))]) b:=by rintro b ⟨i,x,_,hm⟩;cases hm
 refine ((h y.l).2 (some y) T (GS.pure K) w (.func (.yield y.l) #[] #[]::vals) ⟨hK,fun i c hc=>?_,fun i=>⟨0,fun _ _=>rfl⟩,fun i j b x y' _ _ _ hm=>by cases hm⟩ ⟨some xs,rfl,hJ⟩ (fun b hb=>absurd hb (hnl b)) ⟨_,_,rfl,⟨_,_,rfl,rfl,rfl⟩,hr⟩).mono ?_
 · exfalso;simp only[sg] at hc;split at hc<;>cases hc
 · rintro e w' ⟨v,av,σ',G',T',rfl,k1,k2,k3,k4,k5,k6,⟨s,k7,k7'⟩,k8,k9⟩;refine⟨v,G'.K,T',rfl,k1.kok,?_,k5.weak fun b _ hb=>hb.resolve_left (hnl b),k9⟩;rcases k3 with k3 | k3
   · rw[k7] at k3;cases k3;exact .inr k7'
   · rw[k7] at k3;cases k3;exact .inl k7'
theorem push_one{ρ:List (Nat×Nat)}{σ0 σ:Sig}{a b:Nat}{r:List (Nat×Nat)}{x:Nat×Res}(h:σ0 a=x):push ρ σ0 ((a,b)::r) σ=upd (push ρ σ0 r σ) b (x.1,renR ρ x.2):=by rw[←h];rfl
theorem push_nil{ρ:List (Nat×Nat)}{σ0 σ:Sig}:push ρ σ0 [] σ=σ:=rfl
theorem Fn0.calls{f:Nat}{args:List AV}{R:AV→Prop}(h:Fn0 P f args R){K:Nat→Nat→Option Value}{w:World}{vals:List Value}(hK:Kok K w)(hr:RelL (GS.pure K) args vals):
  Calls P f vals.toArray w fun e w'=>∃v av K',e= .returned v∧Rel ⟨K',fun _ _=>none⟩ (ren [] av) v∧R av∧Ext (fun _=>False) K w K' w':=by
 have hnl:∀b,¬Foot (GS.pure K) (sg []) b:=by rintro b ⟨i,x,_,hm⟩;cases hm
 refine (h.2 none (fun _=>False) (GS.pure K) w vals ⟨hK,fun i c hc=>(by cases hc),fun i=>⟨0,fun _ _=>rfl⟩,fun i j b x y' _ _ _ hm=>by cases hm⟩ ⟨fun _ h=>h,fun l s h=>by cases h⟩ (fun b hb=>absurd hb (hnl b)) hr).mono ?_;rintro e w' ⟨v,av,σ',G',T',rfl,k1,k2,k3,k4,k5,_⟩;have hk:RenOK [] G' ⟨G'.K,fun _ _=>none⟩:=⟨fun _ _ _ h=>h,fun i j h=>by cases h⟩;exact⟨v,av,G'.K,rfl,ren_rel hk k2,k3,k5.weak fun b _ hb=>hb.elim (fun h=>hnl b h) id⟩
end Go.Abs
namespace Go.Abs
variable {P:Program} {K:(Nat→AV)→Sig→Prop} {Q:Post} {e:Nat→AV} {σ σ':Sig} {R:AV→Sig→Prop}
theorem okFn_of{P:Program}{f:Nat}{fn:Func}(h:P.funcs[f]?=some fn)(hb:(fn.body.isSome && !(fn.name == "runtime.NumGoroutine"))=true):okFn P f=true:=by unfold okFn;rw[h];exact hb
theorem RawC.walk{H:Hint}{f:Nat}{fn:Func}(fi:IFn){args:List AV}{σ:Sig}{R:AV→Sig→Prop}(hf:P.funcs[f]?=some fn)(hok:(fn.body.isSome && !(fn.name == "runtime.NumGoroutine"))=true)(hc:cFn P H fn=some fi)(hlen:Nat.ble args.length fi.n=true)(h:awp P fi.body (EndS fi.res fun a s=>∃a',Sub a a'∧R a' s) (envOf args) σ):RawC P f args σ R:=(RawC.of_awp hf (okFn_of hf hok) hc hlen h).sub fun _ _ h=>h
theorem q_ends{res:List (Nat×Option (Nat×Bool))}{p:Prop}{l:List AV}(h:resV e σ res=some (p,l))(hp:p)(hR:R (untag (tupV l)) σ):EndS res (fun a s=>∃a',Sub a a'∧R a' s) .ret e σ:=by have:endW (some (p,l)) (fun av=>∃a',Sub av a'∧R a' σ):=⟨hp,_,untag_sub _,hR⟩;rw[←h] at this;exact this
theorem q_endn{res:List (Nat×Option (Nat×Bool))}{p:Prop}{l:List AV}(h:resV e σ res=some (p,l))(hp:p)(hR:R (untag (tupV l)) σ):EndS res (fun a s=>∃a',Sub a a'∧R a' s) .nor e σ:=by have:endW (some (p,l)) (fun av=>∃a',Sub av a'∧R a' σ):=⟨hp,_,untag_sub _,hR⟩;rw[←h] at this;exact this
theorem q_endo{res:List (Nat×Option (Nat×Bool))}{p:Prop}{l:List AV}(h:resV e σ res=some (p,l))(hp:p)(hR:R (tupV l) σ):EndS res (fun a s=>∃a',Sub a a'∧R a' s) .ret e σ:=by have:endW (some (p,l)) (fun av=>∃a',Sub av a'∧R a' σ):=⟨hp,_,fun _ _ h=>h,hR⟩;rw[←h] at this;exact this
theorem b_p{A B:Prop}{c x y:Bool}(h1:c=true→brW x A B)(h2:c=false→brW y A B):brW (match c with | true=>x | false=>y) A B:=by
 cases c
 · exact h2 rfl
 · exact h1 rfl
end Go.Abs
