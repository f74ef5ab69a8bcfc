/- A part of the proofs: contracts of functions. -/
import Derived.Test.YtioggblimkgioaaGreatProg
import Derived.Test.YtioggblimkgioaaGreatSnd3
import Derived.Test.YtioggblimkgioaaGreatA0
import Derived.Test.YtioggblimkgioaaGreatQ1a
import Derived.Test.YtioggblimkgioaaGreatQ1b
set_option linter.unusedVariables false
set_option linter.unusedSimpArgs false
set_option maxRecDepth 20000
set_option maxHeartbeats 4000000
namespace Go.Abs
open Go.Proofs
theorem conF_c(k:Nat)(cs:List AV)(p:Int→Bool)(l:List Int)(hl:l.length<1000000)(hf:∀x∈l,FV k [.int .i64 x,.pin cs] (.bool (p x))):FV 199 [.slc 1 (iR l) .non,.clo (.func k) [] [.pin cs]] (.bool (l.any p)):=by
 have hi:=idxF_c k cs p l hl hf;refine wk ir199 Tryz.func199 ?_;unfold ir199
 repeat' (first|refine aR ?_|((with_reducible refine aC ?_);first|(refine ACall.fn0 hi rfl ?_;rintro _ ⟨i,rfl,hk⟩))|refine aX ?_|with_reducible intro _|refine aP ?_ ?_)
 exact congrArg AV.bool (by rw[Bool.eq_iff_iff];simpa using hk)
theorem checkCourse1_c(G:Gm)(x:Int)(hn:G.ws.length<1000):FV 200 [.int .i64 x,gmP G] (.bool (!inB x 0 (G.ws.length-1))):=by
 refine wk ir200 Tryz.func200 ?_;unfold ir200
 repeat' (first|refine aR ?_|((with_reducible refine aC ?_);first|refine aV (gin_c x 0 (G.ws.length-1)) ?_)|refine aX ?_|with_reducible intro _|refine aP ?_ ?_)
 all_goals exact aZ
def courseErr(G:Gm)(c:List Int):Int:=if (c.length:Int)=(censG (stepsG G.ds):Nat) then (if c.any (fun x=>!inB x 0 (G.ws.length-1))=true then 7 else 0) else 3
theorem checkCourse_c(G:Gm)(I:List Sp→Wt→Prop)(h:GmIn G I)(c:List Int)(hc:c.length<1000):FV 152 [gmA G,.slc 1 (iR c) .non] (.int .i64 (courseErr G c)):=by
 obtain⟨B,hB⟩:∃B,courseErr G c=B:=⟨_,rfl⟩;rw[hB];unfold courseErr at hB;have h6:=h.n6;have hce:=censers_c G h.d24 h.cnt;have hcf:=conF_c 200 [.slc 2 (wR G.ws) .non,.slc 5 (dlR G.ds) .non] (fun x=>!inB x 0 (G.ws.length-1)) c (by omega) fun x _=>checkCourse1_c G x (by omega);by_cases h1:(c.length:Int)=(censG (stepsG G.ds):Nat)
 · rw[if_pos h1] at hB;cases hany:c.any (fun x=>!inB x 0 (G.ws.length-1)) with
   | true=>
     rw[hany] at hB hcf;rw[if_pos rfl] at hB;subst hB;refine RawC.walk (H:=hint152 Tryz.prog) ir152 Tryz.func152 rfl rfl rfl ?_;unfold ir152
     repeat' (first|refine aR ?_|refine aL ?_|(refine w_frzR rfl rfl rfl ?_)|((with_reducible refine aC ?_);first|refine aV hce ?_|refine aV hcf ?_)|refine aX ?_|with_reducible intro _|refine aP ?_ ?_)
     all_goals first|(exfalso;omega)|rfl
   | false=>
     rw[hany] at hB hcf;rw[if_neg Bool.false_ne_true] at hB;subst hB;refine RawC.walk (H:=hint152 Tryz.prog) ir152 Tryz.func152 rfl rfl rfl ?_;unfold ir152
     repeat' (first|refine aR ?_|refine aL ?_|(refine w_frzR rfl rfl rfl ?_)|((with_reducible refine aC ?_);first|refine aV hce ?_|refine aV hcf ?_)|refine aX ?_|with_reducible intro _|refine aP ?_ ?_)
     all_goals exact aZ
 · rw[if_neg h1] at hB;subst hB;refine RawC.walk (H:=hint152 Tryz.prog) ir152 Tryz.func152 rfl rfl rfl ?_;unfold ir152
   repeat' (first|refine aR ?_|((with_reducible refine aC ?_);first|refine aV hce ?_)|refine aX ?_|with_reducible intro _|refine aP ?_ ?_)
   all_goals exact aZ
structure Sm where
 nose:Int
 cen:Int
 wood:Int
 deriving DecidableEq
structure Fa where
 kind:Int
 a:Int
 b:Int
 deriving DecidableEq
structure Md where
 g:Gm
 no:List (List (List Int))
 sm:List Sm
 fa:List Fa
abbrev noR(l:List (List (List Int))):List (List AV):=l.map fun n=>[AV.slc 1 (llR n) .non]
abbrev smR(l:List Sm):List (List AV):=l.map fun s=>[AV.int .i64 s.nose,.int .i64 s.cen,.int .i64 s.wood]
abbrev faR(l:List Fa):List (List AV):=l.map fun f=>[AV.int .i64 f.kind,.int .i64 f.a,.int .i64 f.b]
abbrev mdC(M:Md):List AV:=[.slc 2 (wR M.g.ws) .non,.slc 5 (dlR M.g.ds) .non,.slc 1 (noR M.no) .non,.slc 3 (smR M.sm) .non,.slc 3 (faR M.fa) .non]
abbrev mdA(M:Md):AV:= .agg (mdC M)
abbrev smA(s:Sm):AV:= .agg [.int .i64 s.nose,.int .i64 s.cen,.int .i64 s.wood]
abbrev faA(f:Fa):AV:= .agg [.int .i64 f.kind,.int .i64 f.a,.int .i64 f.b]
abbrev tbC(G:Gm)(C:List (List Int×Int)):List AV:=[.slc 2 (wR G.ws) .non,.slc 5 (dlR G.ds) .non,.slc 1 (llR (C.map (·.1))) .non,.slc 1 (iR (C.map (·.2))) .non]
abbrev tbA(G:Gm)(C:List (List Int×Int)):AV:= .agg (tbC G C)
def rowErr(W:Nat)(r:List Int):Int:=if r.length=W then (if r.any (fun k=>!inB k 0 10)=true then 2 else if r.sum=10 then 0 else 3) else 3
def nsErr(W:Nat):List (List Int)→Int
 | []=>0
 | r::t=>if rowErr W r=0 then nsErr W t else rowErr W r
def noErr(W:Nat)(n:List (List Int)):Int:=if n.length=W then nsErr W n else 3
def nosErr(W:Nat):List (List (List Int))→Int
 | []=>0
 | n::t=>if noErr W n=0 then nosErr W t else noErr W n
def smB(N C W:Nat)(s:Sm):Bool:=inB s.nose 0 (N-1) && inB s.cen 0 (C-1) && inB s.wood 0 (W-1)
def smD(s x:Sm):Bool:=decide (x.nose=s.nose) && decide (x.cen=s.cen)
def smsErr(N C W:Nat):List Sm→List Sm→Int
 | _,[]=>0
 | p,s::r=>if smB N C W s=true then (if p.any (smD s)=true then 9 else smsErr N C W (p++[s]) r) else 7
def smErr(N C W:Nat)(l:List Sm):Int:=if l.length≤8 then smsErr N C W [] l else 8
def fcM(C W:Nat)(f:Fa):Nat:=if 3≤f.kind then C else W
def faErr(C W:Nat)(f:Fa):Int:=if inB f.kind 1 4=true then (if inB f.a 0 (C-1)=true∧inB f.b 0 ((fcM C W f:Nat)-1)=true then (if 3≤f.kind∧f.a=f.b then 3 else 0) else 7) else 4
def fasErr(C W:Nat):List Fa→Int
 | []=>0
 | f::r=>if faErr C W f=0 then fasErr C W r else faErr C W f
def fcErr(C W:Nat)(l:List Fa):Int:=if l.length≤12 then fasErr C W l else 8
def agF(c:List Int)(f:Fa):Bool:=
 if f.kind=1 then decide (c.getD f.a.toNat 0=f.b) else if f.kind=2 then decide (c.getD f.a.toNat 0≠f.b) else if f.kind=3 then decide (c.getD f.a.toNat 0=c.getD f.b.toNat 0) else decide (c.getD f.a.toNat 0≠c.getD f.b.toNat 0)
def tkF(no:List (List (List Int)))(c:List Int)(s:Sm):Int:=((no.getD s.nose.toNat []).getD (c.getD s.cen.toNat 0).toNat []).getD s.wood.toNat 0
def wtF(M:Md)(c:List Int)(n:Int):Int:=if M.fa.all (agF c)=true then M.sm.foldl (fun w s=>w*tkF M.no c s) n else 0
def lfF(M:Md)(C:List (List Int×Int)):List (List Int×Int):=(C.map fun x=>(x.1,wtF M x.1 x.2)).filter fun x=>decide (0<x.2)
def mdErr(M:Md):Int:=
 if (crsO M.g).2=0 then
  (if M.no.length≤4 then
    (if nosErr M.g.ws.length M.no=0 then
      (if smErr M.no.length (censG (stepsG M.g.ds)) M.g.ws.length M.sm=0 then
        (if fcErr (censG (stepsG M.g.ds)) M.g.ws.length M.fa=0 then (if lfF M (crsO M.g).1=[] then 12 else 0)
         else fcErr (censG (stepsG M.g.ds)) M.g.ws.length M.fa)
       else smErr M.no.length (censG (stepsG M.g.ds)) M.g.ws.length M.sm)
     else nosErr M.g.ws.length M.no)
   else 8)
 else (crsO M.g).2
def lfO(M:Md):List (List Int×Int)×Int:=if mdErr M=0 then (lfF M (crsO M.g).1,0) else ([],mdErr M)
structure NoOK (W:Nat) (n:List (List Int)):Prop where
 l:n.length=W
 r:∀r∈n,r.length=W∧(∀k∈r,0≤k∧k≤10)∧r.sum=10
theorem rowErr_ok{W:Nat}{r:List Int}(h:rowErr W r=0):r.length=W∧(∀k∈r,0≤k∧k≤10)∧r.sum=10:=by
 unfold rowErr at h;split at h
 · rename_i hl;split at h
   · exact absurd h (by decide)
   · rename_i ha;split at h
     · rename_i hs;refine⟨hl,fun k hk=>?_,hs⟩;cases hb:inB k 0 10 with
       | true=>exact inB_t.1 hb
       | false=>exact absurd (List.any_eq_true.2 ⟨k,hk,by rw[hb];rfl⟩) ha
     · exact absurd h (by decide)
 · exact absurd h (by decide)
theorem nsErr_ok{W:Nat}:∀{n:List (List Int)},nsErr W n=0→ ∀r∈n,r.length=W∧(∀k∈r,0≤k∧k≤10)∧r.sum=10
 | [],_,r,hr=>by cases hr
 | x::t,h,r,hr=>by
   rw[nsErr] at h;split at h
   · rename_i h0;rcases List.mem_cons.1 hr with rfl | hr
     · exact rowErr_ok h0
     · exact nsErr_ok h r hr
   · exact absurd h (by assumption)
theorem noErr_ok{W:Nat}{n:List (List Int)}(h:noErr W n=0):NoOK W n:=by
 unfold noErr at h;split at h
 · exact⟨by assumption,nsErr_ok h⟩
 · exact absurd h (by decide)
theorem nosErr_ok{W:Nat}:∀{l:List (List (List Int))},nosErr W l=0→ ∀n∈l,NoOK W n
 | [],_,n,hn=>by cases hn
 | x::t,h,n,hn=>by
   rw[nosErr] at h;split at h
   · rename_i h0;rcases List.mem_cons.1 hn with rfl | hn
     · exact noErr_ok h0
     · exact nosErr_ok h n hn
   · exact absurd h (by assumption)
structure SmOK (N C W:Nat) (s:Sm):Prop where
 n:0≤s.nose∧s.nose<N
 c:0≤s.cen∧s.cen<C
 w:0≤s.wood∧s.wood<W
theorem smB_ok{N C W:Nat}{s:Sm}(h:smB N C W s=true):SmOK N C W s:=by unfold smB at h;simp only[Bool.and_eq_true] at h;obtain⟨⟨h1,h2⟩,h3⟩:=h;have:=inB_t.1 h1;have:=inB_t.1 h2;have:=inB_t.1 h3;exact⟨by omega,by omega,by omega⟩
theorem smsErr_ok{N C W:Nat}:∀{p l:List Sm},smsErr N C W p l=0→ ∀s∈l,SmOK N C W s
 | _,[],_,s,hs=>by cases hs
 | p,x::r,h,s,hs=>by
   rw[smsErr] at h;split at h
   · rename_i hb;split at h
     · exact absurd h (by decide)
     · rcases List.mem_cons.1 hs with rfl | hs
       · exact smB_ok hb
       · exact smsErr_ok h s hs
   · exact absurd h (by decide)
theorem smErr_ok{N C W:Nat}{l:List Sm}(h:smErr N C W l=0):l.length≤8∧ ∀s∈l,SmOK N C W s:=by
 unfold smErr at h;split at h
 · exact⟨by assumption,smsErr_ok h⟩
 · exact absurd h (by decide)
structure FaOK (C W:Nat) (f:Fa):Prop where
 k:1≤f.kind∧f.kind≤4
 a:0≤f.a∧f.a<C
 b:0≤f.b∧f.b<(fcM C W f:Nat)
theorem faErr_ok{C W:Nat}{f:Fa}(h:faErr C W f=0):FaOK C W f:=by
 unfold faErr at h;split at h
 · rename_i h1;split at h
   · rename_i h2;have h3:=inB_t.1 h2.1;have h4:=inB_t.1 h2.2;exact⟨inB_t.1 h1,by omega,by omega⟩
   · exact absurd h (by decide)
 · exact absurd h (by decide)
theorem fasErr_ok{C W:Nat}:∀{l:List Fa},fasErr C W l=0→ ∀f∈l,FaOK C W f
 | [],_,f,hf=>by cases hf
 | x::r,h,f,hf=>by
   rw[fasErr] at h;split at h
   · rename_i h0;rcases List.mem_cons.1 hf with rfl | hf
     · exact faErr_ok h0
     · exact fasErr_ok h f hf
   · exact absurd h (by assumption)
theorem fcErr_ok{C W:Nat}{l:List Fa}(h:fcErr C W l=0):l.length≤12∧ ∀f∈l,FaOK C W f:=by
 unfold fcErr at h;split at h
 · exact⟨by assumption,fasErr_ok h⟩
 · exact absurd h (by decide)
structure MdOK (M:Md) (C:Nat):Prop where
 nl:M.no.length≤4
 no:∀n∈M.no,NoOK M.g.ws.length n
 sl:M.sm.length≤8
 sm:∀s∈M.sm,SmOK M.no.length C M.g.ws.length s
 fl:M.fa.length≤12
 fa:∀f∈M.fa,FaOK C M.g.ws.length f
theorem getD_mem{α:Type}{l:List α}{i:Nat}{d:α}(h:i<l.length):l.getD i d∈l:=by rw[List.getD_eq_getElem?_getD,List.getElem?_eq_getElem h];exact List.getElem_mem h
theorem tk_bd{M:Md}{C:Nat}(h:MdOK M C){c:List Int}(hc:c.length=C)(hcw:∀x∈c,0≤x∧x<(M.g.ws.length:Int)){s:Sm}(hs:SmOK M.no.length C M.g.ws.length s):0≤tkF M.no c s∧tkF M.no c s≤10:=by have h1:=h.no _ (getD_mem (l:=M.no) (i:=s.nose.toNat) (d:=[]) (by have:=hs.n;omega));have h2:=hcw _ (getD_mem (l:=c) (i:=s.cen.toNat) (d:=0) (by have:=hs.c;omega));have h3:=h1.r _ (getD_mem (l:=M.no.getD s.nose.toNat []) (i:=(c.getD s.cen.toNat 0).toNat) (d:=[]) (by rw[h1.l];omega));exact h3.2.1 _ (getD_mem (by rw[h3.1];have:=hs.w;omega))
theorem fold_bd{f:Sm→Int}:∀{l:List Sm} {n B:Int},(∀s∈l,0≤f s∧f s≤10)→0≤n→n≤B→0≤l.foldl (fun w s=>w*f s) n∧l.foldl (fun w s=>w*f s) n≤B*10^l.length
 | [],n,B,_,h0,h1=>by simp;omega
 | s::r,n,B,h,h0,h1=>by have hs:=h s (by simp);have h2:0≤n*f s:=Int.mul_nonneg h0 hs.1;have h3:n*f s≤B*10:=Int.mul_le_mul h1 hs.2 hs.1 (by omega);obtain⟨k1,k2⟩:=fold_bd (l:=r) (fun x hx=>h x (by simp[hx])) h2 h3;refine⟨k1,Int.le_trans k2 ?_⟩;rw[List.length_cons,Int.pow_succ,Int.mul_assoc,Int.mul_comm 10];exact Int.le_refl _
def ir129:IFn:= ⟨15,[(6,none)],(sO [oM 6 (kB false)] (sO [oM 7 1,oM 8 0,oB 9 .leq 7 8,oM 10 9,⟨(some 11),(some (10,true)),(.mov 0)⟩,⟨(some 12),(some (10,true)),(.mov 2)⟩,⟨(some 13),(some (10,true)),(.bin .leq 11 12)⟩,oo 14 (.pick 10 13 (kB false)),oM 6 14] .ret))⟩
def ir126:IFn:= ⟨8,[(2,none)],(sO [oo 1 (.box 4 0),oM 2 (kI 0)] (sO [oF 3 2 1,oL 4 3,oo 5 (.ixA 1 4 (kI 0)),oL 6 5,oN 7 6,oM 2 7] .ret))⟩
def ir124:IFn:= ⟨7,[(2,none)],(sO [oo 1 (.box 4 0),oM 2 (kI 0)] (sO [oF 3 0 1,oF 4 0 3,oL 5 4,oN 6 5,oM 2 6] .ret))⟩
def ir122:IFn:= ⟨18,[(2,some (4,true)),(3,none)],(sO [oo 1 (.box 2 0),oo 2 (.new [.nsl,.nsl,.nsl,.nsl]),oM 3 (kI 0)] (sO [oo 8 (.ld 2 true 1),oC 9 46 [8],oM 7 9,oE 10 0 7,oE 11 1 7,oE 12 2 7,oM 4 10,oM 5 11,oM 6 12] (sO [oo 13 (.ld 2 true 1),oM 14 4,oM 15 5,oo 16 (.bld [.nsl,.nsl,.nsl,.nsl] [(0,2,13),(2,1,14),(3,1,15)]),oM 17 6,oS 4 2 16,oM 3 17] .ret)))⟩
def ir191:IFn:= ⟨51,[(4,none)],(sO [oo 3 (.box 3 1),oM 4 (kB false)] (.seq (sO [oF 5 0 3,oL 6 5] (.blk 0 (sO [oB 8 .eql 6 (kI 1),oM 7 8] (.cnd 7 (sO [oM 9 0,oF 10 1 3,oL 11 10,oA 12 1 9 11,oL 13 12,oF 14 2 3,oL 15 14,oB 16 .eql 13 15,oM 4 16] .ret) (sO [oB 18 .eql 6 (kI 2),oM 17 18] (.cnd 17 (sO [oM 19 0,oF 20 1 3,oL 21 20,oA 22 1 19 21,oL 23 22,oF 24 2 3,oL 25 24,oB 26 .neq 23 25,oM 4 26] .ret) (sO [oB 28 .eql 6 (kI 3),oM 27 28] (.cnd 27 (sO [oM 29 0,oF 30 1 3,oL 31 30,oA 32 1 29 31,oL 33 32,oM 34 0,oF 35 2 3,oL 36 35,oA 37 1 34 36,oL 38 37,oB 39 .eql 33 38,oM 4 39] .ret) .skip)))))))) (sO [oM 40 0,oF 41 1 3,oL 42 41,oA 43 1 40 42,oL 44 43,oM 45 0,oF 46 2 3,oL 47 46,oA 48 1 45 47,oL 49 48,oB 50 .neq 44 49,oM 4 50] .ret)))⟩
def ir192:IFn:= ⟨17,[(2,none)],(sO [oM 2 (kI 0)] (sO [oM 3 (kI 1)] (.seq (sO [oM 6 0,oN 7 6,oM 8 (kI 0)] (.blk 0 (.loop (sO [oB 9 .lss 8 7] (.seq (.cnd 9 .skip (.exit 0)) (.seq (.blk 1 (sO [oA 10 1 6 8,oL 11 10,oM 5 11] (.ops [oM 12 3,oM 13 5,oB 14 .mul 12 13,oM 3 14]))) (.ops [oB 15 .add 8 (kI 1),oM 8 15]))))))) (sO [oM 16 3,oM 2 16] .ret))))⟩
def ir141:IFn:= ⟨57,[(6,none)],(sO [oo 3 (.box 5 0),oM 6 (kI 0)] (sO [oM 12 2,oo 13 (.bsl 1 [[z0]] [(0,12)]),oM 7 13] (.seq (sO [oF 14 4 3,oL 15 14,oN 16 15,oM 17 (kI 0)] (.blk 0 (.loop (sO [oB 18 .lss 17 16] (.seq (.cnd 18 .skip (.exit 0)) (.seq (.blk 1 (sO [oA 19 3 15 17,oo 20 (.ld 3 true 19),oo 9 (.new [z0,z0,z0]),oS 3 9 20] (sO [oM 21 1,oo 22 (.ld 3 true 9),oC 23 191 [21,22],oo 24 (.not 23)] (.cnd 24 (sO [oM 6 (kI 0)] .ret) .skip)))) (.ops [oB 25 .add 17 (kI 1),oM 17 25]))))))) (.seq (sO [oF 26 3 3,oL 27 26,oN 28 27,oM 29 (kI 0)] (.blk 2 (.loop (sO [oB 30 .lss 29 28] (.seq (.cnd 30 .skip (.exit 2)) (.seq (.blk 3 (sO [oA 31 3 27 29,oo 32 (.ld 3 true 31),oo 11 (.new [z0,z0,z0]),oS 3 11 32] (.ops [oM 33 7,oF 34 2 3,oL 35 34,oF 36 0 11,oL 37 36,oA 38 1 35 37,oF 39 0 38,oL 40 39,oM 41 1,oF 42 1 11,oL 43 42,oA 44 1 41 43,oL 45 44,oA 46 1 40 45,oL 47 46,oF 48 2 11,oL 49 48,oA 50 1 47 49,oL 51 50,oo 52 (.bsl 1 [[z0]] [(0,51)]),oo 53 (.app 1 8 33 52 7),oM 7 53]))) (.ops [oB 54 .add 29 (kI 1),oM 29 54]))))))) (sO [oM 55 7,oC 56 192 [55],oM 6 56] .ret)))))⟩
def hint141(P:Program):Hint:={site:=[(13,7),(53,7)],nils:=[],frz:=[],mve:=[],wr:=[] }
theorem kin_c(n a b:Int):FV 129 [.int .i64 n,.int .i64 a,.int .i64 b] (.bool (inB n a b)):=by
 by_cases h1:a≤n
 · by_cases h2:n≤b
   · have:inB n a b=true:=inB_t.2 ⟨h1,h2⟩;rw[this];refine wk ir129 Tryz.func129 ?_;unfold ir129
     repeat' (first|refine aR ?_|refine aX ?_|with_reducible intro _|refine aP ?_ ?_)
     rw[decide_eq_true h2];rfl
   · have:inB n a b=false:=inB_f.2 (by omega);rw[this];refine wk ir129 Tryz.func129 ?_;unfold ir129
     repeat' (first|refine aR ?_|refine aX ?_|with_reducible intro _|refine aP ?_ ?_)
     rw[decide_eq_false h2];rfl
 · have:inB n a b=false:=inB_f.2 (by omega);rw[this];refine wk ir129 Tryz.func129 ?_;unfold ir129
   repeat' (first|refine aR ?_|refine aX ?_|with_reducible intro _|refine aP ?_ ?_)
   all_goals exact aZ
theorem tcens_c(G:Gm)(c:List Int×Int)(C:List (List Int×Int)):FV 126 [tbA G (c::C)] (.int .i64 (c.1.length:Nat)):=by
 have hl:(c::C).map (·.1)=[]++c.1::C.map (·.1):=rfl;refine wk ir126 Tryz.func126 ?_;unfold ir126
 repeat' (first|refine aR ?_|(first|refine w_ixP hl rfl rfl ?_)|refine aX ?_|with_reducible intro _|refine aP ?_ ?_)
 all_goals exact aZ
theorem twoods_c(G:Gm)(C:List (List Int×Int)):FV 124 [tbA G C] (.int .i64 (G.ws.length:Nat)):=by
 refine wk ir124 Tryz.func124 ?_;unfold ir124
 repeat' (first|refine aR ?_|refine aX ?_|with_reducible intro _|refine aP ?_ ?_)
 all_goals exact aZ
theorem tableOf_c(G:Gm)(hw:G.ws.length<1000)(hd:G.ds.length<1000)(hs:∀w∈G.ws,w.name.size≤1000):FV 122 [gmA G] (.tup [tbA G (crsO G).1,.int .i64 (crsO G).2]):=by
 have hC:=subV2 (courses_f G (invW G.ws.length) hw hd hs gmOK) (sub_crsA _ _);refine wk ir122 Tryz.func122 ?_;unfold ir122
 repeat' (first|refine aR ?_|((with_reducible refine aC ?_);first|refine aV hC ?_)|refine aX ?_|with_reducible intro _|refine aP ?_ ?_)
 all_goals exact aZ
theorem at_split{α:Type}{l:List α}{i:Nat}{d:α}(h:i<l.length):l=l.take i++l.getD i d::l.drop (i+1)∧(l.take i).length=i:=by
 refine⟨?_,by rw[List.length_take];omega⟩;rw[List.getD_eq_getElem?_getD,List.getElem?_eq_getElem h];show l=List.take i l++l[i]::List.drop (i+1) l
 rw[List.getElem_cons_drop,List.take_append_drop]
theorem agrees_c(c:List Int)(f:Fa){C W:Nat}(hc:c.length=C)(hf:FaOK C W f)(hC:C<1000):FV 191 [.slc 1 (iR c) .non,faA f] (.bool (agF c f)):=by
 have hcl:(iR c).length=c.length:=List.length_map _;have hk:=hf.k;have ha:=hf.a;have hb:=hf.b;obtain⟨hA,hA2⟩:=at_split (l:=c) (i:=f.a.toNat) (d:=0) (by omega);have hai:AV.int .i64 f.a= .int .i64 ((c.take f.a.toNat).length:Int):=int_eq (by rw[hA2];omega);obtain⟨x,hx⟩:∃x,c.getD f.a.toNat 0=x:=⟨_,rfl⟩;unfold agF;rw[hx] at hA ⊢;by_cases k1:f.kind=1
 · rw[if_pos k1];refine wk ir191 Tryz.func191 ?_;unfold ir191
   repeat' (first|refine aR ?_|(first|refine w_ixP (f:=fI) hA rfl hai ?_)|with_reducible refine zI fun y hy=>?_|refine aX ?_|with_reducible intro _|with_reducible refine zJ ?_ fun y hy=>?_|refine aP ?_ ?_)
   all_goals exact aZ
 rw[if_neg k1];by_cases k2:f.kind=2
 · rw[if_pos k2];refine wk ir191 Tryz.func191 ?_;unfold ir191
   repeat' (first|refine aR ?_|(first|refine w_ixP (f:=fI) hA rfl hai ?_)|with_reducible refine zI fun y hy=>?_|refine aX ?_|with_reducible intro _|with_reducible refine zJ ?_ fun y hy=>?_|refine aP ?_ ?_)
   all_goals exact aZ
 rw[if_neg k2];have hk3:3≤f.kind:=by omega
 unfold fcM at hb;rw[if_pos hk3] at hb;obtain⟨hB,hB2⟩:=at_split (l:=c) (i:=f.b.toNat) (d:=0) (by omega);have hbi:AV.int .i64 f.b= .int .i64 ((c.take f.b.toNat).length:Int):=int_eq (by rw[hB2];omega);obtain⟨y,hy⟩:∃y,c.getD f.b.toNat 0=y:=⟨_,rfl⟩;rw[hy] at hB ⊢;by_cases k3:f.kind=3
 · rw[if_pos k3];refine wk ir191 Tryz.func191 ?_;unfold ir191
   repeat' (first|refine aR ?_|(first|refine w_ixP (f:=fI) hA rfl hai ?_|refine w_ixP (f:=fI) hB rfl hbi ?_)|with_reducible refine zI fun y hy=>?_|refine aX ?_|with_reducible intro _|with_reducible refine zJ ?_ fun y hy=>?_|refine aP ?_ ?_)
   all_goals exact aZ
 · rw[if_neg k3];refine wk ir191 Tryz.func191 ?_;unfold ir191
   repeat' (first|refine aR ?_|(first|refine w_ixP (f:=fI) hA rfl hai ?_|refine w_ixP (f:=fI) hB rfl hbi ?_)|with_reducible refine zI fun y hy=>?_|refine aX ?_|with_reducible intro _|with_reducible refine zJ ?_ fun y hy=>?_|refine aP ?_ ?_)
   all_goals exact aZ
theorem prod_bd:∀{l:List Int} {n B:Int},(∀k∈l,0≤k∧k≤10)→0≤n→n≤B→0≤l.foldl (· * ·) n∧l.foldl (· * ·) n≤B*10^l.length
 | [],n,B,_,h0,h1=>by simp;omega
 | s::r,n,B,h,h0,h1=>by have hs:=h s (by simp);have h2:0≤n*s:=Int.mul_nonneg h0 hs.1;have h3:n*s≤B*10:=Int.mul_le_mul h1 hs.2 hs.1 (by omega);obtain⟨k1,k2⟩:=prod_bd (l:=r) (fun x hx=>h x (by simp[hx])) h2 h3;refine⟨k1,Int.le_trans k2 ?_⟩;rw[List.length_cons,Int.pow_succ,Int.mul_assoc,Int.mul_comm 10];exact Int.le_refl _
theorem pow10_le:∀{k:Nat},k≤8→(10:Int)^k≤100000000
 | 0,_=>by decide
 | 1,_=>by decide
 | 2,_=>by decide
 | 3,_=>by decide
 | 4,_=>by decide
 | 5,_=>by decide
 | 6,_=>by decide
 | 7,_=>by decide
 | 8,_=>by decide
 | k+9,h=>absurd h (by omega)
theorem product_c(n:Int)(l:List Int)(h0:0≤n∧n≤479001600)(h8:l.length≤8)(hl:∀k∈l,0≤k∧k≤10):FV 192 [.slc 1 (iR (n::l)) .non] (.int .i64 (l.foldl (· * ·) n)):=by
 have hcl:(iR (n::l)).length=l.length+1:=by rw[List.length_map];rfl
 have hnl:(n::l).length=l.length+1:=rfl;obtain⟨R,hR⟩:∃R,l.foldl (· * ·) n=R:=⟨_,rfl⟩;rw[hR];refine wk ir192 Tryz.func192 ?_;unfold ir192
 repeat' (first|refine aR ?_|refine aX ?_|with_reducible intro _|refine aP ?_ ?_)
 refine w_loopK [6,7] [] (fun x:List Int×List Int=>n::l=x.1++x.2∧x.2.foldl (· * ·) (x.1.foldl (· * ·) 1)=R∧0≤x.1.foldl (· * ·) 1∧x.1.foldl (· * ·) 1≤47900160000000000) (fun x=>x.2.length) (fun x=>[(8,.int .i64 (x.1.length:Int)),(3,.int .i64 (x.1.foldl (· * ·) 1))]) (fun _=>[]) ([],n::l) ⟨rfl,by show List.foldl _ (1*n) l=_;rw[Int.one_mul];exact hR,(show (0:Int)≤1 by decide),(show (1:Int)≤47900160000000000 by decide)⟩ ⟨rfl,rfl,trivial⟩ trivial ?_;rintro⟨pre,post⟩ ⟨hll,hb,hp0,hp1⟩ e σ;dsimp only at hll hb hp0 hp1 ⊢;have hlen:=congrArg List.length hll;rw[List.length_append,List.length_cons] at hlen;cases post with
 | nil=>
   simp only[List.length_nil] at hlen;rw[show List.foldl (· * ·) (pre.foldl (· * ·) 1) []=pre.foldl (· * ·) 1 from rfl] at hb;subst hb
   repeat' (first|refine aR ?_|refine aX ?_|with_reducible intro _|refine aP ?_ ?_)
   all_goals first|(exfalso;omega)|rfl
 | cons x post=>
   simp only[List.length_cons] at hlen;have hs1:(pre++[x]).foldl (· * ·) 1=pre.foldl (· * ·) 1*x:=by rw[List.foldl_append];rfl
   have hbd:0≤pre.foldl (· * ·) 1*x∧pre.foldl (· * ·) 1*x≤47900160000000000:=by
    rw[←hs1];cases pre with
    | nil=>
      have:n=x:=by have:=congrArg List.head? hll;simpa using this
      subst this;show 0≤1*n∧1*n≤_
      omega
    | cons y pre=>
      have hny:n=y∧l=pre++x::post:=by simpa using hll
      obtain⟨rfl,hl2⟩:=hny;have hlen2:=congrArg List.length hl2;simp only[List.length_append,List.length_cons] at hlen2;show 0≤(pre++[x]).foldl (· * ·) (1*n)∧(pre++[x]).foldl (· * ·) (1*n)≤_
      rw[Int.one_mul];obtain⟨k1,k2⟩:=prod_bd (l:=pre++[x]) (n:=n) (B:=479001600) (fun k hk=>hl k (by rw[hl2];rcases List.mem_append.1 hk with h | h;exact List.mem_append_left _ h;rw[List.mem_singleton] at h;subst h;simp)) h0.1 h0.2;have hp:=pow10_le (k:=(pre++[x]).length) (by rw[len_snoc];omega);refine⟨k1,Int.le_trans k2 ?_⟩;have:=Int.mul_le_mul_of_nonneg_left hp (show (0:Int)≤479001600 by decide);omega
   obtain⟨b1,b2⟩:=hbd
   repeat' (first|refine aR ?_|(first|refine w_ixP (f:=fI) hll rfl rfl ?_)|refine aX ?_|with_reducible intro _|refine aP ?_ ?_)
   all_goals first|(exfalso;omega)|exact q_loop (pre++[x],post) ⟨by show n::l=_;rw[hll];simp,by dsimp only;rw[hs1];exact hb,by dsimp only;rw[hs1];exact b1,by dsimp only;rw[hs1];exact b2⟩ (Nat.lt_succ_self _) ⟨by rw[len_snoc];rfl,by show AV.int .i64 _=AV.int .i64 _;rw[hs1],trivial⟩ aS aK aK
theorem foldl_tk(f:Sm→Int):∀(l:List Sm) (n:Int),(l.map f).foldl (· * ·) n=l.foldl (fun w s=>w*f s) n
 | [],_=>rfl
 | s::r,n=>foldl_tk f r (n*f s)
def wtV(n:Int)(l:List Int)(g:Nat):AV:=match l with
 | []=> .slc 1 [[.int .i64 n]] .full
 | _::_=> .slc 1 (iR (n::l)) (.own 7 g)
def wtX(l:List Int)(g:Nat):Nat×Res:=match l with
 | []=>(0,.dead)
 | _::_=>(g,.row [])
theorem wtV_snoc(n:Int)(x:Int)(l:List Int)(k:Int)(g:Nat):AV.slc 1 (iR (n::x::l)++[[.int .i64 k]]) (.own 7 g)=wtV n (x::l++[k]) g:=
 congrArg (fun z=>AV.slc 1 z (.own 7 g)) (map_snoc (f:=fI) (l:=n::x::l) (x:=k)).symm
theorem weight_c(M:Md)(c:List Int)(n:Int){C:Nat}(hM:MdOK M C)(hc:c.length=C)(hC:C<1000)(hcw:∀x∈c,0≤x∧x<(M.g.ws.length:Int))(hW:M.g.ws.length≤6)(h0:0≤n∧n≤479001600):FV 141 [mdA M,.slc 1 (iR c) .non,.int .i64 n] (.int .i64 (wtF M c n)):=by
 have hfl:=hM.fl;have hsl:=hM.sl;have hfR:(faR M.fa).length=M.fa.length:=List.length_map _;have hsR:(smR M.sm).length=M.sm.length:=List.length_map _;obtain⟨R,hR⟩:∃R,wtF M c n=R:=⟨_,rfl⟩;rw[hR];unfold wtF at hR;refine RawC.walk (H:=hint141 Tryz.prog) ir141 Tryz.func141 rfl rfl rfl ?_;unfold ir141
 repeat' (first|refine aR ?_|with_reducible refine zI fun y hy=>?_|refine aX ?_|with_reducible intro _|with_reducible refine zJ ?_ fun y hy=>?_|refine aP ?_ ?_)
 refine w_loopK [1,3,7,15,16] [3,7] (fun x:List Fa×List Fa=>M.fa=x.1++x.2∧M.fa.all (agF c)=x.2.all (agF c)) (fun x=>x.2.length) (fun x=>[(17,.int .i64 (x.1.length:Int))]) (fun _=>[]) ([],M.fa) ⟨rfl,rfl⟩ ⟨rfl,trivial⟩ trivial ?_;rintro⟨pre,post⟩ ⟨hl,ha⟩ e σ;dsimp only at hl ha ⊢;have hlen:=congrArg List.length hl;rw[List.length_append] at hlen;cases post with
 | cons f post=>
   simp only[List.length_cons] at hlen;have hag:=agrees_c c f hc (hM.fa f (by rw[hl];simp)) hC;rw[List.all_cons] at ha;cases hf:agF c f with
   | true=>
     rw[hf] at hag ha
     repeat' (first|refine aR ?_|(first|refine w_ixP (f:=fun f:Fa=>[AV.int .i64 f.kind,.int .i64 f.a,.int .i64 f.b]) hl rfl rfl ?_)|with_reducible refine zI fun y hy=>?_|((with_reducible refine aC ?_);first|refine aV hag ?_)|refine aX ?_|with_reducible intro _|with_reducible refine zJ ?_ fun y hy=>?_|refine aP ?_ ?_)
     all_goals first|(exfalso;omega)|exact q_loop (pre++[f],post) ⟨by show M.fa=_;rw[hl];simp,ha⟩ (Nat.lt_succ_self _) ⟨by rw[len_snoc];rfl,trivial⟩ aS aK aK
   | false=>
     rw[hf] at hag ha;rw[if_neg (by rw[ha];exact Bool.false_ne_true)] at hR;subst hR
     repeat' (first|refine aR ?_|(first|refine w_ixP (f:=fun f:Fa=>[AV.int .i64 f.kind,.int .i64 f.a,.int .i64 f.b]) hl rfl rfl ?_)|with_reducible refine zI fun y hy=>?_|((with_reducible refine aC ?_);first|refine aV hag ?_)|refine aX ?_|with_reducible intro _|with_reducible refine zJ ?_ fun y hy=>?_|refine aP ?_ ?_)
     all_goals first|(exfalso;omega)|rfl
 | nil=>
   simp only[List.length_nil] at hlen;rw[if_pos (by rw[ha];rfl)] at hR
   repeat' (first|refine aR ?_|with_reducible refine zI fun y hy=>?_|refine aX ?_|with_reducible intro _|with_reducible refine zJ ?_ fun y hy=>?_|refine aP ?_ ?_)
   all_goals try (exfalso;omega)
   refine w_loopK [1,3,27,28] [3] (fun x:List Sm×List Sm×Nat=>M.sm=x.1++x.2.1) (fun x=>x.2.1.length) (fun x=>[(29,.int .i64 (x.1.length:Int)),(7,wtV n (x.1.map (tkF M.no c)) x.2.2)]) (fun x=>[(7,wtX (x.1.map (tkF M.no c)) x.2.2)]) ([],M.sm,0) rfl ⟨rfl,rfl,trivial⟩ ⟨rfl,trivial⟩ ?_;rintro⟨pr,po,g⟩ hs e2 σ2;dsimp only at hs ⊢;have hlen2:=congrArg List.length hs;rw[List.length_append] at hlen2;obtain⟨L,hL⟩:∃L,pr.map (tkF M.no c)=L:=⟨_,rfl⟩;have hLl:L.length=pr.length:=by rw[←hL,List.length_map]
   rw[hL];cases po with
   | nil=>
     simp only[List.length_nil] at hlen2;rw[List.append_nil] at hs;have hpr:=product_c n (M.sm.map (tkF M.no c)) h0 (by rw[List.length_map];exact hsl) (fun k hk=>by
      obtain⟨s,hs,rfl⟩:=List.mem_map.1 hk;exact tk_bd hM hc hcw (hM.sm s hs))
     rw[foldl_tk,hR,hs,hL] at hpr;cases L with
     | nil=>
       repeat' (first|refine aR ?_|with_reducible refine zI fun y hy=>?_|((with_reducible refine aC ?_);first|refine aV hpr ?_)|refine aX ?_|with_reducible intro _|with_reducible refine zJ ?_ fun y hy=>?_|refine aP ?_ ?_)
       all_goals first|(exfalso;omega)|rfl
     | cons y L=>
       repeat' (first|refine aR ?_|with_reducible refine zI fun y hy=>?_|((with_reducible refine aC ?_);first|refine aV hpr ?_)|refine aX ?_|with_reducible intro _|with_reducible refine zJ ?_ fun y hy=>?_|refine aP ?_ ?_)
       all_goals first|(exfalso;omega)|rfl
   | cons s po=>
     simp only[List.length_cons] at hlen2;have hso:=hM.sm s (by rw[hs];simp);obtain⟨s1,s2⟩:=hso.n;obtain⟨s3,s4⟩:=hso.c;obtain⟨s5,s6⟩:=hso.w;obtain⟨nA,nB⟩:=at_split (l:=M.no) (i:=s.nose.toNat) (d:=[]) (by omega);have nI:AV.int .i64 s.nose= .int .i64 ((M.no.take s.nose.toNat).length:Int):=int_eq (by rw[nB];omega);have hno:=hM.no _ (getD_mem (l:=M.no) (i:=s.nose.toNat) (d:=[]) (by omega));obtain⟨N,hN⟩:∃N,M.no.getD s.nose.toNat []=N:=⟨_,rfl⟩;obtain⟨cA,cB⟩:=at_split (l:=c) (i:=s.cen.toNat) (d:=0) (by omega);have cI:AV.int .i64 s.cen= .int .i64 ((c.take s.cen.toNat).length:Int):=int_eq (by rw[cB];omega);have hw:=hcw _ (getD_mem (l:=c) (i:=s.cen.toNat) (d:=0) (by omega));obtain⟨w,hwe⟩:∃w,c.getD s.cen.toNat 0=w:=⟨_,rfl⟩;have htk:tkF M.no c s=((M.no.getD s.nose.toNat []).getD (c.getD s.cen.toNat 0).toNat []).getD s.wood.toNat 0:=rfl;rw[hN] at nA hno htk;rw[hwe] at cA hw htk;have hNl:=hno.l;obtain⟨rA,rB⟩:=at_split (l:=N) (i:=w.toNat) (d:=[]) (by omega);have rI:AV.int .i64 w= .int .i64 ((N.take w.toNat).length:Int):=int_eq (by rw[rB];omega);have hrow:=hno.r _ (getD_mem (l:=N) (i:=w.toNat) (d:=[]) (by omega));obtain⟨row,hrw⟩:∃row,N.getD w.toNat []=row:=⟨_,rfl⟩;rw[hrw] at rA hrow htk;have hrl:=hrow.1;obtain⟨kA,kB⟩:=at_split (l:=row) (i:=s.wood.toNat) (d:=0) (by omega);have kI:AV.int .i64 s.wood= .int .i64 ((row.take s.wood.toNat).length:Int):=int_eq (by rw[kB];omega);rw[←htk] at kA;obtain⟨tv,htv⟩:∃tv,tkF M.no c s=tv:=⟨_,rfl⟩;rw[htv] at kA;have hsn:(pr++[s]).map (tkF M.no c)=L++[tv]:=by rw[List.map_append,hL,List.map_cons,List.map_nil,htv]
     cases L with
     | nil=>
       repeat' (first|refine aR ?_|(first|refine w_ixP (f:=fun s:Sm=>[AV.int .i64 s.nose,.int .i64 s.cen,.int .i64 s.wood]) hs rfl rfl ?_|refine w_ixP (f:=fun n:List (List Int)=>[AV.slc 1 (llR n) .non]) nA rfl nI ?_|refine w_ixP (f:=fI) cA rfl cI ?_|refine w_ixP rA rfl rI ?_|refine w_ixP (f:=fI) kA rfl kI ?_)|with_reducible refine zI fun y hy=>?_|refine aX ?_|with_reducible intro _|with_reducible refine zJ ?_ fun y hy=>?_|refine aP ?_ ?_)
       all_goals try (exfalso;omega)
       all_goals
        rename_i g5;exact q_loop (pr++[s],po,g5) (by show M.sm=_;rw[hs];simp) (Nat.lt_succ_self _) ⟨by rw[len_snoc];rfl,by
         show _=wtV n ((pr++[s]).map (tkF M.no c)) g5
         rw[hsn];rfl,trivial⟩  ⟨by
         show _=wtX ((pr++[s]).map (tkF M.no c)) g5
         rw[hsn];rfl,trivial⟩ aK aK
     | cons y L=>
       have hyl:(iR (n::y::L)).length=pr.length+1:=by rw[List.length_map,List.length_cons,hLl]
       repeat' (first|refine aR ?_|(first|refine w_ixP (f:=fun s:Sm=>[AV.int .i64 s.nose,.int .i64 s.cen,.int .i64 s.wood]) hs rfl rfl ?_|refine w_ixP (f:=fun n:List (List Int)=>[AV.slc 1 (llR n) .non]) nA rfl nI ?_|refine w_ixP (f:=fI) cA rfl cI ?_|refine w_ixP rA rfl rI ?_|refine w_ixP (f:=fI) kA rfl kI ?_)|with_reducible refine zI fun y hy=>?_|refine aX ?_|with_reducible intro _|with_reducible refine zJ ?_ fun y hy=>?_|refine aP ?_ ?_)
       all_goals try (exfalso;omega)
       all_goals
        rename_i g5;exact q_loop (pr++[s],po,g5) (by show M.sm=_;rw[hs];simp) (Nat.lt_succ_self _) ⟨by rw[len_snoc];rfl,by
         show _=wtV n ((pr++[s]).map (tkF M.no c)) g5
         rw[hsn];first|rfl|exact wtV_snoc _ _ _ _ _,trivial⟩ ⟨by
         show _=wtX ((pr++[s]).map (tkF M.no c)) g5
         rw[hsn];rfl,trivial⟩ aK aK
def ir139:IFn:= ⟨54,[(4,none)],(sO [oo 2 (.box 4 0),oM 4 (kI 0)] (.seq (sO [oM 8 1,oN 9 8,oB 10 .gtr 9 (kI 12)] (.cnd 10 (sO [oM 4 (kI 8)] .ret) .skip)) (.seq (sO [oM 11 1,oN 12 11,oM 13 (kI 0)] (.blk 0 (.loop (sO [oB 14 .lss 13 12] (.seq (.cnd 14 .skip (.exit 0)) (.seq (.blk 1 (sO [oA 15 3 11 13,oo 16 (.ld 3 true 15),oo 6 (.new [z0,z0,z0]),oS 3 6 16] (.seq (sO [oF 17 0 6,oL 18 17,oC 19 129 [18,(kI 1),(kI 4)],oo 20 (.not 19)] (.cnd 20 (sO [oM 4 (kI 4)] .ret) .skip)) (sO [oo 21 (.ld 4 true 2),oC 22 124 [21],oM 7 22] (.seq (sO [oF 23 0 6,oL 24 23,oB 25 .geq 24 (kI 3)] (.cnd 25 (.ops [oo 26 (.ld 4 true 2),oC 27 126 [26],oM 7 27]) .skip)) (.blk 2 (.seq (sO [oF 29 1 6,oL 30 29,oo 31 (.ld 4 true 2),oC 32 126 [31],oK 29 30,oB 33 .sub 32 (kI 1),oC 34 129 [30,(kI 0),33],oo 35 (.not 34),oM 28 35] (.cnd 28 .skip (.ops [oF 36 2 6,oL 37 36,oM 38 7,oB 39 .sub 38 (kI 1),oC 40 129 [37,(kI 0),39],oo 41 (.not 40),oM 28 41]))) (.cnd 28 (sO [oM 4 (kI 7)] .ret) (sO [oF 43 0 6,oL 44 43,oB 45 .geq 44 (kI 3),oM 46 45,⟨(some 47),(some (46,true)),(.flA 1 6)⟩,⟨(some 48),(some (46,true)),(.ld 1 false 47)⟩,⟨(some 49),(some (46,true)),(.flA 2 6)⟩,⟨(some 50),(some (46,true)),(.ld 1 false 49)⟩,⟨(some 51),(some (46,true)),(.bin .eql 48 50)⟩,oo 52 (.pick 46 51 (kB false)),oM 42 52] (.cnd 42 (sO [oM 4 (kI 3)] .ret) .skip)))))))))) (.ops [oB 53 .add 13 (kI 1),oM 13 53]))))))) (sO [oM 4 (kI 0)] .ret))))⟩
def ir73:IFn:= ⟨6,[(4,none)],(sO [oo 2 (.box 4 0),oo 3 (.box 5 1),oo 4 (.mov (.k .nfn))] (.seq (.seq (.frz 2) (.seq (.frz 3) (.ops [oo 5 (.mkf (.func 140) [] [2,3]),oM 4 5]))) .ret))⟩
def hint73(P:Program):Hint:={site:=[],nils:=[],frz:=[(5,2),(5,3)],mve:=[],wr:=[] }
def ir140:IFn:= ⟨33,[],(sO [oF 7 2 1,oL 8 7,oN 9 8,oM 10 (kI 0)] (.blk 0 (.loop (sO [oB 11 .lss 10 9] (.seq (.cnd 11 .skip (.exit 0)) (.seq (.blk 1 (sO [oM 12 10,oA 13 1 8 10,oL 14 13,oM 4 12,oM 5 14] (sO [oo 15 (.ld 5 true 2),oM 16 5,oF 17 3 1,oL 18 17,oM 19 4,oA 20 1 18 19,oL 21 20,oC 22 141 [15,16,21],oM 6 22] (sO [oM 23 6,oB 24 .gtr 23 (kI 0),oM 25 24,⟨(some 26),(some (25,true)),(.mov 0)⟩,⟨(some 27),(some (25,true)),(.mov 5)⟩,⟨(some 28),(some (25,true)),(.mov 6)⟩,⟨(some 29),(some (25,true)),(.callV 26 [27,28])⟩,⟨(some 30),(some (25,true)),(.not 29)⟩,oo 31 (.pick 25 30 (kB false))] (.cnd 31 .ret .skip))))) (.ops [oB 32 .add 10 (kI 1),oM 10 32])))))))⟩
theorem checkFacts_c(G:Gm)(c0:List Int×Int)(C:List (List Int×Int))(l:List Fa)(hc:c0.1.length<1000)(hw:G.ws.length<1000):FV 139 [tbA G (c0::C),.slc 3 (faR l) .non] (.int .i64 (fcErr c0.1.length G.ws.length l)):=by
 have hlR:(faR l).length=l.length:=List.length_map _;have hce:=tcens_c G c0 C;have hwo:=twoods_c G (c0::C);obtain⟨R,hR⟩:∃R,fcErr c0.1.length G.ws.length l=R:=⟨_,rfl⟩;rw[hR];unfold fcErr at hR;by_cases hl12:l.length≤12
 rotate_left
 · rw[if_neg hl12] at hR;subst hR;refine wk ir139 Tryz.func139 ?_;unfold ir139
   repeat' (first|refine aR ?_|refine aX ?_|with_reducible intro _|refine aP ?_ ?_)
   all_goals exact aZ
 rw[if_pos hl12] at hR;refine wk ir139 Tryz.func139 ?_;unfold ir139
 repeat' (first|refine aR ?_|refine aX ?_|with_reducible intro _|refine aP ?_ ?_)
 all_goals try (exfalso;omega)
 refine w_loopK [2,11,12] [2] (fun x:List Fa×List Fa=>l=x.1++x.2∧fasErr c0.1.length G.ws.length x.2=R) (fun x=>x.2.length) (fun x=>[(13,.int .i64 (x.1.length:Int))]) (fun _=>[]) ([],l) ⟨rfl,hR⟩ ⟨rfl,trivial⟩ trivial ?_;rintro⟨pre,post⟩ ⟨hl,hb⟩ e σ;dsimp only at hl hb ⊢;have hlen:=congrArg List.length hl;rw[List.length_append] at hlen;cases post with
 | nil=>
   simp only[List.length_nil] at hlen;have hb0:(0:Int)=R:=hb;subst hb0
   repeat' (first|refine aR ?_|refine aX ?_|with_reducible intro _|refine aP ?_ ?_)
   all_goals first|(exfalso;omega)|rfl
 | cons f post=>
   simp only[List.length_cons] at hlen;rw[fasErr] at hb;have h1:=kin_c f.kind 1 4;have h2:=kin_c f.a 0 ((c0.1.length:Int)-1);have h3:=kin_c f.b 0 ((fcM c0.1.length G.ws.length f:Nat)-1);obtain⟨F,hF⟩:∃F,faErr c0.1.length G.ws.length f=F:=⟨_,rfl⟩;rw[hF] at hb;unfold faErr at hF;cases b1:inB f.kind 1 4 with
   | false=>
     rw[b1] at h1 hF;rw[if_neg Bool.false_ne_true] at hF;subst hF;rw[if_neg (by decide)] at hb;subst hb
     repeat' (first|refine aR ?_|(first|refine w_ixP (f:=fun f:Fa=>[AV.int .i64 f.kind,.int .i64 f.a,.int .i64 f.b]) hl rfl rfl ?_)|((with_reducible refine aC ?_);first|refine aV h1 ?_)|refine aX ?_|with_reducible intro _|refine aP ?_ ?_)
     all_goals first|(exfalso;omega)|rfl
   | true=>
     rw[b1] at h1 hF;rw[if_pos rfl] at hF;cases b2:inB f.a 0 ((c0.1.length:Int)-1) with
     | false=>
       rw[b2] at h2 hF;rw[if_neg (by simp)] at hF;subst hF;rw[if_neg (by decide)] at hb;subst hb
       repeat' (first|refine aR ?_|(first|refine w_ixP (f:=fun f:Fa=>[AV.int .i64 f.kind,.int .i64 f.a,.int .i64 f.b]) hl rfl rfl ?_)|((with_reducible refine aC ?_);first|refine aV h1 ?_|refine aV h2 ?_|refine aV hce ?_|refine aV hwo ?_)|refine aX ?_|with_reducible intro _|refine aP ?_ ?_)
       all_goals first|(exfalso;omega)|rfl
     | true=>
       rw[b2] at h2 hF;cases b3:inB f.b 0 ((fcM c0.1.length G.ws.length f:Nat)-1) with
       | false=>
         rw[b3] at h3 hF;rw[if_neg (by simp)] at hF;subst hF;rw[if_neg (by decide)] at hb;subst hb;by_cases k3:3≤f.kind
         · rw[show fcM c0.1.length G.ws.length f=c0.1.length from if_pos k3] at h3
           repeat' (first|refine aR ?_|(first|refine w_ixP (f:=fun f:Fa=>[AV.int .i64 f.kind,.int .i64 f.a,.int .i64 f.b]) hl rfl rfl ?_)|((with_reducible refine aC ?_);first|refine aV h1 ?_|refine aV h2 ?_|refine aV h3 ?_|refine aV hce ?_|refine aV hwo ?_)|refine aX ?_|with_reducible intro _|refine aP ?_ ?_)
           all_goals exact aZ
         · rw[show fcM c0.1.length G.ws.length f=G.ws.length from if_neg k3] at h3
           repeat' (first|refine aR ?_|(first|refine w_ixP (f:=fun f:Fa=>[AV.int .i64 f.kind,.int .i64 f.a,.int .i64 f.b]) hl rfl rfl ?_)|((with_reducible refine aC ?_);first|refine aV h1 ?_|refine aV h2 ?_|refine aV h3 ?_|refine aV hce ?_|refine aV hwo ?_)|refine aX ?_|with_reducible intro _|refine aP ?_ ?_)
           all_goals first|(exfalso;omega)|rfl
       | true=>
         rw[b3] at h3 hF;rw[if_pos ⟨rfl,rfl⟩] at hF;by_cases k3:3≤f.kind
         · rw[show fcM c0.1.length G.ws.length f=c0.1.length from if_pos k3] at h3;by_cases hab:f.a=f.b
           · rw[if_pos ⟨k3,hab⟩] at hF;subst hF;rw[if_neg (by decide)] at hb;subst hb
             repeat' (first|refine aR ?_|(first|refine w_ixP (f:=fun f:Fa=>[AV.int .i64 f.kind,.int .i64 f.a,.int .i64 f.b]) hl rfl rfl ?_)|((with_reducible refine aC ?_);first|refine aV h1 ?_|refine aV h2 ?_|refine aV h3 ?_|refine aV hce ?_|refine aV hwo ?_)|refine aX ?_|with_reducible intro _|refine aP ?_ ?_)
             all_goals exact aZ
           · rw[if_neg (fun h=>hab h.2)] at hF;subst hF;rw[if_pos rfl] at hb
             repeat' (first|refine aR ?_|(first|refine w_ixP (f:=fun f:Fa=>[AV.int .i64 f.kind,.int .i64 f.a,.int .i64 f.b]) hl rfl rfl ?_)|((with_reducible refine aC ?_);first|refine aV h1 ?_|refine aV h2 ?_|refine aV h3 ?_|refine aV hce ?_|refine aV hwo ?_)|refine aX ?_|with_reducible intro _|refine aP ?_ ?_)
             all_goals first|(exfalso;omega)|exact q_loop (pre++[f],post) ⟨by show l=_;rw[hl];simp,hb⟩ (Nat.lt_succ_self _) ⟨by rw[len_snoc];rfl,trivial⟩ aS aK aK
         · rw[show fcM c0.1.length G.ws.length f=G.ws.length from if_neg k3] at h3;rw[if_neg (fun h=>k3 h.1)] at hF;subst hF;rw[if_pos rfl] at hb
           repeat' (first|refine aR ?_|(first|refine w_ixP (f:=fun f:Fa=>[AV.int .i64 f.kind,.int .i64 f.a,.int .i64 f.b]) hl rfl rfl ?_)|((with_reducible refine aC ?_);first|refine aV h1 ?_|refine aV h2 ?_|refine aV h3 ?_|refine aV hce ?_|refine aV hwo ?_)|refine aX ?_|with_reducible intro _|refine aP ?_ ?_)
           all_goals first|(exfalso;omega)|exact q_loop (pre++[f],post) ⟨by show l=_;rw[hl];simp,hb⟩ (Nat.lt_succ_self _) ⟨by rw[len_snoc];rfl,trivial⟩ aS aK aK
abbrev tbP(G:Gm)(C:List (List Int×Int)):AV:= .pin (tbC G C)
abbrev mdP(M:Md):AV:= .pin (mdC M)
theorem tleft_c(M:Md)(C:List (List Int×Int)):FV 73 [tbA M.g C,mdA M] (.clo (.func 140) [] [tbP M.g C,mdP M]):=by
 refine RawC.walk (H:=hint73 Tryz.prog) ir73 Tryz.func73 rfl rfl rfl ?_;unfold ir73
 repeat' (first|refine aR ?_|refine aL ?_|(refine w_frzR rfl rfl rfl ?_)|refine aX ?_|with_reducible intro _|refine aP ?_ ?_)
 all_goals exact aZ
def ir123:IFn:= ⟨42,[(4,none)],(sO [oo 2 (.box 1 0),oM 4 (kI 0)] (.seq (sO [oF 10 0 2,oL 11 10,oN 12 11,oM 13 1,oB 14 .neq 12 13] (.cnd 14 (sO [oM 4 (kI 3)] .ret) .skip)) (.seq (sO [oF 15 0 2,oL 16 15,oN 17 16,oM 18 (kI 0)] (.blk 0 (.loop (sO [oB 19 .lss 18 17] (.seq (.cnd 19 .skip (.exit 0)) (.seq (.blk 1 (sO [oA 20 1 16 18,oL 21 20,oM 6 21] (.seq (sO [oM 22 6,oN 23 22,oM 24 1,oB 25 .neq 23 24] (.cnd 25 (sO [oM 4 (kI 3)] .ret) .skip)) (sO [oM 7 (kI 0)] (.seq (sO [oM 26 6,oN 27 26,oM 28 (kI 0)] (.blk 2 (.loop (sO [oB 29 .lss 28 27] (.seq (.cnd 29 .skip (.exit 2)) (.seq (.blk 3 (sO [oA 30 1 26 28,oL 31 30,oM 9 31] (.seq (sO [oM 32 9,oC 33 129 [32,(kI 0),(kI 10)],oo 34 (.not 33)] (.cnd 34 (sO [oM 4 (kI 2)] .ret) .skip)) (.ops [oM 35 7,oM 36 9,oB 37 .add 35 36,oM 7 37])))) (.ops [oB 38 .add 28 (kI 1),oM 28 38]))))))) (sO [oM 39 7,oB 40 .neq 39 (kI 10)] (.cnd 40 (sO [oM 4 (kI 3)] .ret) .skip))))))) (.ops [oB 41 .add 18 (kI 1),oM 18 41]))))))) (sO [oM 4 (kI 0)] .ret))))⟩
def ir138:IFn:= ⟨52,[(4,none)],(sO [oo 2 (.box 4 0),oo 3 (.box 5 1),oM 4 (kI 0)] (.seq (sO [oF 7 3 3,oL 8 7,oN 9 8,oB 10 .gtr 9 (kI 8)] (.cnd 10 (sO [oM 4 (kI 8)] .ret) .skip)) (.seq (sO [oF 11 3 3,oL 12 11,oN 13 12,oM 14 (kI 0)] (.blk 0 (.loop (sO [oB 15 .lss 14 13] (.seq (.cnd 15 .skip (.exit 0)) (.seq (.blk 1 (sO [oM 16 14,oA 17 3 12 14,oo 18 (.ld 3 true 17),oo 6 (.new [z0,z0,z0]),oM 5 16,oS 3 6 18] (.seq (sO [oF 19 0 6,oL 20 19,oF 21 2 3,oL 22 21,oN 23 22,oB 24 .sub 23 (kI 1),oC 25 129 [20,(kI 0),24],oo 26 (.not 25),oM 27 26,⟨(some 28),(some (27,false)),(.flA 1 6)⟩,⟨(some 29),(some (27,false)),(.ld 1 false 28)⟩,⟨(some 30),(some (27,false)),(.ld 4 true 2)⟩,⟨(some 31),(some (27,false)),(.callF 126 [30])⟩,⟨none,(some (27,false)),(.chk 1 false 28 29)⟩,⟨(some 32),(some (27,false)),(.bin .sub 31 (kI 1))⟩,⟨(some 33),(some (27,false)),(.callF 129 [29,(kI 0),32])⟩,⟨(some 34),(some (27,false)),(.not 33)⟩,oo 35 (.pick 27 (kB true) 34),oM 36 35,⟨(some 37),(some (36,false)),(.flA 2 6)⟩,⟨(some 38),(some (36,false)),(.ld 1 false 37)⟩,⟨(some 39),(some (36,false)),(.ld 4 true 2)⟩,⟨(some 40),(some (36,false)),(.callF 124 [39])⟩,⟨none,(some (36,false)),(.chk 1 false 37 38)⟩,⟨(some 41),(some (36,false)),(.bin .sub 40 (kI 1))⟩,⟨(some 42),(some (36,false)),(.callF 129 [38,(kI 0),41])⟩,⟨(some 43),(some (36,false)),(.not 42)⟩,oo 44 (.pick 36 (kB true) 43)] (.cnd 44 (sO [oM 4 (kI 7)] .ret) .skip)) (.seq (.seq (.frz 6) (.ops [oF 45 3 3,oL 46 45,oM 47 5,oo 48 (.slS 3 46 none (some 47) none),oo 49 (.mkf (.func 190) [] [6]),oC 50 189 [48,49]])) (.cnd 50 (sO [oM 4 (kI 9)] .ret) .skip))))) (.ops [oB 51 .add 14 (kI 1),oM 14 51]))))))) (sO [oM 4 (kI 0)] .ret))))⟩
def hint138(P:Program):Hint:={site:=[],nils:=[],frz:=[(49,6)],mve:=[],wr:=[] }
def ir190:IFn:= ⟨16,[(3,none)],(sO [oo 2 (.box 3 0),oM 3 (kB false)] (sO [oF 4 0 2,oL 5 4,oF 6 0 1,oL 7 6,oB 8 .eql 5 7,oM 9 8,⟨(some 10),(some (9,true)),(.flA 1 2)⟩,⟨(some 11),(some (9,true)),(.ld 1 false 10)⟩,⟨(some 12),(some (9,true)),(.flA 1 1)⟩,⟨(some 13),(some (9,true)),(.ld 1 false 12)⟩,⟨(some 14),(some (9,true)),(.bin .eql 11 13)⟩,oo 15 (.pick 9 14 (kB false)),oM 3 15] .ret))⟩
def ir189:IFn:= ⟨9,[(4,none)],(sO [oM 4 (kB false)] (sO [oM 5 0,oM 6 1,oC 7 187 [5,6],oB 8 .geq 7 (kI 0),oM 4 8] .ret))⟩
def ir187:IFn:= ⟨19,[(4,none)],(sO [oM 4 (kI 0)] (.seq (sO [oM 6 0,oN 7 6,oM 8 (kI 0)] (.blk 0 (.loop (sO [oB 9 .lss 8 7] (.seq (.cnd 9 .skip (.exit 0)) (.seq (.blk 1 (sO [oM 10 8,oM 5 10] (sO [oM 11 1,oM 12 0,oM 13 5,oA 14 3 12 13,oo 15 (.ld 3 true 14),oo 16 (.callV 11 [15])] (.cnd 16 (sO [oM 17 5,oM 4 17] .ret) .skip)))) (.ops [oB 18 .add 8 (kI 1),oM 8 18]))))))) (sO [oo 4 (.mov (.k (.int .i64 (-1))))] .ret)))⟩
abbrev noA(n:List (List Int)):AV:= .agg [.slc 1 (llR n) .non]
section
variable {P:Program} {K:(Nat→AV)→Sig→Prop} {e:Nat→AV} {σ:Sig} {x:IOpd} {r:List IStep}
theorem w_slHd{α:Type}{f:α→List AV}{l pre post:List α}{d sz:Nat}{t:Tag}{j:IOpd}(hl:l=pre++post)(hx:x.ev e= .slc sz (l.map f) t)(hj:j.ev e= .int .i64 (pre.length:Int))(hk:stepsW P r K (upd e d (.slc sz (pre.map f) .non)) σ):stepsW P (⟨some d,none,.slS sz x none (some j) none⟩::r) K e σ:=by
 subst hl;refine w_slM (a:=0) (b:=(pre.length:Int)) hx rfl (by show boundO e _ (some j)=_;unfold boundO;simp only[hj]) ⟨Int.le_refl _,Int.natCast_nonneg _,by rw[List.length_append];omega⟩ ?_;have e1:((pre++post).drop (0:Int).toNat).take ((pre.length:Int)-0).toNat=pre:=by
  show (pre++post).take _=pre
  rw[show ((pre.length:Int)-0).toNat=pre.length by omega,List.take_left]
 rw[e1];exact hk
end
theorem checkNose_c(n:List (List Int))(W:Nat)(hW:W<1000):FV 123 [noA n,.int .i64 (W:Nat)] (.int .i64 (noErr W n)):=by
 have hnl:(llR n).length=n.length:=List.length_map _;obtain⟨R,hR⟩:∃R,noErr W n=R:=⟨_,rfl⟩;rw[hR];unfold noErr at hR;by_cases hl0:n.length=W
 rotate_left
 · rw[if_neg hl0] at hR;subst hR;refine wk ir123 Tryz.func123 ?_;unfold ir123
   repeat' (first|refine aR ?_|refine aX ?_|with_reducible intro _|refine aP ?_ ?_)
   all_goals exact aZ
 rw[if_pos hl0] at hR;refine wk ir123 Tryz.func123 ?_;unfold ir123
 repeat' (first|refine aR ?_|refine aX ?_|with_reducible intro _|refine aP ?_ ?_)
 all_goals try (exfalso;omega)
 refine w_loopK [1,16,17] [] (fun x:List (List Int)×List (List Int)=>n=x.1++x.2∧nsErr W x.2=R) (fun x=>x.2.length) (fun x=>[(18,.int .i64 (x.1.length:Int))]) (fun _=>[]) ([],n) ⟨rfl,hR⟩ ⟨rfl,trivial⟩ trivial ?_;rintro⟨pre,post⟩ ⟨hl,hb⟩ e σ;dsimp only at hl hb ⊢;have hlen:=congrArg List.length hl;rw[List.length_append] at hlen;cases post with
 | nil=>
   simp only[List.length_nil] at hlen;have hb0:(0:Int)=R:=hb;subst hb0
   repeat' (first|refine aR ?_|refine aX ?_|with_reducible intro _|refine aP ?_ ?_)
   all_goals first|(exfalso;omega)|rfl
 | cons w post=>
   simp only[List.length_cons] at hlen;rw[nsErr] at hb;have hwl:(iR w).length=w.length:=List.length_map _;by_cases hw:w.length=W
   rotate_left
   · have hre:rowErr W w=3:=if_neg hw;rw[hre,if_neg (by decide)] at hb;subst hb
     repeat' (first|refine aR ?_|(first|refine w_ixP hl rfl rfl ?_)|refine aX ?_|with_reducible intro _|refine aP ?_ ?_)
     all_goals exact aZ
   have hre:rowErr W w=(if w.any (fun k=>!inB k 0 10)=true then 2 else if w.sum=10 then 0 else 3):=if_pos hw
   repeat' (first|refine aR ?_|(first|refine w_ixP hl rfl rfl ?_)|refine aX ?_|with_reducible intro _|refine aP ?_ ?_)
   all_goals try (exfalso;omega)
   refine w_loopK [1,16,17,18,26,27] [] (fun x:List Int×List Int=>w=x.1++x.2∧(if x.2.any (fun k=>!inB k 0 10)=true then (2:Int) else if w.sum=10 then 0 else 3)=rowErr W w∧0≤x.1.sum∧x.1.sum≤10*x.1.length) (fun x=>x.2.length) (fun x=>[(28,.int .i64 (x.1.length:Int)),(7,.int .i64 x.1.sum)]) (fun _=>[]) ([],w) ⟨rfl,hre.symm,Int.le_refl _,(show (0:Int)≤0 by decide)⟩ ⟨rfl,rfl,trivial⟩ trivial ?_;rintro⟨p,q⟩ ⟨hl2,hb2,hs0,hs1⟩ e2 σ2;dsimp only at hl2 hb2 hs0 hs1 ⊢;have hlen2:=congrArg List.length hl2;rw[List.length_append] at hlen2;cases q with
   | nil=>
     simp only[List.length_nil] at hlen2;rw[List.append_nil] at hl2;have hb3:(if w.sum=10 then (0:Int) else 3)=rowErr W w:=hb2;rw[←hl2];by_cases h10:w.sum=10
     · rw[if_pos h10] at hb3;rw[←hb3,if_pos rfl] at hb
       repeat' (first|refine aR ?_|refine aX ?_|with_reducible intro _|refine aP ?_ ?_)
       all_goals first|(exfalso;omega)|exact q_loop (pre++[w],post) ⟨by show n=_;rw[hl];simp,hb⟩ (Nat.lt_succ_self _) ⟨by rw[len_snoc];rfl,trivial⟩ aS aK aK
     · rw[if_neg h10] at hb3;rw[←hb3,if_neg (by decide)] at hb;subst hb
       repeat' (first|refine aR ?_|refine aX ?_|with_reducible intro _|refine aP ?_ ?_)
       all_goals first|(exfalso;omega)|rfl
   | cons k q=>
     simp only[List.length_cons] at hlen2;have hin:=kin_c k 0 10;rw[List.any_cons] at hb2;have hsn:(p++[k]).sum=p.sum+k:=by simp
     cases hk:inB k 0 10 with
     | true=>
       rw[hk] at hin hb2;have hk2:=inB_t.1 hk
       repeat' (first|refine aR ?_|(first|refine w_ixP (f:=fI) hl2 rfl rfl ?_)|((with_reducible refine aC ?_);first|refine aV hin ?_)|refine aX ?_|with_reducible intro _|refine aP ?_ ?_)
       all_goals first|(exfalso;omega)|exact q_loop (p++[k],q) ⟨by show w=_;rw[hl2];simp,hb2,by dsimp only;rw[hsn];omega,by dsimp only;rw[hsn,len_snoc];omega⟩ (Nat.lt_succ_self _) ⟨by rw[len_snoc];rfl,by show AV.int .i64 _=AV.int .i64 _;rw[hsn],trivial⟩ aS aK aK
     | false=>
       rw[hk] at hin hb2;have hb3:(2:Int)=rowErr W w:=hb2;rw[←hb3,if_neg (by decide)] at hb;subst hb
       repeat' (first|refine aR ?_|(first|refine w_ixP (f:=fI) hl2 rfl rfl ?_)|((with_reducible refine aC ?_);first|refine aV hin ?_)|refine aX ?_|with_reducible intro _|refine aP ?_ ?_)
       all_goals exact aZ
theorem smD_c(s x:Sm):FV 190 [smA x,.pin [.int .i64 s.nose,.int .i64 s.cen,.int .i64 s.wood]] (.bool (smD s x)):=by
 by_cases h:x.nose=s.nose
 · rw[show smD s x=decide (x.cen=s.cen) by simp[smD,h]];refine wk ir190 Tryz.func190 ?_;unfold ir190
   repeat' (first|refine aR ?_|refine aX ?_|with_reducible intro _|refine aP ?_ ?_)
   all_goals exact aZ
 · rw[show smD s x=false by simp[smD,h]];refine wk ir190 Tryz.func190 ?_;unfold ir190
   repeat' (first|refine aR ?_|refine aX ?_|with_reducible intro _|refine aP ?_ ?_)
   all_goals exact aZ
theorem idxS_c(k:Nat)(cs:List AV)(p:Sm→Bool)(l:List Sm)(hl:l.length<1000000)(hf:∀x∈l,FV k [smA x,.pin cs] (.bool (p x))):Fn0 Tryz.prog 187 [.slc 3 (smR l) .non,.clo (.func k) [] [.pin cs]] (fun v=>∃i:Int,v= .int .i64 i∧(0≤i↔l.any p=true)):=by
 refine wk ir187 Tryz.func187 ?_;unfold ir187
 repeat' (first|refine aR ?_|refine aX ?_|with_reducible intro _|refine aP ?_ ?_)
 refine w_loopK [0,1,7] [] (fun x:List Sm×List Sm=>l=x.1++x.2∧x.1.any p=false) (fun x=>x.2.length) (fun x=>[(8,.int .i64 x.1.length)]) (fun _=>[]) ([],l) ⟨rfl,rfl⟩ ⟨rfl,trivial⟩ trivial ?_;rintro⟨pre,post⟩ ⟨hll,hb⟩ e σ;dsimp only at hll hb ⊢;have hlen:=congrArg List.length hll;cases post with
 | nil=>
   simp only[List.append_nil,List.length_append,List.length_nil] at hlen
   repeat' (first|refine aR ?_|refine aX ?_|with_reducible intro _|refine aP ?_ ?_)
   all_goals first|(exfalso;omega)|exact⟨-1,rfl,by rw[hll,List.append_nil,hb];simp⟩
 | cons c post=>
   simp only[List.length_append,List.length_cons] at hlen;have hfc:=hf c (by rw[hll];simp);cases hpc:p c with
   | false=>
     rw[hpc] at hfc
     repeat' (first|refine aR ?_|(refine w_ixP (f:=fun s:Sm=>[AV.int .i64 s.nose,.int .i64 s.cen,.int .i64 s.wood]) hll rfl rfl ?_)|((with_reducible refine aC ?_);first|refine aV hfc ?_)|refine aX ?_|with_reducible intro _|refine aP ?_ ?_)
     all_goals first|(exfalso;omega)|exact q_loop (pre++[c],post) ⟨by dsimp only;rw[hll];simp,by rw[List.any_append,hb];simp[hpc]⟩ (Nat.lt_succ_self _) ⟨by rw[len_snoc];rfl,trivial⟩ aS aK aK
   | true=>
     rw[hpc] at hfc
     repeat' (first|refine aR ?_|(refine w_ixP (f:=fun s:Sm=>[AV.int .i64 s.nose,.int .i64 s.cen,.int .i64 s.wood]) hll rfl rfl ?_)|((with_reducible refine aC ?_);first|refine aV hfc ?_)|refine aX ?_|with_reducible intro _|refine aP ?_ ?_)
     all_goals first|(exfalso;omega)|exact⟨pre.length,rfl,by rw[hll];simp[hpc]⟩
theorem conS_c(k:Nat)(cs:List AV)(p:Sm→Bool)(l:List Sm)(hl:l.length<1000000)(hf:∀x∈l,FV k [smA x,.pin cs] (.bool (p x))):FV 189 [.slc 3 (smR l) .non,.clo (.func k) [] [.pin cs]] (.bool (l.any p)):=by
 have hi:=idxS_c k cs p l hl hf;refine wk ir189 Tryz.func189 ?_;unfold ir189
 repeat' (first|refine aR ?_|((with_reducible refine aC ?_);first|(refine ACall.fn0 hi rfl ?_;rintro _ ⟨i,rfl,hk⟩))|refine aX ?_|with_reducible intro _|refine aP ?_ ?_)
 exact congrArg AV.bool (by rw[Bool.eq_iff_iff];simpa using hk)
theorem checkSmells_c(M:Md)(c0:List Int×Int)(C:List (List Int×Int))(hn:M.no.length<1000)(hc:c0.1.length<1000)(hw:M.g.ws.length<1000):FV 138 [tbA M.g (c0::C),mdA M] (.int .i64 (smErr M.no.length c0.1.length M.g.ws.length M.sm)):=by
 have hsR:(smR M.sm).length=M.sm.length:=List.length_map _;have hnR:(noR M.no).length=M.no.length:=List.length_map _;have hce:=tcens_c M.g c0 C;have hwo:=twoods_c M.g (c0::C);obtain⟨R,hR⟩:∃R,smErr M.no.length c0.1.length M.g.ws.length M.sm=R:=⟨_,rfl⟩;rw[hR];unfold smErr at hR;by_cases hl8:M.sm.length≤8
 rotate_left
 · rw[if_neg hl8] at hR;subst hR;refine RawC.walk (H:=hint138 Tryz.prog) ir138 Tryz.func138 rfl rfl rfl ?_;unfold ir138
   repeat' (first|refine aR ?_|refine aX ?_|with_reducible intro _|refine aP ?_ ?_)
   all_goals exact aZ
 rw[if_pos hl8] at hR;refine RawC.walk (H:=hint138 Tryz.prog) ir138 Tryz.func138 rfl rfl rfl ?_;unfold ir138
 repeat' (first|refine aR ?_|refine aX ?_|with_reducible intro _|refine aP ?_ ?_)
 all_goals try (exfalso;omega)
 refine w_loopK [2,3,12,13] [2,3] (fun x:List Sm×List Sm=>M.sm=x.1++x.2∧smsErr M.no.length c0.1.length M.g.ws.length x.1 x.2=R) (fun x=>x.2.length) (fun x=>[(14,.int .i64 (x.1.length:Int))]) (fun _=>[]) ([],M.sm) ⟨rfl,hR⟩ ⟨rfl,trivial⟩ trivial ?_;rintro⟨pre,post⟩ ⟨hl,hb⟩ e σ;dsimp only at hl hb ⊢;have hlen:=congrArg List.length hl;rw[List.length_append] at hlen;cases post with
 | nil=>
   simp only[List.length_nil] at hlen;have hb0:(0:Int)=R:=hb;subst hb0
   repeat' (first|refine aR ?_|refine aX ?_|with_reducible intro _|refine aP ?_ ?_)
   all_goals first|(exfalso;omega)|rfl
 | cons s post=>
   simp only[List.length_cons] at hlen;rw[smsErr] at hb;have h1:=kin_c s.nose 0 ((M.no.length:Int)-1);have h2:=kin_c s.cen 0 ((c0.1.length:Int)-1);have h3:=kin_c s.wood 0 ((M.g.ws.length:Int)-1);unfold smB at hb;cases b1:inB s.nose 0 ((M.no.length:Int)-1) with
   | false=>
     rw[b1] at h1 hb;have hb7:(7:Int)=R:=hb;subst hb7
     repeat' (first|refine aR ?_|(first|refine w_ixP (f:=fun s:Sm=>[AV.int .i64 s.nose,.int .i64 s.cen,.int .i64 s.wood]) hl rfl rfl ?_)|((with_reducible refine aC ?_);first|refine aV h1 ?_)|refine aX ?_|with_reducible intro _|refine aP ?_ ?_)
     all_goals first|(exfalso;omega)|rfl
   | true=>
     rw[b1] at h1 hb;cases b2:inB s.cen 0 ((c0.1.length:Int)-1) with
     | false=>
       rw[b2] at h2 hb;have hb7:(7:Int)=R:=hb;subst hb7
       repeat' (first|refine aR ?_|(first|refine w_ixP (f:=fun s:Sm=>[AV.int .i64 s.nose,.int .i64 s.cen,.int .i64 s.wood]) hl rfl rfl ?_)|((with_reducible refine aC ?_);first|refine aV h1 ?_|refine aV h2 ?_|refine aV hce ?_)|refine aX ?_|with_reducible intro _|refine aP ?_ ?_)
       all_goals first|(exfalso;omega)|rfl
     | true=>
       rw[b2] at h2 hb;cases b3:inB s.wood 0 ((M.g.ws.length:Int)-1) with
       | false=>
         rw[b3] at h3 hb;have hb7:(7:Int)=R:=hb;subst hb7
         repeat' (first|refine aR ?_|(first|refine w_ixP (f:=fun s:Sm=>[AV.int .i64 s.nose,.int .i64 s.cen,.int .i64 s.wood]) hl rfl rfl ?_)|((with_reducible refine aC ?_);first|refine aV h1 ?_|refine aV h2 ?_|refine aV h3 ?_|refine aV hce ?_|refine aV hwo ?_)|refine aX ?_|with_reducible intro _|refine aP ?_ ?_)
         all_goals first|(exfalso;omega)|rfl
       | true=>
         rw[b3] at h3 hb;have hco:=conS_c 190 [.int .i64 s.nose,.int .i64 s.cen,.int .i64 s.wood] (smD s) pre (by omega) fun x _=>smD_c s x;rw[if_pos (show (true && true && true)=true from rfl)] at hb;cases ha:pre.any (smD s) with
         | true=>
           rw[ha] at hco hb;have hb9:(9:Int)=R:=hb;subst hb9
           repeat' (first|refine aR ?_|(first|refine w_ixP (f:=fun s:Sm=>[AV.int .i64 s.nose,.int .i64 s.cen,.int .i64 s.wood]) hl rfl rfl ?_|refine w_slHd (f:=fun s:Sm=>[AV.int .i64 s.nose,.int .i64 s.cen,.int .i64 s.wood]) hl rfl rfl ?_)|refine aL ?_|(refine w_frzR rfl rfl rfl ?_)|((with_reducible refine aC ?_);first|refine aV h1 ?_|refine aV h2 ?_|refine aV h3 ?_|refine aV hce ?_|refine aV hwo ?_|refine aV hco ?_)|refine aX ?_|with_reducible intro _|refine aP ?_ ?_)
           all_goals first|(exfalso;omega)|rfl
         | false=>
           rw[ha] at hco hb;rw[if_neg Bool.false_ne_true] at hb
           repeat' (first|refine aR ?_|(first|refine w_ixP (f:=fun s:Sm=>[AV.int .i64 s.nose,.int .i64 s.cen,.int .i64 s.wood]) hl rfl rfl ?_|refine w_slHd (f:=fun s:Sm=>[AV.int .i64 s.nose,.int .i64 s.cen,.int .i64 s.wood]) hl rfl rfl ?_)|refine aL ?_|(refine w_frzR rfl rfl rfl ?_)|((with_reducible refine aC ?_);first|refine aV h1 ?_|refine aV h2 ?_|refine aV h3 ?_|refine aV hce ?_|refine aV hwo ?_|refine aV hco ?_)|refine aX ?_|with_reducible intro _|refine aP ?_ ?_)
           all_goals first|(exfalso;omega)|exact q_loop (pre++[s],post) ⟨by show M.sm=_;rw[hl];simp,hb⟩ (Nat.lt_succ_self _) ⟨by rw[len_snoc];rfl,trivial⟩ aS aK aK
def ir212:IFn:= ⟨19,[(4,none)],(sO [oM 4 (kI 0)] (.seq (sO [oM 6 0,oN 7 6,oM 8 (kI 0)] (.blk 0 (.loop (sO [oB 9 .lss 8 7] (.seq (.cnd 9 .skip (.exit 0)) (.seq (.blk 1 (sO [oM 10 8,oM 5 10] (sO [oM 11 1,oM 12 0,oM 13 5,oA 14 5 12 13,oo 15 (.ld 5 true 14),oo 16 (.callV 11 [15])] (.cnd 16 (sO [oM 17 5,oM 4 17] .ret) .skip)))) (.ops [oB 18 .add 8 (kI 1),oM 8 18]))))))) (sO [oo 4 (.mov (.k (.int .i64 (-1))))] .ret)))⟩
def ir172:IFn:= ⟨9,[(4,none)],(sO [oM 4 (kB false)] (sO [oM 5 0,oM 6 1,oC 7 212 [5,6],oB 8 .geq 7 (kI 0),oM 4 8] .ret))⟩
def ir170:IFn:= ⟨24,[(4,none)],(sO [oM 4 (.k .nsl)] (sO [oo 5 (.nil 1 5)] (.seq (sO [oM 8 0,oN 9 8,oM 10 (kI 0)] (.blk 0 (.loop (sO [oB 11 .lss 10 9] (.seq (.cnd 11 .skip (.exit 0)) (.seq (.blk 1 (sO [oM 12 10,oA 13 1 8 10,oL 14 13,oM 6 12,oM 7 14] (sO [oM 15 1,oM 16 7,oo 17 (.callV 15 [16])] (.cnd 17 (.ops [oM 18 5,oM 19 6,oo 20 (.bsl 1 [[z0]] [(0,19)]),oo 21 (.app 1 8 18 20 5),oM 5 21]) .skip)))) (.ops [oB 22 .add 10 (kI 1),oM 10 22]))))))) (sO [oM 23 5,oM 4 23] .ret))))⟩
def hint170(P:Program):Hint:={site:=[(21,5)],nils:=[(5,1)],frz:=[],mve:=[],wr:=[] }
def ir171:IFn:= ⟨9,[(3,none)],(sO [oo 2 (.box 1 0),oM 3 (kB false)] (.seq (.seq (.frz 2) (.ops [oF 4 1 1,oL 5 4,oo 6 (.mkf (.func 173) [] [2]),oC 7 172 [5,6],oo 8 (.not 7),oM 3 8])) .ret))⟩
def hint171(P:Program):Hint:={site:=[],nils:=[],frz:=[(6,2)],mve:=[],wr:=[] }
def ir174:IFn:= ⟨8,[(3,none)],(sO [oM 3 (kB false)] (sO [oM 4 0,oF 5 1 1,oL 6 5,oB 7 .eql 4 6,oM 3 7] .ret))⟩
def ir173:IFn:= ⟨13,[(3,none)],(sO [oo 2 (.box 5 0),oM 3 (kB false)] (sO [oF 4 0 2,oL 5 4,oB 6 .eql 5 (kI 1),oM 7 6,⟨(some 8),(some (7,true)),(.flA 3 2)⟩,⟨(some 9),(some (7,true)),(.ld 1 false 8)⟩,⟨(some 10),(some (7,true)),(.ld 1 false 1)⟩,⟨(some 11),(some (7,true)),(.bin .eql 9 10)⟩,oo 12 (.pick 7 11 (kB false)),oM 3 12] .ret))⟩
def whF(p:Int→Bool):Nat→List Int→List Int
 | _,[]=>[]
 | s,x::r=>if p x=true then (s:Int)::whF p (s+1) r else whF p (s+1) r
theorem whF_len(p:Int→Bool):∀(s:Nat) (l:List Int),(whF p s l).length≤l.length
 | _,[]=>Nat.le_refl _
 | s,x::r=>by
   have:=whF_len p (s+1) r;rw[whF];split
   · simp only[List.length_cons];omega
   · simp only[List.length_cons];omega
theorem where_c(k:Nat)(cs:List AV)(p:Int→Bool)(l:List Int)(hl:l.length<1000000)(hf:∀x∈l,FV k [.int .i64 x,.pin cs] (.bool (p x))):FV 170 [.slc 1 (iR l) .non,.clo (.func k) [] [.pin cs]] (.slc 1 (iR (whF p 0 l)) .non):=by
 refine RawC.walk (H:=hint170 Tryz.prog) ir170 Tryz.func170 rfl rfl rfl ?_;unfold ir170
 repeat' (first|refine aR ?_|with_reducible refine zI fun y hy=>?_|refine aX ?_|with_reducible intro _|with_reducible refine zJ ?_ fun y hy=>?_|refine aP ?_ ?_)
 rename_i g5;refine w_loopK [1,8,9] [] (fun x:List Int×List Int×List Int×Nat=>l=x.1++x.2.1∧x.2.2.1++whF p x.1.length x.2.1=whF p 0 l∧x.2.2.1.length≤x.1.length) (fun x=>x.2.1.length) (fun x=>[(10,.int .i64 x.1.length),(5,.slc 1 (iR x.2.2.1) (.own 5 x.2.2.2))]) (fun x=>[(5,(x.2.2.2,.row []))]) ([],l,[],g5) ⟨rfl,rfl,Nat.le_refl _⟩ ⟨rfl,rfl,trivial⟩ ⟨rfl,trivial⟩ ?_;rintro⟨pre,post,out,g⟩ ⟨hll,hb,ho⟩ e σ;dsimp only at hll hb ho ⊢;have hlen:=congrArg List.length hll;have hol:(iR out).length=out.length:=List.length_map _;cases post with
 | nil=>
   simp only[List.append_nil,List.length_append,List.length_nil] at hlen;rw[show whF p pre.length []=[] from rfl,List.append_nil] at hb;rw[←hb]
   repeat' (first|refine aR ?_|with_reducible refine zI fun y hy=>?_|refine aX ?_|with_reducible intro _|with_reducible refine zJ ?_ fun y hy=>?_|refine aP ?_ ?_)
   all_goals first|(exfalso;omega)|rfl
 | cons c post=>
   simp only[List.length_append,List.length_cons] at hlen;have hfc:=hf c (by rw[hll];simp);rw[whF] at hb;have hpl:(pre++[c]).length=pre.length+1:=len_snoc;cases hpc:p c with
   | false=>
     rw[hpc] at hfc;rw[if_neg (by rw[hpc];exact Bool.false_ne_true)] at hb
     repeat' (first|refine aR ?_|(refine w_ixP hll rfl rfl ?_)|with_reducible refine zI fun y hy=>?_|((with_reducible refine aC ?_);first|refine aV hfc ?_)|refine aX ?_|with_reducible intro _|with_reducible refine zJ ?_ fun y hy=>?_|refine aP ?_ ?_)
     all_goals first|(exfalso;omega)|exact q_loop (pre++[c],post,out,g) ⟨by dsimp only;rw[hll];simp,by dsimp only;rw[hpl];exact hb,by dsimp only;omega⟩ (Nat.lt_succ_self _) ⟨by rw[len_snoc];rfl,rfl,trivial⟩ aS aK aK
   | true=>
     rw[hpc] at hfc;rw[if_pos hpc] at hb
     repeat' (first|refine aR ?_|(refine w_ixP hll rfl rfl ?_)|with_reducible refine zI fun y hy=>?_|((with_reducible refine aC ?_);first|refine aV hfc ?_)|refine aX ?_|with_reducible intro _|with_reducible refine zJ ?_ fun y hy=>?_|refine aP ?_ ?_)
     all_goals try (exfalso;omega)
     all_goals
      rename_i g4;exact q_loop (pre++[c],post,out++[(pre.length:Int)],g4) ⟨by dsimp only;rw[hll];simp,by dsimp only;rw[hpl,List.append_assoc];exact hb,by dsimp only;rw[len_snoc];omega⟩ (Nat.lt_succ_self _) ⟨by rw[len_snoc];rfl,rfl,trivial⟩ aS aK aK
theorem due2_c(a:Aq)(x:Int):FV 174 [.int .i64 x,.pin [.int .i64 a.kind,.int .i64 a.wood]] (.bool (decide (x=a.wood))):=by
 refine wk ir174 Tryz.func174 ?_;unfold ir174
 repeat' (first|refine aR ?_|refine aX ?_|with_reducible intro _|refine aP ?_ ?_)
 all_goals rfl
def triedB(ds:List Dl)(x:Int):Bool:=ds.any fun d=>decide (d.kind=1) && decide (d.wood=x)
theorem due11_c(d:Dl)(g:Nat)(x:Int):RawC Tryz.prog 173 [dlA d,.pin [.int .i64 x]] (sg []) (fun v _=>v= .bool (decide (d.kind=1) && decide (d.wood=x))):=by
 by_cases h:d.kind=1
 · rw[decide_eq_true h];refine wk ir173 Tryz.func173 ?_;unfold ir173
   repeat' (first|refine aR ?_|refine aX ?_|with_reducible intro _|refine aP ?_ ?_)
   all_goals exact aZ
 · rw[decide_eq_false h];refine wk ir173 Tryz.func173 ?_;unfold ir173
   repeat' (first|refine aR ?_|refine aX ?_|with_reducible intro _|refine aP ?_ ?_)
   all_goals exact aZ
theorem idxD_c(k:Nat)(cs:List AV)(p:Dl→Bool)(l:List Dl)(hl:l.length<1000000)(hf:∀x∈l,FV k [dlA x,.pin cs] (.bool (p x))):Fn0 Tryz.prog 212 [.slc 5 (dlR l) .non,.clo (.func k) [] [.pin cs]] (fun v=>∃i:Int,v= .int .i64 i∧(0≤i↔l.any p=true)):=by
 refine wk ir212 Tryz.func212 ?_;unfold ir212
 repeat' (first|refine aR ?_|refine aX ?_|with_reducible intro _|refine aP ?_ ?_)
 refine w_loopK [0,1,7] [] (fun x:List Dl×List Dl=>l=x.1++x.2∧x.1.any p=false) (fun x=>x.2.length) (fun x=>[(8,.int .i64 x.1.length)]) (fun _=>[]) ([],l) ⟨rfl,rfl⟩ ⟨rfl,trivial⟩ trivial ?_;rintro⟨pre,post⟩ ⟨hll,hb⟩ e σ;dsimp only at hll hb ⊢;have hlen:=congrArg List.length hll;cases post with
 | nil=>
   simp only[List.append_nil,List.length_append,List.length_nil] at hlen
   repeat' (first|refine aR ?_|refine aX ?_|with_reducible intro _|refine aP ?_ ?_)
   all_goals first|(exfalso;omega)|exact⟨-1,rfl,by rw[hll,List.append_nil,hb];simp⟩
 | cons c post=>
   simp only[List.length_append,List.length_cons] at hlen;have hfc:=hf c (by rw[hll];simp);cases hpc:p c with
   | false=>
     rw[hpc] at hfc
     repeat' (first|refine aR ?_|(refine w_ixP (f:=fun d:Dl=>[AV.int .i64 d.kind,.int .i64 d.bag,.int .i64 d.other,.int .i64 d.wood,.int .i64 d.count]) hll rfl rfl ?_)|((with_reducible refine aC ?_);first|refine aV hfc ?_)|refine aX ?_|with_reducible intro _|refine aP ?_ ?_)
     all_goals first|(exfalso;omega)|exact q_loop (pre++[c],post) ⟨by dsimp only;rw[hll];simp,by rw[List.any_append,hb];simp[hpc]⟩ (Nat.lt_succ_self _) ⟨by rw[len_snoc];rfl,trivial⟩ aS aK aK
   | true=>
     rw[hpc] at hfc
     repeat' (first|refine aR ?_|(refine w_ixP (f:=fun d:Dl=>[AV.int .i64 d.kind,.int .i64 d.bag,.int .i64 d.other,.int .i64 d.wood,.int .i64 d.count]) hll rfl rfl ?_)|((with_reducible refine aC ?_);first|refine aV hfc ?_)|refine aX ?_|with_reducible intro _|refine aP ?_ ?_)
     all_goals first|(exfalso;omega)|exact⟨pre.length,rfl,by rw[hll];simp[hpc]⟩
theorem conD_c(k:Nat)(cs:List AV)(p:Dl→Bool)(l:List Dl)(hl:l.length<1000000)(hf:∀x∈l,FV k [dlA x,.pin cs] (.bool (p x))):FV 172 [.slc 5 (dlR l) .non,.clo (.func k) [] [.pin cs]] (.bool (l.any p)):=by
 have hi:=idxD_c k cs p l hl hf;refine wk ir172 Tryz.func172 ?_;unfold ir172
 repeat' (first|refine aR ?_|((with_reducible refine aC ?_);first|(refine ACall.fn0 hi rfl ?_;rintro _ ⟨i,rfl,hk⟩))|refine aX ?_|with_reducible intro _|refine aP ?_ ?_)
 exact congrArg AV.bool (by rw[Bool.eq_iff_iff];simpa using hk)
theorem due1_c(G:Gm)(x:Int)(hd:G.ds.length<1000):FV 171 [.int .i64 x,gmP G] (.bool (!triedB G.ds x)):=by
 have hc:=fun g=>conD_c 173 [.int .i64 x] (fun d=>decide (d.kind=1) && decide (d.wood=x)) G.ds (by omega) fun d _=>due11_c d g x;refine RawC.walk (H:=hint171 Tryz.prog) ir171 Tryz.func171 rfl rfl rfl ?_;unfold ir171
 repeat' (first|refine aR ?_|refine aL ?_|(refine w_frzR rfl rfl rfl ?_)|((with_reducible refine aC ?_);first|refine aV (hc 0) ?_)|refine aX ?_|with_reducible intro _|refine aP ?_ ?_)
 all_goals exact aZ
def ir128:IFn:= ⟨35,[(2,none)],(sO [oM 2 (.k .nsl)] (sO [⟨(some 9),none,.mkm⟩,oM 3 9] (sO [oo 4 (.nil 1 4)] (.seq (sO [oM 10 0,oN 11 10,oM 12 (kI 0)] (.blk 0 (.loop (sO [oB 13 .lss 12 11] (.seq (.cnd 13 .skip (.exit 0)) (.seq (.blk 1 (sO [oA 14 1 10 12,oL 15 14,oM 6 15] (sO [oM 17 3,oM 18 6,oo 19 (.mlk .i z0 true 17 18),oM 16 19,oE 20 0 16,oE 21 1 16,oM 7 20,oM 8 21] (.seq (sO [oM 22 8,oo 23 (.not 22)] (.cnd 23 (sO [oM 24 3,oo 25 (.mln 24),oM 7 25] (.ops [oM 26 3,oM 27 6,oM 28 7,⟨none,none,(.mup .i 26 27 28)⟩])) .skip)) (.ops [oM 29 4,oM 30 7,oo 31 (.bsl 1 [[z0]] [(0,30)]),oo 32 (.app 1 8 29 31 4),oM 4 32]))))) (.ops [oB 33 .add 12 (kI 1),oM 12 33]))))))) (sO [oM 34 4,oM 2 34] .ret)))))⟩
def hint128(P:Program):Hint:={site:=[(32,4)],nils:=[(4,1)],frz:=[],mve:=[],wr:=[] }
def ir58:IFn:= ⟨14,[(2,none),(3,none)],(sO [oM 2 (.k .nsl),oM 3 (kI 0)] (.seq (.blk 0 (sO [oM 5 0,oN 6 5,oB 7 .eql 6 (kI 0),oM 4 7] (.cnd 4 (sO [oM 2 (.k .nsl),oM 3 (kI 6)] .ret) (sO [oM 9 0,oN 10 9,oB 11 .gtr 10 (kI 9),oM 8 11] (.cnd 8 (sO [oM 2 (.k .nsl),oM 3 (kI 8)] .ret) .skip))))) (sO [oM 12 0,oC 13 128 [12],oM 2 13,oM 3 (kI 0)] .ret)))⟩
def numF:List Int→List Int→List Int
 | _,[]=>[]
 | met,x::r=>if x∈met then (met.idxOf x:Int)::numF met r else (met.length:Int)::numF (met++[x]) r
abbrev fiK(l:List Int):List AV:=l.map (AV.int .i64)
abbrev fiV(l:List Int):List AV:=(List.range l.length).map fun (k:Nat)=>AV.int .i64 (k:Int)
section
variable {P:Program} {K:(Nat→AV)→Sig→Prop} {e:Nat→AV} {σ:Sig} {m k:IOpd} {r:List IStep} {d i h:Nat} {a:Int} {F:List Int}
theorem w_mlkF(hm:m.ev e= .map i h)(hσ:σ i=(h,.row [.mpv (fiK F) (fiV F)]))(hk:k.ev e= .int .i64 a)(hK:stepsW P r K (upd e d (.tup [.int .i64 (if a∈F then (F.idxOf a:Int) else 0),.bool (decide (a∈F))])) σ):stepsW P (⟨some d,none,.mlk .i (.int .i64 0) true m k⟩::r) K e σ:=by
 refine w_det (p:=h=h) (v:=fun _=> .tup [.int .i64 (if a∈F then (F.idxOf a:Int) else 0),.bool (decide (a∈F))]) (σ':=fun _=>σ) (fun _=>?_) rfl fun _=>hK;show mlkO .i (.int .i64 0) true σ (k.ev e) (m.ev e)=_
 rw[hm,hk];simp only[mlkO,mapR,hσ,findI];by_cases ha:a∈F
 · have hlt:=List.idxOf_lt_length_iff.2 ha;simp[ha,hlt,lkV]
 · simp[ha,lkV]
theorem w_mupF{v:IOpd}(hm:m.ev e= .map i h)(hσ:σ i=(h,.row [.mpv (fiK F) (fiV F)]))(hk:k.ev e= .int .i64 a)(hv:v.ev e= .int .i64 (F.length:Int))(ha:¬a∈F)(hK:stepsW P r K e (upd σ i (h,.row [.mpv (fiK (F++[a])) (fiV (F++[a]))]))):stepsW P (⟨none,none,.mup .i m k v⟩::r) K e σ:=by
 refine w_det0 (p:=h=h) (v:= .junk) (σ':=upd σ i (h,.row [.mpv (fiK (F++[a])) (fiV (F++[a]))])) (fun _=>?_) rfl hK;show mupO .i σ (k.ev e) (v.ev e) (m.ev e)=_
 rw[hm,hk,hv];simp only[mupO,mapW,hσ,findI,forceA,ha,if_false];have e1:fiV F++[AV.int .i64 (F.length:Int)]=fiV (F++[a]):=by
  show _=(List.range (F++[a]).length).map _
  rw[len_snoc,List.range_succ,List.map_append];rfl
 have e2:fiK F++[AV.int .i64 a]=fiK (F++[a]):=by simp
 show some (True,AV.junk,upd σ i (h,Res.row [AV.mpv (fiK F++[AV.int .i64 a]) (fiV F++[AV.int .i64 (F.length:Int)])]))=_
 rw[e1,e2]
end
theorem number_c(l:List Int)(hl:l.length<1000000):FV 128 [.slc 1 (iR l) .non] (.slc 1 (iR (numF [] l)) .non):=by
 refine RawC.walk (H:=hint128 Tryz.prog) ir128 Tryz.func128 rfl rfl rfl ?_;unfold ir128
 repeat' (first|refine aR ?_|with_reducible refine zI fun y hy=>?_|refine aX ?_|with_reducible intro _|with_reducible refine zJ ?_ fun y hy=>?_|refine aP ?_ ?_)
 rename_i g9 g4;refine w_loopK [3,10,11] [] (fun x:List Int×List Int×List Int×List Int×Nat=>l=x.1++x.2.1∧x.2.2.1++numF x.2.2.2.1 x.2.1=numF [] l∧x.2.2.1.length≤x.1.length∧x.2.2.2.1.length≤x.1.length) (fun x=>x.2.1.length) (fun x=>[(12,.int .i64 x.1.length),(4,.slc 1 (iR x.2.2.1) (.own 4 x.2.2.2.2))]) (fun x=>[(4,(x.2.2.2.2,.row [])),(9,(g9,.row [.mpv (fiK x.2.2.2.1) (fiV x.2.2.2.1)]))]) ([],l,[],[],g4) ⟨rfl,rfl,Nat.le_refl _,Nat.le_refl _⟩ ⟨rfl,rfl,trivial⟩ ⟨rfl,rfl,trivial⟩ ?_;rintro⟨pre,post,out,F,g⟩ ⟨hll,hb,ho,hf⟩ e σ;dsimp only at hll hb ho hf ⊢;have hlen:=congrArg List.length hll;have hol:(iR out).length=out.length:=List.length_map _;have hfl:(fiK F).length=F.length:=List.length_map _;have hpl:∀c,(pre++[c]).length=pre.length+1:=fun c=>len_snoc;cases post with
 | nil=>
   simp only[List.append_nil,List.length_append,List.length_nil] at hlen;rw[show numF F []=[] from rfl,List.append_nil] at hb;rw[←hb]
   repeat' (first|refine aR ?_|with_reducible refine zI fun y hy=>?_|refine aX ?_|with_reducible intro _|with_reducible refine zJ ?_ fun y hy=>?_|refine aP ?_ ?_)
   all_goals first|(exfalso;omega)|rfl
 | cons c post=>
   simp only[List.length_append,List.length_cons] at hlen;rw[numF] at hb;by_cases hc:c∈F
   · rw[if_pos hc] at hb;have hix:(if c∈F then (F.idxOf c:Int) else 0)=F.idxOf c:=if_pos hc;have hdc:decide (c∈F)=true:=decide_eq_true hc
     repeat' (first|refine aR ?_|(first|refine w_ixP hll rfl rfl ?_|(refine w_mlkF rfl rfl rfl ?_;rw[hix,hdc]))|with_reducible refine zI fun y hy=>?_|refine aX ?_|with_reducible intro _|with_reducible refine zJ ?_ fun y hy=>?_|refine aP ?_ ?_)
     all_goals try (exfalso;omega)
     all_goals
      rename_i g5;exact q_loop (pre++[c],post,out++[(F.idxOf c:Int)],F,g5) ⟨by dsimp only;rw[hll];simp,by dsimp only;rw[List.append_assoc];exact hb,by dsimp only;rw[len_snoc,hpl];omega,by dsimp only;rw[hpl];omega⟩ (Nat.lt_succ_self _) ⟨by rw[len_snoc];rfl,rfl,trivial⟩ aS aK aK
   · rw[if_neg hc] at hb;have hix:(if c∈F then (F.idxOf c:Int) else 0)=0:=if_neg hc;have hdc:decide (c∈F)=false:=decide_eq_false hc
     repeat' (first|refine aR ?_|(first|refine w_ixP hll rfl rfl ?_|(refine w_mlkF rfl rfl rfl ?_;rw[hix,hdc])|refine w_mupF rfl rfl rfl (int_eq (by omega)) hc ?_)|with_reducible refine zI fun y hy=>?_|refine aX ?_|with_reducible intro _|with_reducible refine zJ ?_ fun y hy=>?_|refine aP ?_ ?_)
     all_goals try (exfalso;omega)
     all_goals
      rename_i _ g5;rw[←hfl] at hb;exact q_loop (pre++[c],post,out++[((fiK F).length:Int)],F++[c],g5) ⟨by dsimp only;rw[hll];simp,by dsimp only;rw[List.append_assoc];exact hb,by dsimp only;rw[len_snoc,hpl];omega,by dsimp only;rw[len_snoc,hpl];omega⟩ (Nat.lt_succ_self _) ⟨by rw[len_snoc];rfl,rfl,trivial⟩ aS aK aK
theorem chartOf_c(l:List Int)(h1:1≤l.length)(h9:l.length≤9):FV 58 [.slc 1 (iR l) .non] (.tup [.slc 1 (iR (numF [] l)) .non,.int .i64 0]):=by
 refine wk ir58 Tryz.func58 ?_;unfold ir58
 repeat' (first|refine aR ?_|((with_reducible refine aC ?_);first|refine aV (number_c l (by omega)) ?_)|refine aX ?_|with_reducible intro _|refine aP ?_ ?_)
 all_goals exact aZ
def ir117:IFn:= ⟨75,[(6,none)],(sO [oo 3 (.box 2 0),oo 4 (.box 2 1),oM 6 (.k .nsl)] (.seq (sO [oF 15 0 4,oL 16 15] (.blk 0 (sO [oB 18 .eql 16 (kI 1),oM 17 18] (.cnd 17 (sO [oM 20 2,oC 21 58 [20],oM 19 21,oE 22 0 19,oE 23 1 19,oM 7 22,oM 8 23] (sO [oM 24 7,oM 6 24] .ret)) (sO [oB 26 .eql 16 (kI 2),oM 25 26] (.cnd 25 (.seq (.seq (.frz 3) (.ops [oM 27 2,oo 28 (.mkf (.func 171) [] [3]),oC 29 170 [27,28],oM 6 29])) .ret) (sO [oB 31 .eql 16 (kI 4),oM 30 31] (.cnd 30 (.seq (.seq (.frz 4) (.ops [oM 32 2,oo 33 (.mkf (.func 174) [] [4]),oC 34 170 [32,33],oM 6 34])) .ret) (sO [oB 36 .eql 16 (kI 5),oM 35 36] (.cnd 35 (sO [oo 9 (.nil 1 9)] (.seq (sO [oM 37 2,oN 38 37,oM 39 (kI 0)] (.blk 1 (.loop (sO [oB 40 .lss 39 38] (.seq (.cnd 40 .skip (.exit 1)) (.seq (.blk 2 (sO [oA 41 1 37 39,oL 42 41,oM 11 42] (sO [oM 43 9,oM 44 11,oC 45 175 [43,44],oo 46 (.not 45)] (.cnd 46 (.ops [oM 47 9,oM 48 11,oo 49 (.bsl 1 [[z0]] [(0,48)]),oo 50 (.app 1 8 47 49 9),oM 9 50]) .skip)))) (.ops [oB 51 .add 39 (kI 1),oM 39 51]))))))) (sO [oM 52 9,oM 6 52] .ret))) (sO [oB 54 .eql 16 (kI 6),oM 53 54] (.cnd 53 (sO [oF 55 0 3,oL 56 55,oN 57 56,oo 58 (.mks 1 8 [z0] 57 57),oM 12 58] (.seq (sO [oM 59 2,oN 60 59,oM 61 (kI 0)] (.blk 3 (.loop (sO [oB 62 .lss 61 60] (.seq (.cnd 62 .skip (.exit 3)) (.seq (.blk 4 (sO [oA 63 1 59 61,oL 64 63,oM 14 64] (.ops [oM 65 12,oM 66 14,oA 67 1 65 66,oL 68 67,oB 69 .add 68 (kI 1),oA 70 1 65 66,oS 1 70 69]))) (.ops [oB 71 .add 61 (kI 1),oM 61 71]))))))) (.seq (.seq (.frz 12) (.ops [oM 72 12,oM 6 72])) .ret))) .skip)))))))))))) (sO [oM 73 2,oC 74 169 [73],oM 6 74] .ret)))⟩
def hint117(P:Program):Hint:={site:=[(50,9)],nils:=[(9,1)],frz:=[(28,3),(33,4),(72,12)],mve:=[],wr:=[] }
theorem w_frzIG{P:Program}{Q:Post}{e:Nat→AV}{σ:Sig}{t i g n:Nat}{xs:List Int}(F:List (Nat×AV))(S:List (Nat×(Nat×Res)))(hx:e t= .msl i g n 1)(hσ:σ i=(g,.row (xs.map (AV.int .i64))))(hn:xs.length=n)(hF:slots F (frzE i g (xs.map (AV.int .i64)) e))(hS:slots S (frzS i g (xs.map (AV.int .i64)) σ))(hk:∀e' σ',Q .nor (updL F e') (updL S σ')):awp P (.frz (.t t)) Q e σ:=by
 show frzW (e t) e σ (Q .nor)
 rw[hx];show (match σ i with|(g',.row c)=>g=g'∧c.all AV.scal=true∧Q .nor (frzE i g c e) (frzS i g c σ) | _=>False)
 rw[hσ];refine⟨rfl,by simp[AV.scal],?_⟩;have:=hk (frzE i g (xs.map (AV.int .i64)) e) (frzS i g (xs.map (AV.int .i64)) σ);rw[updL_slots hF,updL_slots hS] at this;exact this
def fstF:List Int→List Int→List Int
 | o,[]=>o
 | o,x::r=>if 0≤idxI o x then fstF o r else fstF (o++[x]) r
def cntX:List Int→List Int→List Int
 | xs,[]=>xs
 | xs,w::r=>cntX (xs.set w.toNat (xs.getD w.toNat 0+1)) r
def dueF(G:Gm)(a:Aq)(c:List Int):List Int:=
 if a.kind=1 then numF [] c else if a.kind=2 then whF (fun x=>!triedB G.ds x) 0 c else if a.kind=4 then whF (fun x=>decide (x=a.wood)) 0 c
 else if a.kind=5 then fstF [] c else if a.kind=6 then cntX (List.replicate G.ws.length 0) c else c
theorem due_c(G:Gm)(a:Aq)(c:List Int)(hn:G.ws.length≤6)(hd:G.ds.length≤24)(h1:1≤c.length)(h9:c.length≤9)(hc:∀x∈c,0≤x∧x<(G.ws.length:Int)):FV 117 [gmA G,aqA a,.slc 1 (iR c) .non] (.slc 1 (iR (dueF G a c)) .non):=by
 obtain⟨B,hB⟩:∃B,dueF G a c=B:=⟨_,rfl⟩;rw[hB];unfold dueF at hB;have hne:c≠[]:=fun h=>by subst h;simp at h1
 by_cases e1:a.kind=1
 · rw[if_pos e1] at hB;subst hB;refine RawC.walk (H:=hint117 Tryz.prog) ir117 Tryz.func117 rfl rfl rfl ?_;unfold ir117
   repeat' (first|refine aR ?_|with_reducible refine zI fun y hy=>?_|((with_reducible refine aC ?_);first|refine aV (chartOf_c c h1 h9) ?_)|refine aX ?_|with_reducible intro _|with_reducible refine zJ ?_ fun y hy=>?_|refine aP ?_ ?_)
   all_goals exact aZ
 rw[if_neg e1] at hB;by_cases e2:a.kind=2
 · rw[if_pos e2] at hB;subst hB;have hw:=where_c 171 [.slc 2 (wR G.ws) .non,.slc 5 (dlR G.ds) .non] (fun x=>!triedB G.ds x) c (by omega) fun x _=>due1_c G x (by omega);refine RawC.walk (H:=hint117 Tryz.prog) ir117 Tryz.func117 rfl rfl rfl ?_;unfold ir117
   repeat' (first|refine aR ?_|with_reducible refine zI fun y hy=>?_|refine aL ?_|(refine w_frzR rfl rfl rfl ?_)|((with_reducible refine aC ?_);first|refine aV hw ?_)|refine aX ?_|with_reducible intro _|with_reducible refine zJ ?_ fun y hy=>?_|refine aP ?_ ?_)
   all_goals exact aZ
 rw[if_neg e2] at hB;by_cases e4:a.kind=4
 · rw[if_pos e4] at hB;subst hB;have hw:=where_c 174 [.int .i64 a.kind,.int .i64 a.wood] (fun x=>decide (x=a.wood)) c (by omega) fun x _=>due2_c a x;refine RawC.walk (H:=hint117 Tryz.prog) ir117 Tryz.func117 rfl rfl rfl ?_;unfold ir117
   repeat' (first|refine aR ?_|with_reducible refine zI fun y hy=>?_|refine aL ?_|(refine w_frzR rfl rfl rfl ?_)|((with_reducible refine aC ?_);first|refine aV hw ?_)|refine aX ?_|with_reducible intro _|with_reducible refine zJ ?_ fun y hy=>?_|refine aP ?_ ?_)
   all_goals exact aZ
 rw[if_neg e4] at hB;by_cases e5:a.kind=5
 · rw[if_pos e5] at hB;subst hB;refine RawC.walk (H:=hint117 Tryz.prog) ir117 Tryz.func117 rfl rfl rfl ?_;unfold ir117
   repeat' (first|refine aR ?_|with_reducible refine zI fun y hy=>?_|refine aX ?_|with_reducible intro _|with_reducible refine zJ ?_ fun y hy=>?_|refine aP ?_ ?_)
   all_goals try (exfalso;omega)
   rename_i g9;refine w_loopK [37,38] [] (fun x:List Int×List Int×List Int×Nat=>c=x.1++x.2.1∧fstF x.2.2.1 x.2.1=fstF [] c∧x.2.2.1.length≤x.1.length) (fun x=>x.2.1.length) (fun x=>[(39,.int .i64 x.1.length),(9,.slc 1 (iR x.2.2.1) (.own 9 x.2.2.2))]) (fun x=>[(9,(x.2.2.2,.row []))]) ([],c,[],g9) ⟨rfl,rfl,Nat.le_refl _⟩ ⟨rfl,rfl,trivial⟩ ⟨rfl,trivial⟩ ?_;rintro⟨pre,post,out,g⟩ ⟨hll,hb,ho⟩ e σ;dsimp only at hll hb ho ⊢;have hlen:=congrArg List.length hll;have hol:(iR out).length=out.length:=List.length_map _;cases post with
   | nil=>
     simp only[List.append_nil,List.length_append,List.length_nil] at hlen;rw[show fstF out []=out from rfl] at hb;rw[←hb]
     repeat' (first|refine aR ?_|with_reducible refine zI fun y hy=>?_|refine aX ?_|with_reducible intro _|with_reducible refine zJ ?_ fun y hy=>?_|refine aP ?_ ?_)
     all_goals first|(exfalso;omega)|rfl
   | cons x post=>
     simp only[List.length_append,List.length_cons] at hlen;rw[fstF] at hb;have hpl:(pre++[x]).length=pre.length+1:=len_snoc;have hct:=contains_c out x (by omega);by_cases hx:0≤idxI out x
     · rw[if_pos hx] at hb;rw[decide_eq_true hx] at hct
       repeat' (first|refine aR ?_|(refine w_ixP hll rfl rfl ?_)|with_reducible refine zI fun y hy=>?_|((with_reducible refine aC ?_);first|refine aV hct ?_)|refine aX ?_|with_reducible intro _|with_reducible refine zJ ?_ fun y hy=>?_|refine aP ?_ ?_)
       all_goals first|(exfalso;omega)|exact q_loop (pre++[x],post,out,g) ⟨by dsimp only;rw[hll];simp,hb,by dsimp only;omega⟩ (Nat.lt_succ_self _) ⟨by rw[len_snoc];rfl,rfl,trivial⟩ aS aK aK
     · rw[if_neg hx] at hb;rw[decide_eq_false hx] at hct
       repeat' (first|refine aR ?_|(refine w_ixP hll rfl rfl ?_)|with_reducible refine zI fun y hy=>?_|((with_reducible refine aC ?_);first|refine aV hct ?_)|refine aX ?_|with_reducible intro _|with_reducible refine zJ ?_ fun y hy=>?_|refine aP ?_ ?_)
       all_goals try (exfalso;omega)
       all_goals
        rename_i g5;exact q_loop (pre++[x],post,out++[x],g5) ⟨by dsimp only;rw[hll];simp,hb,by dsimp only;rw[len_snoc];omega⟩ (Nat.lt_succ_self _) ⟨by rw[len_snoc];rfl,rfl,trivial⟩ aS aK aK
 rw[if_neg e5] at hB;by_cases e6:a.kind=6
 · rw[if_pos e6] at hB;subst hB;refine RawC.walk (H:=hint117 Tryz.prog) ir117 Tryz.func117 rfl rfl rfl ?_;unfold ir117
   repeat' (first|refine aR ?_|(refine w_mksI rfl (by omega) ?_;intro g58)|with_reducible refine zI fun y hy=>?_|refine aX ?_|with_reducible intro _|with_reducible refine zJ ?_ fun y hy=>?_|refine aP ?_ ?_)
   all_goals try (exfalso;omega)
   refine w_loopK [12,59,60] [] (fun x:List Int×List Int×List Int=>c=x.1++x.2.1∧cntX x.2.2 x.2.1=cntX (List.replicate G.ws.length 0) c∧x.2.2.length=G.ws.length∧ ∀k,0≤x.2.2.getD k 0∧x.2.2.getD k 0≤x.1.length) (fun x=>x.2.1.length) (fun x=>[(61,.int .i64 x.1.length)]) (fun x=>[(58,(g58,.row (x.2.2.map (AV.int .i64))))]) ([],c,List.replicate G.ws.length 0) ⟨rfl,rfl,List.length_replicate,fun k=>by
    have:(List.replicate G.ws.length (0:Int)).getD k 0=0:=by rw[List.getD_eq_getElem?_getD,List.getElem?_replicate];split<;>rfl
    rw[this];exact⟨Int.le_refl _,Int.le_refl _⟩⟩ ⟨rfl,trivial⟩ ⟨rfl,trivial⟩ ?_
   rintro⟨pre,post,xs⟩ ⟨hll,hb,hx,hk⟩ e σ;dsimp only at hll hb hx hk ⊢;have hlen:=congrArg List.length hll;cases post with
   | nil=>
     simp only[List.append_nil,List.length_append,List.length_nil] at hlen;rw[show cntX xs []=xs from rfl] at hb;rw[←hb]
     repeat' (first|refine aR ?_|with_reducible refine zI fun y hy=>?_|refine aX ?_|with_reducible intro _|with_reducible refine zJ ?_ fun y hy=>?_|refine aP ?_ ?_)
     all_goals try (exfalso;omega)
     have hfz:frzA 58 g58 (xs.map (AV.int .i64)) (.msl 58 g58 G.ws.length 1)= .slc 1 (iR xs) .non:=by rw[←hx];simp[frzA,chunk1]
     refine w_frzIG [(12,.slc 1 (iR xs) .non)] [] rfl rfl hx ⟨hfz,trivial⟩ trivial ?_;intro e2 σ2
     repeat' (first|refine aR ?_|with_reducible refine zI fun y hy=>?_|refine aX ?_|with_reducible intro _|with_reducible refine zJ ?_ fun y hy=>?_|refine aP ?_ ?_)
     all_goals first|rfl
   | cons w post=>
     simp only[List.length_append,List.length_cons] at hlen;rw[cntX] at hb;have hw:=hc w (by rw[hll];simp);have hkw:=hk w.toNat;have hwl:w.toNat*1<xs.length:=by omega
     have hw1:w.toNat*1=w.toNat:=Nat.mul_one _
     repeat' (first|refine aR ?_|(first|refine w_ixP hll rfl rfl ?_|(refine w_ldI rfl rfl hwl ?_;rw[hw1])|(refine w_stI rfl rfl rfl hwl ?_;rw[hw1]))|with_reducible refine zI fun y hy=>?_|refine aX ?_|with_reducible intro _|with_reducible refine zJ ?_ fun y hy=>?_|refine aP ?_ ?_)
     all_goals first
      | (exfalso;omega)
      | exact q_loop (pre++[w],post,xs.set w.toNat (xs.getD w.toNat 0+1)) ⟨by dsimp only;rw[hll];simp,hb,by dsimp only;rw[List.length_set];exact hx,fun k=>by
         dsimp only;rw[set_getD (by omega),len_snoc];have:=hk k;split<;>omega⟩   (Nat.lt_succ_self _) ⟨by rw[len_snoc];rfl,trivial⟩ aS aK aK
 · rw[if_neg e6] at hB;subst hB;refine RawC.walk (H:=hint117 Tryz.prog) ir117 Tryz.func117 rfl rfl rfl ?_;unfold ir117
   repeat' (first|refine aR ?_|with_reducible refine zI fun y hy=>?_|((with_reducible refine aC ?_);first|refine aV (clone_c c _ (.inr ⟨rfl,hne⟩) (by omega)) ?_)|refine aX ?_|with_reducible intro _|with_reducible refine zJ ?_ fun y hy=>?_|refine aP ?_ ?_)
   all_goals exact aZ
def cmpI(x y:Int):Int:=if x<y then-1 else if y<x then 1 else 0
theorem cmpI_eq{x y:Int}:cmpI x y=0↔x=y:=by unfold cmpI;split<;>(try split)<;>simp<;>omega
theorem cmpI_lt{x y:Int}:cmpI x y<0↔x<y:=by unfold cmpI;split<;>(try split)<;>simp<;>omega
theorem cmpI_anti(x y:Int):cmpI y x= -cmpI x y:=by
 unfold cmpI;by_cases h1:x<y
 · rw[if_neg (by omega),if_pos h1,if_pos h1];omega
 · by_cases h2:y<x
   · rw[if_pos h2,if_neg h1,if_pos h2]
   · rw[if_neg h2,if_neg h1,if_neg h1,if_neg h2];omega
def lexI:List Int→List Int→Int
 | [],[]=>0
 | [],_::_=> -1
 | _::_,[]=>1
 | x::a,y::b=>if cmpI x y=0 then lexI a b else cmpI x y
theorem lexI_eq:∀{a b:List Int},lexI a b=0↔a=b
 | [],[]=>by simp[lexI]
 | [],_::_=>by simp[lexI]
 | _::_,[]=>by simp[lexI]
 | x::a,y::b=>by
   rw[lexI];split
   · rename_i h;rw[lexI_eq,cmpI_eq.1 h];simp
   · rename_i h;refine⟨fun h2=>absurd h2 h,fun h2=>?_⟩;cases h2;exact absurd (cmpI_eq.2 rfl) h
theorem lexI_anti:∀(a b:List Int),lexI b a= -lexI a b
 | [],[]=>by simp[lexI]
 | [],_::_=>by simp[lexI]
 | _::_,[]=>by simp[lexI]
 | x::a,y::b=>by
   rw[lexI,lexI,lexI_anti a b,cmpI_anti x y];by_cases h:cmpI x y=0
   · rw[if_pos h,if_pos (by rw[h];rfl)]
   · rw[if_neg h,if_neg (by omega)]
theorem lexI_trans:∀{a b c:List Int},lexI a b<0→lexI b c<0→lexI a c<0
 | [],[],_,h,_=>by simp[lexI] at h
 | _::_,[],_,h,_=>by simp[lexI] at h
 | _,_::_,[],_,h=>by simp[lexI] at h
 | [],_::_,_::_,_,_=>by simp[lexI]
 | x::a,y::b,z::c,h1,h2=>by
   rw[lexI] at h1 h2 ⊢;by_cases e1:cmpI x y=0
   · rw[if_pos e1] at h1;obtain rfl:=cmpI_eq.1 e1;by_cases e2:cmpI x z=0
     · rw[if_pos e2] at h2 ⊢;exact lexI_trans h1 h2
     · rw[if_neg e2] at h2 ⊢;exact h2
   · rw[if_neg e1] at h1;have h1':=cmpI_lt.1 h1;by_cases e2:cmpI y z=0
     · obtain rfl:=cmpI_eq.1 e2;rw[if_neg e1];exact h1
     · rw[if_neg e2] at h2;have h2':=cmpI_lt.1 h2;have h3:cmpI x z<0:=cmpI_lt.2 (by omega);rw[if_neg (by omega)];exact h3
def lsI(a b:List Int):Int:=if cmpI a.length b.length=0 then lexI a b else cmpI a.length b.length
theorem lsI_eq{a b:List Int}:lsI a b=0↔a=b:=by
 unfold lsI;split
 · exact lexI_eq
 · rename_i h;exact⟨fun h2=>absurd h2 h,fun h2=>absurd (by rw[h2];exact cmpI_eq.2 rfl) h⟩
theorem lsI_anti(a b:List Int):lsI b a= -lsI a b:=by
 unfold lsI;rw[cmpI_anti a.length b.length,lexI_anti a b];by_cases h:cmpI a.length b.length=0
 · rw[if_pos h,if_pos (by rw[h];rfl)]
 · rw[if_neg h,if_neg (by omega)]
theorem lsI_trans{a b c:List Int}(h1:lsI a b<0)(h2:lsI b c<0):lsI a c<0:=by
 unfold lsI at*;by_cases e1:cmpI a.length b.length=0
 · rw[if_pos e1] at h1;have q1:=cmpI_eq.1 e1;rw[q1];by_cases e2:cmpI b.length c.length=0
   · rw[if_pos e2] at h2 ⊢;exact lexI_trans h1 h2
   · rw[if_neg e2] at h2 ⊢;exact h2
 · rw[if_neg e1] at h1;have h1':=cmpI_lt.1 h1;by_cases e2:cmpI b.length c.length=0
   · rw[←cmpI_eq.1 e2,if_neg e1];exact h1
   · rw[if_neg e2] at h2;have h2':=cmpI_lt.1 h2;have h3:cmpI a.length c.length<0:=cmpI_lt.2 (by omega);rw[if_neg (by omega)];exact h3
def ir213:IFn:= ⟨6,[(2,none)],(sO [oM 2 (kB false)] (sO [oM 3 0,oM 4 0,oB 5 .neq 3 4,oM 2 5] .ret))⟩
def ir177:IFn:= ⟨20,[(4,none)],(sO [oM 4 (kI 0)] (sO [oM 7 0,oC 8 213 [7],oM 5 8] (sO [oM 9 1,oC 10 213 [9],oM 6 10] (.seq (sO [oM 11 5] (.cnd 11 (.seq (sO [oM 12 6] (.cnd 12 (sO [oM 4 (kI 0)] .ret) .skip)) (sO [oo 4 (.mov (.k (.int .i64 (-1))))] .ret)) .skip)) (.seq (sO [oM 13 6] (.cnd 13 (sO [oM 4 (kI 1)] .ret) .skip)) (.seq (sO [oM 14 0,oM 15 1,oB 16 .lss 14 15] (.cnd 16 (sO [oo 4 (.mov (.k (.int .i64 (-1))))] .ret) .skip)) (.seq (sO [oM 17 0,oM 18 1,oB 19 .gtr 17 18] (.cnd 19 (sO [oM 4 (kI 1)] .ret) .skip)) (sO [oM 4 (kI 0)] .ret))))))))⟩
def ir178:IFn:= ⟨36,[(4,none)],(sO [oM 4 (kI 0)] (.seq (sO [oM 9 0,oN 10 9,oM 11 (kI 0)] (.blk 0 (.loop (sO [oB 12 .lss 11 10] (.seq (.cnd 12 .skip (.exit 0)) (.seq (.blk 1 (sO [oM 13 11,oA 14 1 9 11,oL 15 14,oM 5 13,oM 6 15] (.seq (sO [oM 16 5,oM 17 1,oN 18 17,oB 19 .geq 16 18] (.cnd 19 (sO [oM 4 (kI 1)] .ret) .skip)) (sO [oM 20 1,oM 21 5,oA 22 1 20 21,oL 23 22,oM 7 23] (sO [oM 24 6,oM 25 7,oC 26 177 [24,25],oM 8 26] (sO [oM 27 8,oB 28 .neq 27 (kI 0)] (.cnd 28 (sO [oM 29 8,oM 4 29] .ret) .skip))))))) (.ops [oB 30 .add 11 (kI 1),oM 11 30]))))))) (.seq (sO [oM 31 0,oN 32 31,oM 33 1,oN 34 33,oB 35 .lss 32 34] (.cnd 35 (sO [oo 4 (.mov (.k (.int .i64 (-1))))] .ret) .skip)) (sO [oM 4 (kI 0)] .ret))))⟩
def ir176:IFn:= ⟨18,[(2,none)],(sO [oM 2 (kI 0)] (sO [oM 3 (kI 0)] (.seq (sO [oM 6 0,oN 7 6,oM 8 (kI 0)] (.blk 0 (.loop (sO [oB 9 .lss 8 7] (.seq (.cnd 9 .skip (.exit 0)) (.seq (.blk 1 (sO [oA 10 1 6 8,oL 11 10,oM 5 11] (sO [oM 12 5,oM 13 3,oB 14 .neq 12 13] (.cnd 14 (sO [oM 15 5,oM 2 15] .ret) .skip)))) (.ops [oB 16 .add 8 (kI 1),oM 8 16]))))))) (sO [oM 17 3,oM 2 17] .ret))))⟩
theorem isNaN_c(x:Int):FV 213 [.int .i64 x] (.bool false):=by
 refine wk ir213 Tryz.func213 ?_;unfold ir213
 repeat' (first|refine aR ?_|refine aX ?_|with_reducible intro _|refine aP ?_ ?_)
 exact congrArg AV.bool (decide_eq_false (by simp))
theorem compare_c(x y:Int):FV 177 [.int .i64 x,.int .i64 y] (.int .i64 (cmpI x y)):=by
 refine wk ir177 Tryz.func177 ?_;unfold ir177
 repeat' (first|refine aR ?_|((with_reducible refine aC ?_);first|refine aV (isNaN_c _) ?_)|refine aX ?_|with_reducible intro _|refine aP ?_ ?_)
 all_goals (refine congrArg (AV.int .i64) ?_;unfold cmpI)
 · rw[if_pos (by assumption)]
 · rw[if_neg (by assumption),if_pos (by assumption)]
 · rw[if_neg (by assumption),if_neg (by assumption)]
theorem lexI_app(p a b:List Int):lexI (p++a) (p++b)=lexI a b:=by
 induction p with
 | nil=>rfl
 | cons x p ih=>rw[List.cons_append,List.cons_append,lexI,if_pos (cmpI_eq.2 rfl),ih]
theorem scompare_c(a b:List Int)(ha:a.length<1000000)(hb:b.length<1000000):FV 178 [.slc 1 (iR a) .non,.slc 1 (iR b) .non] (.int .i64 (lexI a b)):=by
 refine wk ir178 Tryz.func178 ?_;unfold ir178
 repeat' (first|refine aR ?_|with_reducible refine zI fun y hy=>?_|refine aX ?_|with_reducible intro _|with_reducible refine zJ ?_ fun y hy=>?_|refine aP ?_ ?_)
 refine w_loopK [0,1,9,10] [] (fun x:List Int×List Int×List Int=>a=x.1++x.2.1∧b=x.1++x.2.2) (fun x=>x.2.1.length) (fun x=>[(11,.int .i64 x.1.length)]) (fun _=>[]) ([],a,b) ⟨rfl,rfl⟩ ⟨rfl,trivial⟩ trivial ?_;rintro⟨pre,r,s⟩ ⟨h1,h2⟩ e σ;dsimp only at h1 h2 ⊢;have l1:=congrArg List.length h1;have l2:=congrArg List.length h2;rw[List.length_append] at l1 l2;have hL:lexI a b=lexI r s:=by rw[h1,h2,lexI_app]
 cases r with
 | nil=>
   rw[List.length_nil] at l1
   repeat' (first|refine aR ?_|with_reducible refine zI fun y hy=>?_|refine aX ?_|with_reducible intro _|with_reducible refine zJ ?_ fun y hy=>?_|refine aP ?_ ?_)
   · cases s with
     | nil=>rw[List.length_nil] at l2;omega
     | cons y s=>rw[hL];rfl
   · cases s with
     | nil=>rw[hL];rfl
     | cons y s=>rw[List.length_cons] at l2;omega
 | cons x r=>
   rw[List.length_cons] at l1;cases s with
   | nil=>
     rw[List.length_nil] at l2
     repeat' (first|refine aR ?_|(refine w_ixP h1 rfl rfl ?_)|with_reducible refine zI fun y hy=>?_|refine aX ?_|with_reducible intro _|with_reducible refine zJ ?_ fun y hy=>?_|refine aP ?_ ?_)
     rw[hL];rfl
   | cons y s=>
     rw[List.length_cons] at l2;rw[lexI] at hL
     repeat' (first|refine aR ?_|(first|refine w_ixP h1 rfl rfl ?_|refine w_ixP h2 rfl rfl ?_)|with_reducible refine zI fun y hy=>?_|((with_reducible refine aC ?_);first|refine aV (compare_c _ _) ?_)|refine aX ?_|with_reducible intro _|with_reducible refine zJ ?_ fun y hy=>?_|refine aP ?_ ?_)
     · rename_i h;rw[hL,if_neg h];rfl
     · rename_i h;rw[if_pos (Decidable.not_not.1 h)] at hL;have hxy:=cmpI_eq.1 (Decidable.not_not.1 h);refine zQ (pre++[x],r,s) ?_ ?_
       · dsimp only;exact⟨by rw[h1];simp,by rw[h2,hxy];simp⟩
       · simp
def orI:List Int→Int
 | []=>0
 | x::r=>if x=0 then orI r else x
theorem or_c(l:List Int)(hl:l.length<1000000):FV 176 [.slc 1 (iR l) .non] (.int .i64 (orI l)):=by
 refine wk ir176 Tryz.func176 ?_;unfold ir176
 repeat' (first|refine aR ?_|with_reducible refine zI fun y hy=>?_|refine aX ?_|with_reducible intro _|with_reducible refine zJ ?_ fun y hy=>?_|refine aP ?_ ?_)
 refine w_loopK [3,6,7] [] (fun x:List Int×List Int=>l=x.1++x.2∧orI l=orI x.2) (fun x=>x.2.length) (fun x=>[(8,.int .i64 x.1.length)]) (fun _=>[]) ([],l) ⟨rfl,rfl⟩ ⟨rfl,trivial⟩ trivial ?_;rintro⟨pre,post⟩ ⟨hp,hb⟩ e σ;dsimp only at hp hb ⊢;have hlen:=congrArg List.length hp;cases post with
 | nil=>
   simp only[List.append_nil,List.length_append,List.length_nil] at hlen
   repeat' (first|refine aR ?_|with_reducible refine zI fun y hy=>?_|refine aX ?_|with_reducible intro _|with_reducible refine zJ ?_ fun y hy=>?_|refine aP ?_ ?_)
   rw[hb];rfl
 | cons c post=>
   simp only[List.length_append,List.length_cons] at hlen;rw[orI] at hb
   repeat' (first|refine aR ?_|(refine w_ixP hp rfl rfl ?_)|with_reducible refine zI fun y hy=>?_|refine aX ?_|with_reducible intro _|with_reducible refine zJ ?_ fun y hy=>?_|refine aP ?_ ?_)
   · rename_i h;rw[hb,if_neg h];rfl
   · rename_i h;refine zQ (pre++[c],post) ?_ ?_
     · dsimp only;exact⟨by rw[hp];simp,by rw[hb,if_pos (Decidable.not_not.1 h)]⟩
     · simp
def ir119:IFn:= ⟨15,[(4,none)],(sO [oM 4 (kI 0)] (sO [oM 5 0,oN 6 5,oM 7 1,oN 8 7,oC 9 177 [6,8],oM 10 0,oM 11 1,oC 12 178 [10,11],oo 13 (.bsl 1 [[z0],[z0]] [(0,9),(1,12)]),oC 14 176 [13],oM 4 14] .ret))⟩
theorem ordered_c(a b:List Int)(ha:a.length<1000000)(hb:b.length<1000000):FV 119 [.slc 1 (iR a) .non,.slc 1 (iR b) .non] (.int .i64 (lsI a b)):=by
 refine wk ir119 Tryz.func119 ?_;unfold ir119
 repeat' (first|refine aR ?_|with_reducible refine zI fun y hy=>?_|((with_reducible refine aC ?_);first|refine aV (compare_c _ _) ?_|refine aV (scompare_c _ _ ha hb) ?_|refine aV (or_c [_,_] (by simp)) ?_)|refine aX ?_|with_reducible intro _|with_reducible refine zJ ?_ fun y hy=>?_|refine aP ?_ ?_)
 refine congrArg (AV.int .i64) ?_;rw[orI,orI,orI,lsI];split
 · split
   · rename_i h;exact h.symm
   · rfl
 · rfl
def ansI(x:List Int)(n:Int):List (List Int×Int)→List (List Int×Int)
 | []=>[(x,n)]
 | y::r=>if lsI y.1 x<0 then y::ansI x n r else if y.1=x then (y.1,y.2+n)::r else (x,n)::y::r
def posI(x:List Int):List (List Int×Int)→Nat
 | []=>0
 | y::r=>if lsI y.1 x<0 then posI x r+1 else 0
def ansL(f:List Int→List Int)(l:List (List Int×Int)):List (List Int×Int):=l.foldl (fun A c=>ansI (f c.1) c.2 A) []
def srtA(L:List (List Int×Int)):Prop:=L.Pairwise fun a b=>lsI a.1 b.1<0
theorem posI_le(x:List Int):∀L,posI x L≤L.length
 | []=>Nat.le_refl _
 | y::r=>by
   have:=posI_le x r;rw[posI];split
   · rw[List.length_cons];omega
   · exact Nat.zero_le _
theorem lsI_tri{a b:List Int}(h1:¬lsI a b<0)(h2:a≠b):lsI b a<0:=by have:lsI a b≠0:=fun h=>h2 (lsI_eq.1 h);rw[lsI_anti a b];omega
theorem posI_iff{x:List Int}:∀{L},srtA L→ ∀q:Nat,q<L.length→(lsI ((L.map (·.1)).getD q []) x<0↔q<posI x L)
 | [],_,q,hq=>by simp at hq
 | y::r,h,q,hq=>by
   obtain⟨h1,h2⟩:=List.pairwise_cons.1 h;rw[posI,List.map_cons];by_cases hy:lsI y.1 x<0
   · rw[if_pos hy];cases q with
     | zero=>simp[hy]
     | succ q=> rw[List.getD_cons_succ,posI_iff h2 q (by simpa using hq)];omega
   · rw[if_neg hy];cases q with
     | zero=>simp[hy]
     | succ q=>
       rw[List.getD_cons_succ];have hq':q<r.length:=by simpa using hq
       constructor
       · intro hlt;exfalso;have hm:=h1 r[q] (List.getElem_mem _);have e:(r.map (·.1)).getD q []=r[q].1:=by rw[List.getD_eq_getElem?_getD,List.getElem?_map,List.getElem?_eq_getElem hq'];rfl
         rw[e] at hlt;exact hy (lsI_trans hm hlt)
       · intro h;omega
theorem ansI_new{x:List Int}{n:Int}:∀{L},¬(posI x L<L.length∧(L.map (·.1)).getD (posI x L) []=x)→ansI x n L=L.take (posI x L)++(x,n)::L.drop (posI x L)
 | [],_=>rfl
 | y::r,h=>by
   rw[ansI];rw[posI] at h ⊢;by_cases hy:lsI y.1 x<0
   · rw[if_pos hy] at h ⊢;rw[if_pos hy,List.take_succ_cons,List.drop_succ_cons,List.cons_append,ansI_new fun hh=>h ⟨by rw[List.length_cons];omega,by rw[List.map_cons,List.getD_cons_succ];exact hh.2⟩]
   · rw[if_neg hy] at h ⊢;rw[if_neg hy,if_neg fun e=>h ⟨by simp,by simpa using e⟩];rfl
theorem ansI_old{x:List Int}{n:Int}:∀{L},posI x L<L.length∧(L.map (·.1)).getD (posI x L) []=x→ansI x n L=L.set (posI x L) (x,(L.map (·.2)).getD (posI x L) 0+n)
 | [],h=>by simp at h
 | y::r,h=>by
   rw[ansI];rw[posI] at h ⊢;by_cases hy:lsI y.1 x<0
   · rw[if_pos hy] at h ⊢;rw[if_pos hy,List.set_cons_succ,List.map_cons,List.getD_cons_succ,ansI_old ⟨by have:=h.1;rw[List.length_cons] at this;omega,by simpa using h.2⟩]
   · rw[if_neg hy] at h ⊢;have e:y.1=x:=by simpa using h.2
     rw[if_neg hy,if_pos e];simp[e]
theorem ansI_mem{x:List Int}{n:Int}:∀{L} {z:List Int×Int},z∈ansI x n L→z.1=x∨z∈L
 | [],z,h=>by rw[List.mem_singleton.1 h];exact .inl rfl
 | y::r,z,h=>by
   rw[ansI] at h;split at h
   · rcases List.mem_cons.1 h with rfl | h
     · exact .inr (by simp)
     · rcases ansI_mem h with h | h
       · exact .inl h
       · exact .inr (by simp[h])
   · split at h
     · rename_i e;rcases List.mem_cons.1 h with rfl | h
       · exact .inl e
       · exact .inr (by simp[h])
     · rcases List.mem_cons.1 h with rfl | h
       · exact .inl rfl
       · exact .inr h
theorem ansI_srt{x:List Int}{n:Int}:∀{L},srtA L→srtA (ansI x n L)
 | [],_=>List.pairwise_singleton _ _
 | y::r,h=>by
   obtain⟨h1,h2⟩:=List.pairwise_cons.1 h;rw[ansI];by_cases hy:lsI y.1 x<0
   · rw[if_pos hy];refine List.pairwise_cons.2 ⟨fun z hz=>?_,ansI_srt h2⟩;rcases ansI_mem hz with e | hz
     · rw[e];exact hy
     · exact h1 z hz
   · rw[if_neg hy];by_cases e:y.1=x
     · rw[if_pos e];exact List.pairwise_cons.2 ⟨fun z hz=>h1 z hz,h2⟩
     · rw[if_neg e];have hxy:=lsI_tri hy e;refine List.pairwise_cons.2 ⟨fun z hz=>?_,h⟩;rcases List.mem_cons.1 hz with rfl | hz
       · exact hxy
       · exact lsI_trans hxy (h1 z hz)
theorem ansI_len(x:List Int)(n:Int):∀L,(ansI x n L).length≤L.length+1∧1≤(ansI x n L).length
 | []=>⟨Nat.le_refl _,Nat.le_refl _⟩
 | y::r=>by
   have:=ansI_len x n r;rw[ansI];split
   · simp only[List.length_cons];omega
   · split<;>simp only[List.length_cons]<;>omega
theorem ansI_sum(x:List Int)(n:Int):∀L,sumA (ansI x n L)=sumA L+n
 | []=>by simp[ansI,sumA]
 | y::r=>by
   rw[ansI];split
   · rw[sumA,sumA,ansI_sum x n r];omega
   · split
     · simp only[sumA];omega
     · simp only[sumA];omega
theorem ansI_pos{x:List Int}{n:Int}(hn:0<n):∀{L},(∀y∈L,0<y.2)→ ∀y∈ansI x n L,0<y.2
 | [],_,y,hy=>by rw[List.mem_singleton.1 hy];exact hn
 | z::r,h,y,hy=>by
   have hz:=h z (by simp);have hr:∀y∈r,0<y.2:=fun y hy=>h y (by simp[hy]);rw[ansI] at hy;split at hy
   · rcases List.mem_cons.1 hy with rfl | hy
     · exact hz
     · exact ansI_pos hn hr y hy
   · split at hy
     · rcases List.mem_cons.1 hy with rfl | hy
       · show 0<z.2+n;omega
       · exact hr y hy
     · rcases List.mem_cons.1 hy with rfl | hy
       · exact hn
       · exact h y hy
theorem sumA_nn:∀{L:List (List Int×Int)},(∀y∈L,0<y.2)→0≤sumA L
 | [],_=>Int.le_refl _
 | y::r,h=>by have:=sumA_nn (L:=r) fun z hz=>h z (by simp[hz]);have:=h y (by simp);rw[sumA];omega
theorem sumA_mem:∀{L:List (List Int×Int)},(∀y∈L,0<y.2)→ ∀q:Nat,0≤(L.map (·.2)).getD q 0∧(L.map (·.2)).getD q 0≤sumA L
 | [],_,q=>by simp[sumA]
 | y::r,h,q=>by
   have hr:∀z∈r,0<z.2:=fun z hz=>h z (by simp[hz]);have h0:=sumA_nn hr;have hy:=h y (by simp);rw[sumA];cases q with
   | zero=>simp only[List.map_cons,List.getD_cons_zero];omega
   | succ q=> have:=sumA_mem hr q;simp only[List.map_cons,List.getD_cons_succ];omega
def ansO(G:Gm)(a:Aq):List (List Int×Int)×Int:=
 if gmErr G=0 then (if askErr G.ws.length a=0 then (if (crsO G).2=0 then (ansL (dueF G a) (crsO G).1,0) else ([],(crsO G).2)) else ([],askErr G.ws.length a)) else ([],gmErr G)
theorem whF_len2(p:Int→Bool)(l:List Int):(whF p 0 l).length≤l.length:=whF_len p 0 l
theorem numF_len:∀(met l:List Int),(numF met l).length=l.length
 | _,[]=>rfl
 | met,x::r=>by rw[numF];split<;>rw[List.length_cons,List.length_cons,numF_len]
theorem fstF_len:∀(o l:List Int),(fstF o l).length≤o.length+l.length
 | _,[]=>Nat.le_refl _
 | o,x::r=>by
   rw[fstF];split
   · have:=fstF_len o r;rw[List.length_cons];omega
   · have:=fstF_len (o++[x]) r;rw[len_snoc] at this;rw[List.length_cons];omega
theorem cntX_len:∀(xs l:List Int),(cntX xs l).length=xs.length
 | _,[]=>rfl
 | xs,w::r=>by rw[cntX,cntX_len,List.length_set]
theorem dueF_len(G:Gm)(a:Aq)(c:List Int):(dueF G a c).length≤c.length+G.ws.length:=by
 unfold dueF;split
 · rw[numF_len];omega
 split
 · have:=whF_len2 (fun x=>!triedB G.ds x) c;omega
 split
 · have:=whF_len2 (fun x=>decide (x=a.wood)) c;omega
 split
 · have:=fstF_len [] c;rw[List.length_nil] at this;omega
 split
 · rw[cntX_len,List.length_replicate];omega
 · omega
theorem lf_pos{M:Md}{c:List Int×Int}{C:List (List Int×Int)}(h:0<wtF M c.1 c.2):lfF M (c::C)=(c.1,wtF M c.1 c.2)::lfF M C:=by unfold lfF;rw[List.map_cons,List.filter_cons,if_pos (by simpa using h)]
theorem lf_neg{M:Md}{c:List Int×Int}{C:List (List Int×Int)}(h:¬0<wtF M c.1 c.2):lfF M (c::C)=lfF M C:=by unfold lfF;rw[List.map_cons,List.filter_cons,if_neg (by simpa using h)]
structure CsOK (G:Gm) (k:Nat) (C:List (List Int×Int)):Prop where
 l:C.length≤5000
 c:∀x∈C,x.1.length=k∧(∀w∈x.1,0≤w∧w<(G.ws.length:Int))∧0≤x.2∧x.2≤479001600
theorem left_it(M:Md)(C:List (List Int×Int)){k:Nat}(hM:MdOK M k)(hk:k<1000)(hW:M.g.ws.length≤6)(hC:CsOK M.g k C):ItC Tryz.prog 140 [tbP M.g C,mdP M] ((lfF M C).map encC):=by
 refine ItC.of fun l=>?_;have hl1:(C.map (·.1)).length=C.length:=List.length_map _;have h5:=hC.l;refine wk ir140 Tryz.func140 ?_;unfold ir140
 repeat' (first|refine aR ?_|with_reducible refine zI fun y hy=>?_|refine aX ?_|with_reducible intro _|with_reducible refine zJ ?_ fun y hy=>?_|refine aP ?_ ?_)
 refine w_loopK [0,1,2,8,9] [] (fun x:List (List Int×Int)×List (List Int×Int)=>C=x.1++x.2) (fun x=>x.2.length) (fun x=>[(10,.int .i64 (x.1.length:Int))]) (fun x=>[(YS,(0,.yld l (some ((lfF M x.2).map encC))))]) ([],C) rfl ⟨rfl,trivial⟩ ⟨rfl,trivial⟩ ?_;rintro⟨pre,post⟩ hl e σ;dsimp only at hl ⊢;have hlen:=congrArg List.length hl;rw[List.length_append] at hlen;cases post with
 | nil=>
   simp only[List.length_nil] at hlen
   repeat' (first|refine aR ?_|with_reducible refine zI fun y hy=>?_|refine aX ?_|with_reducible intro _|with_reducible refine zJ ?_ fun y hy=>?_|refine aP ?_ ?_)
   all_goals first|(exfalso;omega)|exact .inr rfl
 | cons c post=>
   simp only[List.length_cons] at hlen;obtain⟨c1,c2,c3⟩:=hC.c c (by rw[hl];simp);have hwt:=weight_c M c.1 c.2 hM c1 hk c2 hW c3;have hA:C.map (·.1)=pre.map (·.1)++c.1::post.map (·.1):=by rw[hl,List.map_append,List.map_cons]
   have hB:C.map (·.2)=pre.map (·.2)++c.2::post.map (·.2):=by rw[hl,List.map_append,List.map_cons]
   have hi1:AV.int .i64 (pre.length:Int)= .int .i64 ((pre.map (·.1)).length:Int):=by rw[List.length_map]
   have hi2:AV.int .i64 (pre.length:Int)= .int .i64 ((pre.map (·.2)).length:Int):=by rw[List.length_map]
   by_cases h0:0<wtF M c.1 c.2
   · rw[lf_pos h0]
     repeat' (first|refine aR ?_|(first|refine w_ixP hA rfl hi1 ?_|refine w_ixP (f:=fI) hB rfl hi2 ?_)|with_reducible refine zI fun y hy=>?_|refine aL ?_|with_reducible refine zQi fun b=>?_|((with_reducible refine aC ?_);first|refine aV hwt ?_)|refine aX ?_|with_reducible intro _|with_reducible refine zJ ?_ fun y hy=>?_|refine aP ?_ ?_)
     all_goals try (exfalso;omega)
     · rename_i hb;subst hb;exact .inl rfl
     · rename_i hb;subst hb;exact q_loop (pre++[c],post) (by show C=_;rw[hl];simp) (Nat.lt_succ_self _) ⟨by rw[len_snoc];rfl,trivial⟩ aS aK aK
   · rw[lf_neg h0]
     repeat' (first|refine aR ?_|(first|refine w_ixP hA rfl hi1 ?_|refine w_ixP (f:=fI) hB rfl hi2 ?_)|with_reducible refine zI fun y hy=>?_|refine aL ?_|with_reducible refine zQi fun b=>?_|((with_reducible refine aC ?_);first|refine aV hwt ?_)|refine aX ?_|with_reducible intro _|with_reducible refine zJ ?_ fun y hy=>?_|refine aP ?_ ?_)
     all_goals first|(exfalso;omega)|exact q_loop (pre++[c],post) (by show C=_;rw[hl];simp) (Nat.lt_succ_self _) ⟨by rw[len_snoc];rfl,trivial⟩ aS aK aK
theorem crsK_ok{G:Gm}(h:(crsO G).2=0):GOK G∧gmErr G=0∧(crsO G).1=crsG G∧CsOK G (censG (stepsG G.ds)) (crsG G)∧crsG G≠[]:=by
 unfold crsO at h ⊢;by_cases h0:gmErr G=0
 · rw[if_pos h0] at h ⊢;have hG:=gm_ok h0;by_cases h5:(crsG G).length≤5000
   · rw[if_pos h5];refine⟨hG,h0,rfl,⟨h5,fun x hx=>?_⟩,crsG_ne hG⟩;obtain⟨⟨q1,q2⟩,q3,q4⟩:=(crsG_mem hG).1 hx;have hsum:=crsG_sum hG;have hall:=allW_bd hG;have hle:=sumA_mem (L:=crsG G) (fun y hy=>by obtain⟨_,h3,h4⟩:=(crsG_mem hG).1 hy;omega);obtain⟨i,hi⟩:=List.mem_iff_getElem?.1 hx;have:=hle i;have e:((crsG G).map (·.2)).getD i 0=x.2:=by rw[List.getD_eq_getElem?_getD,List.getElem?_map,hi];rfl
     rw[e,hsum] at this;exact⟨q1,q2,by omega,by omega⟩
   · rw[if_neg h5] at h;exact absurd h (by decide)
 · rw[if_neg h0] at h;exact absurd h h0
end Go.Abs
