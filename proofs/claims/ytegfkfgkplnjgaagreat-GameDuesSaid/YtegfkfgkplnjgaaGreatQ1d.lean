/- A part of the proofs of the laws of this seat: contracts of the functions that they reach, each proved of the program's form in Lean. No condition beyond those that each contract names. -/
import Derived.Test.YtegfkfgkplnjgaaGreatProg
import Derived.Test.YtegfkfgkplnjgaaGreatSnd3
import Derived.Test.YtegfkfgkplnjgaaGreatA0
import Derived.Test.YtegfkfgkplnjgaaGreatQ1a
import Derived.Test.YtegfkfgkplnjgaaGreatQ1b
import Derived.Test.YtegfkfgkplnjgaaGreatQ1c
set_option linter.unusedVariables false
set_option linter.unusedSimpArgs false
set_option maxRecDepth 20000
set_option maxHeartbeats 4000000
namespace Go.Abs
open Go.Proofs
theorem frzM_step {G:GS} {σ:Sig} {w:World} {i g b:Nat} {aks avs:List AV} (hI:Inv G σ w) (hm:G.m i g=some (b,1,0)) (hσ:σ i=(g,.row [.mpv aks avs])):
  ∃G',StepOK G σ w G' (frzMS i g aks avs σ) w∧YSame σ (frzMS i g aks avs σ)∧(∀l vals,RelL G l vals→RelL G' (frzML i g aks avs l) vals)∧(∀b',Foot G' (frzMS i g aks avs σ) b'→Foot G σ b')∧ ∀j,¬live σ j→frzMS i g aks avs σ j=σ j∧ ¬live (frzMS i g aks avs σ) j:=by
 have hlive:live σ i:=⟨_,by rw[hσ]⟩
 have hO:=obj_of hI hσ hm (by simp)
 obtain⟨o,hobj,ks,vs,rfl,r1,r2,hl⟩:=hO.obj
 have hfb:Foot G σ b:=⟨i,_,hlive,by rw[hσ];exact hm⟩
 let G':GS:=⟨fun b' o=>if b'=b∧o=0 then some (encM ks vs) else G.K b' o,G.m⟩
 have hleK:∀b' o v,G.K b' o=some v→G'.K b' o=some v:=by
  intro b' o v hv
  show (if _ then _ else _)=_
  rw[if_neg]
  · exact hv
  · rintro⟨rfl,_⟩
    rw[hO.K o] at hv;cases hv
 have hle:G.le G':=⟨hleK,fun _ _ _ h=>h⟩
 have hKb:G'.K b 0=some (encM ks vs):=by
  show (if _ then _ else _)=_
  rw[if_pos ⟨rfl,rfl⟩]
 have hr1:RelL (GS.pure G'.K) aks ks:=RelL.mono (GS.pure_mono hle) r1
 have hr2:RelL (GS.pure G'.K) avs vs:=RelL.mono (GS.pure_mono hle) r2
 have hkok:Kok G'.K w:=by
  refine⟨fun b' o v hv=>?_⟩
  have hv':(if b'=b∧o=0 then some (encM ks vs) else G.K b' o)=some v:=hv
  split at hv'
  · rename_i hb;obtain⟨rfl,rfl⟩:=hb
    cases hv'
    exact .inr ⟨rfl,ks,vs,hobj,hl,rfl⟩
  · exact hI.kok.see _ _ _ hv'
 have hs0:∀j,j≠i→frzMS i g aks avs σ j=((σ j).1,frzMR i g aks avs (σ j).2):=fun j hj=>by simp[frzMS,hj]
 have hsi:frzMS i g aks avs σ i=(g,.dead):=by simp[frzMS,hσ]
 have hlv:∀j,live (frzMS i g aks avs σ) j→j≠i∧live σ j:=by
  rintro j ⟨c',hc'⟩
  have hj:j≠i:=by rintro rfl;rw[hsi] at hc';cases hc'
  rw[hs0 j hj] at hc'
  refine⟨hj,?_⟩
  cases hsj:(σ j).2 with
  | row l=>exact⟨l,hsj⟩
  | dead=>rw[hsj] at hc';cases hc'
  | yld l s=>rw[hsj] at hc';cases hc'
 have hinv:Inv G' (frzMS i g aks avs σ) w:=by
  refine⟨hkok,fun j c' hj=>?_,hI.fresh,fun j k b' p q hjk hj hk hp hq=>?_⟩
  · obtain⟨hji,c0,hc0⟩:=hlv j ⟨c',hj⟩
    rw[hs0 j hji] at hj ⊢
    rw[hc0] at hj
    simp only[frzMR] at hj
    cases hj
    rcases hI.res j c0 hc0 with⟨h1,h2⟩ | ⟨b',e',lim',vs',T',hR'⟩ | ⟨b',hO'⟩
    · subst h1;exact .inl ⟨rfl,h2⟩
    · have hne:b'≠b:=by
       rintro rfl
       exact hI.dist j i b' _ _ hji ⟨c0,hc0⟩ hlive hR'.m (by rw[hσ];exact hm)
      refine .inr (.inl ⟨b',e',lim',vs',T',⟨hR'.m,hR'.obj,by rw[frzML_len];exact hR'.fit,hR'.lim,fun o ho=>?_,fun q y hq=>?_⟩⟩)
      · show (if _ then _ else _)=_
        rw[if_neg (fun h=>hne h.1)];exact hR'.K o ho
      · obtain⟨y',hy,rfl⟩:=frzML_get hq
        obtain⟨v,hv,hr⟩:=hR'.rel q y' hy
        exact⟨v,hv,frzM_rel hle hm hKb hr1 hr2 hr⟩
    · have hne:b'≠b:=by
       rintro rfl
       exact hI.dist j i b' _ _ hji ⟨c0,hc0⟩ hlive hO'.m (by rw[hσ];exact hm)
      have hO2:ObjOK G' w j (σ j).1 c0 b':=hO'.keep hle (by
       funext o
       show (if _ then _ else _)=_
       rw[if_neg (fun h=>hne h.1)])  rfl
      exact .inr (.inr ⟨b',hO2.m,hO2.K,by obtain⟨o,h1,h2⟩:=hO2.obj;exact⟨o,h1,h2.frzM⟩⟩)
  · obtain⟨hji,lj⟩:=hlv j hj
    obtain⟨hki,lk⟩:=hlv k hk
    rw[hs0 j hji] at hp
    rw[hs0 k hki] at hq
    exact hI.dist j k b' p q hjk lj lk hp hq
 have hfoot:∀b',Foot G' (frzMS i g aks avs σ) b'→Foot G σ b':=by
  rintro b' ⟨j,y,hj,hm'⟩
  obtain⟨hji,lj⟩:=hlv j hj
  rw[hs0 j hji] at hm'
  exact⟨j,y,lj,hm'⟩
 have hstep:StepOK G σ w G' (frzMS i g aks avs σ) w:=by
  refine⟨hle,hinv,⟨rfl,rfl,rfl,Nat.le_refl _,fun _ _ _=>rfl,hle.K,fun b' _ hn=>?_⟩,fun b' hb=> .inl (hfoot b' hb)⟩
  funext o
  show (if _ then _ else _)=_
  rw[if_neg];rintro⟨rfl,_⟩;exact hn hfb
 have hys:YSame σ (frzMS i g aks avs σ):=by
  by_cases hy:YS=i
  · refine .inr ⟨fun l s=>by rw[hy,hσ];simp,fun l s=>by rw[hy,hsi];simp⟩
  · cases hsy:(σ YS).2 with
    | yld l s=>exact .inl (by rw[hs0 YS hy,hsy];simp only[frzMR];rw[←hsy])
    | dead=>exact .inr ⟨fun l s=>(by rw[hsy];simp),fun l s=>by rw[hs0 YS hy,hsy];simp[frzMR]⟩
    | row c'=>exact .inr ⟨fun l s=>(by rw[hsy];simp),fun l s=>by rw[hs0 YS hy,hsy];simp[frzMR]⟩
 refine⟨G',hstep,hys,fun l vals h=>frzML_rel hle hm hKb hr1 hr2 h,hfoot,fun j hj=>?_⟩
 have hji:j≠i:=by rintro rfl;exact hj hlive
 refine⟨?_,fun h=>hj (hlv j h).2⟩
 rw[hs0 j hji]
 cases hsj:σ j with
 | mk x y=>
   cases y with
   | row l=>exact absurd ⟨l,by rw[hsj]⟩ hj
   | dead=>rfl
   | yld l s=>rfl
theorem ACall.frzM {P:Program} {f:Nat} {args args':List AV} {σ σ':Sig} {i g d:Nat} {ks vs:List AV} {Q:AV→Sig→Prop} (hσ:σ i=(g,.row [.mpv ks vs])) (hi:AV.map i g∈args) (ha:args'=frzML i g ks vs args) (hs:σ'=frzMS i g ks vs σ) (h:ACall P f args' σ' d Q):ACall P f args σ d Q:=by
 subst ha hs
 refine⟨h.1,fun Y T G w vals hI hy ht hr=>?_⟩
 obtain⟨b,hm⟩:∃b,G.m i g=some (b,1,0):=by
  clear h hy ht hI hσ
  induction args generalizing vals with
  | nil=>cases hi
  | cons a l ih=>
    obtain⟨v,r,rfl,h1,h2⟩:=hr
    rcases List.mem_cons.1 hi with e | e
    · subst e
      obtain⟨b,-,h1⟩:=h1
      exact⟨b,h1⟩
    · exact ih e _ h2
 obtain⟨G',hst,hys,hrel,hfoot,hdead⟩:=frzM_step hI hm hσ
 have hy':YI Y T (frzMS i g ks vs σ) G'.K w:=by
  have:YI Y T σ G'.K w:=by
   unfold YI at hy ⊢
   revert hy
   cases Y with
   | none=>exact id
   | some y=>
     rintro⟨s,h1,h2'⟩
     exact⟨s,h1,y.stab _ _ _ _ _ _ h2' hst.inv.kok ⟨hst.ext.os,hst.ext.tape,hst.ext.output,hst.ext.size,fun b hb hn=>hst.ext.block b hb fun hf=>ht b hf (Classical.not_not.1 hn),hst.ext.le,fun b hb hn=>hst.ext.Kb b hb fun hf=>ht b hf (Classical.not_not.1 hn)⟩⟩
  exact this.same hys
 refine (h.2 Y T G' w vals hst.inv hy' (fun b hb=>ht b (hfoot b hb)) (hrel _ _ hr)).mono ?_
 rintro e w' ⟨v,av,σ',G2,T',h1,h2,h3,h4,h5,h6,h7,h8,h9,h10,h11⟩
 refine⟨v,av,σ',G2,T',h1,h2,h3,h4,hst.le.trans h5,?_,fun b hb=>(h7 b hb).imp (hfoot b) id,fun j hj hl hjy=>?_,h9,h10,h11⟩
 · exact (Ext.weak hst.ext (F':=fun b=>Foot G σ b∨T b) fun b _ h=> .inl h).trans h6 fun b _ h=>h.imp (hfoot b) id
 · rw[h8 j hj (hdead j hl).2 hjy,(hdead j hl).1]
abbrev W0:Wt:=[(bg0,1)]
abbrev gmP (G:Gm):AV:= .pin [.slc 2 (wR G.ws) .non,.slc 5 (dlR G.ds) .non]
structure GmIn (G:Gm) (I:List Sp→Wt→Prop):Prop where
 n1:1≤G.ws.length
 n6:G.ws.length≤6
 d24:G.ds.length≤24
 cnt:∀d∈G.ds,drawsB d=true→1≤d.count∧d.count≤12
 cen:1≤censG (stepsG G.ds)
 sr:SrI G.ws.length I
 ini:I (stepsG G.ds) W0
def crsG (G:Gm):List (List Int×Int):=crs G.ws.length (stepsG G.ds) (sumW W0) []
theorem courses_it (G:Gm) (I:List Sp→Wt→Prop) (h:GmIn G I):ItC Tryz.prog 109 [gmP G] ((crsG G).map encC):=by
 refine ItC.of fun l=>?_
 have hsl:=stepsG_len G.ds h.cnt
 have hd:=h.d24
 have hst:=steps_c G h.d24 h.cnt
 have hrec:=fun gs gy gw=>crsW_c G (stepsG G.ds) gs gy gw l I h.sr (by omega) h.n1 h.n6 (stepsG G.ds) [] 0 W0 (stV W0) [] .nsl [] rfl rfl (.inl ⟨rfl,rfl⟩) (.inl rfl) h.ini (by simp;omega) (by simpa using h.cen)
 rw[List.append_nil] at hrec
 refine RawC.walk (H:=hint109 Tryz.prog) ir109 Tryz.func109 rfl (by kernel_rfl) rfl ?_
 unfold ir109
 repeat' (first
  | with_reducible refine Rd.p ?_
  | with_reducible (first|refine zI fun y hy=>?_|refine zL ?_|refine zS ?_|refine zV ?_|refine zC ?_)
  | ((with_reducible refine aC ?_);first|(refine ACall.val hst rfl rfl ?_))
  | refine aX ?_|with_reducible intro _
  | with_reducible refine zJ ?_ fun y hy=>?_|refine aP ?_ ?_)
 rename_i g2 g3 g4 g9
 refine ACall.frzM (args':=[.int .i64 0,stV W0,.nsl,.ref 3 g3 0,.ref 2 g2 0,.ref 4 g4 0,gmP G]) (i:=9) (ks:=wK W0) (vs:=wV W0) rfl (by simp) (by simp[frzML,frzM]) rfl ?_
 refine ACall.liftYS (hrec _ _ _) [(1000,3),(1001,2),(1002,4)] none rfl rfl rfl rfl ⟨⟨_,rfl⟩,⟨_,rfl⟩,⟨_,rfl⟩,trivial⟩ (fun _=>rfl) (fun b=>(0,.yld l (yNext [] b))) (fun _=>rfl) ?_
 rintro b _ rfl
 repeat' (first
  | with_reducible refine Rd.p ?_
  | with_reducible (first|refine zI fun y hy=>?_|refine zL ?_|refine zS ?_|refine zV ?_|refine zC ?_)
  | refine aX ?_|with_reducible intro _
  | with_reducible refine zJ ?_ fun y hy=>?_|refine aP ?_ ?_)
 cases b
 · exact .inl rfl
 · exact .inr rfl
theorem courses_c (G:Gm):Fn0 Tryz.prog 85 [gmA G] (fun v=>v= .clo (.func 109) [] [gmP G]):=by
 refine RawC.walk (H:=hint85 Tryz.prog) ir85 Tryz.func85 rfl rfl rfl ?_
 unfold ir85
 repeat' (first
  | with_reducible refine Rd.p ?_
  | with_reducible (first|refine zL ?_|refine zS ?_|refine zV ?_|refine zC ?_)
  | (refine w_frzR rfl rfl rfl ?_)
  | refine aX ?_|with_reducible intro _
  | refine aP ?_ ?_)
 rfl
def ir68:IFn:=
 ⟨3,[(0,none)],(.seq (.ops [oo 0 (.mov (.k .nmp))])
 (.seq (.ops [⟨(some 1),none,.mkm⟩,
 ⟨none,none,(.mup .i 1 (kI 1) (.k (.clo (.func 99) [] [])))⟩,
 ⟨none,none,(.mup .i 1 (kI 2) (.k (.clo (.func 100) [] [])))⟩,
 ⟨none,none,(.mup .i 1 (kI 3) (.k (.clo (.func 101) [] [])))⟩,
 ⟨none,none,(.mup .i 1 (kI 4) (.k (.clo (.func 102) [] [])))⟩,
 ⟨none,none,(.mup .i 1 (kI 5) (.k (.clo (.func 103) [] [])))⟩,
 ⟨none,none,(.mup .i 1 (kI 6) (.k (.clo (.func 104) [] [])))⟩,oo 2 (.mov 1),oo 0 (.mov 2)])
 .ret))⟩
def hint68 (P:Program):Hint:={}
theorem gnamed_c (s:ByteArray) (hs:s.size≤1000):Fn0 Tryz.prog 67 [.str s] (fun v=>v= .bool (namedB s)):=by
 have hin:=gin_c s.size 1 8
 refine RawC.walk (H:=hint67 Tryz.prog) ir67 Tryz.func67 rfl rfl rfl ?_
 unfold ir67
 repeat' (first
  | with_reducible refine Rd.p ?_
  | with_reducible (first|refine zL ?_|refine zS ?_|refine zV ?_|refine zC ?_)
  | refine aX ?_|with_reducible intro _
  | refine aP ?_ ?_)
 have hsz:s.data.toList.length=s.size:=by simp
 refine w_loopK [0,6,7] [] (fun x:List UInt8×List UInt8=>s.data.toList=x.1++x.2∧x.1.all letB=true) (fun x=>x.2.length) (fun x=>[(8,.int .i64 x.1.length)]) (fun _=>[]) ([],s.data.toList) ⟨rfl,rfl⟩ ⟨rfl,trivial⟩ trivial ?_
 rintro⟨pre,post⟩ ⟨hl,hb⟩ e σ
 dsimp only at hl hb ⊢
 have hlen:=congrArg List.length hl
 cases post with
 | nil=>
   simp only[List.append_nil,List.length_append,List.length_nil] at hlen
   repeat' (first
    | with_reducible refine Rd.p ?_
    | with_reducible (first|refine zL ?_|refine zS ?_|refine zV ?_|refine zC ?_)
    | ((with_reducible refine aC ?_);first|(refine ACall.val hin rfl rfl ?_))
    | refine aX ?_|with_reducible intro _
    | refine aP ?_ ?_)
   all_goals first
    | (exfalso;simp at*;omega)
    | (refine congrArg AV.bool ?_;unfold namedB;rw[hl,List.append_nil,hb];simp)
 | cons c post=>
   simp only[List.length_append,List.length_cons] at hlen
   have hn:letB c=decide (97≤(c.toNat:Int)∧(c.toNat:Int)≤122):=rfl
   have hbad:letB c=false→namedB s=false:=fun h=>by unfold namedB;rw[hl];simp[h]
   repeat' (first
    | with_reducible refine Rd.p ?_
    | (refine w_ixP (f:=fun b:UInt8=>[AV.int .u8 (b.toNat:Int)]) hl rfl rfl ?_)
    | with_reducible (first|refine zL ?_|refine zS ?_|refine zV ?_|refine zC ?_)
    | refine aX ?_|with_reducible intro _
    | refine aP ?_ ?_)
   · exact congrArg AV.bool (hbad (by rw[hn];simp;omega)).symm
   · exact congrArg AV.bool (hbad (by rw[hn];simp;omega)).symm
   · exact q_loop (pre++[c],post) ⟨by show s.data.toList=_;rw[hl];simp,by show (pre++[c]).all letB=true;rw[List.all_append,hb];simp[hn];omega⟩ (by simp) (slots_cons (by show AV.int .i64 _=AV.int .i64 _;refine int_eq ?_;simp) slots_nil) trivial aK aK
theorem formed_c (d:Dl) (hk:inB d.kind 1 6=true):Fn0 Tryz.prog 69 [dlA d] (fun v=>v= .bool (formD d)):=by
 obtain⟨k1,k2⟩:=inB_ex hk
 obtain⟨kind,bag,other,wood,count⟩:=d
 dsimp only at k1 k2
 have hc:kind=1∨kind=2∨kind=3∨kind=4∨kind=5∨kind=6:=by omega
 clear hk k1 k2
 rcases hc with rfl|rfl|rfl|rfl|rfl|rfl
 all_goals
  refine RawC.walk (H:=hint69 Tryz.prog) ir69 Tryz.func69 rfl (by kernel_rfl) rfl ?_
  unfold ir69
  repeat' (first
   | with_reducible refine Rd.p ?_
   | with_reducible (first|refine zL ?_|refine zS ?_|refine zV ?_|refine zC ?_)
   | refine aX ?_|with_reducible intro _
   | refine aP ?_ ?_)
 all_goals first
  | (exfalso;simp at*;done)
  | (refine congrArg AV.bool ?_;simp[formD];done)
  | (refine congrArg AV.bool ?_;simp[formD,Bool.and_assoc];done)
theorem checks_c:RawC Tryz.prog 68 [] (sg []) (SR (fun (x:Nat) v=>v= .map 1 x) (fun x=>[(1,(x,.row [.mpv ([1,2,3,4,5,6].map (AV.int .i64)) [.clo (.func 99) [] [],.clo (.func 100) [] [],.clo (.func 101) [] [],.clo (.func 102) [] [],.clo (.func 103) [] [],.clo (.func 104) [] []]]))])):=by
 refine RawC.walk (H:=hint68 Tryz.prog) ir68 Tryz.func68 rfl rfl rfl ?_
 unfold ir68
 repeat' (first
  | with_reducible (first|refine Rd.p ?_|refine w_alt ?_ ?_|refine zO ?_|refine zE0 ?_)
  | with_reducible (first|refine zL ?_|refine zS ?_|refine zV ?_|refine zC ?_)
  | refine aX ?_|with_reducible intro _
  | refine aP ?_ ?_)
 exact⟨_,rfl,rfl,trivial⟩
def ir38:IFn:=
 ⟨100,[(2,none)],(.seq (.ops [oo 1 (.box 2 0),oo 2 (.mov (kI 0))])
 (.seq (.blk 0 (.seq (.ops [oo 15 (.flA 0 1),oo 16 (.ld 1 false 15),oo 17 (.len false 16),oo 18 (.bin .eql 17 (kI 0)),oo 14 (.mov 18)])
 (.cnd 14
 (.seq (.ops [oo 2 (.mov (kI 6))])
 .ret)
 (.seq (.ops [oo 20 (.flA 0 1),oo 21 (.ld 1 false 20),oo 22 (.len false 21),oo 23 (.bin .gtr 22 (kI 6)),oo 19 (.mov 23)])
 (.cnd 19
 (.seq (.ops [oo 2 (.mov (kI 8))])
 .ret)
 .skip)))))
 (.seq (.seq (.ops [oo 24 (.flA 0 1),oo 25 (.ld 1 false 24),oo 26 (.len false 25),oo 27 (.mov (kI 0))])
 (.blk 1 (.loop (.seq (.ops [oo 28 (.bin .lss 27 26)])
 (.seq (.cnd 28
 .skip
 (.exit 1))
 (.seq (.blk 2 (.seq (.ops [oo 29 (.mov 27),oo 30 (.ixA 2 25 27),oo 31 (.ld 2 true 30),oo 4 (.new [(.str ByteArray.empty),(.int .i64 0)]),oo 3 (.mov 29),
 ⟨none,none,(.st 2 4 31)⟩])
 (.seq (.seq (.ops [oo 32 (.flA 0 4),oo 33 (.ld 1 false 32),oo 34 (.callF 67 [33]),oo 35 (.not 34)])
 (.cnd 35
 (.seq (.ops [oo 2 (.mov (kI 3))])
 .ret)
 .skip))
 (.seq (.seq (.ops [oo 36 (.flA 0 1),oo 37 (.ld 1 false 36),oo 38 (.mov 3),oo 39 (.slS 2 37 none (some 38) none),oo 40 (.len false 39),oo 41 (.mov (kI 0))])
 (.blk 3 (.loop (.seq (.ops [oo 42 (.bin .lss 41 40)])
 (.seq (.cnd 42
 .skip
 (.exit 3))
 (.seq (.blk 4 (.seq (.ops [oo 43 (.ixA 2 39 41),oo 44 (.ld 2 true 43),oo 6 (.new [(.str ByteArray.empty),(.int .i64 0)]),
 ⟨none,none,(.st 2 6 44)⟩])
 (.seq (.ops [oo 45 (.flA 0 6),oo 46 (.ld 1 false 45),oo 47 (.flA 0 4),oo 48 (.ld 1 false 47),oo 49 (.bin .eql 46 48)])
 (.cnd 49
 (.seq (.ops [oo 2 (.mov (kI 9))])
 .ret)
 .skip))))
 (.ops [oo 50 (.bin .add 41 (kI 1)),oo 41 (.mov 50)])))))))
 (.seq (.ops [oo 51 (.flA 1 4),oo 52 (.ld 1 false 51),oo 53 (.callF 54 [52,(kI 0),(kI 9)]),oo 54 (.not 53)])
 (.cnd 54
 (.seq (.ops [oo 2 (.mov (kI 2))])
 .ret)
 .skip))))))
 (.ops [oo 55 (.bin .add 27 (kI 1)),oo 27 (.mov 55)])))))))
 (.seq (.seq (.ops [oo 56 (.flA 1 1),oo 57 (.ld 1 false 56),oo 58 (.len false 57),oo 59 (.bin .gtr 58 (kI 24))])
 (.cnd 59
 (.seq (.ops [oo 2 (.mov (kI 8))])
 .ret)
 .skip))
 (.seq (.seq (.ops [⟨none,none,(.kil 64)⟩])
 (.seq (.ops [oo 60 (.flA 0 1),oo 61 (.ld 1 false 60),oo 62 (.len false 61),oo 63 (.bld [(.int .i64 0),(.int .i64 0),(.int .i64 0),(.bool false),(.bool false),(.bool false),(.bool false),(.bool false),(.bool false),(.int .i64 0),(.int .i64 0),(.int .i64 0),(.int .i64 0)] [(0,1,62)])])
 (.alt (.ops [oo 65 (.callF 68 []),
 ⟨none,none,(.chk 1 false 60 61)⟩,oo 64 (.box 13 63),oo 7 (.mov 64),oo 8 (.mov 65)])
 (.ops [oo 64 (.box 13 63),oo 65 (.callF 68 []),
 ⟨none,none,(.chk 1 false 60 61)⟩,oo 7 (.mov 64),oo 8 (.mov 65)]))))
 (.seq (.seq (.ops [oo 66 (.flA 1 1),oo 67 (.ld 1 false 66),oo 68 (.len false 67),oo 69 (.mov (kI 0))])
 (.blk 5 (.loop (.seq (.ops [oo 70 (.bin .lss 69 68)])
 (.seq (.cnd 70
 .skip
 (.exit 5))
 (.seq (.blk 6 (.seq (.ops [oo 71 (.ixA 5 67 69),oo 72 (.ld 5 true 71),oo 10 (.new [(.int .i64 0),(.int .i64 0),(.int .i64 0),(.int .i64 0),(.int .i64 0)]),
 ⟨none,none,(.st 5 10 72)⟩])
 (.seq (.ops [oo 74 (.mov 8),oo 75 (.flA 0 10),oo 76 (.ld 1 false 75),oo 77 (.mlk .i .nfn true 74 76),oo 73 (.mov 77),oo 78 (.ext 0 73),oo 79 (.ext 1 73),oo 11 (.mov 78),oo 12 (.mov 79)])
 (.seq (.blk 7 (.seq (.ops [oo 81 (.mov 12),oo 82 (.not 81),oo 80 (.mov 82)])
 (.cnd 80
 (.seq (.ops [oo 2 (.mov (kI 4))])
 .ret)
 (.seq (.ops [oo 84 (.ld 5 true 10),oo 85 (.callF 69 [84]),oo 86 (.not 85),oo 83 (.mov 86)])
 (.cnd 83
 (.seq (.ops [oo 2 (.mov (kI 3))])
 .ret)
 .skip)))))
 (.seq (.ops [oo 87 (.mov 11),oo 88 (.mov 7),oo 89 (.ld 5 true 10),oo 90 (.callV 87 [88,89]),oo 13 (.mov 90)])
 (.seq (.ops [oo 91 (.mov 13),oo 92 (.bin .neq 91 (kI 0))])
 (.cnd 92
 (.seq (.ops [oo 93 (.mov 13),oo 2 (.mov 93)])
 .ret)
 .skip)))))))
 (.ops [oo 94 (.bin .add 69 (kI 1)),oo 69 (.mov 94)])))))))
 (.seq (.seq (.ops [oo 95 (.mov 7),oo 96 (.nck 95),oo 97 (.flA 2 96),oo 98 (.ld 1 false 97),oo 99 (.bin .eql 98 (kI 0))])
 (.cnd 99
 (.seq (.ops [oo 2 (.mov (kI 6))])
 .ret)
 .skip))
 (.seq (.ops [oo 2 (.mov (kI 0))])
 .ret))))))))⟩
def hint38 (P:Program):Hint:={}
def fnK (k:Int):Nat:=if k=1 then 99 else if k=2 then 100 else if k=3 then 101 else if k=4 then 102 else if k=5 then 103 else 104
def ckVs:List AV:=[.clo (.func 99) [] [],.clo (.func 100) [] [],.clo (.func 101) [] [],.clo (.func 102) [] [],.clo (.func 103) [] [],.clo (.func 104) [] []]
def ckKs:List Int:=[1,2,3,4,5,6]
section
variable {P:Program} {K:(Nat→AV)→Sig→Prop} {e:Nat→AV} {σ:Sig} {m k:IOpd} {r:List IStep} {d i h:Nat} {a:Int}
theorem w_mlkT (hm:m.ev e= .map i h) (hσ:σ i=(h,.row [.mpv (ckKs.map (AV.int .i64)) ckVs])) (hk:k.ev e= .int .i64 a) (ha:inB a 1 6=true)
  (hK:stepsW P r K (upd e d (.tup [.clo (.func (fnK a)) [] [],.bool true])) σ):stepsW P (⟨some d,none,.mlk .i .nfn true m k⟩::r) K e σ:=by
 refine w_det (p:=h=h) (v:=fun _=> .tup [.clo (.func (fnK a)) [] [],.bool true]) (σ':=fun _=>σ) (fun _=>?_) rfl fun _=>hK
 show mlkO .i .nfn true σ (k.ev e) (m.ev e)=_
 rw[hm,hk]
 simp only[mlkO,mapR,hσ,findI]
 obtain⟨a1,a2⟩:=inB_ex ha
 have hc:a=1∨a=2∨a=3∨a=4∨a=5∨a=6:=by omega
 rcases hc with rfl|rfl|rfl|rfl|rfl|rfl<;>rfl
theorem w_mlkN (hm:m.ev e= .map i h) (hσ:σ i=(h,.row [.mpv (ckKs.map (AV.int .i64)) ckVs])) (hk:k.ev e= .int .i64 a) (ha:inB a 1 6=false)
  (hK:stepsW P r K (upd e d (.tup [.nfn,.bool false])) σ):stepsW P (⟨some d,none,.mlk .i .nfn true m k⟩::r) K e σ:=by
 refine w_det (p:=h=h) (v:=fun _=> .tup [.nfn,.bool false]) (σ':=fun _=>σ) (fun _=>?_) rfl fun _=>hK
 show mlkO .i .nfn true σ (k.ev e) (m.ev e)=_
 rw[hm,hk]
 simp only[mlkO,mapR,hσ,findI]
 have hc:=inB_f.1 ha
 rw[if_neg (by unfold ckKs;simp;omega)]
 rfl
end
theorem deal_c (g n:Nat) (d:Dl) (t:Tb) (hn:n≤6) (h:tbOK t) (hk:inB d.kind 1 6=true):RawC Tryz.prog (fnK d.kind) [.ref 1000 g 0,dlA d] (sg (ckS g n t)) (SR (fun t' v=>v= .int .i64 (dealE n d t)∧(dealE n d t=0→dealT d t=t')) (ckS g n)):=by
 obtain⟨k1,k2⟩:=inB_ex hk
 unfold fnK dealE dealT
 by_cases e1:d.kind=1
 · simp only[if_pos e1];exact cktrial_c g n d t hn h
 simp only[if_neg e1]
 by_cases e2:d.kind=2
 · simp only[if_pos e2];exact ckmix_c g n d t hn h
 simp only[if_neg e2]
 by_cases e3:d.kind=3
 · simp only[if_pos e3];exact ckpour_c g n d t hn h
 simp only[if_neg e3]
 by_cases e4:d.kind=4
 · simp only[if_pos e4];exact ckaside_c g n d t hn h
 simp only[if_neg e4]
 by_cases e5:d.kind=5
 · simp only[if_pos e5];exact ckpass_c g n d t hn h
 simp only[if_neg e5]
 exact ckplace_c g n d t hn h
theorem w_slPre {P:Program} {K:(Nat→AV)→Sig→Prop} {e:Nat→AV} {σ:Sig} {α:Type} {f:α→List AV} {l pre post:List α} {d sz:Nat} {t:Tag} {x y:IOpd} {r:List IStep} (hl:l=pre++post) (hx:x.ev e= .slc sz (l.map f) t) (hy:y.ev e= .int .i64 (pre.length:Int))
  (hk:stepsW P r K (upd e d (.slc sz (pre.map f) .non)) σ):stepsW P (⟨some d,none,.slS sz x none (some y) none⟩::r) K e σ:=by
 refine w_slM (a:=0) (b:=(pre.length:Int)) hx rfl (by show (match y.ev e with | .int _ i=>some i | _=>none)=_;rw[hy]) ⟨Int.le_refl _,by omega,by rw[hl,List.length_append];omega⟩ ?_
 have e1:(l.drop (0:Int).toNat).take ((pre.length:Int)-0).toNat=pre:=by
  rw[hl];simp
 rw[e1];exact hk
theorem gCheck_c (G:Gm) (hw:G.ws.length<1000) (hd:G.ds.length<1000) (hs:∀w∈G.ws,w.name.size≤1000):Fn0 Tryz.prog 38 [gmA G] (fun v=>v= .int .i64 (gmErr G)):=by
 obtain⟨B,hB⟩:∃B,gmErr G=B:=⟨_,rfl⟩
 rw[hB]
 unfold gmErr at hB
 by_cases h0:G.ws=[]
 · rw[if_pos h0] at hB
   subst hB
   have hl:G.ws.length=0:=by rw[h0];rfl
   refine RawC.walk (H:=hint38 Tryz.prog) ir38 Tryz.func38 rfl rfl rfl ?_
   unfold ir38
   repeat' (first
    | with_reducible refine Rd.p ?_
    | with_reducible (first|refine zI fun y hy=>?_|refine zL ?_|refine zS ?_|refine zV ?_|refine zC ?_)
    | refine aX ?_|with_reducible intro _
    | with_reducible refine zJ ?_ fun y hy=>?_|refine aP ?_ ?_)
   all_goals first
    | (exfalso;omega)
    | rfl
 rw[if_neg h0] at hB
 have hl0:G.ws.length≠0:=fun h=>h0 (List.eq_nil_of_length_eq_zero h)
 by_cases h6:6<G.ws.length
 · rw[if_pos h6] at hB
   subst hB
   refine RawC.walk (H:=hint38 Tryz.prog) ir38 Tryz.func38 rfl rfl rfl ?_
   unfold ir38
   repeat' (first
    | with_reducible refine Rd.p ?_
    | with_reducible (first|refine zI fun y hy=>?_|refine zL ?_|refine zS ?_|refine zV ?_|refine zC ?_)
    | refine aX ?_|with_reducible intro _
    | with_reducible refine zJ ?_ fun y hy=>?_|refine aP ?_ ?_)
   all_goals first
    | (exfalso;omega)
    | rfl
 rw[if_neg h6] at hB
 refine RawC.walk (H:=hint38 Tryz.prog) ir38 Tryz.func38 rfl rfl rfl ?_
 unfold ir38
 repeat' (first
  | with_reducible refine Rd.p ?_
  | with_reducible (first|refine zI fun y hy=>?_|refine zL ?_|refine zS ?_|refine zV ?_|refine zC ?_)
  | refine aX ?_|with_reducible intro _
  | with_reducible refine zJ ?_ fun y hy=>?_|refine aP ?_ ?_)
 all_goals try (exfalso;omega)
 rename_i g1
 refine w_loopK [1,25,26] [1] (fun x:List Wd×List Wd=>G.ws=x.1++x.2∧wsErr [] G.ws=wsErr x.1 x.2) (fun x=>x.2.length) (fun x=>[(27,.int .i64 x.1.length)]) (fun _=>[]) ([],G.ws) ⟨rfl,rfl⟩ ⟨rfl,trivial⟩ trivial ?_
 rintro⟨pre,post⟩ ⟨hl,he⟩ e σ
 dsimp only at hl he ⊢
 have hlen:=congrArg List.length hl
 rw[List.length_append] at hlen
 cases post with
 | nil=>
   simp only[List.length_nil] at hlen
   rw[if_pos (by rw[he];rfl)] at hB
   by_cases h24:24<G.ds.length
   · rw[if_pos h24] at hB
     subst hB
     repeat' (first
      | with_reducible refine Rd.p ?_
      | with_reducible (first|refine zI fun y hy=>?_|refine zL ?_|refine zS ?_|refine zV ?_|refine zC ?_)
      | refine aX ?_|with_reducible intro _
      | with_reducible refine zJ ?_ fun y hy=>?_|refine aP ?_ ?_)
     all_goals first
      | (exfalso;omega)
      | rfl
   rw[if_neg h24] at hB
   repeat' (first
    | with_reducible refine Rd.p ?_
    | with_reducible (first|refine zI fun y hy=>?_|refine zL ?_|refine zS ?_|refine zV ?_|refine zC ?_)
    | ((with_reducible refine aC ?_);first|(refine ACall.liftS checks_c [] (some 1) rfl rfl rfl trivial (fun _=>rfl) ?_;rintro gm _ rfl))
    | refine aX ?_|with_reducible intro _
    | with_reducible refine zJ ?_ fun y hy=>?_|refine aP ?_ ?_)
   all_goals try (exfalso;omega)
   all_goals
    rename_i g64
    refine w_loopK [7,8,67,68] [] (fun x:List Dl×List Dl×Tb=>G.ds=x.1++x.2.1∧tbOK x.2.2∧(if dsErr G.ws.length x.2.2 x.2.1=0 then (if (dsTab x.2.2 x.2.1).cens=0 then 6 else 0) else dsErr G.ws.length x.2.2 x.2.1)=B) (fun x=>x.2.1.length) (fun x=>[(69,.int .i64 x.1.length)]) (fun x=>[(64,(g64,.row (ckRow G.ws.length x.2.2))),(65,(gm,.row [.mpv (ckKs.map (AV.int .i64)) ckVs]))]) ([],G.ds,tb0) ⟨rfl,tb0_ok,hB⟩ ⟨rfl,trivial⟩ ⟨rfl,rfl,trivial⟩ ?_
    rintro⟨pre,post,t⟩ ⟨hl2,hok,hB2⟩ e2 σ2
    dsimp only at hl2 hok hB2 ⊢
    have hlen2:=congrArg List.length hl2
    rw[List.length_append] at hlen2
    cases post with
    | nil=>
      simp only[List.length_nil] at hlen2
      have hB2:(if t.cens=0 then (6:Int) else 0)=B:=hB2
      have htc:=hok.c
      by_cases hc0:t.cens=0
      · rw[if_pos hc0] at hB2
        subst hB2
        repeat' (first
         | with_reducible refine Rd.p ?_
         | with_reducible (first|refine zI fun y hy=>?_|refine zL ?_|refine zS ?_|refine zV ?_|refine zC ?_)
         | refine aX ?_|with_reducible intro _
         | with_reducible refine zJ ?_ fun y hy=>?_|refine aP ?_ ?_)
        all_goals first
         | (exfalso;omega)
         | rfl
      · rw[if_neg hc0] at hB2
        subst hB2
        repeat' (first
         | with_reducible refine Rd.p ?_
         | with_reducible (first|refine zI fun y hy=>?_|refine zL ?_|refine zS ?_|refine zV ?_|refine zC ?_)
         | refine aX ?_|with_reducible intro _
         | with_reducible refine zJ ?_ fun y hy=>?_|refine aP ?_ ?_)
        all_goals first
         | (exfalso;omega)
         | rfl
    | cons d post=>
      simp only[List.length_cons] at hlen2
      cases hk6:inB d.kind 1 6 with
      | false=>
        have hdl:dlErr G.ws.length d t=4:=by rw[dlErr,hk6];rfl
        have hds:dsErr G.ws.length t (d::post)=4:=by rw[dsErr,hdl];rfl
        rw[hds,if_neg (by decide)] at hB2
        subst hB2
        repeat' (first
         | with_reducible refine Rd.p ?_
         | (first|refine w_ixP (f:=fun d:Dl=>[AV.int .i64 d.kind,.int .i64 d.bag,.int .i64 d.other,.int .i64 d.wood,.int .i64 d.count]) hl2 rfl rfl ?_|refine w_mlkN rfl rfl rfl hk6 ?_)
         | with_reducible (first|refine zI fun y hy=>?_|refine zL ?_|refine zS ?_|refine zV ?_|refine zC ?_)
         | refine aX ?_|with_reducible intro _
         | with_reducible refine zJ ?_ fun y hy=>?_|refine aP ?_ ?_)
        all_goals first
         | (exfalso;omega)
         | rfl
      | true=>
      have hfo:=formed_c d hk6
      cases hfd:formD d with
      | false=>
        have hdl:dlErr G.ws.length d t=3:=by rw[dlErr,hk6,if_pos rfl,hfd];rfl
        have hds:dsErr G.ws.length t (d::post)=3:=by rw[dsErr,hdl];rfl
        rw[hds,if_neg (by decide)] at hB2
        subst hB2
        rw[hfd] at hfo
        repeat' (first
         | with_reducible refine Rd.p ?_
         | (first|refine w_ixP (f:=fun d:Dl=>[AV.int .i64 d.kind,.int .i64 d.bag,.int .i64 d.other,.int .i64 d.wood,.int .i64 d.count]) hl2 rfl rfl ?_|refine w_mlkT rfl rfl rfl hk6 ?_)
         | with_reducible (first|refine zI fun y hy=>?_|refine zL ?_|refine zS ?_|refine zV ?_|refine zC ?_)
         | ((with_reducible refine aC ?_);first|(refine ACall.val hfo rfl rfl ?_))
         | refine aX ?_|with_reducible intro _
         | with_reducible refine zJ ?_ fun y hy=>?_|refine aP ?_ ?_)
        all_goals first
         | (exfalso;omega)
         | rfl
      | true=>
      have hdl:dlErr G.ws.length d t=dealE G.ws.length d t:=by rw[dlErr,hk6,if_pos rfl,hfd,if_pos rfl]
      rw[hfd] at hfo
      have hC:=deal_c g64 G.ws.length d t (by omega) hok hk6
      have hok2:=dealT_ok (n:=G.ws.length) hk6 hok
      rw[dsErr,dsTab,hdl] at hB2
      by_cases hE0:dealE G.ws.length d t=0
      · rw[if_pos hE0] at hB2
        rw[hE0] at hC
        have hok2:=hok2 hE0
        repeat' (first
         | with_reducible refine Rd.p ?_
         | (first|refine w_ixP (f:=fun d:Dl=>[AV.int .i64 d.kind,.int .i64 d.bag,.int .i64 d.other,.int .i64 d.wood,.int .i64 d.count]) hl2 rfl rfl ?_|refine w_mlkT rfl rfl rfl hk6 ?_)
         | with_reducible (first|refine zI fun y hy=>?_|refine zL ?_|refine zS ?_|refine zV ?_|refine zC ?_)
         | ((with_reducible refine aC ?_);first|(refine ACall.val hfo rfl rfl ?_)|(refine ACall.ck hC rfl rfl rfl ?_;rintro _ t' ⟨rfl,ht'⟩;obtain rfl:=ht' rfl))
         | refine aX ?_|with_reducible intro _
         | with_reducible refine zJ ?_ fun y hy=>?_|refine aP ?_ ?_)
        all_goals first
         | (exfalso;omega)
         | exact q_loop (pre++[d],post,dealT d t) ⟨by show G.ds=_;rw[hl2];simp,hok2,hB2⟩ (by simp) (slots_cons (by show AV.int .i64 _=AV.int .i64 _;refine int_eq ?_;simp) slots_nil) ⟨rfl,rfl,trivial⟩ aK aK
      · rw[if_neg hE0,if_neg hE0] at hB2
        generalize dealE G.ws.length d t=E at*
        subst hB2
        repeat' (first
         | with_reducible refine Rd.p ?_
         | (first|refine w_ixP (f:=fun d:Dl=>[AV.int .i64 d.kind,.int .i64 d.bag,.int .i64 d.other,.int .i64 d.wood,.int .i64 d.count]) hl2 rfl rfl ?_|refine w_mlkT rfl rfl rfl hk6 ?_)
         | with_reducible (first|refine zI fun y hy=>?_|refine zL ?_|refine zS ?_|refine zV ?_|refine zC ?_)
         | ((with_reducible refine aC ?_);first|(refine ACall.val hfo rfl rfl ?_)|(refine ACall.ck hC rfl rfl rfl ?_;rintro _ t' ⟨rfl,ht'⟩))
         | refine aX ?_|with_reducible intro _
         | with_reducible refine zJ ?_ fun y hy=>?_|refine aP ?_ ?_)
        all_goals first
         | (exfalso;omega)
         | rfl
 | cons w post=>
   simp only[List.length_cons] at hlen
   have hwm:=hs w (by rw[hl];simp)
   have hnm:=gnamed_c w.name hwm
   have hfm:=gin_c w.fam 0 9
   cases hnb:namedB w.name with
   | false=>
     have h3:wsErr [] G.ws=3:=by rw[he,wsErr,hnb];rfl
     rw[h3,if_neg (by decide)] at hB
     subst hB
     rw[hnb] at hnm
     repeat' (first
      | with_reducible refine Rd.p ?_
      | (first|refine w_ixP (f:=fun w:Wd=>[AV.str w.name,.int .i64 w.fam]) hl rfl rfl ?_)
      | with_reducible (first|refine zI fun y hy=>?_|refine zL ?_|refine zS ?_|refine zV ?_|refine zC ?_)
      | ((with_reducible refine aC ?_);first|(refine ACall.val hnm rfl rfl ?_))
      | refine aX ?_|with_reducible intro _
      | with_reducible refine zJ ?_ fun y hy=>?_|refine aP ?_ ?_)
     all_goals first
      | (exfalso;omega)
      | rfl
   | true=>
   rw[hnb] at hnm
   repeat' (first
    | with_reducible refine Rd.p ?_
    | (first|refine w_ixP (f:=fun w:Wd=>[AV.str w.name,.int .i64 w.fam]) hl rfl rfl ?_|refine w_slPre (f:=fun w:Wd=>[AV.str w.name,.int .i64 w.fam]) hl rfl rfl ?_)
    | with_reducible (first|refine zI fun y hy=>?_|refine zL ?_|refine zS ?_|refine zV ?_|refine zC ?_)
    | ((with_reducible refine aC ?_);first|(refine ACall.val hnm rfl rfl ?_))
    | refine aX ?_|with_reducible intro _
    | with_reducible refine zJ ?_ fun y hy=>?_|refine aP ?_ ?_)
   all_goals try (exfalso;omega)
   rename_i g4
   refine w_loopK [1,4,25,26,27,39,40] [1,4] (fun x:List Wd×List Wd=>pre=x.1++x.2∧x.1.any (fun x=>decide (x.name=w.name))=false) (fun x=>x.2.length) (fun x=>[(41,.int .i64 x.1.length)]) (fun _=>[]) ([],pre) ⟨rfl,rfl⟩ ⟨rfl,trivial⟩ trivial ?_
   rintro⟨p1,p2⟩ ⟨hl3,hany⟩ e3 σ3
   dsimp only at hl3 hany ⊢
   have hlen3:=congrArg List.length hl3
   rw[List.length_append] at hlen3
   cases p2 with
   | nil=>
     simp only[List.length_nil] at hlen3
     rw[List.append_nil] at hl3
     rw[←hl3] at hany
     cases hfb:inB w.fam 0 9 with
     | false=>
       have h2:wsErr [] G.ws=2:=by rw[he,wsErr,if_pos hnb,hany,hfb];rfl
       rw[h2,if_neg (by decide)] at hB
       subst hB
       rw[hfb] at hfm
       repeat' (first
        | with_reducible refine Rd.p ?_
        | with_reducible (first|refine zI fun y hy=>?_|refine zL ?_|refine zS ?_|refine zV ?_|refine zC ?_)
        | ((with_reducible refine aC ?_);first|(refine ACall.val hfm rfl rfl ?_))
        | refine aX ?_|with_reducible intro _
        | with_reducible refine zJ ?_ fun y hy=>?_|refine aP ?_ ?_)
       all_goals first
        | (exfalso;omega)
        | rfl
     | true=>
       have h2:wsErr pre (w::post)=wsErr (pre++[w]) post:=by rw[wsErr,if_pos hnb,hany,hfb];rfl
       rw[h2] at he
       rw[hfb] at hfm
       repeat' (first
        | with_reducible refine Rd.p ?_
        | with_reducible (first|refine zI fun y hy=>?_|refine zL ?_|refine zS ?_|refine zV ?_|refine zC ?_)
        | ((with_reducible refine aC ?_);first|(refine ACall.val hfm rfl rfl ?_))
        | refine aX ?_|with_reducible intro _
        | with_reducible refine zJ ?_ fun y hy=>?_|refine aP ?_ ?_)
       all_goals first
        | (exfalso;omega)
        | exact q_loop (pre++[w],post) ⟨by show G.ws=_;rw[hl];simp,he⟩ (by simp) (slots_cons (by show AV.int .i64 _=AV.int .i64 _;refine int_eq ?_;simp) slots_nil) trivial aK aK
   | cons x p2=>
     simp only[List.length_cons] at hlen3
     by_cases hx:x.name=w.name
     · have h9:wsErr [] G.ws=9:=by
        rw[he,wsErr,if_pos hnb,if_pos]
        rw[hl3,List.any_append,List.any_cons,decide_eq_true hx];simp
       rw[h9,if_neg (by decide)] at hB
       subst hB
       repeat' (first
        | with_reducible refine Rd.p ?_
        | (first|refine w_ixP (f:=fun w:Wd=>[AV.str w.name,.int .i64 w.fam]) hl3 rfl rfl ?_)
        | with_reducible (first|refine zI fun y hy=>?_|refine zL ?_|refine zS ?_|refine zV ?_|refine zC ?_)
        | refine aX ?_|with_reducible intro _
        | with_reducible refine zJ ?_ fun y hy=>?_|refine aP ?_ ?_)
       all_goals first
        | (exfalso;omega)
        | rfl
     · repeat' (first
        | with_reducible refine Rd.p ?_
        | (first|refine w_ixP (f:=fun w:Wd=>[AV.str w.name,.int .i64 w.fam]) hl3 rfl rfl ?_)
        | with_reducible (first|refine zI fun y hy=>?_|refine zL ?_|refine zS ?_|refine zV ?_|refine zC ?_)
        | refine aX ?_|with_reducible intro _
        | with_reducible refine zJ ?_ fun y hy=>?_|refine aP ?_ ?_)
       all_goals first
        | (exfalso;omega)
        | exact absurd ‹x.name=w.name› hx
        | exact q_loop (p1++[x],p2) ⟨by show pre=_;rw[hl3];simp,by show (p1++[x]).any _=false;rw[List.any_append,hany,List.any_cons,decide_eq_false hx];rfl⟩ (by simp) (slots_cons (by show AV.int .i64 _=AV.int .i64 _;refine int_eq ?_;simp) slots_nil) trivial aK aK
def ir45:IFn:=
 ⟨30,[(2,some (1,false)),(3,some (1,false)),(4,some (1,false))],(.seq (.ops [oo 1 (.box 2 0),oo 2 (.new [.nsl]),oo 3 (.new [.nsl]),oo 4 (.new [(.int .i64 0)])])
 (.seq (.seq (.ops [oo 8 (.ld 2 true 1),oo 9 (.callF 38 [8]),oo 5 (.mov 9)])
 (.seq (.ops [oo 10 (.mov 5),oo 11 (.bin .neq 10 (kI 0))])
 (.cnd 11
 (.seq (.ops [oo 12 (.mov 5),
 ⟨none,none,(.st 1 2 (.k .nsl))⟩,
 ⟨none,none,(.st 1 3 (.k .nsl))⟩,
 ⟨none,none,(.st 1 4 12)⟩])
 .ret)
 .skip)))
 (.seq (.seq (.ops [oo 13 (.ld 2 true 1),oo 14 (.callF 85 [13])])
 (.blk 0 (.rf 14 [15,16] (.seq (.ops [oo 6 (.mov 15)])
 (.ops [oo 7 (.mov 16)]))
 (.blk 1 (.seq (.seq (.ops [oo 17 (.ld 1 false 2),oo 18 (.len false 17),oo 19 (.bin .eql 18 (kI 5000))])
 (.cnd 19
 (.seq (.ops [⟨none,none,(.st 1 2 (.k .nsl))⟩,
 ⟨none,none,(.st 1 3 (.k .nsl))⟩,
 ⟨none,none,(.st 1 4 (kI 8))⟩])
 .ret)
 .skip))
 (.ops [oo 20 (.ld 1 false 2),oo 21 (.mov 6),oo 22 (.bsl 1 [[.nsl]] [(0,21)]),oo 24 (.ld 1 false 3),oo 25 (.mov 7),oo 26 (.bsl 1 [[(.int .i64 0)]] [(0,25)]),oo 23 (.app 1 24 20 22 23),
 ⟨none,none,(.chk 1 false 3 24)⟩,oo 27 (.app 1 8 24 26 27),
 ⟨none,none,(.st 1 2 23)⟩,
 ⟨none,none,(.st 1 3 27)⟩]))))))
 (.seq (.ops [oo 28 (.ld 1 false 2),oo 29 (.ld 1 false 3),
 ⟨none,none,(.st 1 2 28)⟩,
 ⟨none,none,(.chk 1 false 3 29)⟩,
 ⟨none,none,(.st 1 3 29)⟩,
 ⟨none,none,(.st 1 4 (kI 0))⟩])
 .ret))))⟩
def hint45 (P:Program):Hint:={}
theorem Sub.tupM {l m:List AV} (h:SubL l m):Sub (.tup l) (.tup m):=fun G v ⟨vs,h1,h2⟩=>⟨vs,h1,SubL.rel h h2⟩
def crsO (G:Gm):List (List Int×Int)×Int:=if gmErr G=0 then (if (crsG G).length≤5000 then (crsG G,0) else ([],8)) else ([],gmErr G)
def rV (l:List (List Int×Int)):AV:=match l with
 | []=> .nsl
 | _::_=> .slc 1 (llR (l.map (·.1))) .non
def rW (l:List (List Int×Int)):AV:=match l with
 | []=> .nsl
 | _::_=> .slc 1 (iR (l.map (·.2))) .non
abbrev crsA (l:List (List Int×Int)) (e:Int):AV:= .tup [rV l,rW l,.int .i64 e]
def takV (l:List (List Int×Int)) (g:Nat):AV:=match l with
 | []=> .nsl
 | _::_=> .slc 1 (llR (l.map (·.1))) (.own 23 g)
def takW (l:List (List Int×Int)) (g:Nat):AV:=match l with
 | []=> .nsl
 | _::_=> .slc 1 (iR (l.map (·.2))) (.own 27 g)
def takX (l:List (List Int×Int)) (g:Nat):Nat×Res:=match l with
 | []=>(0,.dead)
 | _::_=>(g,.row [])
theorem courses_f (G:Gm) (I:List Sp→Wt→Prop) (hw:G.ws.length<1000) (hd:G.ds.length<1000) (hs:∀w∈G.ws,w.name.size≤1000) (hI:gmErr G=0→GmIn G I):Fn0 Tryz.prog 45 [gmA G] (fun v=>v=crsA (crsO G).1 (crsO G).2):=by
 have hck:=gCheck_c G hw hd hs
 obtain⟨B,hB⟩:∃B,crsO G=B:=⟨_,rfl⟩
 rw[hB]
 unfold crsO at hB
 by_cases h0:gmErr G=0
 rotate_left
 · rw[if_neg h0] at hB
   subst hB
   refine RawC.walk (H:=hint45 Tryz.prog) ir45 Tryz.func45 rfl rfl rfl ?_
   unfold ir45
   repeat' (first
    | with_reducible refine Rd.p ?_
    | with_reducible (first|refine zI fun y hy=>?_|refine zL ?_|refine zS ?_|refine zV ?_|refine zC ?_)
    | ((with_reducible refine aC ?_);first|(refine ACall.val hck rfl rfl ?_))
    | refine aX ?_|with_reducible intro _
    | with_reducible refine zJ ?_ fun y hy=>?_|refine aP ?_ ?_)
   all_goals first
    | (exfalso;omega)
    | (simp;done)
    | rfl
 rw[if_pos h0] at hB
 have hG:=hI h0
 rw[h0] at hck
 refine RawC.walk (H:=hint45 Tryz.prog) ir45 Tryz.func45 rfl rfl rfl ?_
 unfold ir45
 repeat' (first
  | with_reducible refine Rd.p ?_
  | with_reducible (first|refine zI fun y hy=>?_|refine zL ?_|refine zS ?_|refine zV ?_|refine zC ?_)
  | ((with_reducible refine aC ?_);first|(refine ACall.val hck rfl rfl ?_)|(refine ACall.val (courses_c G) rfl rfl ?_))
  | refine aX ?_|with_reducible intro _
  | with_reducible refine zJ ?_ fun y hy=>?_|refine aP ?_ ?_)
 all_goals try (exfalso;omega)
 rename_i g1 g2 g3 g4
 refine w_rfM encC (crsG G) rfl (courses_it G I hG) (fun _=>rfl) [4] (fun (rest:List (List Int×Int)) (y:List (List Int×Int)×Nat×Nat)=>y.1++rest=crsG G∧y.1.length≤5000) (fun y=>[(2,(g2,.row [takV y.1 y.2.1])),(3,(g3,.row [takW y.1 y.2.2])),(23,takX y.1 y.2.1),(27,takX y.1 y.2.2)]) ([],0,0) ⟨rfl,by simp⟩ ⟨rfl,rfl,rfl,rfl,trivial⟩ ?_ ?_
 · rintro⟨c,n⟩ rest ⟨l,ga,gb⟩ ⟨hl,h5⟩ σ'
   dsimp only at hl h5 ⊢
   have hlen:=congrArg List.length hl
   rw[List.length_append,List.length_cons] at hlen
   by_cases hf:l.length=5000
   · rw[if_neg (by omega)] at hB
     subst hB
     cases l with
     | nil=>exact absurd hf (by decide)
     | cons x l=>
       have hml:(List.map (fun x=>x.1) (x::l)).length=5000:=by rw[List.length_map];exact hf
       repeat' (first
        | with_reducible refine Rd.p ?_
        | with_reducible (first|refine zI fun y hy=>?_|refine zL ?_|refine zS ?_|refine zV ?_|refine zC ?_)
        | refine aX ?_|with_reducible intro _
        | with_reducible refine zJ ?_ fun y hy=>?_|refine aP ?_ ?_)
       all_goals first
        | (exfalso;omega)
        | (simp;done)
        | rfl
   · cases l with
     | nil=>
       repeat' (first
        | with_reducible refine Rd.p ?_
        | with_reducible (first|refine zI fun y hy=>?_|refine zL ?_|refine zS ?_|refine zV ?_|refine zC ?_)
        | refine aX ?_|with_reducible intro _
        | with_reducible refine zJ ?_ fun y hy=>?_|refine aP ?_ ?_)
       all_goals try (exfalso;omega)
       all_goals
        rename_i ga' gb'
        exact q_rnd ([(c,n)],ga',gb') ⟨hl,by simp⟩ aS aK
     | cons x l=>
       have hml:(List.map (fun x=>x.1) (x::l)).length=(x::l).length:=by rw[List.length_map]
       have hml2:(List.map (fun x=>x.2) (x::l)).length=(x::l).length:=by rw[List.length_map]
       repeat' (first
        | with_reducible refine Rd.p ?_
        | with_reducible (first|refine zI fun y hy=>?_|refine zL ?_|refine zS ?_|refine zV ?_|refine zC ?_)
        | refine aX ?_|with_reducible intro _
        | with_reducible refine zJ ?_ fun y hy=>?_|refine aP ?_ ?_)
       all_goals try (exfalso;omega)
       all_goals
        rename_i ga' gb'
        have e1:llR (List.map (fun x=>x.1) (x::l)++[c])=llR ((x::l++[(c,n)]).map (·.1)):=by simp
        have e2:iR (List.map (fun x=>x.2) (x::l)++[n])=iR ((x::l++[(c,n)]).map (·.2)):=by simp
        exact q_rnd (x::l++[(c,n)],ga',gb') ⟨by show (x::l++[(c,n)])++rest=_;rw[List.append_assoc];exact hl,by show (x::l++[(c,n)]).length≤5000;rw[len_snoc];omega⟩ ⟨congrArg (fun z=>(g2,Res.row [AV.slc 1 z (.own 23 ga')])) e1,congrArg (fun z=>(g3,Res.row [AV.slc 1 z (.own 27 gb')])) e2,rfl,rfl,trivial⟩ aK
 · rintro⟨l,ga,gb⟩ ⟨hl,h5⟩ σ'
   dsimp only at hl h5 ⊢
   rw[List.append_nil] at hl
   rw[←hl,if_pos h5] at hB
   subst hB
   cases l with
   | nil=>
     repeat' (first
      | with_reducible refine Rd.p ?_
      | with_reducible (first|refine zI fun y hy=>?_|refine zL ?_|refine zS ?_|refine zV ?_|refine zC ?_)
      | refine aX ?_|with_reducible intro _
      | with_reducible refine zJ ?_ fun y hy=>?_|refine aP ?_ ?_)
     all_goals first
      | (exfalso;omega)
      | (simp;done)
      | rfl
   | cons x l=>
     repeat' (first
      | with_reducible refine Rd.p ?_
      | with_reducible (first|refine zI fun y hy=>?_|refine zL ?_|refine zS ?_|refine zV ?_|refine zC ?_)
      | refine aX ?_|with_reducible intro _
      | with_reducible refine zJ ?_ fun y hy=>?_|refine aP ?_ ?_)
     all_goals first
      | (exfalso;omega)
      | (simp;done)
      | rfl
def fct:Nat→Int
 | 0=>1
 | k+1=>(k+1:Nat)*fct k
theorem fct_pos:∀k,1≤fct k
 | 0=>Int.le_refl _
 | k+1=>by
   have h:=fct_pos k
   show 1≤((k+1:Nat):Int)*fct k
   have:1*1≤((k+1:Nat):Int)*fct k:=Int.mul_le_mul (by omega) h (by decide) (by omega)
   omega
theorem fct12:fct 12=479001600:=by decide
structure bgT (n:Nat) (b:List Int) (B:List Int):Prop where
 l:B.length=24
 nn:∀v∈B,0≤v
 z:∀i w:Int,0≤i∧i≤3→(n:Int)≤w∧w≤5→bgAt B i w=0
 s:∀i:Int,0≤i∧i≤3→nSum 6 (fun w=>bgAt B i w)=atI b i
theorem bgAt_nn {B:List Int} (h:∀v∈B,0≤v) (i w:Int):0≤bgAt B i w:=by
 unfold bgAt
 rw[List.getD_eq_getElem?_getD]
 cases hh:B[i.toNat*6+w.toNat]? with
 | none=>exact Int.le_refl _
 | some v=>exact h v (List.mem_of_getElem? hh)
theorem nSum6 (f:Int→Int):nSum 6 f=f 0+f 1+f 2+f 3+f 4+f 5:=by simp[nSum]
theorem bgT.at {n:Nat} {b B:List Int} (h:bgT n b B) {i w:Int} (hi:0≤i∧i≤3) (hw:0≤w∧w≤5):0≤bgAt B i w∧bgAt B i w≤atI b i:=by
 refine⟨bgAt_nn h.nn i w,?_⟩
 have:=nSum_mem (n:=6) (f:=fun w=>bgAt B i w) (fun k _=>bgAt_nn h.nn i k) w.toNat (by omega)
 rw[h.s i hi] at this
 rwa [show ((w.toNat:Nat):Int)=w by omega] at this
theorem bgT.sum {n:Nat} {b B:List Int} (h:bgT n b B) (hn:n≤6) {i:Int} (hi:0≤i∧i≤3):nSum n (fun w=>bgAt B i w)=atI b i:=by
 rw[←h.s i hi]
 have:∀m:Nat,n+m≤6→nSum (n+m) (fun w=>bgAt B i w)=nSum n (fun w=>bgAt B i w):=by
  intro m
  induction m with
  | zero=>intro _;rfl
  | succ m ih=>
    intro hm
    show nSum (n+m) (fun w=>bgAt B i w)+bgAt B i ((n+m:Nat):Int)=_
    rw[ih (by omega),h.z i _ hi (by omega)];omega
 have h6:=this (6-n) (by omega)
 rw[show n+(6-n)=6 by omega] at h6
 exact h6.symm
theorem bgAt_add {B:List Int} (hl:B.length=24) {i j x k w:Int} (hi:0≤i∧i≤3) (hj:0≤j∧j≤5) (hk:0≤k∧k≤3) (hw:0≤w∧w≤5):bgAt (bgAdd B i j x) k w=if k=i∧w=j then bgAt B i j+x else bgAt B k w:=by
 show (B.set (i.toNat*6+j.toNat) (bgAt B i j+x)).getD (k.toNat*6+w.toNat) 0=_
 rw[set_getD (by omega)]
 by_cases h:k=i∧w=j
 · rw[if_pos h,if_pos (by rw[h.1,h.2])]
 · rw[if_neg h,if_neg (by omega)];rfl
theorem bgAt_pour {B:List Int} {i j k w:Int} (hi:0≤i∧i≤3) (hj:0≤j∧j≤3) (hk:0≤k∧k≤3) (hw:0≤w∧w≤5):bgAt (bgPour B i j) k w=if k=j then bgAt B k w+bgAt B i w else if k=i then 0 else bgAt B k w:=by
 show (((List.range 24).map _).getD (k.toNat*6+w.toNat) 0:Int)=_
 rw[map24_get (by omega)]
 have e1:(k.toNat*6+w.toNat)/6=k.toNat:=by omega
 have e2:(k.toNat*6+w.toNat)%6=w.toNat:=by omega
 rw[e1,e2]
 by_cases h:k=j
 · rw[if_pos h,if_pos (by rw[h])];rfl
 · rw[if_neg h,if_neg (by omega)]
   by_cases h2:k=i
   · rw[if_pos h2,if_pos (by rw[h2])]
   · rw[if_neg h2,if_neg (by omega)];rfl
theorem atI_set {b:List Int} (hb:b.length=4) {i k v:Int} (hi:0≤i∧i≤3) (hk:0≤k∧k≤3):atI (setI b i v) k=if k=i then v else atI b k:=by
 show (b.set i.toNat v).getD k.toNat 0=_
 rw[set_getD (by omega)]
 by_cases h:k=i
 · rw[if_pos h,if_pos (by rw[h])]
 · rw[if_neg h,if_neg (by omega)];rfl
theorem bgT.add {n:Nat} {b B:List Int} (h:bgT n b B) (hb:b.length=4) (hn:n≤6) {i j x:Int} (hi:0≤i∧i≤3) (hj:0≤j∧j<n) (hx:0≤bgAt B i j+x):bgT n (setI b i (atI b i+x)) (bgAdd B i j x):=by
 refine⟨by unfold bgAdd;rw[List.length_set];exact h.l,fun v hv=>?_,fun k w hk hw=>?_,fun k hk=>?_⟩
 · unfold bgAdd at hv
   rcases List.mem_or_eq_of_mem_set hv with hv|rfl
   · exact h.nn v hv
   · exact hx
 · rw[bgAt_add h.l hi (by omega) hk (by omega),if_neg (by omega)]
   exact h.z k w hk hw
 · rw[atI_set hb hi hk]
   have hs:=h.s k hk
   rw[nSum6] at hs ⊢
   try dsimp only at hs ⊢
   have hi':0≤j∧j≤5:=by omega
   rw[bgAt_add h.l hi hi' hk (by omega),bgAt_add h.l hi hi' hk (by omega),bgAt_add h.l hi hi' hk (by omega),bgAt_add h.l hi hi' hk (by omega),bgAt_add h.l hi hi' hk (by omega),bgAt_add h.l hi hi' hk (by omega)]
   by_cases e:k=i
   · subst e
     rw[if_pos rfl]
     rcases (by omega:j=0∨j=1∨j=2∨j=3∨j=4∨j=5) with rfl|rfl|rfl|rfl|rfl|rfl
     all_goals simp only[true_and,Int.reduceEq,if_true,if_false]
     all_goals omega
   · simp only[e,false_and,if_false]
     exact hs
theorem bgT.pour {n:Nat} {b B:List Int} (h:bgT n b B) (hb:b.length=4) {i j:Int} (hi:0≤i∧i≤3) (hj:0≤j∧j≤3) (hij:i≠j):bgT n (setI (setI b j (atI b j+atI b i)) i 0) (bgPour B i j):=by
 have hb2:(setI b j (atI b j+atI b i)).length=4:=by unfold setI;rw[List.length_set];exact hb
 refine⟨by simp[bgPour],fun v hv=>?_,fun k w hk hw=>?_,fun k hk=>?_⟩
 · unfold bgPour at hv
   obtain⟨y,hy,rfl⟩:=List.mem_map.1 hv
   have hg:∀p,0≤B.getD p 0:=fun p=>by
    rw[List.getD_eq_getElem?_getD]
    cases hh:B[p]? with
    | none=>exact Int.le_refl _
    | some v=>exact h.nn v (List.mem_of_getElem? hh)
   split
   · have:=hg y;have:=hg (i.toNat*6+y%6);omega
   · split
     · exact Int.le_refl _
     · exact hg y
 · rw[bgAt_pour hi hj hk (by omega),h.z k w hk hw,h.z i w hi hw]
   split
   · rfl
   · split<;>rfl
 · rw[atI_set hb2 hi hk,atI_set hb hj hk]
   have hs:=h.s k hk
   have hsi:=h.s i hi
   have hsj:=h.s j hj
   rw[nSum6] at hs hsi hsj ⊢
   try dsimp only at hs hsi hsj ⊢
   rw[bgAt_pour hi hj hk (by omega),bgAt_pour hi hj hk (by omega),bgAt_pour hi hj hk (by omega),bgAt_pour hi hj hk (by omega),bgAt_pour hi hj hk (by omega),bgAt_pour hi hj hk (by omega)]
   by_cases e:k=j
   · subst e
     rw[if_neg (Ne.symm hij)]
     simp only[if_true]
     omega
   · by_cases e2:k=i
     · subst e2
       simp only[e,if_false,if_true];rfl
     · simp only[e,e2,if_false]
       exact hs
def sumB (b:List Int):Int:=atI b 0+atI b 1+atI b 2+atI b 3
theorem sumB_set {b:List Int} (hb:b.length=4) {i x:Int} (hi:0≤i∧i≤3):sumB (setI b i (atI b i+x))=sumB b+x:=by
 unfold sumB
 rw[atI_set hb hi (by omega),atI_set hb hi (by omega),atI_set hb hi (by omega),atI_set hb hi (by omega)]
 rcases (by omega:i=0∨i=1∨i=2∨i=3) with rfl|rfl|rfl|rfl
 all_goals simp only[Int.reduceEq,if_true,if_false]
 all_goals omega
theorem setI_len {b:List Int} (hb:b.length=4) (i v:Int):(setI b i v).length=4:=by unfold setI;rw[List.length_set];exact hb
def spB (x:Sp) (b:List Int):List Int:=
 if x.2.1=true then setI b x.1.bag (atI b x.1.bag+ -1)
 else if x.1.kind=2 then setI b x.1.bag (atI b x.1.bag+x.1.count)
 else if x.1.kind=3 then setI (setI b x.1.other (atI b x.1.other+atI b x.1.bag)) x.1.bag 0 else b
def spM (x:Sp) (m:Int):Int:=if x.2.1=true then m else if x.1.kind=2 then m+x.1.count else m
structure spOK (n:Nat) (b:List Int) (m:Int) (x:Sp):Prop where
 d:x.2.1=true→(0≤x.1.bag∧x.1.bag≤3)∧1≤atI b x.1.bag
 h2:x.2.1=false→x.1.kind=2→(0≤x.1.bag∧x.1.bag≤3)∧(0≤x.1.wood∧x.1.wood<n)∧1≤x.1.count∧m+x.1.count≤12
 h3:x.2.1=false→x.1.kind=3→(0≤x.1.bag∧x.1.bag≤3)∧(0≤x.1.other∧x.1.other≤3)∧x.1.bag≠x.1.other
def runOK (n:Nat):List Sp→List Int→Int→Prop
 | [],_,_=>True
 | x::r,b,m=>spOK n b m x∧runOK n r (spB x b) (spM x m)
structure tbIn (b:List Int) (m:Int):Prop where
 l:b.length=4
 nn:∀i:Int,0≤i∧i≤3→0≤atI b i
 sm:sumB b≤m
 m:0≤m∧m≤12
theorem tbIn.le {b:List Int} {m:Int} (h:tbIn b m) {i:Int} (hi:0≤i∧i≤3):atI b i≤sumB b:=by
 have h0:=h.nn 0 (by omega)
 have h1:=h.nn 1 (by omega)
 have h2:=h.nn 2 (by omega)
 have h3:=h.nn 3 (by omega)
 unfold sumB
 rcases (by omega:i=0∨i=1∨i=2∨i=3) with rfl|rfl|rfl|rfl<;>omega
theorem tbIn.set {b:List Int} {m m' x i:Int} (h:tbIn b m) (hi:0≤i∧i≤3) (h0:0≤atI b i+x) (h1:sumB b+x≤m') (h2:0≤m'∧m'≤12):tbIn (setI b i (atI b i+x)) m':=by
 refine⟨setI_len h.l _ _,fun k hk=>?_,by rw[sumB_set h.l hi];exact h1,h2⟩
 rw[atI_set h.l hi hk]
 split
 · exact h0
 · exact h.nn k hk
theorem tbIn.pour {b:List Int} {m i j:Int} (h:tbIn b m) (hi:0≤i∧i≤3) (hj:0≤j∧j≤3) (hij:i≠j):tbIn (setI (setI b j (atI b j+atI b i)) i 0) m∧sumB (setI (setI b j (atI b j+atI b i)) i 0)=sumB b:=by
 have hl:=setI_len h.l j (atI b j+atI b i)
 have he:atI (setI b j (atI b j+atI b i)) i=atI b i:=by rw[atI_set h.l hj hi,if_neg hij]
 have hs:sumB (setI (setI b j (atI b j+atI b i)) i 0)=sumB b:=by
  have:=sumB_set (x:= -atI b i) hl hi
  rw[he,sumB_set h.l hj] at this
  rw[show atI b i+ -atI b i=0 by omega] at this
  rw[this];omega
 refine⟨⟨setI_len hl _ _,fun k hk=>?_,by rw[hs];exact h.sm,h.m⟩,hs⟩
 rw[atI_set hl hi hk]
 split
 · exact Int.le_refl _
 · rw[atI_set h.l hj hk]
   split
   · have:=h.nn j hj;have:=h.nn i hi;omega
   · exact h.nn k hk
theorem tbIn.step {n:Nat} {b:List Int} {m:Int} {x:Sp} (h:tbIn b m) (hx:spOK n b m x):tbIn (spB x b) (spM x m)∧sumB (spB x b)-spM x m=sumB b-m-(if x.2.1=true then 1 else 0):=by
 unfold spB spM
 by_cases h1:x.2.1=true
 · obtain⟨hb,ha⟩:=hx.d h1
   rw[if_pos h1,if_pos h1,if_pos h1,sumB_set h.l hb]
   exact⟨h.set hb (by omega) (by have:=h.sm;omega) h.m,by omega⟩
 · have h1f:x.2.1=false:=by simpa using h1
   rw[if_neg h1,if_neg h1,if_neg h1]
   by_cases h2:x.1.kind=2
   · obtain⟨hb,hw,hc,hm⟩:=hx.h2 h1f h2
     rw[if_pos h2,if_pos h2,sumB_set h.l hb]
     have:=h.nn _ hb
     have:=h.sm
     have:=h.m
     exact⟨h.set hb (by omega) (by omega) (by omega),by omega⟩
   · rw[if_neg h2,if_neg h2]
     by_cases h3:x.1.kind=3
     · obtain⟨hb,ho,hne⟩:=hx.h3 h1f h3
       rw[if_pos h3]
       obtain⟨k1,k2⟩:=h.pour hb ho hne
       exact⟨k1,by rw[k2];omega⟩
     · rw[if_neg h3]
       exact⟨h,by omega⟩
structure invB (n:Nat) (l:List Sp) (W:Wt) (b:List Int) (m:Int):Prop where
 t:tbIn b m
 run:runOK n l b m
 pos:∀y∈W,0<y.2
 key:∀y∈W,bgT n b y.1
 bd:sumW W (fun _=>1)*fct (sumB b+12-m).toNat≤fct 12
def invW (n:Nat) (l:List Sp) (W:Wt):Prop:=∃b m,invB n l W b m
theorem sumW_const (c:Int):∀W:Wt,sumW W (fun _=>c)=c*sumW W fun _=>1
 | []=>by show (0:Int)=c*0;omega
 | (B,n)::r=>by
   show n*c+sumW r (fun _=>c)=c*(n*1+sumW r fun _=>1)
   rw[sumW_const c r,Int.mul_add,Int.mul_one,Int.mul_comm]
theorem invB.ways {n:Nat} {l:List Sp} {W:Wt} {b:List Int} {m:Int} (h:invB n l W b m):0≤sumW W (fun _=>1)∧sumW W (fun _=>1)≤fct 12:=by
 have h0:=sumW_nn (W:=W) (V:=fun _=>1) h.pos fun _ _=>by decide
 refine⟨h0,?_⟩
 have h1:=Int.mul_le_mul_of_nonneg_left (fct_pos (sumB b+12-m).toNat) h0
 have:=h.bd
 omega
theorem invB.draw {n:Nat} {x:Sp} {l:List Sp} {W:Wt} {b:List Int} {m:Int} (h:invB n (x::l) W b m) (hn:n≤6) {w:Nat} (hw:w<n) (hd:x.2.1=true) (y:List Int×Int) (hy:y∈W):(0≤nSum n (fun w=>bgAt y.1 x.1.bag w)∧nSum n (fun w=>bgAt y.1 x.1.bag w)≤atI b x.1.bag)∧0≤bgAt y.1 x.1.bag w∧bgAt y.1 x.1.bag w≤atI b x.1.bag:=by
 obtain⟨hb,ha⟩:=h.run.1.d hd
 have hk:=h.key y hy
 rw[hk.sum hn hb]
 exact⟨⟨by omega,Int.le_refl _⟩,hk.at hb (by omega)⟩
theorem nextV_bd {n:Nat} {x:Sp} {l:List Sp} {W:Wt} {b:List Int} {m:Int} (h:invB n (x::l) W b m) (hn:n≤6) {w:Nat} (hw:w<n):sumW W (nextV x w n fun _=>1)≤(if x.2.1=true then atI b x.1.bag else 1)*sumW W fun _=>1:=by
 rw[←sumW_const]
 refine sumW_le h.pos fun y hy=>?_
 show nextV x w n (fun _=>1) y.1≤_
 unfold nextV
 by_cases hd:x.2.1=true
 · obtain⟨h1,h2⟩:=h.draw hn hw hd y hy
   rw[if_pos hd,if_pos hd]
   split
   · rw[Int.mul_one];exact h2.2
   · rw[nSum_congr fun k _=>Int.mul_one _];exact h1.2
 · rw[if_neg hd,if_neg hd]
   split
   · decide
   · exact Int.le_refl _
theorem invW_sr (n:Nat) (hn:n≤6):SrI n (invW n):=by
 have h12:=fct12
 refine⟨?_,?_,?_,?_⟩
 · rintro l W ⟨b,m,h⟩;exact h.pos
 · rintro l W ⟨b,m,h⟩;have:=h.ways;omega
 · rintro x r W w ⟨b,m,h⟩ hne hw
   have hwy:=h.ways
   have hx:=h.run.1
   refine⟨h.pos,fun y hy=>⟨(h.key y hy).l,fun v hv=>?_⟩,by omega,hn,by omega,fun hd=>?_,fun h1 h2=>?_,fun h1 h3=>?_⟩
   · have hk:=h.key y hy
     obtain⟨p,hp,rfl⟩:=List.getElem_of_mem hv
     have hp24:p<24:=by rw[←hk.l];exact hp
     have hi:(0:Int)≤(p/6:Nat)∧((p/6:Nat):Int)≤3:=by omega
     have:=hk.at hi (w:=(p%6:Nat)) (by omega)
     have h2:=h.t.le hi
     have h3:=h.t.sm
     have h4:=h.t.m
     have e:bgAt y.1 (p/6:Nat) (p%6:Nat)=y.1[p]:=by
      unfold bgAt
      rw[Int.toNat_natCast,Int.toNat_natCast,show p/6*6+p%6=p by omega,List.getD_eq_getElem?_getD,List.getElem?_eq_getElem hp];rfl
     rw[e] at this
     omega
   · obtain⟨hb,ha⟩:=hx.d hd
     have hc:atI b x.1.bag≤12:=by have:=h.t.le hb;have:=h.t.sm;have:=h.t.m;omega
     have h0:sumW W (fun _=>(12:Int))=12*sumW W fun _=>1:=sumW_const 12 W
     have h1:=sumW_le (W:=W) (V:=fun B=>nSum n fun w=>bgAt B x.1.bag w) (U:=fun _=>12) h.pos fun y hy=>by have:=h.draw hn hw hd y hy;omega
     have h2:=sumW_le (W:=W) (V:=fun B=>bgAt B x.1.bag w) (U:=fun _=>12) h.pos fun y hy=>by have:=h.draw hn hw hd y hy;omega
     exact⟨hb,by omega,by omega⟩
   · obtain⟨hb,hw2,hc,hm⟩:=hx.h2 h1 h2
     have:=h.t.m
     exact⟨hb,by omega,by omega,by omega⟩
   · exact hx.h3 h1 h3
 · rintro x r W W' w ⟨b,m,h⟩ hne hw hW'
   have hx:=h.run.1
   obtain⟨ht,hs⟩:=h.t.step hx
   refine⟨spB x b,spM x m,ht,h.run.2,hW'.pos,fun y hy=>?_,?_⟩
   · obtain⟨z,hz,hzy⟩:=hW'.key y hy
     have hk:=h.key z hz
     unfold nextB at hzy
     unfold spB
     by_cases hd:x.2.1=true
     · obtain⟨hb,ha⟩:=hx.d hd
       rw[if_pos hd] at hzy ⊢
       by_cases hc:x.2.2=true
       · rw[if_pos hc] at hzy
         rw[hzy.2]
         exact hk.add h.t.l hn hb (by omega) (by omega)
       · rw[if_neg hc] at hzy
         obtain⟨w',hw',h1,h2⟩:=hzy
         rw[h2]
         exact hk.add h.t.l hn hb (by omega) (by omega)
     · have hdf:x.2.1=false:=by simpa using hd
       rw[if_neg hd] at hzy ⊢
       rw[hzy]
       unfold mixedB
       by_cases h2:x.1.kind=2
       · obtain⟨hb,hw2,hc,hm⟩:=hx.h2 hdf h2
         rw[if_pos h2,if_pos h2]
         exact hk.add h.t.l hn hb hw2 (by have:=bgAt_nn hk.nn x.1.bag x.1.wood;omega)
       · rw[if_neg h2,if_neg h2]
         by_cases h3:x.1.kind=3
         · obtain⟨hb,ho,hne⟩:=hx.h3 hdf h3
           rw[if_pos h3,if_pos h3]
           exact hk.pour h.t.l hb ho hne
         · rw[if_neg h3,if_neg h3];exact hk
   · have hS:=hW'.sum fun _=>1
     have hb:=nextV_bd h hn hw
     rw[←hS] at hb
     have hwy:=h.ways
     have hbd:=h.bd
     by_cases hd:x.2.1=true
     · obtain⟨hbg,ha⟩:=hx.d hd
       rw[if_pos hd] at hb hs
       have hle:=h.t.le hbg
       have hsm:=h.t.sm
       have hm:=h.t.m
       obtain⟨k,hk⟩:∃k:Nat,(sumB b+12-m).toNat=k+1:=⟨(sumB b+12-m).toNat-1,by omega⟩
       have hk2:(sumB (spB x b)+12-spM x m).toNat=k:=by omega
       rw[hk2]
       rw[hk] at hbd
       have e1:sumW W' (fun _=>1)≤((k+1:Nat):Int)*sumW W fun _=>1:=by
        have:=Int.mul_le_mul_of_nonneg_right (show atI b x.1.bag≤((k+1:Nat):Int) by omega) hwy.1
        omega
       have e2:=Int.mul_le_mul_of_nonneg_right e1 (show 0≤fct k by have:=fct_pos k;omega)
       have e3:((k+1:Nat):Int)*sumW W (fun _=>1)*fct k=sumW W (fun _=>1)*fct (k+1):=by
        show _=sumW W (fun _=>1)*(((k+1:Nat):Int)*fct k)
        rw[Int.mul_comm ((k+1:Nat):Int),Int.mul_assoc]
       omega
     · rw[if_neg hd] at hb hs
       rw[Int.one_mul] at hb
       have hk2:(sumB (spB x b)+12-spM x m).toNat=(sumB b+12-m).toNat:=by omega
       rw[hk2]
       have e2:=Int.mul_le_mul_of_nonneg_right hb (show 0≤fct (sumB b+12-m).toNat by have:=fct_pos (sumB b+12-m).toNat;omega)
       omega
theorem mix_0 {n:Nat} {d:Dl} {t:Tb} (h0:mixE n d t=0):inB d.bag 0 3=true∧inB d.wood 0 (n-1)=true∧inB d.count 1 12=true∧ ¬12<t.mixed+d.count:=by
 unfold mixE at h0
 by_cases h1:inB d.bag 0 3=true
 · rw[if_pos h1] at h0
   by_cases h2:inB d.wood 0 (n-1)=true
   · rw[if_pos h2] at h0
     by_cases h3:inB d.count 1 12=true
     · rw[if_pos h3] at h0
       by_cases h4:12<t.mixed+d.count
       · rw[if_pos h4] at h0;exact absurd h0 (by decide)
       · exact⟨h1,h2,h3,h4⟩
     · rw[if_neg h3] at h0;exact absurd h0 (by decide)
   · rw[if_neg h2] at h0;exact absurd h0 (by decide)
 · rw[if_neg h1] at h0;exact absurd h0 (by decide)
theorem pour_0 {d:Dl} (h0:pourE d=0):(inB d.bag 0 3=true∧inB d.other 0 3=true)∧d.bag≠d.other:=by
 unfold pourE at h0
 by_cases h1:inB d.bag 0 3=true∧inB d.other 0 3=true
 · rw[if_pos h1] at h0
   by_cases h2:d.bag=d.other
   · rw[if_pos h2] at h0;exact absurd h0 (by decide)
   · exact⟨h1,h2⟩
 · rw[if_neg h1] at h0;exact absurd h0 (by decide)
theorem pass_0 {d:Dl} {t:Tb} (h0:passE d t=0):asideE d t=0:=by
 unfold passE at h0
 by_cases h1:asideE d t=0
 · exact h1
 · rw[if_neg h1] at h0;exact h0
theorem place_0 {n:Nat} {d:Dl} {t:Tb} (h0:placeE n d t=0):inB d.wood 0 (n-1)=true:=by
 unfold placeE at h0
 by_cases h1:inB d.wood 0 (n-1)=true
 · exact h1
 · rw[if_neg h1] at h0;exact absurd h0 (by decide)
theorem tbOK.tin {t:Tb} (h:tbOK t):tbIn t.bags t.mixed:=by
 have hb:=h.b
 refine⟨hb,fun i hi=>?_,?_,h.m⟩
 · unfold atI
   rw[List.getD_eq_getElem?_getD]
   cases hh:t.bags[i.toNat]? with
   | none=>exact Int.le_refl _
   | some v=>exact h.nn v (List.mem_of_getElem? hh)
 · have hs:=h.s
   obtain⟨bags,m,c,tr⟩:=t
   dsimp only at hb hs ⊢
   rcases bags with _ | ⟨a0,_ | ⟨a1,_ | ⟨a2,_ | ⟨a3,_ | ⟨a4,r⟩⟩⟩⟩⟩
   all_goals first
    | (simp at hb;done)
    | (simp only[List.sum_cons,List.sum_nil] at hs
       show a0+a1+a2+a3≤m
       omega)
theorem set_self {b:List Int} {i:Nat} (h:i<b.length):b.set i (b.getD i 0)=b:=by
 apply List.ext_getElem?
 intro j
 rw[List.getElem?_set]
 by_cases e:i=j
 · subst e
   rw[if_pos rfl,if_pos h,List.getD_eq_getElem?_getD,List.getElem?_eq_getElem h];rfl
 · rw[if_neg e]
theorem run_rep {n:Nat} {d:Dl} {z:Bool} {r:List Sp} {m:Int}:∀(c:Nat) (b:List Int),b.length=4→(0≤d.bag∧d.bag≤3)→(c:Int)≤atI b d.bag→runOK n r (setI b d.bag (atI b d.bag-c)) m→runOK n (List.replicate c (d,true,z)++r) b m
 | 0,b,hb,hd,_,h=>by
   have e:setI b d.bag (atI b d.bag-((0:Nat):Int))=b:=by
    rw[show atI b d.bag-((0:Nat):Int)=atI b d.bag by omega]
    exact set_self (by omega)
   rw[e] at h
   exact h
 | c+1,b,hb,hd,hc,h=>by
   refine⟨⟨fun _=>⟨hd,by show 1≤atI b d.bag;omega⟩,(fun h=>by cases h),(fun h=>by cases h)⟩,?_⟩
   have e1:atI (setI b d.bag (atI b d.bag+ -1)) d.bag=atI b d.bag+ -1:=by rw[atI_set hb hd hd,if_pos rfl]
   refine run_rep c (setI b d.bag (atI b d.bag+ -1)) (setI_len hb _ _) hd (by rw[e1];omega) ?_
   rw[e1]
   have e2:setI (setI b d.bag (atI b d.bag+ -1)) d.bag (atI b d.bag+ -1-(c:Nat))=setI b d.bag (atI b d.bag-((c+1:Nat):Int)):=by
    unfold setI
    rw[List.set_set]
    congr 1
    omega
   rw[e2];exact h
theorem censG_app (l r:List Sp):censG (l++r)=censG l+censG r:=by simp[censG,List.filter_append]
theorem censG_rep (c:Nat) (d:Dl) (z:Bool):censG (List.replicate c (d,true,z))=if z=true then c else 0:=by
 cases z<;>simp[censG]
theorem deal_run {n:Nat} {d:Dl} {t:Tb} {r:List Sp} (h:tbOK t) (hk:inB d.kind 1 6=true) (h0:dealE n d t=0) (hr:runOK n r (dealT d t).bags (dealT d t).mixed):
  (drawsB d=true→1≤d.count∧d.count≤12)∧runOK n (stp1 d++r) t.bags t.mixed∧(dealT d t).cens=t.cens+(censG (stp1 d):Nat):=by
 have hb:=h.b
 obtain⟨k1,k2⟩:=inB_t.1 hk
 unfold dealE at h0
 by_cases e1:d.kind=1
 · have ed:drawsB d=false:=by simp[drawsB,e1]
   have es:stp1 d=[(d,false,false)]:=by unfold stp1;rw[ed,e1];rfl
   have et:dealT d t={t with tried:=t.tried.set d.wood.toNat true }:=by unfold dealT;rw[if_pos e1]
   rw[et] at hr ⊢
   rw[ed,es]
   refine⟨fun h=>(by cases h),⟨⟨(fun h=>by cases h),fun _ h=>by dsimp only at h;omega,fun _ h=>by dsimp only at h;omega⟩,?_⟩,by simp[censG]⟩
   simp only[spB,spM,e1,Bool.false_eq_true,if_false,Int.reduceEq]
   exact hr
 rw[if_neg e1] at h0
 by_cases e2:d.kind=2
 · rw[if_pos e2] at h0
   obtain⟨h1,h2,h3,h4⟩:=mix_0 h0
   have:=inB_t.1 h1
   have:=inB_t.1 h2
   have:=inB_t.1 h3
   have ed:drawsB d=false:=by simp[drawsB,e2]
   have es:stp1 d=[(d,false,false)]:=by unfold stp1;rw[ed,e2];rfl
   have et:dealT d t={t with mixed:=t.mixed+d.count,bags:=setI t.bags d.bag (atI t.bags d.bag+d.count) }:=by unfold dealT;rw[if_neg e1,if_pos e2]
   rw[et] at hr ⊢
   rw[ed,es]
   refine⟨fun h=>(by cases h),⟨⟨(fun h=>by cases h),fun _ _=>⟨by assumption,by dsimp only;omega,by dsimp only;omega,by dsimp only;omega⟩,fun _ h=>by dsimp only at h;omega⟩,?_⟩,by simp[censG]⟩
   simp only[spB,spM,e2,Bool.false_eq_true,if_false,if_true]
   exact hr
 rw[if_neg e2] at h0
 by_cases e3:d.kind=3
 · rw[if_pos e3] at h0
   obtain⟨⟨h1,h2⟩,h3⟩:=pour_0 h0
   have ed:drawsB d=false:=by simp[drawsB,e3]
   have es:stp1 d=[(d,false,false)]:=by unfold stp1;rw[ed,e3];rfl
   have et:dealT d t={t with bags:=setI (setI t.bags d.other (atI t.bags d.other+atI t.bags d.bag)) d.bag 0 }:=by unfold dealT;rw[if_neg e1,if_neg e2,if_pos e3]
   rw[et] at hr ⊢
   rw[ed,es]
   refine⟨fun h=>(by cases h),⟨⟨(fun h=>by cases h),fun _ h=>by dsimp only at h;omega,fun _ _=>⟨inB_t.1 h1,inB_t.1 h2,h3⟩⟩,?_⟩,by simp[censG]⟩
   simp only[spB,spM,e3,Bool.false_eq_true,if_false,if_true,Int.reduceEq]
   exact hr
 rw[if_neg e3] at h0
 by_cases e4:d.kind=4
 · rw[if_pos e4] at h0
   obtain⟨h1,h2,h3⟩:=aside_0 h0
   have hc:=inB_t.1 h1
   have hbg:=inB_t.1 h2
   have ed:drawsB d=true:=by simp[drawsB,e4]
   have es:stp1 d=List.replicate d.count.toNat (d,true,false):=by unfold stp1;rw[ed,e4];rfl
   have et:dealT d t={t with bags:=setI t.bags d.bag (atI t.bags d.bag-d.count) }:=by unfold dealT;rw[if_neg e1,if_neg e2,if_neg e3,if_pos e4]
   rw[et] at hr ⊢
   rw[es]
   refine⟨fun _=>hc,run_rep _ _ hb hbg (by omega) ?_,by rw[censG_rep];simp⟩
   rw[show ((d.count.toNat:Nat):Int)=d.count by omega]
   exact hr
 rw[if_neg e4] at h0
 by_cases e5:d.kind=5
 · rw[if_pos e5] at h0
   obtain⟨h1,h2,h3⟩:=aside_0 (pass_0 h0)
   have hc:=inB_t.1 h1
   have hbg:=inB_t.1 h2
   have ed:drawsB d=true:=by simp[drawsB,e5]
   have es:stp1 d=List.replicate d.count.toNat (d,true,true):=by unfold stp1;rw[ed,e5];rfl
   have et:dealT d t={t with bags:=setI t.bags d.bag (atI t.bags d.bag-d.count),cens:=t.cens+d.count }:=by unfold dealT;rw[if_neg e1,if_neg e2,if_neg e3,if_neg e4,if_pos e5]
   rw[et] at hr ⊢
   rw[es]
   refine⟨fun _=>hc,run_rep _ _ hb hbg (by omega) ?_,by rw[censG_rep,if_pos rfl];show t.cens+d.count=_;omega⟩
   rw[show ((d.count.toNat:Nat):Int)=d.count by omega]
   exact hr
 · have e6:d.kind=6:=by omega
   have ed:drawsB d=false:=by simp[drawsB,e6]
   have es:stp1 d=[(d,false,true)]:=by unfold stp1;rw[ed,e6];rfl
   have et:dealT d t={t with cens:=t.cens+1 }:=by unfold dealT;rw[if_neg e1,if_neg e2,if_neg e3,if_neg e4,if_neg e5]
   rw[et] at hr ⊢
   rw[ed,es]
   refine⟨fun h=>(by cases h),⟨⟨(fun h=>by cases h),fun _ h=>by dsimp only at h;omega,fun _ h=>by dsimp only at h;omega⟩,?_⟩,by simp[censG]⟩
   simp only[spB,spM,e6,Bool.false_eq_true,if_false,Int.reduceEq]
   exact hr
theorem deals_run {n:Nat}:∀(l:List Dl) (t:Tb),tbOK t→dsErr n t l=0→(∀d∈l,drawsB d=true→1≤d.count∧d.count≤12)∧runOK n (stepsG l) t.bags t.mixed∧(dsTab t l).cens=t.cens+(censG (stepsG l):Nat)
 | [],t,_,_=>⟨(fun d hd=>by cases hd),trivial,by show t.cens=t.cens+0;omega⟩
 | d::r,t,h,h0=>by
   rw[dsErr] at h0
   by_cases hd:dlErr n d t=0
   · rw[if_pos hd] at h0
     have hd2:=hd
     unfold dlErr at hd2
     by_cases hk:inB d.kind 1 6=true
     · rw[if_pos hk] at hd2
       by_cases hf:formD d=true
       · rw[if_pos hf] at hd2
         obtain⟨i1,i2,i3⟩:=deals_run r (dealT d t) (dealT_ok hk h hd2) h0
         obtain⟨j1,j2,j3⟩:=deal_run h hk hd2 i2
         refine⟨fun x hx=>?_,j2,?_⟩
         · rcases List.mem_cons.1 hx with rfl | hx
           · exact j1
           · exact i1 x hx
         · show (dsTab (dealT d t) r).cens=t.cens+((censG (stp1 d++stepsG r):Nat):Int)
           rw[i3,j3,censG_app];omega
       · rw[if_neg hf] at hd2;exact absurd hd2 (by decide)
     · rw[if_neg hk] at hd2;exact absurd hd2 (by decide)
   · rw[if_neg hd] at h0;exact absurd h0 hd
theorem bg0_at (i w:Int):bgAt bg0 i w=0:=by
 unfold bgAt bg0
 rw[List.getD_eq_getElem?_getD,List.getElem?_replicate]
 split<;>rfl
theorem gmOK {G:Gm} (h:gmErr G=0):GmIn G (invW G.ws.length):=by
 unfold gmErr at h
 by_cases h1:G.ws=[]
 · rw[if_pos h1] at h;exact absurd h (by decide)
 rw[if_neg h1] at h
 by_cases h2:6<G.ws.length
 · rw[if_pos h2] at h;exact absurd h (by decide)
 rw[if_neg h2] at h
 by_cases h3:wsErr [] G.ws=0
 rotate_left
 · rw[if_neg h3] at h;exact absurd h h3
 rw[if_pos h3] at h
 by_cases h4:24<G.ds.length
 · rw[if_pos h4] at h;exact absurd h (by decide)
 rw[if_neg h4] at h
 by_cases h5:dsErr G.ws.length tb0 G.ds=0
 rotate_left
 · rw[if_neg h5] at h;exact absurd h h5
 rw[if_pos h5] at h
 by_cases h6:(dsTab tb0 G.ds).cens=0
 · rw[if_pos h6] at h;exact absurd h (by decide)
 obtain⟨i1,i2,i3⟩:=deals_run G.ds tb0 tb0_ok h5
 have hw0:G.ws.length≠0:=fun e=>h1 (List.eq_nil_of_length_eq_zero e)
 have hc0:tb0.cens=0:=rfl
 refine⟨by omega,by omega,by omega,i1,by omega,invW_sr _ (by omega),tb0.bags,tb0.mixed,tb0_ok.tin,i2,?_,?_,?_⟩
 · intro y hy;rw[List.mem_singleton.1 hy];decide
 · intro y hy;rw[List.mem_singleton.1 hy]
   refine⟨rfl,fun v hv=>?_,fun i w _ _=>bg0_at i w,fun i hi=>?_⟩
   · rw[(List.mem_replicate.1 hv).2];decide
   · rw[nSum6,bg0_at,bg0_at,bg0_at,bg0_at,bg0_at,bg0_at]
     rcases (by omega:i=0∨i=1∨i=2∨i=3) with rfl|rfl|rfl|rfl<;>rfl
 · decide
def ir39:IFn:=
 ⟨33,[(4,none)],(.seq (.ops [oo 2 (.box 2 0),oo 3 (.box 2 1),oo 4 (.mov (kI 0))])
 (.seq (.blk 0 (.seq (.ops [oo 6 (.flA 0 3),oo 7 (.ld 1 false 6),oo 8 (.callF 54 [7,(kI 1),(kI 6)]),oo 9 (.not 8),oo 5 (.mov 9)])
 (.cnd 5
 (.seq (.ops [oo 4 (.mov (kI 4))])
 .ret)
 (.seq (.ops [oo 11 (.flA 0 3),oo 12 (.ld 1 false 11),oo 13 (.bin .neq 12 (kI 4)),oo 14 (.mov 13),
 ⟨(some 15),(some (14,true)),(.flA 1 3)⟩,
 ⟨(some 16),(some (14,true)),(.ld 1 false 15)⟩,
 ⟨(some 17),(some (14,true)),(.bin .neq 16 (kI 0))⟩,oo 18 (.pick 14 17 (kB false)),oo 10 (.mov 18)])
 (.cnd 10
 (.seq (.ops [oo 4 (.mov (kI 3))])
 .ret)
 (.seq (.ops [oo 20 (.flA 0 3),oo 21 (.ld 1 false 20),oo 22 (.bin .eql 21 (kI 4)),oo 23 (.mov 22),
 ⟨(some 24),(some (23,true)),(.flA 1 3)⟩,
 ⟨(some 25),(some (23,true)),(.ld 1 false 24)⟩,
 ⟨(some 26),(some (23,true)),(.flA 0 2)⟩,
 ⟨(some 27),(some (23,true)),(.ld 1 false 26)⟩,
 ⟨(some 28),(some (23,true)),(.len false 27)⟩,
 ⟨(some 29),(some (23,true)),(.bin .sub 28 (kI 1))⟩,
 ⟨(some 30),(some (23,true)),(.callF 54 [25,(kI 0),29])⟩,
 ⟨(some 31),(some (23,true)),(.not 30)⟩,oo 32 (.pick 23 31 (kB false)),oo 19 (.mov 32)])
 (.cnd 19
 (.seq (.ops [oo 4 (.mov (kI 7))])
 .ret)
 .skip)))))))
 (.seq (.ops [oo 4 (.mov (kI 0))])
 .ret)))⟩
def hint39 (P:Program):Hint:={}
structure Aq where
 kind:Int
 wood:Int
 deriving DecidableEq
abbrev aqA (a:Aq):AV:= .agg [.int .i64 a.kind,.int .i64 a.wood]
def askErr (n:Nat) (a:Aq):Int:=if inB a.kind 1 6=true then (if a.kind=4 then (if inB a.wood 0 (n-1)=true then 0 else 7) else if a.wood=0 then 0 else 3) else 4
end Go.Abs
