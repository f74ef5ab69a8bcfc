/- A part of the proofs of the laws of this seat: contracts of the functions that they reach, each proved of the program's form in Lean. No condition beyond those that each contract names. -/
import Derived.Test.YtegfkfgkplnjgaaGreatProg
import Derived.Test.YtegfkfgkplnjgaaGreatSnd3
import Derived.Test.YtegfkfgkplnjgaaGreatA0
import Derived.Test.YtegfkfgkplnjgaaGreatQ1a
import Derived.Test.YtegfkfgkplnjgaaGreatQ1b
import Derived.Test.YtegfkfgkplnjgaaGreatQ1c
import Derived.Test.YtegfkfgkplnjgaaGreatQ1d
import Derived.Test.YtegfkfgkplnjgaaGreatQ1e
import Derived.Test.YtegfkfgkplnjgaaGreatQ1f
import Derived.Test.YtegfkfgkplnjgaaGreatQ1g
import Derived.Test.YtegfkfgkplnjgaaGreatQ1h
import Derived.Test.YtegfkfgkplnjgaaGreatQ1i
import Derived.Test.YtegfkfgkplnjgaaGreatQ1j
set_option linter.unusedVariables false
set_option linter.unusedSimpArgs false
set_option maxRecDepth 20000
set_option maxHeartbeats 4000000
namespace Go.Abs
open Go.Proofs
def hint26 (P:Program):Hint:={}
theorem trO0:trO [] tb0.tried:=fun w hw=>by
 rcases (by omega:w=0∨w=1∨w=2∨w=3∨w=4∨w=5) with rfl|rfl|rfl|rfl|rfl|rfl<;>simp[tb0]
theorem gRefCheck_c (G:Gm) (hw:G.ws.length<1000) (hd:G.ds.length<1000) (hs:∀w∈G.ws,w.name.size≤1000):Fn0 Tryz.prog 26 [gmA G] (fun v=>v= .int .i64 (gmErr G)):=by
 have hcw:=checkWoods_c G.ws hw hs
 obtain⟨R,hR⟩:∃R,gmErr G=R:=⟨_,rfl⟩
 rw[hR]
 unfold gmErr at hR
 obtain⟨W,hW⟩:∃W,(if G.ws=[] then (6:Int) else if 6<G.ws.length then 8 else wsErr [] G.ws)=W:=⟨_,rfl⟩
 rw[hW] at hcw
 by_cases hW0:W=0
 rotate_left
 · have hRW:R=W:=by
    rw[←hR,←hW]
    by_cases h1:G.ws=[]
    · rw[if_pos h1,if_pos h1]
    rw[if_neg h1,if_neg h1]
    by_cases h2:6<G.ws.length
    · rw[if_pos h2,if_pos h2]
    rw[if_neg h2,if_neg h2,if_neg]
    rw[if_neg h1,if_neg h2] at hW
    rw[hW];exact hW0
   subst hRW
   refine RawC.walk (H:=hint26 Tryz.prog) ir26 Tryz.func26 rfl rfl rfl ?_
   unfold ir26
   repeat' (first
    | with_reducible refine Rd.p ?_
    | with_reducible (first|refine zI fun y hy=>?_|refine zL ?_|refine zS ?_|refine zV ?_|refine zC ?_)
    | ((with_reducible refine aC ?_);first|(refine ACall.val hcw rfl rfl ?_))
    | refine aX ?_|with_reducible intro _
    | with_reducible refine zJ ?_ fun y hy=>?_|refine aP ?_ ?_)
   all_goals first
    | (exfalso;omega)
    | rfl
 subst hW0
 have h1:¬G.ws=[]:=fun h=>by rw[if_pos h] at hW;exact absurd hW (by decide)
 rw[if_neg h1] at hW hR
 have h2:¬6<G.ws.length:=fun h=>by rw[if_pos h] at hW;exact absurd hW (by decide)
 rw[if_neg h2] at hW hR
 rw[if_pos hW] at hR
 have hpos:0<G.ws.length:=List.length_pos_iff.2 h1
 by_cases h3:24<G.ds.length
 · rw[if_pos h3] at hR
   subst hR
   refine RawC.walk (H:=hint26 Tryz.prog) ir26 Tryz.func26 rfl rfl rfl ?_
   unfold ir26
   repeat' (first
    | with_reducible refine Rd.p ?_
    | with_reducible (first|refine zI fun y hy=>?_|refine zL ?_|refine zS ?_|refine zV ?_|refine zC ?_)
    | ((with_reducible refine aC ?_);first|(refine ACall.val hcw rfl rfl ?_))
    | refine aX ?_|with_reducible intro _
    | with_reducible refine zJ ?_ fun y hy=>?_|refine aP ?_ ?_)
   all_goals first
    | (exfalso;omega)
    | rfl
 rw[if_neg h3] at hR
 refine RawC.walk (H:=hint26 Tryz.prog) ir26 Tryz.func26 rfl rfl rfl ?_
 unfold ir26
 repeat' (first
  | with_reducible refine Rd.p ?_
  | with_reducible (first|refine zI fun y hy=>?_|refine zL ?_|refine zS ?_|refine zV ?_|refine zC ?_)
  | ((with_reducible refine aC ?_);first|(refine ACall.val hcw rfl rfl ?_))
  | refine aX ?_|with_reducible intro _
  | with_reducible refine zJ ?_ fun y hy=>?_|refine aP ?_ ?_)
 all_goals try (exfalso;omega)
 rename_i g19
 refine w_loopK [1,4] [1] (fun x:List Dl×List Dl×Tb×List Int×Nat=>G.ds=x.1++x.2.1∧(if dsErr G.ws.length x.2.2.1 x.2.1=0 then (if (dsTab x.2.2.1 x.2.1).cens=0 then 6 else 0) else dsErr G.ws.length x.2.2.1 x.2.1)=R∧tbOK x.2.2.1∧trO x.2.2.2.1 x.2.2.1.tried∧x.2.2.2.1.length≤x.1.length) (fun x=>x.2.1.length) (fun x=>[(5,.int .i64 (x.1.length:Int))])
  (fun x=>[(19,(g19,.row (rtRow x.2.2.1 (trV 2001 x.2.2.2.1 x.2.2.2.2)))),(2001,trS x.2.2.2.1 x.2.2.2.2)]) ([],G.ds,tb0,[],0) ⟨rfl,hR,tb0_ok,trO0,Nat.le_refl _⟩ ⟨rfl,trivial⟩ ⟨rfl,rfl,trivial⟩ ?_
 rintro⟨pre,post,t,tr,h⟩ ⟨hl,hb,ht,hto,htl⟩ e σ
 dsimp only at hl hb ht hto htl ⊢
 have hlen:=congrArg List.length hl
 rw[List.length_append] at hlen
 have hbg:=ht.b
 cases post with
 | nil=>
   simp only[List.length_nil] at hlen
   rw[show dsErr G.ws.length t []=0 from rfl,if_pos rfl] at hb
   by_cases hc:t.cens=0
   · rw[show (dsTab t []).cens=t.cens from rfl,if_pos hc] at hb
     subst hb
     repeat' (first
      | with_reducible refine Rd.p ?_
      | (first|refine w_rtC rfl rfl rfl hbg ?_)
      | with_reducible (first|refine zI fun y hy=>?_|refine zL ?_|refine zS ?_|refine zV ?_|refine zC ?_)
      | refine aX ?_|with_reducible intro _
      | with_reducible refine zJ ?_ fun y hy=>?_|refine aP ?_ ?_)
     all_goals first
      | (exfalso;omega)
      | rfl
   · rw[show (dsTab t []).cens=t.cens from rfl,if_neg hc] at hb
     subst hb
     repeat' (first
      | with_reducible refine Rd.p ?_
      | (first|refine w_rtC rfl rfl rfl hbg ?_)
      | with_reducible (first|refine zI fun y hy=>?_|refine zL ?_|refine zS ?_|refine zV ?_|refine zC ?_)
      | refine aX ?_|with_reducible intro _
      | with_reducible refine zJ ?_ fun y hy=>?_|refine aP ?_ ?_)
     all_goals first
      | (exfalso;omega)
      | rfl
 | cons d post=>
   simp only[List.length_cons] at hlen
   have hk:=rin_c d.kind 1 6
   rw[dsErr] at hb
   obtain⟨E,hE⟩:∃E,dlErr G.ws.length d t=E:=⟨_,rfl⟩
   have hE':=hE
   unfold dlErr at hE'
   rw[hE] at hb
   by_cases e1:inB d.kind 1 6=true
   rotate_left
   · rw[if_neg e1] at hE'
     subst hE'
     simp only[show ¬(4:Int)=0 from by decide,if_false] at hb
     subst hb
     rw[show inB d.kind 1 6=false by simpa using e1] at hk
     repeat' (first
      | with_reducible refine Rd.p ?_
      | (refine w_ixP (f:=fun d:Dl=>[AV.int .i64 d.kind,.int .i64 d.bag,.int .i64 d.other,.int .i64 d.wood,.int .i64 d.count]) hl rfl rfl ?_)
      | with_reducible (first|refine zI fun y hy=>?_|refine zL ?_|refine zS ?_|refine zV ?_|refine zC ?_)
      | ((with_reducible refine aC ?_);first|(refine ACall.val hk rfl rfl ?_))
      | refine aX ?_|with_reducible intro _
      | with_reducible refine zJ ?_ fun y hy=>?_|refine aP ?_ ?_)
     all_goals first
      | (exfalso;omega)
      | rfl
   rw[if_pos e1] at hE'
   rw[e1] at hk
   have hnd:=needless_c d e1
   by_cases e2:formD d=true
   rotate_left
   · rw[if_neg e2] at hE'
     subst hE'
     simp only[show ¬(3:Int)=0 from by decide,if_false] at hb
     subst hb
     rw[show formD d=false by simpa using e2] at hnd
     repeat' (first
      | with_reducible refine Rd.p ?_
      | (refine w_ixP (f:=fun d:Dl=>[AV.int .i64 d.kind,.int .i64 d.bag,.int .i64 d.other,.int .i64 d.wood,.int .i64 d.count]) hl rfl rfl ?_)
      | with_reducible (first|refine zI fun y hy=>?_|refine zL ?_|refine zS ?_|refine zV ?_|refine zC ?_)
      | ((with_reducible refine aC ?_);first|(refine ACall.val hk rfl rfl ?_)|(refine ACall.val hnd rfl rfl ?_))
      | refine aX ?_|with_reducible intro _
      | with_reducible refine zJ ?_ fun y hy=>?_|refine aP ?_ ?_)
     all_goals first
      | (exfalso;omega)
      | rfl
   rw[if_pos e2] at hE'
   rw[e2] at hnd
   have hdl:=rdeal_c G d g19 h t tr ⟨by omega,by omega⟩ ht hto (by omega) e1
   rw[hE'] at hdl
   by_cases e3:E=0
   · subst e3
     rw[if_pos rfl] at hb
     repeat' (first
      | with_reducible refine Rd.p ?_
      | (refine w_ixP (f:=fun d:Dl=>[AV.int .i64 d.kind,.int .i64 d.bag,.int .i64 d.other,.int .i64 d.wood,.int .i64 d.count]) hl rfl rfl ?_)
      | with_reducible (first|refine zI fun y hy=>?_|refine zL ?_|refine zS ?_|refine zV ?_|refine zC ?_)
      | ((with_reducible refine aC ?_);first|(refine ACall.val hk rfl rfl ?_)|(refine ACall.val hnd rfl rfl ?_)|((refine ACall.tab (α:=Tb×List Int×Nat) (p:=19) (q:=2001) (T:=fun x=>x.1) (R:=fun x=>x.2.1) (H:=fun x=>x.2.2) hdl rfl rfl rfl rfl rfl rfl rfl rfl rfl ?_ (by rintro x av ⟨hx,-⟩;exact⟨_,hx⟩);rintro⟨t2,tr2,h2⟩ _ ⟨rfl,hx⟩ _ _)))
      | refine aX ?_|with_reducible intro _
      | with_reducible refine zJ ?_ fun y hy=>?_|refine aP ?_ ?_)
     all_goals try (exfalso;omega)
     all_goals
      obtain⟨q1,q2,q3⟩:=hx rfl
      dsimp only at q1 q2 q3
      subst q1
      exact q_loop (pre++[d],post,dealT d t,tr2,h2) ⟨by rw[hl];simp,hb,dealT_ok e1 ht hE',q2,by dsimp only;rw[len_snoc];omega⟩ (Nat.lt_succ_self _) ⟨by rw[len_snoc];rfl,trivial⟩ ⟨rfl,rfl,trivial⟩ aK aK
   · rw[if_neg e3,if_neg e3] at hb
     subst hb
     repeat' (first
      | with_reducible refine Rd.p ?_
      | (refine w_ixP (f:=fun d:Dl=>[AV.int .i64 d.kind,.int .i64 d.bag,.int .i64 d.other,.int .i64 d.wood,.int .i64 d.count]) hl rfl rfl ?_)
      | with_reducible (first|refine zI fun y hy=>?_|refine zL ?_|refine zS ?_|refine zV ?_|refine zC ?_)
      | ((with_reducible refine aC ?_);first|(refine ACall.val hk rfl rfl ?_)|(refine ACall.val hnd rfl rfl ?_)|((refine ACall.tab (α:=Tb×List Int×Nat) (p:=19) (q:=2001) (T:=fun x=>x.1) (R:=fun x=>x.2.1) (H:=fun x=>x.2.2) hdl rfl rfl rfl rfl rfl rfl rfl rfl rfl ?_ (by rintro x av ⟨hx,-⟩;exact⟨_,hx⟩);rintro⟨t2,tr2,h2⟩ _ ⟨rfl,hx⟩ _ _)))
      | refine aX ?_|with_reducible intro _
      | with_reducible refine zJ ?_ fun y hy=>?_|refine aP ?_ ?_)
     all_goals first
      | (exfalso;omega)
      | rfl
def ir5:IFn:=
 ⟨48,[(2,none)],(.seq (.ops [oo 1 (.box 2 0),oo 2 (.mov (kB false))])
 (.seq (.seq (.ops [oo 6 (.flA 0 1),oo 7 (.ld 1 false 6),oo 8 (.len false 7),oo 9 (.bin .gtr 8 (kI 9)),oo 10 (.mov 9),
 ⟨(some 11),(some (10,false)),(.flA 1 1)⟩,
 ⟨(some 12),(some (10,false)),(.ld 1 false 11)⟩,
 ⟨(some 13),(some (10,false)),(.len false 12)⟩,
 ⟨(some 14),(some (10,false)),(.bin .gtr 13 (kI 30))⟩,oo 15 (.pick 10 (kB true) 14)])
 (.cnd 15
 (.seq (.ops [oo 2 (.mov (kB true))])
 .ret)
 .skip))
 (.seq (.seq (.ops [oo 3 (.mov (kI 0))])
 (.blk 0 (.loop (.seq (.seq (.ops [oo 16 (.mov 3),oo 17 (.flA 0 1),oo 18 (.ld 1 false 17),oo 19 (.len false 18),oo 20 (.bin .lss 16 19)])
 (.cnd 20
 .skip
 (.exit 0)))
 (.seq (.blk 1 (.seq (.ops [oo 23 (.flA 0 1),oo 24 (.ld 1 false 23),oo 25 (.mov 3),oo 26 (.ixA 2 24 25),oo 27 (.flA 0 26),oo 28 (.ld 1 false 27),oo 29 (.len true 28),oo 30 (.bin .gtr 29 (kI 40))])
 (.cnd 30
 (.seq (.ops [oo 2 (.mov (kB true))])
 .ret)
 .skip)))
 (.ops [oo 21 (.mov 3),oo 22 (.bin .add 21 (kI 1)),oo 3 (.mov 22)]))))))
 (.seq (.seq (.ops [oo 31 (.ld 2 true 1),oo 32 (.callF 26 [31]),oo 33 (.bin .neq 32 (kI 0))])
 (.cnd 33
 (.seq (.ops [oo 2 (.mov (kB false))])
 .ret)
 .skip))
 (.seq (.ops [oo 4 (.mov (kI 1))])
 (.seq (.seq (.ops [oo 34 (.ld 2 true 1),oo 35 (.callF 27 [34]),oo 36 (.len false 35),oo 5 (.mov 36)])
 (.blk 2 (.loop (.seq (.seq (.ops [oo 37 (.mov 5),oo 38 (.bin .gtr 37 (kI 0))])
 (.cnd 38
 .skip
 (.exit 2)))
 (.seq (.blk 3 (.seq (.ops [oo 41 (.mov 4),oo 42 (.flA 0 1),oo 43 (.ld 1 false 42),oo 44 (.len false 43),oo 45 (.bin .mul 41 44),oo 4 (.mov 45)])
 (.seq (.ops [oo 46 (.mov 4),oo 47 (.bin .gtr 46 (kI 20000))])
 (.cnd 47
 (.seq (.ops [oo 2 (.mov (kB true))])
 .ret)
 .skip))))
 (.ops [oo 39 (.mov 5),oo 40 (.bin .sub 39 (kI 1)),oo 5 (.mov 40)]))))))
 (.seq (.ops [oo 2 (.mov (kB false))])
 .ret)))))))⟩
def hint5 (P:Program):Hint:={}
structure smlG (G:Gm):Prop where
 w:G.ws.length≤9
 d:G.ds.length≤30
 s:∀w∈G.ws,w.name.size≤40
theorem szL_288 {G:Gm} (h:GOK G):(szL (stepsG G.ds) tb0.bags).length≤288:=by
 have h1:=acts_len G.ds h.cnt
 have h2:=h.d24
 rw[←szL_nrm,←acts_sp,szL_len]
 have h3:drawN ((actsF G.ds).map spOf)≤((actsF G.ds).map spOf).length:=List.length_filter_le _ _
 rw[List.length_map] at h3
 omega
theorem gmBig_c (G:Gm) (hw:G.ws.length<2^63) (hd:G.ds.length<2^63):Fn0 Tryz.prog 5 [gmA G] (fun v=>∃b,v= .bool b∧(b=false→smlG G)):=by
 have hwl:(wR G.ws).length=G.ws.length:=List.length_map _
 have hdl:(dlR G.ds).length=G.ds.length:=List.length_map _
 by_cases h1:G.ws.length≤9
 rotate_left
 · refine RawC.walk (H:=hint5 Tryz.prog) ir5 Tryz.func5 rfl rfl rfl ?_
   unfold ir5
   repeat' (first
    | with_reducible refine Rd.p ?_
    | with_reducible (first|refine zI fun y hy=>?_|refine zL ?_|refine zS ?_|refine zV ?_|refine zC ?_)
    | refine aX ?_|with_reducible intro _
    | with_reducible refine zJ ?_ fun y hy=>?_|refine aP ?_ ?_)
   all_goals first
    | (exfalso;omega)
    | exact⟨true,rfl,fun h=>by cases h⟩
 by_cases h2:G.ds.length≤30
 rotate_left
 · refine RawC.walk (H:=hint5 Tryz.prog) ir5 Tryz.func5 rfl rfl rfl ?_
   unfold ir5
   repeat' (first
    | with_reducible refine Rd.p ?_
    | with_reducible (first|refine zI fun y hy=>?_|refine zL ?_|refine zS ?_|refine zV ?_|refine zC ?_)
    | refine aX ?_|with_reducible intro _
    | with_reducible refine zJ ?_ fun y hy=>?_|refine aP ?_ ?_)
   all_goals first
    | (exfalso;omega)
    | exact⟨true,rfl,fun h=>by cases h⟩
 have hck:(∀w∈G.ws,w.name.size≤1000)→_:=gRefCheck_c G (by omega) (by omega)
 refine RawC.walk (H:=hint5 Tryz.prog) ir5 Tryz.func5 rfl rfl rfl ?_
 unfold ir5
 repeat' (first
  | with_reducible refine Rd.p ?_
  | with_reducible (first|refine zI fun y hy=>?_|refine zL ?_|refine zS ?_|refine zV ?_|refine zC ?_)
  | refine aX ?_|with_reducible intro _
  | with_reducible refine zJ ?_ fun y hy=>?_|refine aP ?_ ?_)
 all_goals try (exfalso;omega)
 rename_i g1
 refine w_loopK [1] [1] (fun x:List Wd×List Wd=>G.ws=x.1++x.2∧ ∀w∈x.1,w.name.size≤40) (fun x=>x.2.length) (fun x=>[(3,.int .i64 (x.1.length:Int))]) (fun _=>[]) ([],G.ws) ⟨rfl,fun w hw=>by cases hw⟩ ⟨rfl,trivial⟩ trivial ?_
 rintro⟨pre,post⟩ ⟨hl,hp⟩ e σ
 dsimp only at hl hp ⊢
 have hlen:=congrArg List.length hl
 rw[List.length_append] at hlen
 cases post with
 | cons y post=>
   simp only[List.length_cons] at hlen
   by_cases h40:y.name.size≤40
   · repeat' (first
      | with_reducible refine Rd.p ?_
      | (first|refine w_ixP (f:=fun w:Wd=>[AV.str w.name,.int .i64 w.fam]) hl rfl rfl ?_)
      | with_reducible (first|refine zI fun y hy=>?_|refine zL ?_|refine zS ?_|refine zV ?_|refine zC ?_)
      | refine aX ?_|with_reducible intro _
      | with_reducible refine zJ ?_ fun y hy=>?_|refine aP ?_ ?_)
     all_goals first
      | (exfalso;omega)
      | exact q_loop (pre++[y],post) ⟨by show G.ws=_;rw[hl];simp,fun w hw=>by
         rcases List.mem_append.1 hw with hw | hw
         · exact hp w hw
         · rw[List.mem_singleton.1 hw];exact h40⟩ (Nat.lt_succ_self _) ⟨by rw[len_snoc];rfl,trivial⟩ aS aK aK
   · repeat' (first
      | with_reducible refine Rd.p ?_
      | (first|refine w_ixP (f:=fun w:Wd=>[AV.str w.name,.int .i64 w.fam]) hl rfl rfl ?_)
      | with_reducible (first|refine zI fun y hy=>?_|refine zL ?_|refine zS ?_|refine zV ?_|refine zC ?_)
      | refine aX ?_|with_reducible intro _
      | with_reducible refine zJ ?_ fun y hy=>?_|refine aP ?_ ?_)
     all_goals first
      | (exfalso;omega)
      | exact⟨true,rfl,fun h=>by cases h⟩
 | nil=>
   rw[List.append_nil] at hl
   subst hl
   have hsm:smlG G:=⟨h1,h2,hp⟩
   have hck:=hck fun w hw=>Nat.le_trans (hp w hw) (by decide)
   by_cases h0:gmErr G=0
   rotate_left
   · repeat' (first
      | with_reducible refine Rd.p ?_
      | with_reducible (first|refine zI fun y hy=>?_|refine zL ?_|refine zS ?_|refine zV ?_|refine zC ?_)
      | ((with_reducible refine aC ?_);first|(refine ACall.val hck rfl rfl ?_))
      | refine aX ?_|with_reducible intro _
      | with_reducible refine zJ ?_ fun y hy=>?_|refine aP ?_ ?_)
     all_goals first
      | (exfalso;omega)
      | exact⟨false,rfl,fun _=>hsm⟩
   have hG:=gm_ok h0
   rw[h0] at hck
   have hsz:=Sizes_c G hG
   have hszl:=szL_288 hG
   have hn6:=hG.n6
   obtain⟨L,hL⟩:∃L,szL (stepsG G.ds) tb0.bags=L:=⟨_,rfl⟩
   rw[hL] at hsz hszl
   have hLl:(iR L).length=L.length:=List.length_map _
   repeat' (first
    | with_reducible refine Rd.p ?_
    | with_reducible (first|refine zI fun y hy=>?_|refine zL ?_|refine zS ?_|refine zV ?_|refine zC ?_)
    | ((with_reducible refine aC ?_);first|(refine ACall.val hck rfl rfl ?_)|(refine ACall.val hsz rfl rfl ?_))
    | refine aX ?_|with_reducible intro _
    | with_reducible refine zJ ?_ fun y hy=>?_|refine aP ?_ ?_)
   all_goals try (exfalso;omega)
   refine w_loopK [1] [1] (fun x:Nat×Nat=>x.1≤20000∧x.2≤288) (fun x=>x.2) (fun x=>[(4,.int .i64 (x.1:Int)),(5,.int .i64 (x.2:Int))]) (fun _=>[]) (1,L.length) ⟨by show (1:Nat)≤20000;decide,hszl⟩ ⟨rfl,int_eq (by simp),trivial⟩ trivial ?_
   rintro⟨n,k⟩ ⟨hn,hk⟩ e σ
   dsimp only at hn hk ⊢
   have hml:(n:Int)*(G.ws.length:Int)≤20000*6:=Int.mul_le_mul (by omega) (by omega) (by omega) (by decide)
   have hml0:0≤(n:Int)*(G.ws.length:Int):=Int.mul_nonneg (by omega) (by omega)
   cases k with
   | zero=>
     repeat' (first
      | with_reducible refine Rd.p ?_
      | with_reducible (first|refine zI fun y hy=>?_|refine zL ?_|refine zS ?_|refine zV ?_|refine zC ?_)
      | refine aX ?_|with_reducible intro _
      | with_reducible refine zJ ?_ fun y hy=>?_|refine aP ?_ ?_)
     all_goals first
      | (exfalso;omega)
      | exact⟨false,rfl,fun _=>hsm⟩
   | succ k=>
     repeat' (first
      | with_reducible refine Rd.p ?_
      | with_reducible (first|refine zI fun y hy=>?_|refine zL ?_|refine zS ?_|refine zV ?_|refine zC ?_)
      | refine aX ?_|with_reducible intro _
      | with_reducible refine zJ ?_ fun y hy=>?_|refine aP ?_ ?_)
     all_goals first
      | (exfalso;omega)
      | exact⟨true,rfl,fun h=>by cases h⟩
      | exact q_loop (n*G.ws.length,k) ⟨by show n*G.ws.length≤20000;have:((n*G.ws.length:Nat):Int)=n*G.ws.length:=by simp
                                           omega,by show k≤288;omega⟩ (Nat.lt_succ_self _) ⟨int_eq (by simp),int_eq (by simp),trivial⟩ aS aK aK
section
variable {P:Program}
structure FlatR {α:Type} (row:α→List AV) (sz:Nat):Prop where
 len:∀x,(row x).length=sz
 norm:∀x,normL (row x)=row x
 scal:∀x,(row x).all AV.scal=true
 frz:∀i g c x,frzL i g c (row x)=row x
 ren:∀ρ x,renL ρ (row x)=row x
variable {α:Type} {row:α→List AV} {sz:Nat}
theorem FlatR.flat_len (h:FlatR row sz):∀xs:List α,(xs.map row).flatten.length=xs.length*sz
 | []=>by simp
 | x::xs=>by simp only[List.map_cons,List.flatten_cons,List.length_append,h.len,h.flat_len xs,List.length_cons,Nat.add_mul];omega
theorem FlatR.chunk (h:FlatR row sz):∀xs:List α,chunk sz xs.length (normL (xs.map row).flatten)=xs.map row
 | []=>rfl
 | x::xs=>by
   have e:normL ((x::xs).map row).flatten=row x++normL (xs.map row).flatten:=by
    simp only[List.map_cons,List.flatten_cons,normL,List.map_append]
    congr 1
    exact h.norm x
   rw[e,List.length_cons,Go.Abs.chunk,List.take_left' (h.len x),List.drop_left' (h.len x),h.chunk xs];rfl
theorem FlatR.set (h:FlatR row sz) {pre post:List α} {y y':α} {j:Nat} {c:AV} (hj:j<sz) (hy:(row y).set j c=row y'):((pre++y::post).map row).flatten.set (pre.length*sz+j) c=((pre++y'::post).map row).flatten:=by
 rw[List.map_append,List.map_cons,List.flatten_append,List.flatten_cons,List.set_append_right _ _ (by rw[h.flat_len];omega),h.flat_len,Nat.add_sub_cancel_left,List.set_append_left _ _ (by rw[h.len];exact hj),hy]
 simp
end
def drwN:List Dl→Int
 | []=>0
 | d::r=>(if drawsB d=true then d.count else 0)+drwN r
theorem drwN_snoc (d:Dl):∀l:List Dl,drwN (l++[d])=drwN l+(if drawsB d=true then d.count else 0)
 | []=>by show _+(0:Int)=0+_;omega
 | a::r=>by
   show _+drwN (r++[d])=_+drwN r+_
   rw[drwN_snoc d r];omega
theorem dsErr_snoc {n:Nat} {d:Dl}:∀{l:List Dl} {t:Tb},dsErr n t l=0→dlErr n d (dsTab t l)=0→dsErr n t (l++[d])=0
 | [],t,_,h=>by
   show dsErr n t (d::[])=0
   rw[dsErr,if_pos (show dlErr n d t=0 from h)];rfl
 | a::r,t,h0,h=>by
   rw[dsErr] at h0
   by_cases ha:dlErr n a t=0
   · rw[if_pos ha] at h0
     show dsErr n t (a::(r++[d]))=0
     rw[dsErr,if_pos ha]
     exact dsErr_snoc h0 h
   · rw[if_neg ha] at h0;exact absurd h0 ha
theorem dsTab_snoc {d:Dl}:∀{l:List Dl} {t:Tb},dsTab t (l++[d])=dealT d (dsTab t l)
 | [],_=>rfl
 | _::r,_=>dsTab_snoc (l:=r)
structure mkG (n:Nat) (D:List Dl) (T:Tb) (had:Int):Prop where
 e:dsErr n tb0 D=0
 t:dsTab tb0 D=T
 h:drwN D=had
theorem mkG.nil (n:Nat):mkG n [] tb0 0:=⟨rfl,rfl,rfl⟩
theorem mkG.ok {n:Nat} {D:List Dl} {T:Tb} {had:Int} (h:mkG n D T had):tbOK T:=by
 rw[←h.t];exact deals_tab D tb0 tb0_ok h.e
theorem mkG.snoc {n:Nat} {D:List Dl} {T:Tb} {had:Int} {d:Dl} (h:mkG n D T had) (hk:inB d.kind 1 6=true) (hf:formD d=true) (h0:dealE n d T=0):mkG n (D++[d]) (dealT d T) (had+if drawsB d=true then d.count else 0):=by
 refine⟨dsErr_snoc h.e ?_,?_,?_⟩
 · rw[h.t];unfold dlErr;rw[if_pos hk,if_pos hf];exact h0
 · rw[dsTab_snoc,h.t]
 · rw[drwN_snoc,h.h]
section
variable {n:Nat} {D:List Dl} {T:Tb} {had b o w c:Int} (h:mkG n D T had)
include h
theorem mkG.trial (hw:0≤w∧w<n) (ht:T.tried.getD w.toNat false=false):mkG n (D++[⟨1,0,0,w,0⟩]) {T with tried:=T.tried.set w.toNat true } had:=by
 have:=h.snoc (d:=⟨1,0,0,w,0⟩) rfl rfl (by
  show trialE n _ T=0
  unfold trialE
  rw[if_pos (inB_t.2 (by dsimp only;omega)),if_neg (by dsimp only;rw[ht];decide)])
 have e:had+(if drawsB ⟨1,0,0,w,0⟩=true then (0:Int) else 0)=had:=by show had+0=had;omega
 rw[e] at this;exact this
theorem mkG.mix (hb:0≤b∧b≤3) (hw:0≤w∧w<n) (hc:1≤c∧c≤12) (hm:T.mixed+c≤12):mkG n (D++[⟨2,b,0,w,c⟩]) {T with mixed:=T.mixed+c,bags:=setI T.bags b (atI T.bags b+c) } had:=by
 have:=h.snoc (d:=⟨2,b,0,w,c⟩) rfl rfl (by
  show mixE n _ T=0
  unfold mixE
  rw[if_pos (inB_t.2 (by dsimp only;omega)),if_pos (inB_t.2 (by dsimp only;omega)),if_pos (inB_t.2 (by dsimp only;omega)),if_neg (by dsimp only;omega)])
 have e:had+(if drawsB ⟨2,b,0,w,c⟩=true then c else 0)=had:=by show had+0=had;omega
 rw[e] at this;exact this
theorem mkG.pour (hb:0≤b∧b≤3) (ho:0≤o∧o≤3) (hne:b≠o):mkG n (D++[⟨3,b,o,0,0⟩]) {T with bags:=setI (setI T.bags o (atI T.bags o+atI T.bags b)) b 0 } had:=by
 have:=h.snoc (d:=⟨3,b,o,0,0⟩) rfl rfl (by
  show pourE _=0
  unfold pourE
  rw[if_pos ⟨inB_t.2 (by dsimp only;omega),inB_t.2 (by dsimp only;omega)⟩,if_neg hne])
 have e:had+(if drawsB ⟨3,b,o,0,0⟩=true then (0:Int) else 0)=had:=by show had+0=had;omega
 rw[e] at this;exact this
theorem mkG.asideE (hb:0≤b∧b≤3) (hc:1≤c∧c≤atI T.bags b) {k:Int}:Go.Abs.asideE ⟨k,b,0,0,c⟩ T=0:=by
 have:=h.ok.at (b:=b) (by omega)
 unfold Go.Abs.asideE
 rw[if_pos ⟨inB_t.2 (by dsimp only;omega),inB_t.2 (by dsimp only;omega)⟩,if_neg (by dsimp only;omega)]
theorem mkG.aside (hb:0≤b∧b≤3) (hc:1≤c∧c≤atI T.bags b):mkG n (D++[⟨4,b,0,0,c⟩]) {T with bags:=setI T.bags b (atI T.bags b-c) } (had+c):=
 h.snoc (d:=⟨4,b,0,0,c⟩) rfl rfl (h.asideE hb hc)
theorem mkG.pass (hb:0≤b∧b≤3) (hc:1≤c∧c≤atI T.bags b) (h9:T.cens+c≤9):mkG n (D++[⟨5,b,0,0,c⟩]) {T with bags:=setI T.bags b (atI T.bags b-c),cens:=T.cens+c } (had+c):=
 h.snoc (d:=⟨5,b,0,0,c⟩) rfl rfl (by
  show passE _ T=0
  unfold passE
  rw[if_pos (h.asideE hb hc),if_neg (by dsimp only;omega)])
theorem mkG.place (hw:0≤w∧w<n) (h9:T.cens+1≤9):mkG n (D++[⟨6,0,0,w,0⟩]) {T with cens:=T.cens+1 } had:=by
 have:=h.snoc (d:=⟨6,0,0,w,0⟩) rfl rfl (by
  show placeE n _ T=0
  unfold placeE
  rw[if_pos (inB_t.2 (by dsimp only;omega)),if_neg (by omega)])
 have e:had+(if drawsB ⟨6,0,0,w,0⟩=true then (0:Int) else 0)=had:=by show had+0=had;omega
 rw[e] at this;exact this
end
structure madeO (G:Gm) (woods drawn cens:Int):Prop where
 w:madeW G.ws
 n1:1≤G.ws.length
 n2:(G.ws.length:Int)≤woods
 d:G.ds.length≤24
 e:gmErr G=0
 h:drwN G.ds≤drawn
 c:(dsTab tb0 G.ds).cens≤cens
theorem mkG.made {G:Gm} {T:Tb} {had woods drawn cens:Int} (h:mkG G.ws.length G.ds T had) (hw:madeW G.ws) (n1:1≤G.ws.length) (n2:(G.ws.length:Int)≤woods) (h6:woods≤6) (hd:G.ds.length≤24) (hh:had≤drawn) (hc:1≤T.cens∧T.cens≤cens):madeO G woods drawn cens:=by
 refine⟨hw,n1,n2,hd,?_,by rw[h.h];exact hh,by rw[h.t];exact hc.2⟩
 unfold gmErr
 rw[if_neg (by intro e;rw[e] at n1;simp at n1),if_neg (by omega),if_pos (madeW_ok hw).1,if_neg (by omega),if_pos h.e,h.t,if_neg (by omega)]
theorem boxOf_s (l:List Int) (hl:l.length<2^62):RawC Tryz.prog 7 [.slc 1 (iR l) .non] (sg []) (SR (fun (x:Nat×Int) v=>v= .ref 6 x.1 0) (fun x=>[(6,(x.1,.row [.int .u64 x.2]))])):=
 (boxOf_c l hl).mono fun _ _ ⟨g,w,h1,h2⟩=>⟨(g,w),h1,h2,trivial⟩
def ir19:IFn:=
 ⟨27,[(4,none)],(.seq (.ops [oo 4 (.mov (kB false))])
 (.seq (.seq (.ops [oo 6 (.mov 0),oo 7 (.len false 6),oo 8 (.mov 1),oo 9 (.len false 8),oo 10 (.bin .neq 7 9)])
 (.cnd 10
 (.seq (.ops [oo 4 (.mov (kB false))])
 .ret)
 .skip))
 (.seq (.seq (.ops [oo 5 (.mov (kI 0))])
 (.blk 0 (.loop (.seq (.seq (.ops [oo 11 (.mov 5),oo 12 (.mov 0),oo 13 (.len false 12),oo 14 (.bin .lss 11 13)])
 (.cnd 14
 .skip
 (.exit 0)))
 (.seq (.blk 1 (.seq (.ops [oo 17 (.mov 0),oo 18 (.mov 5),oo 19 (.ixA 1 17 18),oo 20 (.ld 1 false 19),oo 21 (.mov 1),oo 22 (.mov 5),oo 23 (.ixA 1 21 22),oo 24 (.ld 1 false 23),oo 25 (.callF 18 [20,24]),oo 26 (.not 25)])
 (.cnd 26
 (.seq (.ops [oo 4 (.mov (kB false))])
 .ret)
 .skip)))
 (.ops [oo 15 (.mov 5),oo 16 (.bin .add 15 (kI 1)),oo 5 (.mov 16)]))))))
 (.seq (.ops [oo 4 (.mov (kB true))])
 .ret))))⟩
def hint19 (P:Program):Hint:={}
def ir28:IFn:=
 ⟨13,[(0,some (2,true))],(.seq (.ops [oo 0 (.new [.nsl,.nsl])])
 (.seq (.ops [oo 1 (.bld [(.str ByteArray.empty),(.int .i64 0)] [(0,1,(.k (.str ⟨#[97]⟩))),(1,1,(kI 1))]),oo 2 (.bld [(.str ByteArray.empty),(.int .i64 0)] [(0,1,(.k (.str ⟨#[98]⟩))),(1,1,(kI 2))]),oo 3 (.bld [(.str ByteArray.empty),(.int .i64 0)] [(0,1,(.k (.str ⟨#[99]⟩))),(1,1,(kI 3))]),oo 4 (.bsl 2 [[(.str ByteArray.empty),(.int .i64 0)],[(.str ByteArray.empty),(.int .i64 0)],[(.str ByteArray.empty),(.int .i64 0)]] [(0,1),(1,2),(2,3)]),oo 5 (.bld [(.int .i64 0),(.int .i64 0),(.int .i64 0),(.int .i64 0),(.int .i64 0)] [(0,1,(kI 1))]),oo 6 (.bld [(.int .i64 0),(.int .i64 0),(.int .i64 0),(.int .i64 0),(.int .i64 0)] [(0,1,(kI 1)),(3,1,(kI 1))]),oo 7 (.bld [(.int .i64 0),(.int .i64 0),(.int .i64 0),(.int .i64 0),(.int .i64 0)] [(0,1,(kI 2)),(4,1,(kI 2))]),oo 8 (.bld [(.int .i64 0),(.int .i64 0),(.int .i64 0),(.int .i64 0),(.int .i64 0)] [(0,1,(kI 2)),(3,1,(kI 1)),(4,1,(kI 1))]),oo 9 (.bld [(.int .i64 0),(.int .i64 0),(.int .i64 0),(.int .i64 0),(.int .i64 0)] [(0,1,(kI 2)),(3,1,(kI 2)),(4,1,(kI 1))]),oo 10 (.bld [(.int .i64 0),(.int .i64 0),(.int .i64 0),(.int .i64 0),(.int .i64 0)] [(0,1,(kI 5)),(4,1,(kI 3))]),oo 11 (.bsl 5 [[(.int .i64 0),(.int .i64 0),(.int .i64 0),(.int .i64 0),(.int .i64 0)],[(.int .i64 0),(.int .i64 0),(.int .i64 0),(.int .i64 0),(.int .i64 0)],[(.int .i64 0),(.int .i64 0),(.int .i64 0),(.int .i64 0),(.int .i64 0)],[(.int .i64 0),(.int .i64 0),(.int .i64 0),(.int .i64 0),(.int .i64 0)],[(.int .i64 0),(.int .i64 0),(.int .i64 0),(.int .i64 0),(.int .i64 0)],[(.int .i64 0),(.int .i64 0),(.int .i64 0),(.int .i64 0),(.int .i64 0)]] [(0,5),(1,6),(2,7),(3,8),(4,9),(5,10)]),oo 12 (.bld [.nsl,.nsl] [(0,1,4),(1,1,11)]),
 ⟨none,none,(.st 2 0 12)⟩])
 .ret))⟩
def hint28 (P:Program):Hint:={}
def ir6:IFn:=
 ⟨44,[(0,none)],(.seq (.ops [oo 0 (.mov (kB false))])
 (.seq (.ops [oo 7 (.callF 28 []),oo 8 (.bld [(.int .i64 0),(.int .i64 0)] [(0,1,(kI 1))]),oo 9 (.callF 16 [7,8]),oo 6 (.mov 9),oo 10 (.ext 0 6),oo 11 (.ext 1 6),oo 12 (.ext 2 6),oo 1 (.mov 10),oo 2 (.mov 11),oo 3 (.mov 12)])
 (.seq (.ops [oo 14 (.callF 28 []),oo 15 (.bsl 1 [[(.int .i64 0)],[(.int .i64 0)],[(.int .i64 0)]] [(0,(kI 0)),(1,(kI 2)),(2,(kI 1))]),oo 16 (.callF 23 [14,15]),oo 13 (.mov 16),oo 17 (.ext 0 13),oo 18 (.ext 1 13),oo 4 (.mov 17),oo 5 (.mov 18)])
 (.seq (.ops [oo 19 (.mov 3),oo 20 (.bin .eql 19 (kI 0)),oo 21 (.mov 20),
 ⟨(some 22),(some (21,true)),(.mov 5)⟩,
 ⟨(some 23),(some (21,true)),(.bin .eql 22 (kI 0))⟩,oo 24 (.pick 21 23 (kB false)),oo 25 (.mov 24),
 ⟨(some 26),(some (25,true)),(.mov 4)⟩,
 ⟨(some 27),(some (25,true)),(.bsl 1 [[(.int .i64 0)],[(.int .i64 0)],[(.int .i64 0)]] [(0,(kI 0)),(1,(kI 2)),(2,(kI 1))])⟩,
 ⟨(some 28),(some (25,true)),(.callF 18 [26,27])⟩,oo 29 (.pick 25 28 (kB false)),oo 30 (.mov 29),
 ⟨(some 31),(some (30,true)),(.mov 1)⟩,
 ⟨(some 32),(some (30,true)),(.bsl 1 [[(.int .i64 0)],[(.int .i64 0)],[(.int .i64 0)]] [(0,(kI 0)),(1,(kI 0)),(2,(kI 1))])⟩,
 ⟨(some 33),(some (30,true)),(.bsl 1 [[(.int .i64 0)],[(.int .i64 0)],[(.int .i64 0)]] [(0,(kI 0)),(1,(kI 1)),(2,(kI 0))])⟩,
 ⟨(some 34),(some (30,true)),(.bsl 1 [[(.int .i64 0)],[(.int .i64 0)],[(.int .i64 0)]] [(0,(kI 0)),(1,(kI 1)),(2,(kI 1))])⟩,
 ⟨(some 35),(some (30,true)),(.bsl 1 [[(.int .i64 0)],[(.int .i64 0)],[(.int .i64 0)]] [(0,(kI 0)),(1,(kI 1)),(2,(kI 2))])⟩,
 ⟨(some 36),(some (30,true)),(.bsl 1 [[.nsl],[.nsl],[.nsl],[.nsl]] [(0,32),(1,33),(2,34),(3,35)])⟩,
 ⟨(some 37),(some (30,true)),(.callF 19 [31,36])⟩,oo 38 (.pick 30 37 (kB false)),oo 39 (.mov 38),
 ⟨(some 40),(some (39,true)),(.mov 2)⟩,
 ⟨(some 41),(some (39,true)),(.bsl 1 [[(.int .i64 0)],[(.int .i64 0)],[(.int .i64 0)],[(.int .i64 0)]] [(0,(kI 4)),(1,(kI 4)),(2,(kI 4)),(3,(kI 12))])⟩,
 ⟨(some 42),(some (39,true)),(.callF 18 [40,41])⟩,oo 43 (.pick 39 42 (kB false)),oo 0 (.mov 43)])
 .ret))))⟩
def hint6 (P:Program):Hint:={}
theorem eqLists_c (a b:List (List Int)) (h:a.length<2^62) (hs:∀l∈a,l.length<2^62):Fn0 Tryz.prog 19 [.slc 1 (llR a) .non,.slc 1 (llR b) .non] (fun v=>v= .bool (decide (a=b))):=by
 refine RawC.walk (H:=hint19 Tryz.prog) ir19 Tryz.func19 rfl rfl rfl ?_
 unfold ir19
 repeat' (first
  | with_reducible refine Rd.p ?_
  | with_reducible (first|refine zI fun y hy=>?_|refine zL ?_|refine zS ?_|refine zV ?_|refine zC ?_)
  | refine aX ?_|with_reducible intro _
  | with_reducible refine zJ ?_ fun y hy=>?_|refine aP ?_ ?_)
 · rename_i h;refine congrArg AV.bool ?_;symm;rw[decide_eq_false_iff_not];intro e;subst e;exact h rfl
 rename_i hlen
 have hab:a.length=b.length:=by omega
 refine w_loopK [0,1] [] (fun x:List (List Int)×List (List Int)×List (List Int)=>a=x.1++x.2.1∧b=x.1++x.2.2) (fun x=>x.2.1.length) (fun x=>[(5,.int .i64 x.1.length)]) (fun _=>[]) ([],a,b) ⟨rfl,rfl⟩ ⟨rfl,trivial⟩ trivial ?_
 rintro⟨pre,pa,pb⟩ ⟨ha,hb⟩ e σ
 dsimp only at ha hb ⊢
 have hla:=congrArg List.length ha
 have hlb:=congrArg List.length hb
 simp only[List.length_append] at hla hlb
 cases pa with
 | nil=>
   simp only[List.length_nil] at hla
   repeat' (first
    | with_reducible refine Rd.p ?_
    | with_reducible (first|refine zI fun y hy=>?_|refine zL ?_|refine zS ?_|refine zV ?_|refine zC ?_)
    | refine aX ?_|with_reducible intro _
    | with_reducible refine zJ ?_ fun y hy=>?_|refine aP ?_ ?_)
   have:pb=[]:=List.length_eq_zero_iff.1 (by omega)
   subst this
   refine congrArg AV.bool ?_;symm;rw[decide_eq_true_eq,ha,hb]
 | cons x pa=>
   cases pb with
   | nil=>exfalso;simp only[List.length_nil,List.length_cons] at hla hlb;omega
   | cons y pb=>
     simp only[List.length_cons] at hla hlb
     have hE:=eq_c x y (hs x (by rw[ha];simp))
     repeat' (first
      | with_reducible refine Rd.p ?_
      | (first|refine w_ixP ha rfl rfl ?_|refine w_ixP hb rfl rfl ?_)
      | with_reducible (first|refine zI fun y hy=>?_|refine zL ?_|refine zS ?_|refine zV ?_|refine zC ?_)
      | ((with_reducible refine aC ?_);first|(refine ACall.val hE rfl rfl ?_))
      | refine aX ?_|with_reducible intro _
      | with_reducible refine zJ ?_ fun y hy=>?_|refine aP ?_ ?_)
     · rename_i h
       refine congrArg AV.bool ?_;symm
       rw[decide_eq_false_iff_not];intro e
       rw[ha,hb] at e
       have:=List.append_cancel_left e
       simp at this
       exact h this.1
     · rename_i h
       subst h
       refine zQ (pre++[x],pa,pb) ?_ ?_
       · exact⟨by rw[ha];simp,by rw[hb];simp⟩
       · simp
def g3:Gm:=⟨[⟨⟨#[97]⟩,1⟩,⟨⟨#[98]⟩,2⟩,⟨⟨#[99]⟩,3⟩],[⟨1,0,0,0,0⟩,⟨1,0,0,1,0⟩,⟨2,0,0,0,2⟩,⟨2,0,0,1,1⟩,⟨2,0,0,2,1⟩,⟨5,0,0,0,3⟩]⟩
theorem three_c:Fn0 Tryz.prog 28 [] (fun v=>v=gmA g3):=by
 refine RawC.walk (H:=hint28 Tryz.prog) ir28 Tryz.func28 rfl rfl rfl ?_
 unfold ir28
 repeat' (first
  | with_reducible refine Rd.p ?_
  | with_reducible (first|refine zL ?_|refine zS ?_|refine zV ?_|refine zC ?_)
  | refine aX ?_|with_reducible intro _
  | refine aP ?_ ?_)
 rfl
theorem g3_ans:ansO g3 ⟨1,0⟩=([([0,0,1],4),([0,1,0],4),([0,1,1],4),([0,1,2],12)],0):=by decide+kernel
theorem g3_play:playO g3 [0,2,1]=([0,2,1],0):=by decide+kernel
theorem awake_c:Fn0 Tryz.prog 6 [] (fun v=>v= .bool true):=by
 have h1:=Answers_c g3 ⟨1,0⟩ (by decide) (by decide) (by decide)
 have h2:=Play_c g3 [0,2,1] (by decide) (by decide) (by decide) (by decide)
 rw[g3_ans] at h1
 rw[g3_play] at h2
 have e1:=eq_c [0,2,1] [0,2,1] (by decide)
 have e2:=eqLists_c [[0,0,1],[0,1,0],[0,1,1],[0,1,2]] [[0,0,1],[0,1,0],[0,1,1],[0,1,2]] (by decide) (by decide)
 have e3:=eq_c [4,4,4,12] [4,4,4,12] (by decide)
 refine RawC.walk (H:=hint6 Tryz.prog) ir6 Tryz.func6 rfl rfl rfl ?_
 unfold ir6
 repeat' (first
  | with_reducible refine Rd.p ?_
  | with_reducible (first|refine zL ?_|refine zS ?_|refine zV ?_|refine zC ?_)
  | ((with_reducible refine aC ?_);first|(refine ACall.val three_c rfl rfl ?_)|(refine ACall.val h1 rfl rfl ?_)|(refine ACall.val h2 rfl rfl ?_)|(refine ACall.val e1 rfl rfl ?_)|(refine ACall.val e2 rfl rfl ?_)|(refine ACall.val e3 rfl rfl ?_))
  | refine aX ?_|with_reducible intro _
  | refine aP ?_ ?_)
 all_goals first
  | rfl
def ir10:IFn:=
 ⟨26,[(4,none)],(.seq (.ops [oo 3 (.box 2 1),oo 4 (.mov (.k .nsl))])
 (.seq (.ops [oo 8 (.ld 2 true 3),oo 9 (.callF 27 [8]),oo 5 (.mov 9)])
 (.seq (.ops [oo 6 (.nil 1 6)])
 (.seq (.seq (.ops [oo 7 (.mov (kI 0))])
 (.blk 0 (.loop (.seq (.seq (.ops [oo 10 (.mov 7),oo 11 (.mov 5),oo 12 (.len false 11),oo 13 (.bin .lss 10 12)])
 (.cnd 13
 .skip
 (.exit 0)))
 (.seq (.blk 1 (.ops [oo 16 (.mov 6),oo 17 (.mov 0),oo 18 (.mov 5),oo 19 (.mov 7),oo 20 (.ixA 1 18 19),oo 21 (.ld 1 false 20),oo 22 (.callF 22 [17,21]),oo 23 (.bsl 1 [[(.int .i64 0)]] [(0,22)]),oo 24 (.app 1 8 16 23 6),oo 6 (.mov 24)]))
 (.ops [oo 14 (.mov 7),oo 15 (.bin .add 14 (kI 1)),oo 7 (.mov 15)]))))))
 (.seq (.ops [oo 25 (.mov 6),oo 4 (.mov 25)])
 .ret)))))⟩
def hint10 (P:Program):Hint:={site:=[(24,6)],nils:=[(6,1)],frz:=[],mve:=[],wr:=[] }
def ir8:IFn:=
 ⟨255,[(8,some (2,true))],(.seq (.ops [oo 8 (.new [.nsl,.nsl])])
 (.seq (.ops [oo 23 (.mov 0),oo 24 (.mov 1),oo 25 (.callF 30 [23,24]),oo 26 (.bld [.nsl,.nsl] [(0,1,25)]),oo 9 (.new [.nsl,.nsl]),
 ⟨none,none,(.st 2 9 26)⟩])
 (.seq (.seq (.ops [oo 10 (.mov (kI 0))])
 (.blk 0 (.loop (.seq (.seq (.ops [oo 27 (.mov 10),oo 28 (.flA 0 9),oo 29 (.ld 1 false 28),oo 30 (.len false 29),oo 31 (.bin .lss 27 30)])
 (.cnd 31
 .skip
 (.exit 0)))
 (.seq (.blk 1 (.seq (.ops [oo 34 (.mov 0),oo 35 (.callF 21 [34,(kI 3)]),oo 36 (.not 35)])
 (.cnd 36
 (.ops [oo 37 (.flA 1 9),oo 38 (.ld 1 false 37),oo 39 (.mov 10),oo 40 (.bld [(.int .i64 0),(.int .i64 0),(.int .i64 0),(.int .i64 0),(.int .i64 0)] [(0,1,(kI 1)),(3,1,39)]),oo 41 (.bsl 5 [[(.int .i64 0),(.int .i64 0),(.int .i64 0),(.int .i64 0),(.int .i64 0)]] [(0,40)]),oo 42 (.app 5 40 38 41 42),oo 43 (.flA 1 9),
 ⟨none,none,(.st 1 43 42)⟩])
 .skip)))
 (.ops [oo 32 (.mov 10),oo 33 (.bin .add 32 (kI 1)),oo 10 (.mov 33)]))))))
 (.seq (.ops [oo 44 (.mov 0),oo 45 (.callF 22 [44,(kI 2)]),oo 46 (.bin .add (kI 1) 45),oo 11 (.mov 46)])
 (.seq (.ops [oo 12 (.new [(.int .i64 0),(.int .i64 0),(.int .i64 0),(.int .i64 0)])])
 (.seq (.ops [oo 13 (.mov (kI 0)),oo 14 (.mov (kI 0)),oo 15 (.mov (kI 0))])
 (.seq (.seq (.ops [oo 16 (.mov (kI 0))])
 (.blk 2 (.loop (.seq (.seq (.ops [oo 47 (.mov 16),oo 48 (.bin .lss 47 (kI 10)),oo 49 (.mov 48),
 ⟨(some 50),(some (49,true)),(.flA 1 9)⟩,
 ⟨(some 51),(some (49,true)),(.ld 1 false 50)⟩,
 ⟨(some 52),(some (49,true)),(.len false 51)⟩,
 ⟨(some 53),(some (49,true)),(.bin .lss 52 (kI 22))⟩,oo 54 (.pick 49 53 (kB false))])
 (.cnd 54
 .skip
 (.exit 2)))
 (.seq (.blk 3 (.seq (.ops [oo 57 (.mov 0),oo 58 (.mov 11),oo 59 (.callF 22 [57,58]),oo 17 (.mov 59)])
 (.seq (.ops [oo 60 (.mov 0),oo 61 (.callF 22 [60,(kI 7)])])
 (.blk 4 (.seq (.seq (.ops [oo 83 (.bin .eql 61 (kI 0)),oo 82 (.mov 83)])
 (.cnd 82
 .skip
 (.seq (.ops [oo 84 (.bin .eql 61 (kI 1)),oo 82 (.mov 84)])
 (.cnd 82
 .skip
 (.ops [oo 85 (.bin .eql 61 (kI 2)),oo 82 (.mov 85)])))))
 (.cnd 82
 (.seq (.ops [oo 86 (.mov 0),oo 87 (.callF 31 [86,(kI 1),(kI 3)]),oo 18 (.mov 87)])
 (.seq (.ops [oo 88 (.mov 13),oo 89 (.mov 18),oo 90 (.bin .add 88 89),oo 91 (.bin .leq 90 (kI 12))])
 (.cnd 91
 (.seq (.ops [oo 92 (.flA 1 9),oo 93 (.ld 1 false 92),oo 94 (.mov 17),oo 95 (.mov 0),oo 96 (.flA 0 9),oo 97 (.ld 1 false 96),oo 98 (.len false 97),oo 100 (.mov 18),oo 99 (.callF 22 [95,98]),
 ⟨none,none,(.chk 1 false 92 93)⟩,oo 101 (.bld [(.int .i64 0),(.int .i64 0),(.int .i64 0),(.int .i64 0),(.int .i64 0)] [(0,1,(kI 2)),(1,1,94),(3,1,99),(4,1,100)]),oo 102 (.bsl 5 [[(.int .i64 0),(.int .i64 0),(.int .i64 0),(.int .i64 0),(.int .i64 0)]] [(0,101)]),oo 103 (.app 5 40 93 102 42),oo 104 (.flA 1 9),
 ⟨none,none,(.st 1 104 103)⟩])
 (.ops [oo 105 (.mov 17),oo 106 (.mov 13),oo 107 (.mov 18),oo 108 (.bin .add 106 107),oo 109 (.mov 17),oo 110 (.ixAr 4 1 12 109),oo 111 (.ld 1 false 110),oo 112 (.mov 18),oo 113 (.bin .add 111 112),oo 13 (.mov 108),oo 114 (.ixAr 4 1 12 105),
 ⟨none,none,(.st 1 114 113)⟩]))
 .skip)))
 (.seq (.ops [oo 116 (.bin .eql 61 (kI 3)),oo 115 (.mov 116)])
 (.cnd 115
 (.seq (.ops [oo 117 (.mov 0),oo 118 (.mov 11),oo 119 (.callF 22 [117,118]),oo 19 (.mov 119)])
 (.seq (.ops [oo 120 (.mov 19),oo 121 (.mov 17),oo 122 (.bin .neq 120 121)])
 (.cnd 122
 (.seq (.ops [oo 123 (.flA 1 9),oo 124 (.ld 1 false 123),oo 125 (.mov 17),oo 126 (.mov 19),oo 127 (.bld [(.int .i64 0),(.int .i64 0),(.int .i64 0),(.int .i64 0),(.int .i64 0)] [(0,1,(kI 3)),(1,1,125),(2,1,126)]),oo 128 (.bsl 5 [[(.int .i64 0),(.int .i64 0),(.int .i64 0),(.int .i64 0),(.int .i64 0)]] [(0,127)]),oo 129 (.app 5 40 124 128 42),oo 130 (.flA 1 9),
 ⟨none,none,(.st 1 130 129)⟩])
 (.ops [oo 131 (.mov 19),oo 132 (.mov 17),oo 133 (.mov 19),oo 134 (.ixAr 4 1 12 133),oo 135 (.ld 1 false 134),oo 136 (.mov 17),oo 137 (.ixAr 4 1 12 136),oo 138 (.ld 1 false 137),oo 139 (.bin .add 135 138),oo 140 (.ixAr 4 1 12 131),
 ⟨none,none,(.st 1 140 139)⟩,oo 141 (.ixAr 4 1 12 132),
 ⟨none,none,(.st 1 141 (kI 0))⟩]))
 .skip)))
 (.seq (.ops [oo 143 (.bin .eql 61 (kI 4)),oo 142 (.mov 143)])
 (.cnd 142
 (.seq (.ops [oo 144 (.mov 0),oo 145 (.callF 31 [144,(kI 1),(kI 2)]),oo 20 (.mov 145)])
 (.seq (.ops [oo 146 (.mov 20),oo 147 (.mov 17),oo 148 (.ixAr 4 1 12 147),oo 149 (.ld 1 false 148),oo 150 (.bin .leq 146 149),oo 151 (.mov 150),
 ⟨(some 152),(some (151,true)),(.mov 14)⟩,
 ⟨(some 153),(some (151,true)),(.mov 20)⟩,
 ⟨(some 154),(some (151,true)),(.bin .add 152 153)⟩,
 ⟨(some 155),(some (151,true)),(.mov 2)⟩,
 ⟨(some 156),(some (151,true)),(.bin .leq 154 155)⟩,oo 157 (.pick 151 156 (kB false))])
 (.cnd 157
 (.seq (.ops [oo 158 (.flA 1 9),oo 159 (.ld 1 false 158),oo 160 (.mov 17),oo 161 (.mov 20),oo 162 (.bld [(.int .i64 0),(.int .i64 0),(.int .i64 0),(.int .i64 0),(.int .i64 0)] [(0,1,(kI 4)),(1,1,160),(4,1,161)]),oo 163 (.bsl 5 [[(.int .i64 0),(.int .i64 0),(.int .i64 0),(.int .i64 0),(.int .i64 0)]] [(0,162)]),oo 164 (.app 5 40 159 163 42),oo 165 (.flA 1 9),
 ⟨none,none,(.st 1 165 164)⟩])
 (.ops [oo 166 (.mov 17),oo 167 (.mov 14),oo 168 (.mov 20),oo 169 (.bin .add 167 168),oo 170 (.mov 17),oo 171 (.ixAr 4 1 12 170),oo 172 (.ld 1 false 171),oo 173 (.mov 20),oo 174 (.bin .sub 172 173),oo 14 (.mov 169),oo 175 (.ixAr 4 1 12 166),
 ⟨none,none,(.st 1 175 174)⟩]))
 .skip)))
 (.seq (.ops [oo 177 (.bin .eql 61 (kI 5)),oo 176 (.mov 177)])
 (.cnd 176
 (.seq (.ops [oo 178 (.mov 0),oo 179 (.callF 31 [178,(kI 1),(kI 3)]),oo 21 (.mov 179)])
 (.seq (.ops [oo 180 (.mov 21),oo 181 (.mov 17),oo 182 (.ixAr 4 1 12 181),oo 183 (.ld 1 false 182),oo 184 (.bin .leq 180 183),oo 185 (.mov 184),
 ⟨(some 186),(some (185,true)),(.mov 14)⟩,
 ⟨(some 187),(some (185,true)),(.mov 21)⟩,
 ⟨(some 188),(some (185,true)),(.bin .add 186 187)⟩,
 ⟨(some 189),(some (185,true)),(.mov 2)⟩,
 ⟨(some 190),(some (185,true)),(.bin .leq 188 189)⟩,oo 191 (.pick 185 190 (kB false)),oo 192 (.mov 191),
 ⟨(some 193),(some (192,true)),(.mov 15)⟩,
 ⟨(some 194),(some (192,true)),(.mov 21)⟩,
 ⟨(some 195),(some (192,true)),(.bin .add 193 194)⟩,
 ⟨(some 196),(some (192,true)),(.mov 3)⟩,
 ⟨(some 197),(some (192,true)),(.bin .leq 195 196)⟩,oo 198 (.pick 192 197 (kB false))])
 (.cnd 198
 (.seq (.ops [oo 199 (.flA 1 9),oo 200 (.ld 1 false 199),oo 201 (.mov 17),oo 202 (.mov 21),oo 203 (.bld [(.int .i64 0),(.int .i64 0),(.int .i64 0),(.int .i64 0),(.int .i64 0)] [(0,1,(kI 5)),(1,1,201),(4,1,202)]),oo 204 (.bsl 5 [[(.int .i64 0),(.int .i64 0),(.int .i64 0),(.int .i64 0),(.int .i64 0)]] [(0,203)]),oo 205 (.app 5 40 200 204 42),oo 206 (.flA 1 9),
 ⟨none,none,(.st 1 206 205)⟩])
 (.ops [oo 207 (.mov 17),oo 208 (.mov 14),oo 209 (.mov 21),oo 210 (.bin .add 208 209),oo 211 (.mov 15),oo 212 (.mov 21),oo 213 (.bin .add 211 212),oo 214 (.mov 17),oo 215 (.ixAr 4 1 12 214),oo 216 (.ld 1 false 215),oo 217 (.mov 21),oo 218 (.bin .sub 216 217),oo 14 (.mov 210),oo 15 (.mov 213),oo 219 (.ixAr 4 1 12 207),
 ⟨none,none,(.st 1 219 218)⟩]))
 .skip)))
 (.seq (.ops [oo 62 (.mov 15),oo 63 (.mov 3),oo 64 (.bin .lss 62 63),oo 65 (.mov 64),
 ⟨(some 66),(some (65,true)),(.mov 0)⟩,
 ⟨(some 67),(some (65,true)),(.callF 21 [66,(kI 3)])⟩,oo 68 (.pick 65 67 (kB false))])
 (.cnd 68
 (.seq (.ops [oo 69 (.flA 1 9),oo 70 (.ld 1 false 69),oo 71 (.mov 0),oo 72 (.flA 0 9),oo 73 (.ld 1 false 72),oo 74 (.len false 73),oo 75 (.callF 22 [71,74]),
 ⟨none,none,(.chk 1 false 69 70)⟩,oo 76 (.bld [(.int .i64 0),(.int .i64 0),(.int .i64 0),(.int .i64 0),(.int .i64 0)] [(0,1,(kI 6)),(3,1,75)]),oo 77 (.bsl 5 [[(.int .i64 0),(.int .i64 0),(.int .i64 0),(.int .i64 0),(.int .i64 0)]] [(0,76)]),oo 78 (.app 5 40 70 77 42),oo 79 (.flA 1 9),
 ⟨none,none,(.st 1 79 78)⟩])
 (.ops [oo 80 (.mov 15),oo 81 (.bin .add 80 (kI 1)),oo 15 (.mov 81)]))
 .skip))))))))))))))
 (.ops [oo 55 (.mov 16),oo 56 (.bin .add 55 (kI 1)),oo 16 (.mov 56)]))))))
 (.seq (.seq (.ops [oo 220 (.ixAr 4 1 12 (kI 0)),oo 221 (.ld 1 false 220),oo 222 (.mov 2),oo 223 (.mov 14),oo 224 (.bin .sub 222 223),oo 225 (.mov 3),oo 226 (.mov 15),oo 227 (.bin .sub 225 226),oo 228 (.mx3 false 221 224 227),oo 22 (.mov 228)])
 (.seq (.ops [oo 229 (.mov 22),oo 230 (.bin .gtr 229 (kI 0))])
 (.cnd 230
 (.seq (.ops [oo 231 (.flA 1 9),oo 232 (.ld 1 false 231),oo 233 (.mov 22),oo 234 (.bld [(.int .i64 0),(.int .i64 0),(.int .i64 0),(.int .i64 0),(.int .i64 0)] [(0,1,(kI 5)),(4,1,233)]),oo 235 (.bsl 5 [[(.int .i64 0),(.int .i64 0),(.int .i64 0),(.int .i64 0),(.int .i64 0)]] [(0,234)]),oo 236 (.app 5 40 232 235 42),oo 237 (.flA 1 9),
 ⟨none,none,(.st 1 237 236)⟩])
 (.ops [oo 238 (.mov 15),oo 239 (.mov 22),oo 240 (.bin .add 238 239),oo 15 (.mov 240)]))
 .skip)))
 (.seq (.seq (.ops [oo 241 (.mov 15),oo 242 (.bin .eql 241 (kI 0))])
 (.cnd 242
 (.ops [oo 243 (.flA 1 9),oo 244 (.ld 1 false 243),oo 245 (.mov 0),oo 246 (.flA 0 9),oo 247 (.ld 1 false 246),oo 248 (.len false 247),oo 249 (.callF 22 [245,248]),
 ⟨none,none,(.chk 1 false 243 244)⟩,oo 250 (.bld [(.int .i64 0),(.int .i64 0),(.int .i64 0),(.int .i64 0),(.int .i64 0)] [(0,1,(kI 6)),(3,1,249)]),oo 251 (.bsl 5 [[(.int .i64 0),(.int .i64 0),(.int .i64 0),(.int .i64 0),(.int .i64 0)]] [(0,250)]),oo 252 (.app 5 40 244 251 42),oo 253 (.flA 1 9),
 ⟨none,none,(.st 1 253 252)⟩])
 .skip))
 (.seq (.ops [oo 254 (.ld 2 true 9),
 ⟨none,none,(.st 2 8 254)⟩])
 .ret))))))))))⟩
def hint8 (P:Program):Hint:={site:=[(42,42),(78,42),(103,42),(129,42),(164,42),(205,42),(236,42),(252,42)],nils:=[],frz:=[],mve:=[],wr:=[] }
def dlV (D:List Dl) (g:Nat):AV:=match D with
 | []=> .nsl
 | _::_=> .slc 5 (dlR D) (.own 42 g)
def dlX (D:List Dl) (g:Nat):Nat×Res:=match D with
 | []=>(0,.dead)
 | _::_=>(g,.row [])
theorem dlV_snoc {x:Dl} {l:List Dl} (d:Dl) (g:Nat):AV.slc 5 (dlR (x::l)++[d.row]) (.own 42 g)=dlV (x::l++[d]) g:=by
 show _=AV.slc 5 (dlR (x::l++[d])) _
 rw[show dlR (x::l++[d])=dlR (x::l)++[d.row] from List.map_append]
theorem sl9 {g9:Nat} {ws:List Wd} {x:Dl} {l:List Dl} (d:Dl) (g:Nat):(g9,Res.row [AV.slc 2 (wR ws) .non,.slc 5 (dlR (x::l)++[d.row]) (.own 42 g)])=(g9,Res.row [AV.slc 2 (wR ws) .non,dlV (x::l++[d]) g]):=
 congrArg (fun z=>(g9,Res.row [AV.slc 2 (wR ws) .non,z])) (dlV_snoc d g)
theorem gm_snoc {ws:List Wd} {x:Dl} {l:List Dl} (d:Dl):AV.agg [.slc 2 (wR ws) .non,.slc 5 (dlR (x::l)++[d.row]) .non]=gmA ⟨ws,x::l++[d]⟩:=by
 show _=AV.agg [.slc 2 (wR ws) .non,.slc 5 (dlR (x::l++[d])) .non]
 rw[show dlR (x::l++[d])=dlR (x::l)++[d.row] from List.map_append]
theorem w_ldBag {P:Program} {K:(Nat→AV)→Sig→Prop} {e:Nat→AV} {σ:Sig} {x:IOpd} {r:List IStep} {T:Tb} {d i g off p:Nat} (h:tbOK T) (hx:x.ev e= .ref i g off) (ho:off=p) (hσ:σ i=(g,.row (nI T.bags))) (hp:p<4) (hk:0≤T.bags.getD p 0∧T.bags.getD p 0≤12→stepsW P r K (upd e d (.int .i64 (T.bags.getD p 0))) σ):stepsW P (⟨some d,none,.ld 1 false x⟩::r) K e σ:=
 w_ldEl hx ho hσ (by rw[h.b];exact hp) (hk (h.at (b:=(p:Int)) hp))
end Go.Abs
