/- A part of the proofs of the laws of this seat: contracts of the functions that they reach, each proved of the program's form in Lean. No condition beyond those that each contract names. -/
import Derived.Test.YtegfkfgkplnjgaaGreatProg
import Derived.Test.YtegfkfgkplnjgaaGreatSnd3
import Derived.Test.YtegfkfgkplnjgaaGreatA0
import Derived.Test.YtegfkfgkplnjgaaGreatQ1a
import Derived.Test.YtegfkfgkplnjgaaGreatQ1b
set_option linter.unusedVariables false
set_option linter.unusedSimpArgs false
set_option maxRecDepth 20000
set_option maxHeartbeats 4000000
namespace Go.Abs
open Go.Proofs
def ir59:IFn:=
 ⟨16,[(2,none)],(.seq (.ops [oo 2 (.mov (kI 0))])
 (.seq (.ops [oo 3 (.mov (kI 0))])
 (.seq (.seq (.ops [oo 6 (.mov 0),oo 7 (.rng 6)])
 (.blk 0 (.loop (.seq (.ops [oo 8 (.nxt 7),oo 9 (.ext 0 8)])
 (.seq (.cnd 9
 .skip
 (.exit 0))
 (.blk 1 (.seq (.ops [oo 10 (.ent 7),oo 11 (.ext 1 10),oo 5 (.mov 11)])
 (.ops [oo 12 (.mov 3),oo 13 (.mov 5),oo 14 (.bin .add 12 13),oo 3 (.mov 14)]))))))))
 (.seq (.ops [oo 15 (.mov 3),oo 2 (.mov 15)])
 .ret))))⟩
def hint59 (P:Program):Hint:={}
abbrev stV (W:Wt):AV:= .fmp (wK W) (wV W)
theorem wget_mem {B:List Int}:∀{W:Wt},whas W B=true→(B,wget W B)∈W
 | (C,m)::r,h=>by
   rw[whas] at h
   rw[wget]
   by_cases e:B=C
   · rw[if_pos e,e];simp
   · rw[if_neg e] at h ⊢
     exact List.mem_cons_of_mem _ (wget_mem h)
theorem wget_bd {W:Wt} (h:∀x∈W,0<x.2) (B:List Int):0≤wget W B∧wget W B≤sumW W (fun _=>1):=by
 have hn:=sumW_nn (W:=W) (V:=fun _=>1) h fun _ _=>by decide
 cases hh:whas W B with
 | false=>rw[(wget_not B W hh).1];exact⟨Int.le_refl _,hn⟩
 | true=>
   have hm:=wget_mem hh
   have h1:=h _ hm
   have h2:=sumW_mem (V:=fun _=>1) h (fun _ _=>by decide) _ hm
   dsimp only at h1 h2
   omega
structure StOut (W':Wt) (T:(List Int→Int)→Int) (I:List Int→Prop):Prop where
 nd:(W'.map (·.1)).Nodup
 pos:∀x∈W',0<x.2
 sum:∀V,sumW W' V=T V
 key:∀x∈W',I x.1
theorem mem_erase {α:Type} {l:List α} {j:Nat} {x:α} (h:x∈l.eraseIdx j):x∈l:=List.mem_of_mem_eraseIdx h
theorem addW_pos {W:Wt} {B:List Int} {n:Int} (h:∀x∈W,0<x.2) (hn:0<n):∀x∈addW W B n,0<x.2:=fun x hx=>by
 rcases addW_mem hx with hx | ⟨_,h2 | ⟨m,h3,h4⟩⟩
 · exact h x hx
 · omega
 · have:=h _ h3
   dsimp only at this
   omega
theorem addW_key {I:List Int→Prop} {W:Wt} {B:List Int} {n:Int} (h:∀x∈W,I x.1) (hB:I B):∀x∈addW W B n,I x.1:=fun x hx=>by
 rcases addW_mem hx with hx | ⟨h1,_⟩
 · exact h x hx
 · rw[h1];exact hB
theorem erase_fact {L:Wt} {j:Nat} {a:List Int×Int} (h:∀y∈L,0<y.2) (hj:L[j]?=some a):a∈L∧0<a.2∧a.2+sumW (L.eraseIdx j) (fun _=>1)=sumW L (fun _=>1)∧0≤sumW (L.eraseIdx j) (fun _=>1)∧(L.eraseIdx j).length<L.length:=by
 have hm:=List.mem_of_getElem? hj
 have he:=sumW_erase (fun _=>1) hj
 have hlt:=(List.getElem?_eq_some_iff.1 hj).1
 refine⟨hm,h a hm,by rw[he];omega,sumW_nn (fun x hx=>h x (mem_erase hx)) fun _ _=>by decide,?_⟩
 rw[List.length_eraseIdx,if_pos hlt];omega
theorem w_mlkV {P:Program} {K:(Nat→AV)→Sig→Prop} {e:Nat→AV} {σ:Sig} {m k:IOpd} {d:Nat} {r:List IStep} {i h:Nat} {W:Wt} {B:List Int} {n:Int} (hm:m.ev e= .map i h) (hσ:σ i=(h,.row [.mpv (wK W) (wV W)])) (hk:k.ev e=bgV B) (hB:B.length=24) (hW:∀x∈W,x.1.length=24) (hn:wget W B=n)
  (hK:stepsW P r K (upd e d (.int .i64 n)) σ):stepsW P (⟨some d,none,.mlk (.flat [.i,.i,.i,.i,.i,.i,.i,.i,.i,.i,.i,.i,.i,.i,.i,.i,.i,.i,.i,.i,.i,.i,.i,.i]) (.int .i64 0) false m k⟩::r) K e σ:=
 w_mlkW hm hσ hk hB hW (by rw[hn];exact hK)
theorem ways_c (W:Wt) (hp:∀x∈W,0<x.2) (hb:sumW W (fun _=>1)<2^60):Fn0 Tryz.prog 59 [stV W] (fun v=>v= .int .i64 (sumW W (fun _=>1))):=by
 refine RawC.walk (H:=hint59 Tryz.prog) ir59 Tryz.func59 rfl rfl rfl ?_
 unfold ir59
 repeat' (first
  | with_reducible refine Rd.p ?_
  | with_reducible (first|refine zI fun y hy=>?_|refine zL ?_|refine zS ?_|refine zV ?_|refine zC ?_)
  | refine aX ?_|with_reducible intro _
  | with_reducible refine zJ ?_ fun y hy=>?_|refine aP ?_ ?_)
 rename_i g7
 refine w_loopK [7] [] (fun x:Wt×List AV×Int=>(∀y∈x.1,0<y.2)∧0≤x.2.2∧x.2.2+sumW x.1 (fun _=>1)=sumW W (fun _=>1)) (fun x=>x.1.length) (fun x=>[(3,.int .i64 x.2.2)]) (fun x=>[(7,(g7,.row [.itv x.2.1 (wK x.1) (wV x.1)]))]) (W,[],0) ⟨hp,Int.le_refl _,by simp⟩ ⟨rfl,trivial⟩ ⟨rfl,trivial⟩ ?_
 rintro⟨L,cur,s⟩ ⟨h1,h2,h3⟩ e σ
 dsimp only at h1 h2 h3 ⊢
 by_cases hL:L=[]
 · subst hL
   have hs:s=sumW W (fun _=>1):=by rw[←h3];simp[sumW]
   repeat' (first
    | with_reducible refine Rd.p ?_
    | (refine w_nxtE rfl rfl ?_)
    | with_reducible (first|refine zI fun y hy=>?_|refine zL ?_|refine zS ?_|refine zV ?_|refine zC ?_)
    | refine aX ?_|with_reducible intro _
    | with_reducible refine zJ ?_ fun y hy=>?_|refine aP ?_ ?_)
   all_goals first
    | (exfalso;omega)
    | exact int_eq hs
 have hnn:=sumW_nn (W:=L) (V:=fun _=>1) h1 fun _ _=>by decide
 repeat' (first
  | with_reducible refine Rd.p ?_
  | (refine w_nxtC (fun x:List Int×Int=>bgV x.1) (fun x:List Int×Int=>AV.int .i64 x.2) rfl rfl hL ?_;intro j a hja;obtain⟨f0,f1,f2,f3,f4⟩:=erase_fact h1 hja)
  | with_reducible (first|refine zI fun y hy=>?_|refine zL ?_|refine zS ?_|refine zV ?_|refine zC ?_)
  | refine aX ?_|with_reducible intro _
  | with_reducible refine zJ ?_ fun y hy=>?_|refine aP ?_ ?_)
 exact q_loop (L.eraseIdx j,_,s+a.2) ⟨fun y hy=>h1 y (mem_erase hy),by show 0≤s+a.2;omega,by show s+a.2+sumW (L.eraseIdx j) _=_;omega⟩ f4 (slots_cons rfl slots_nil) ⟨rfl,trivial⟩ aK aK
theorem w_frzMK {P:Program} {Q:Post} {e:Nat→AV} {σ:Sig} {t i g:Nat} {ks vs:List AV} (F:List (Nat×AV)) (S:List (Nat×(Nat×Res))) (h1:e t= .map i g) (hσ:σ i=(g,.row [.mpv ks vs])) (hF:slots F (frzME i g ks vs e)) (hS:slots S (frzMS i g ks vs σ))
  (hk:∀e' σ',Q .nor (updL F e') (updL S σ')):awp P (.frz (.t t)) Q e σ:=by
 show frzW (e t) e σ (Q .nor)
 rw[h1]
 show (match σ i with|(g',.row [.mpv ks vs])=>g=g'∧Q .nor (frzME i g ks vs e) (frzMS i g ks vs σ) | _=>False)
 rw[hσ]
 refine⟨rfl,?_⟩
 have:=hk (frzME i g ks vs e) (frzMS i g ks vs σ)
 rw[updL_slots hF,updL_slots hS] at this
 exact this
theorem renL_nI (ρ:List (Nat×Nat)):∀l:List Int,renL ρ (nI l)=nI l
 | []=>rfl
 | a::l=>by
   show ren ρ (AV.int .i64 a)::renL ρ (nI l)=_
   rw[renL_nI ρ l];rfl
theorem ren_bg (ρ:List (Nat×Nat)) (B:List Int):ren ρ (bgV B)=bgV B:=by
 show AV.agg (renL ρ (nI B))=_
 rw[renL_nI]
theorem ACall.bgbg {P:Program} {f:Nat} {B C:List Int} {a1 a2:AV} {σ:Sig} {d:Nat} {Q:AV→Sig→Prop} (h:Fn0 P f [bgV B,a1] (fun a=>a=bgV C)) (ha:a1=ren [] a2) (hQ:Q (bgV C) σ):ACall P f [bgV B,a2] σ d Q:=
 ACall.val h (by show[bgV B,a1]=[ren [] (bgV B),ren [] a2];rw[ren_bg,ha]) (ren_bg [] C) hQ
theorem frzME_at {i g t:Nat} {ks vs:List AV} {e:Nat→AV} (h:e t= .map i g):frzME i g ks vs e t= .fmp ks vs:=by simp[frzME,h,frzM]
theorem dealt_c (d:Dl) (W:Wt) (hp:∀x∈W,0<x.2) (hk:∀x∈W,bgIn x.1) (hb:sumW W (fun _=>1)<2^60) (h2:d.kind=2→(0≤d.bag∧d.bag≤3)∧(0≤d.wood∧d.wood≤5)∧0≤d.count∧d.count≤1000000) (h3:d.kind=3→(0≤d.bag∧d.bag≤3)∧(0≤d.other∧d.other≤3)∧d.bag≠d.other):
  Fn0 Tryz.prog 95 [stV W,dlA d] (fun v=>∃W',v=stV W'∧StOut W' (fun V=>sumW W fun B=>V (mixedB d B)) (fun B=>∃y∈W,B=mixedB d y.1)):=by
 have hmix:=fun x (hx:x∈W)=>mixed_c d x.1 (hk x hx) h2 h3
 have hml:∀x∈W,(mixedB d x.1).length=24:=fun x hx=>by
  unfold mixedB
  split
  · unfold bgAdd;rw[List.length_set];exact (hk x hx).l
  · split
    · simp[bgPour]
    · exact (hk x hx).l
 refine RawC.walk (H:=hint95 Tryz.prog) ir95 Tryz.func95 rfl (by kernel_rfl) rfl ?_
 unfold ir95
 repeat' (first
  | with_reducible refine Rd.p ?_
  | with_reducible (first|refine zI fun y hy=>?_|refine zL ?_|refine zS ?_|refine zV ?_|refine zC ?_)
  | refine aX ?_|with_reducible intro _
  | with_reducible refine zJ ?_ fun y hy=>?_|refine aP ?_ ?_)
 rename_i g3 g8 g10
 refine w_loopK [3,5,10] [3] (fun x:Wt×Wt×List AV=>(∀y∈x.1,y∈W)∧(x.2.1.map (·.1)).Nodup∧(∀y∈x.2.1,0<y.2)∧(∀y∈x.2.1,∃z∈W,y.1=mixedB d z.1)∧ ∀V,sumW x.2.1 V+sumW x.1 (fun B=>V (mixedB d B))=sumW W fun B=>V (mixedB d B)) (fun x=>x.1.length) (fun _=>[])
  (fun x=>[(8,(g8,.row [.mpv (wK x.2.1) (wV x.2.1)])),(10,(g10,.row [.itv x.2.2 (wK x.1) (wV x.1)]))]) (W,[],[]) ⟨fun y hy=>hy,List.nodup_nil,(fun y hy=>by cases hy),(fun y hy=>by cases hy),fun V=>by simp[sumW]⟩ trivial ⟨rfl,rfl,trivial⟩ ?_
 rintro⟨L,O,cur⟩ ⟨q1,q2,q3,q4,q5⟩ e σ
 dsimp only at q1 q2 q3 q4 q5 ⊢
 have q1p:∀y∈L,0<y.2:=fun y hy=>hp y (q1 y hy)
 by_cases hL:L=[]
 · subst hL
   repeat' (first
    | with_reducible refine Rd.p ?_
    | (refine w_nxtE rfl rfl ?_)
    | with_reducible (first|refine zI fun y hy=>?_|refine zL ?_|refine zS ?_|refine zV ?_|refine zC ?_)
    | refine aX ?_|with_reducible intro _
    | with_reducible refine zJ ?_ fun y hy=>?_|refine aP ?_ ?_)
   refine w_frzMK [(5,stV O)] [] rfl rfl ⟨frzME_at rfl,trivial⟩ trivial ?_
   intro e2 σ2
   repeat' (first
    | with_reducible refine Rd.p ?_
    | with_reducible (first|refine zI fun y hy=>?_|refine zL ?_|refine zS ?_|refine zV ?_|refine zC ?_)
    | refine aX ?_|with_reducible intro _
    | with_reducible refine zJ ?_ fun y hy=>?_|refine aP ?_ ?_)
   exact⟨O,rfl,q2,q3,fun V=>by rw[←q5 V];simp[sumW],q4⟩
 have hO24:∀x∈O,x.1.length=24:=fun x hx=>by obtain⟨z,hz,e⟩:=q4 x hx;rw[e];exact hml z hz
 have h1:sumW O (fun _=>1)+sumW L (fun _=>1)=sumW W fun _=>1:=q5 fun _=>1
 have hLn:=sumW_nn (W:=L) (V:=fun _=>1) q1p fun _ _=>by decide
 have hOn:=sumW_nn (W:=O) (V:=fun _=>1) q3 fun _ _=>by decide
 repeat' (first
  | with_reducible refine Rd.p ?_
  | (first|(refine w_nxtC (fun x:List Int×Int=>bgV x.1) (fun x:List Int×Int=>AV.int .i64 x.2) rfl rfl hL ?_;intro j a hja;obtain⟨f0,f1,f2,f3,f4⟩:=erase_fact q1p hja;have fl:=(hk a (q1 a f0)).l;have fg:=wget_bd q3 (mixedB d a.1);have fm:=hml a (q1 a f0))|refine w_stN rfl rfl rfl rfl fl ?_|refine w_ldN rfl rfl fl ?_|refine w_mlkW rfl rfl rfl fm hO24 ?_|refine w_mlkV rfl rfl rfl fm (wins_len fm hO24) (wget_wins _ _) ?_|refine w_menW rfl rfl rfl fm hO24 ?_|refine w_mstW rfl rfl rfl rfl ?_)
  | with_reducible (first|refine zI fun y hy=>?_|refine zL ?_|refine zS ?_|refine zV ?_|refine zC ?_)
  | ((with_reducible refine aC ?_);first|(refine ACall.bgbg (hmix a (q1 a f0)) rfl ?_))
  | refine aX ?_|with_reducible intro _
  | with_reducible refine zJ ?_ fun y hy=>?_|refine aP ?_ ?_)
 all_goals exact q_loop (L.eraseIdx j,addW O (mixedB d a.1) a.2,_) ⟨fun y hy=>q1 y (mem_erase hy),addW_nd _ _ _ q2,addW_pos q3 f1,addW_key (I:=fun B=>∃z∈W,B=mixedB d z.1) q4 ⟨a,q1 a f0,rfl⟩,fun V=>by
  have e1:=sumW_erase (fun B=>V (mixedB d B)) hja
  have e2:=q5 V
  show sumW (addW O (mixedB d a.1) a.2) V+sumW (L.eraseIdx j) _=_
  rw[sumW_add]
  omega⟩    f4 trivial ⟨rfl,rfl,trivial⟩ aK aK
theorem drawB_len {B:List Int} (h:B.length=24) (i j:Int):(drawB B i j).length=24:=by
 unfold drawB bgAdd;rw[List.length_set];exact h
theorem w_stElC {P:Program} {K:(Nat→AV)→Sig→Prop} {e:Nat→AV} {σ:Sig} {x v:IOpd} {r:List IStep} {i g:Nat} {B C:List Int} {off p:Nat} {a:Int} (hx:x.ev e= .ref i g off) (ho:off=p) (hσ:σ i=(g,.row (nI B))) (hp:p<B.length) (hv:v.ev e= .int .i64 a) (hC:B.set p a=C) (hk:stepsW P r K e (upd σ i (g,.row (nI C)))):stepsW P (⟨none,none,.st 1 x v⟩::r) K e σ:=
 w_stEl hx ho hσ hp hv (by rw[hC];exact hk)
theorem drawB_set (B:List Int) (i j:Int):B.set (i.toNat*6+j.toNat) (B.getD (i.toNat*6+j.toNat) 0-1)=drawB B i j:=rfl
theorem drawn_c (bag wood:Int) (W:Wt) (hb:0≤bag∧bag≤3) (hw:0≤wood∧wood≤5) (hp:∀x∈W,0<x.2) (hk:∀x∈W,bgIn x.1) (hs1:sumW W (fun _=>1)<2^60) (hs:sumW W (fun B=>bgAt B bag wood)<2^60):
  Fn0 Tryz.prog 94 [stV W,.int .i64 bag,.int .i64 wood] (fun v=>∃W',v=stV W'∧StOut W' (fun V=>sumW W fun B=>bgAt B bag wood*V (drawB B bag wood)) (fun B=>∃y∈W,0<bgAt y.1 bag wood∧B=drawB y.1 bag wood)):=by
 have hnn:∀x∈W,0≤bgAt x.1 bag wood:=fun x hx=>((hk x hx).at _).1
 have ho:0+bag.toNat*6+wood.toNat*1=bag.toNat*6+wood.toNat:=by omega
 refine RawC.walk (H:=hint94 Tryz.prog) ir94 Tryz.func94 rfl (by kernel_rfl) rfl ?_
 unfold ir94
 repeat' (first
  | with_reducible refine Rd.p ?_
  | with_reducible (first|refine zI fun y hy=>?_|refine zL ?_|refine zS ?_|refine zV ?_|refine zC ?_)
  | refine aX ?_|with_reducible intro _
  | with_reducible refine zJ ?_ fun y hy=>?_|refine aP ?_ ?_)
 rename_i g11 g13
 refine w_loopK [1,2,7,13] [] (fun x:Wt×Wt×List AV=>(∀y∈x.1,y∈W)∧(x.2.1.map (·.1)).Nodup∧(∀y∈x.2.1,0<y.2)∧(∀y∈x.2.1,∃z∈W,0<bgAt z.1 bag wood∧y.1=drawB z.1 bag wood)∧ ∀V,sumW x.2.1 V+sumW x.1 (fun B=>bgAt B bag wood*V (drawB B bag wood))=sumW W fun B=>bgAt B bag wood*V (drawB B bag wood)) (fun x=>x.1.length) (fun _=>[])
  (fun x=>[(11,(g11,.row [.mpv (wK x.2.1) (wV x.2.1)])),(13,(g13,.row [.itv x.2.2 (wK x.1) (wV x.1)]))]) (W,[],[]) ⟨fun y hy=>hy,List.nodup_nil,(fun y hy=>by cases hy),(fun y hy=>by cases hy),fun V=>by simp[sumW]⟩ trivial ⟨rfl,rfl,trivial⟩ ?_
 rintro⟨L,O,cur⟩ ⟨q1,q2,q3,q4,q5⟩ e σ
 dsimp only at q1 q2 q3 q4 q5 ⊢
 have q1p:∀y∈L,0<y.2:=fun y hy=>hp y (q1 y hy)
 by_cases hL:L=[]
 · subst hL
   repeat' (first
    | with_reducible refine Rd.p ?_
    | (refine w_nxtE rfl rfl ?_)
    | with_reducible (first|refine zI fun y hy=>?_|refine zL ?_|refine zS ?_|refine zV ?_|refine zC ?_)
    | refine aX ?_|with_reducible intro _
    | with_reducible refine zJ ?_ fun y hy=>?_|refine aP ?_ ?_)
   refine w_frzMK [(7,stV O)] [] rfl rfl ⟨frzME_at rfl,trivial⟩ trivial ?_
   intro e2 σ2
   repeat' (first
    | with_reducible refine Rd.p ?_
    | with_reducible (first|refine zI fun y hy=>?_|refine zL ?_|refine zS ?_|refine zV ?_|refine zC ?_)
    | refine aX ?_|with_reducible intro _
    | with_reducible refine zJ ?_ fun y hy=>?_|refine aP ?_ ?_)
   exact⟨O,rfl,q2,q3,fun V=>by rw[←q5 V];simp[sumW],q4⟩
 have hO24:∀x∈O,x.1.length=24:=fun x hx=>by obtain⟨z,hz,_,e⟩:=q4 x hx;rw[e];exact drawB_len (hk z hz).l _ _
 have h1:sumW O (fun _=>1)+sumW L (fun B=>bgAt B bag wood*1)=sumW W fun B=>bgAt B bag wood*1:=q5 fun _=>1
 have h1a:sumW L (fun B=>bgAt B bag wood*1)=sumW L fun B=>bgAt B bag wood:=sumW_congr fun x _=>Int.mul_one _
 have h1b:sumW W (fun B=>bgAt B bag wood*1)=sumW W fun B=>bgAt B bag wood:=sumW_congr fun x _=>Int.mul_one _
 rw[h1a,h1b] at h1
 have hWn:∀x∈W,x.2≤sumW W fun _=>1:=fun x hx=>by have:=sumW_mem (V:=fun _=>1) hp (fun _ _=>by decide) x hx;omega
 repeat' (first
  | with_reducible refine Rd.p ?_
  | (first|(refine w_nxtC (fun x:List Int×Int=>bgV x.1) (fun x:List Int×Int=>AV.int .i64 x.2) rfl rfl hL ?_;intro j a hja;obtain⟨f0,f1,f2,f3,f4⟩:=erase_fact q1p hja;have fl:=(hk a (q1 a f0)).l;have fa:=(hk a (q1 a f0)).at (bag.toNat*6+wood.toNat);have fm:=drawB_len fl bag wood;have fg:=wget_bd q3 (drawB a.1 bag wood);have fx:a.2*a.1.getD (bag.toNat*6+wood.toNat) 0≤sumW L (fun B=>bgAt B bag wood):=sumW_mem q1p (fun x hx=>hnn x (q1 x hx)) a f0;have fy:0≤a.2*a.1.getD (bag.toNat*6+wood.toNat) 0:=Int.mul_nonneg (Int.le_of_lt f1) fa.1)|refine w_stN rfl rfl rfl rfl fl ?_|refine w_ldEl rfl ho rfl (by omega) ?_|refine w_stElC rfl ho rfl (by omega) rfl (drawB_set a.1 bag wood) ?_|refine w_ldN rfl rfl fm ?_|refine w_mlkW rfl rfl rfl fm hO24 ?_|refine w_mlkV rfl rfl rfl fm (wins_len fm hO24) (wget_wins _ _) ?_|refine w_menW rfl rfl rfl fm hO24 ?_|refine w_mstW rfl rfl rfl rfl ?_)
  | with_reducible (first|refine zI fun y hy=>?_|refine zL ?_|refine zS ?_|refine zV ?_|refine zC ?_)
  | refine aX ?_|with_reducible intro _
  | with_reducible refine zJ ?_ fun y hy=>?_|refine aP ?_ ?_)
 all_goals first
  | (exfalso;omega)
  | exact q_loop (L.eraseIdx j,addW O (drawB a.1 bag wood) (a.2*a.1.getD (bag.toNat*6+wood.toNat) 0),_) ⟨fun y hy=>q1 y (mem_erase hy),addW_nd _ _ _ q2,addW_pos q3 (Int.mul_pos f1 (by assumption)),addW_key (I:=fun B=>∃z∈W,0<bgAt z.1 bag wood∧B=drawB z.1 bag wood) q4 ⟨a,q1 a f0,by assumption,rfl⟩,fun V=>by
     have e1:=sumW_erase (fun B=>bgAt B bag wood*V (drawB B bag wood)) hja
     have e2:=q5 V
     show sumW (addW O (drawB a.1 bag wood) _) V+sumW (L.eraseIdx j) _=_
     rw[sumW_add]
     have e3:a.2*a.1.getD (bag.toNat*6+wood.toNat) 0*V (drawB a.1 bag wood)=a.2*(bgAt a.1 bag wood*V (drawB a.1 bag wood)):=Int.mul_assoc _ _ _
     rw[e3]
     omega⟩ f4 trivial ⟨rfl,  rfl,trivial⟩ aK aK
  | exact q_loop (L.eraseIdx j,O,_) ⟨fun y hy=>q1 y (mem_erase hy),q2,q3,q4,fun V=>by
     have e1:=sumW_erase (fun B=>bgAt B bag wood*V (drawB B bag wood)) hja
     have e2:=q5 V
     have e0:bgAt a.1 bag wood=0:=by
      have h9:¬0<a.1.getD (bag.toNat*6+wood.toNat) 0:=by assumption
      unfold bgAt;omega
     rw[e0,Int.zero_mul,Int.mul_zero,Int.zero_add] at e1
     show sumW O V+sumW (L.eraseIdx j) _=_
     omega⟩ f4 trivial ⟨rfl,  rfl,trivial⟩ aK aK
theorem ren_st (ρ:List (Nat×Nat)) (W:Wt):ren ρ (stV W)=stV W:=rfl
theorem ACall.st {P:Program} {f:Nat} {W:Wt} {as0 bs:List AV} {R:Wt→Prop} {σ:Sig} {d:Nat} {Q:AV→Sig→Prop} (h:Fn0 P f (stV W::as0) (fun v=>∃D,v=stV D∧R D)) (ha:as0=renL [] bs) (hQ:∀D,R D→Q (stV D) σ):ACall P f (stV W::bs) σ d Q:=
 ACall.fn0 h (by show _=ren [] (stV W)::renL [] bs;rw[ren_st,ha]) fun av hav=>by
  obtain⟨D,rfl,hD⟩:=hav
  rw[ren_st];exact hQ D hD
def nSum:Nat→(Int→Int)→Int
 | 0,_=>0
 | n+1,f=>nSum n f+f n
theorem nSum_nn {f:Int→Int}:∀{n:Nat},(∀k:Nat,k<n→0≤f k)→0≤nSum n f
 | 0,_=>Int.le_refl _
 | n+1,h=>by
   have:=nSum_nn fun k hk=>h k (Nat.lt_succ_of_lt hk)
   have:=h n (Nat.lt_succ_self n)
   rw[nSum];omega
theorem nSum_mem {f:Int→Int}:∀{n:Nat},(∀k:Nat,k<n→0≤f k)→ ∀k:Nat,k<n→f k≤nSum n f
 | 0,_,k,hk=>by omega
 | n+1,h,k,hk=>by
   have h0:=nSum_nn fun k hk=>h k (Nat.lt_succ_of_lt hk)
   have h1:=h n (Nat.lt_succ_self n)
   rw[nSum]
   by_cases e:k=n
   · subst e;omega
   · have:=nSum_mem (fun k hk=>h k (Nat.lt_succ_of_lt hk)) k (by omega)
     omega
theorem nSum_mono {f:Int→Int} {n:Nat} (h:∀k:Nat,k<n→0≤f k):∀{m:Nat},m≤n→nSum m f≤nSum n f:=by
 intro m hm
 induction n with
 | zero=>rw[Nat.le_zero.1 hm];exact Int.le_refl _
 | succ n ih=>
   by_cases e:m=n+1
   · rw[e];exact Int.le_refl _
   · have:=ih (fun k hk=>h k (Nat.lt_succ_of_lt hk)) (by omega)
     have:=h n (Nat.lt_succ_self n)
     rw[nSum];omega
theorem nSum_congr {f g:Int→Int}:∀{n:Nat},(∀k:Nat,k<n→f k=g k)→nSum n f=nSum n g
 | 0,_=>rfl
 | n+1,h=>by rw[nSum,nSum,nSum_congr fun k hk=>h k (Nat.lt_succ_of_lt hk),h n (Nat.lt_succ_self n)]
theorem sumW_plus (U V:List Int→Int):∀W:Wt,sumW W (fun B=>U B+V B)=sumW W U+sumW W V
 | []=>rfl
 | (B,n)::r=>by
   show n*(U B+V B)+sumW r (fun B=>U B+V B)=(n*U B+sumW r U)+(n*V B+sumW r V)
   rw[sumW_plus U V r,Int.mul_add];omega
theorem aside_c (bag:Int) (n:Nat) (W:Wt) (hb:0≤bag∧bag≤3) (hn:n≤6) (hp:∀x∈W,0<x.2) (hk:∀x∈W,bgIn x.1) (hs1:sumW W (fun _=>1)<2^60) (hs:sumW W (fun B=>nSum n fun w=>bgAt B bag w)<2^60):
  Fn0 Tryz.prog 58 [stV W,.int .i64 bag,.int .i64 n] (fun v=>∃W',v=stV W'∧StOut W' (fun V=>sumW W fun B=>nSum n fun w=>bgAt B bag w*V (drawB B bag w)) (fun B=>∃y∈W,∃w:Nat,w<n∧0<bgAt y.1 bag w∧B=drawB y.1 bag w)):=by
 have hnn:∀(w:Int),∀x∈W,0≤bgAt x.1 bag w:=fun w x hx=>((hk x hx).at _).1
 have hle:∀w:Nat,w<n→sumW W (fun B=>bgAt B bag w)<2^60:=fun w hw=>by
  have:=sumW_le (W:=W) (V:=fun B=>bgAt B bag w) (U:=fun B=>nSum n fun w=>bgAt B bag w) hp fun x hx=>nSum_mem (f:=fun w=>bgAt x.1 bag w) (fun k _=>hnn k x hx) w hw
  omega
 refine RawC.walk (H:=hint58 Tryz.prog) ir58 Tryz.func58 rfl (by kernel_rfl) rfl ?_
 unfold ir58
 repeat' (first
  | with_reducible refine Rd.p ?_
  | with_reducible (first|refine zI fun y hy=>?_|refine zL ?_|refine zS ?_|refine zV ?_|refine zC ?_)
  | refine aX ?_|with_reducible intro _
  | with_reducible refine zJ ?_ fun y hy=>?_|refine aP ?_ ?_)
 rename_i g11
 refine w_loopK [0,1,7,12] [] (fun x:Nat×Wt=>x.1≤n∧(x.2.map (·.1)).Nodup∧(∀y∈x.2,0<y.2)∧(∀y∈x.2,∃z∈W,∃w:Nat,w<n∧0<bgAt z.1 bag w∧y.1=drawB z.1 bag w)∧ ∀V,sumW x.2 V=sumW W fun B=>nSum x.1 fun w=>bgAt B bag w*V (drawB B bag w)) (fun x=>n-x.1) (fun x=>[(13,.int .i64 (x.1:Int))])
  (fun x=>[(11,(g11,.row [.mpv (wK x.2) (wV x.2)]))]) (0,[]) ⟨Nat.zero_le _,List.nodup_nil,(fun y hy=>by cases hy),(fun y hy=>by cases hy),fun V=>by
    have:∀U:Wt,sumW U (fun _=>(0:Int))=0:=fun U=>by induction U with
     | nil=>rfl
     | cons a r ih=>obtain⟨B,m⟩:=a;show m*0+sumW r (fun _=>(0:Int))=0;rw[ih];omega
    exact (this W).symm⟩ ⟨rfl,trivial⟩ ⟨rfl,trivial⟩ ?_
 rintro⟨i,O⟩ ⟨q0,q1,q2,q3,q4⟩ e σ
 dsimp only at q0 q1 q2 q3 q4 ⊢
 by_cases hi:i=n
 · subst hi
   repeat' (first
    | with_reducible refine Rd.p ?_
    | with_reducible (first|refine zI fun y hy=>?_|refine zL ?_|refine zS ?_|refine zV ?_|refine zC ?_)
    | refine aX ?_|with_reducible intro _
    | with_reducible refine zJ ?_ fun y hy=>?_|refine aP ?_ ?_)
   all_goals first
    | (exfalso;omega)
    | skip
   refine w_frzMK [(7,stV O)] [] rfl rfl ⟨frzME_at rfl,trivial⟩ trivial ?_
   intro e2 σ2
   repeat' (first
    | with_reducible refine Rd.p ?_
    | with_reducible (first|refine zI fun y hy=>?_|refine zL ?_|refine zS ?_|refine zV ?_|refine zC ?_)
    | refine aX ?_|with_reducible intro _
    | with_reducible refine zJ ?_ fun y hy=>?_|refine aP ?_ ?_)
   exact⟨O,rfl,q1,q2,q4,q3⟩
 have hO24:∀x∈O,x.1.length=24:=fun x hx=>by obtain⟨z,hz,w,_,_,e⟩:=q3 x hx;rw[e];exact drawB_len (hk z hz).l _ _
 have hOb:sumW O (fun _=>1)=sumW W fun B=>nSum i fun w=>bgAt B bag w*1:=q4 fun _=>1
 have hlt:i<n:=by omega
 repeat' (first
  | with_reducible refine Rd.p ?_
  | with_reducible (first|refine zI fun y hy=>?_|refine zL ?_|refine zS ?_|refine zV ?_|refine zC ?_)
  | ((with_reducible refine aC ?_);first|((refine ACall.st (drawn_c bag i W hb (by omega) hp hk hs1 (hle i hlt)) rfl ?_;intro D hD)))
  | refine aX ?_|with_reducible intro _
  | with_reducible refine zJ ?_ fun y hy=>?_|refine aP ?_ ?_)
 rename_i g20
 refine w_loopK [0,1,7,12,13,20] [] (fun x:Wt×Wt×List AV=>(∀y∈x.1,y∈D)∧(x.2.1.map (·.1)).Nodup∧(∀y∈x.2.1,0<y.2)∧(∀y∈x.2.1,∃z∈W,∃w:Nat,w<n∧0<bgAt z.1 bag w∧y.1=drawB z.1 bag w)∧ ∀V,sumW x.2.1 V+sumW x.1 V=sumW O V+sumW D V) (fun x=>x.1.length) (fun _=>[])
  (fun x=>[(11,(g11,.row [.mpv (wK x.2.1) (wV x.2.1)])),(20,(g20,.row [.itv x.2.2 (wK x.1) (wV x.1)]))]) (D,O,[]) ⟨fun y hy=>hy,q1,q2,q3,fun V=>rfl⟩ trivial ⟨rfl,rfl,trivial⟩ ?_
 rintro⟨L,U,cur⟩ ⟨p1,p2,p3,p4,p5⟩ e1 σ1
 dsimp only at p1 p2 p3 p4 p5 ⊢
 have p1p:∀y∈L,0<y.2:=fun y hy=>hD.pos y (p1 y hy)
 by_cases hL:L=[]
 · subst hL
   repeat' (first
    | with_reducible refine Rd.p ?_
    | (refine w_nxtE rfl rfl ?_)
    | with_reducible (first|refine zI fun y hy=>?_|refine zL ?_|refine zS ?_|refine zV ?_|refine zC ?_)
    | refine aX ?_|with_reducible intro _
    | with_reducible refine zJ ?_ fun y hy=>?_|refine aP ?_ ?_)
   all_goals first
    | (exfalso;omega)
    | exact q_loop (i+1,U) ⟨hlt,p2,p3,p4,fun V=>by
       have e1:=p5 V
       have e2:=q4 V
       have e3:=hD.sum V
       have e4:=sumW_plus (fun B=>nSum i fun w=>bgAt B bag w*V (drawB B bag w)) (fun B=>bgAt B bag i*V (drawB B bag i)) W
       have e5:sumW ([]:Wt) V=0:=rfl
       show sumW U V=sumW W fun B=>nSum i (fun w=>bgAt B bag w*V (drawB B bag w))+bgAt B bag i*V (drawB B bag i)
       omega⟩ (by show n-(i+1)<n-i;omega) ⟨rfl,trivial⟩ ⟨rfl,trivial⟩ aK aK
 have hD24:∀x∈D,x.1.length=24:=fun x hx=>by obtain⟨z,hz,_,e⟩:=hD.key x hx;rw[e];exact drawB_len (hk z hz).l _ _
 have hU24:∀x∈U,x.1.length=24:=fun x hx=>by obtain⟨z,hz,w,_,_,e⟩:=p4 x hx;rw[e];exact drawB_len (hk z hz).l _ _
 have h1:sumW U (fun _=>1)+sumW L (fun _=>1)=sumW O (fun _=>1)+sumW D fun _=>1:=p5 fun _=>1
 have h2:sumW D (fun _=>1)=sumW W fun B=>bgAt B bag i*1:=hD.sum fun _=>1
 have h3:=sumW_plus (fun B=>nSum i fun w=>bgAt B bag w*1) (fun B=>bgAt B bag i*1) W
 have h4:sumW W (fun B=>nSum i (fun w=>bgAt B bag w*1)+bgAt B bag i*1)≤sumW W fun B=>nSum n fun w=>bgAt B bag w:=sumW_le hp fun x hx=>by
  show nSum i (fun w=>bgAt x.1 bag w*1)+bgAt x.1 bag i*1≤_
  have:=nSum_mono (f:=fun w=>bgAt x.1 bag w) (n:=n) (fun k _=>hnn k x hx) (show i+1≤n from hlt)
  have e0:nSum i (fun w=>bgAt x.1 bag w*1)=nSum i fun w=>bgAt x.1 bag w:=nSum_congr fun k _=>Int.mul_one _
  rw[nSum] at this
  rw[e0,Int.mul_one]
  exact this
 have hUn:=sumW_nn (W:=U) (V:=fun _=>1) p3 fun _ _=>by decide
 have hLn:=sumW_nn (W:=L) (V:=fun _=>1) p1p fun _ _=>by decide
 repeat' (first
  | with_reducible refine Rd.p ?_
  | (first|(refine w_nxtC (fun x:List Int×Int=>bgV x.1) (fun x:List Int×Int=>AV.int .i64 x.2) rfl rfl hL ?_;intro j a hja;obtain⟨f0,f1,f2,f3,f4⟩:=erase_fact p1p hja;have fm:=hD24 a (p1 a f0);have fg:=wget_bd p3 a.1)|refine w_stN rfl rfl rfl rfl fm ?_|refine w_ldN rfl rfl fm ?_|refine w_mlkW rfl rfl rfl fm hU24 ?_|refine w_mlkV rfl rfl rfl fm (wins_len fm hU24) (wget_wins _ _) ?_|refine w_menW rfl rfl rfl fm hU24 ?_|refine w_mstW rfl rfl rfl rfl ?_)
  | with_reducible (first|refine zI fun y hy=>?_|refine zL ?_|refine zS ?_|refine zV ?_|refine zC ?_)
  | refine aX ?_|with_reducible intro _
  | with_reducible refine zJ ?_ fun y hy=>?_|refine aP ?_ ?_)
 all_goals first
  | (exfalso;omega)
  | exact q_loop (L.eraseIdx j,addW U a.1 a.2,_) ⟨fun y hy=>p1 y (mem_erase hy),addW_nd _ _ _ p2,addW_pos p3 f1,addW_key (I:=fun B=>∃z∈W,∃w:Nat,w<n∧0<bgAt z.1 bag w∧B=drawB z.1 bag w) p4 (by obtain⟨z,hz,h8,h9⟩:=hD.key a (p1 a f0);exact⟨z,hz,i,hlt,h8,h9⟩),fun V=>by
     have e1:=sumW_erase V hja
     have e2:=p5 V
     show sumW (addW U a.1 a.2) V+sumW (L.eraseIdx j) _=_
     rw[sumW_add]
     omega⟩ f4 trivial ⟨rfl,  rfl,trivial⟩ aK aK
def ir56:IFn:=
 ⟨42,[(2,none)],(.seq (.ops [oo 1 (.box 2 0),oo 2 (.mov (.k .nsl))])
 (.seq (.ops [oo 3 (.nil 7 3)])
 (.seq (.seq (.ops [oo 8 (.flA 1 1),oo 9 (.ld 1 false 8),oo 10 (.len false 9),oo 11 (.mov (kI 0))])
 (.blk 0 (.loop (.seq (.ops [oo 12 (.bin .lss 11 10)])
 (.seq (.cnd 12
 .skip
 (.exit 0))
 (.seq (.blk 1 (.seq (.ops [oo 13 (.ixA 5 9 11),oo 14 (.ld 5 true 13),oo 5 (.new [(.int .i64 0),(.int .i64 0),(.int .i64 0),(.int .i64 0),(.int .i64 0)]),
 ⟨none,none,(.st 5 5 14)⟩])
 (.seq (.ops [oo 16 (.ld 5 true 5),oo 17 (.callF 52 [16]),oo 15 (.mov 17),oo 18 (.ext 0 15),oo 19 (.ext 1 15),oo 6 (.mov 18),oo 7 (.mov 19)])
 (.seq (.seq (.ops [oo 20 (.mov 6),oo 21 (.mov (kI 0))])
 (.blk 2 (.loop (.seq (.ops [oo 22 (.bin .lss 21 20)])
 (.seq (.cnd 22
 .skip
 (.exit 2))
 (.seq (.blk 3 (.ops [oo 23 (.mov 3),oo 24 (.ld 5 true 5),oo 25 (.mov 7),oo 26 (.bld [(.int .i64 0),(.int .i64 0),(.int .i64 0),(.int .i64 0),(.int .i64 0),(.bool false),(.bool false)] [(0,5,24),(5,1,(kB true)),(6,1,25)]),oo 27 (.bsl 7 [[(.int .i64 0),(.int .i64 0),(.int .i64 0),(.int .i64 0),(.int .i64 0),(.bool false),(.bool false)]] [(0,26)]),oo 28 (.app 7 48 23 27 3),oo 3 (.mov 28)]))
 (.ops [oo 29 (.bin .add 21 (kI 1)),oo 21 (.mov 29)])))))))
 (.seq (.ops [oo 30 (.mov 6),oo 31 (.bin .eql 30 (kI 0))])
 (.cnd 31
 (.ops [oo 32 (.mov 3),oo 33 (.ld 5 true 5),oo 34 (.flA 0 5),oo 35 (.ld 1 false 34),oo 36 (.bin .eql 35 (kI 6)),oo 37 (.bld [(.int .i64 0),(.int .i64 0),(.int .i64 0),(.int .i64 0),(.int .i64 0),(.bool false),(.bool false)] [(0,5,33),(5,1,(kB false)),(6,1,36)]),oo 38 (.bsl 7 [[(.int .i64 0),(.int .i64 0),(.int .i64 0),(.int .i64 0),(.int .i64 0),(.bool false),(.bool false)]] [(0,37)]),oo 39 (.app 7 48 32 38 3),oo 3 (.mov 39)])
 .skip))))))
 (.ops [oo 40 (.bin .add 11 (kI 1)),oo 11 (.mov 40)])))))))
 (.seq (.ops [oo 41 (.mov 3),oo 2 (.mov 41)])
 .ret))))⟩
def hint56 (P:Program):Hint:={site:=[(28,3),(39,3)],nils:=[(3,7)],frz:=[],mve:=[],wr:=[] }
abbrev Sp:=Dl×Bool×Bool
abbrev spR (l:List Sp):List (List AV):=l.map fun x=>[.int .i64 x.1.kind,.int .i64 x.1.bag,.int .i64 x.1.other,.int .i64 x.1.wood,.int .i64 x.1.count,.bool x.2.1,.bool x.2.2]
def stp1 (d:Dl):List Sp:=if drawsB d=true then List.replicate d.count.toNat (d,true,decide (d.kind=5)) else[(d,false,decide (d.kind=6))]
def stepsG (l:List Dl):List Sp:=l.flatMap stp1
theorem stp1_len {d:Dl} (h:drawsB d=true→1≤d.count∧d.count≤12):(stp1 d).length≤12:=by
 unfold stp1
 split
 · rw[List.length_replicate];have:=h (by assumption);omega
 · simp
theorem sp_snoc (out:List Sp) (d:Dl) (b c:Bool) (g:Nat):AV.slc 7 (spR out++[[.int .i64 d.kind,.int .i64 d.bag,.int .i64 d.other,.int .i64 d.wood,.int .i64 d.count,.bool b,.bool c]]) (.own 3 g)=AV.slc 7 (spR (out++[(d,b,c)])) (.own 3 g):=
 congrArg (fun z=>AV.slc 7 z (.own 3 g)) (map_snoc (f:=fun x:Sp=>[AV.int .i64 x.1.kind,.int .i64 x.1.bag,.int .i64 x.1.other,.int .i64 x.1.wood,.int .i64 x.1.count,.bool x.2.1,.bool x.2.2]) (x:=(d,b,c))).symm
theorem steps_c (G:Gm) (hd:G.ds.length≤24) (hc:∀d∈G.ds,drawsB d=true→1≤d.count∧d.count≤12):Fn0 Tryz.prog 56 [gmA G] (fun v=>v= .slc 7 (spR (stepsG G.ds)) .non):=by
 refine RawC.walk (H:=hint56 Tryz.prog) ir56 Tryz.func56 rfl rfl rfl ?_
 unfold ir56
 repeat' (first
  | with_reducible refine Rd.p ?_
  | with_reducible (first|refine zI fun y hy=>?_|refine zL ?_|refine zS ?_|refine zV ?_|refine zC ?_)
  | refine aX ?_|with_reducible intro _
  | with_reducible refine zJ ?_ fun y hy=>?_|refine aP ?_ ?_)
 rename_i g1 g3
 refine w_loopK [9,10] [] (fun x:List Dl×List Dl×List Sp×Nat=>G.ds=x.1++x.2.1∧x.2.2.1++stepsG x.2.1=stepsG G.ds∧x.2.2.1.length≤12*x.1.length) (fun x=>x.2.1.length) (fun x=>[(11,.int .i64 (x.1.length:Int)),(3,.slc 7 (spR x.2.2.1) (.own 3 x.2.2.2))]) (fun x=>[(3,(x.2.2.2,.row []))]) ([],G.ds,[],g3) ⟨rfl,rfl,Nat.le_refl _⟩ ⟨rfl,rfl,trivial⟩ ⟨rfl,trivial⟩ ?_
 rintro⟨pre,post,out,g⟩ ⟨hl,he,ho⟩ e σ
 dsimp only at hl he ho ⊢
 have hlen:=congrArg List.length hl
 rw[List.length_append] at hlen
 have hol:(spR out).length=out.length:=List.length_map _
 cases post with
 | nil=>
   simp only[List.length_nil] at hlen
   rw[show stepsG []=[] from rfl,List.append_nil] at he
   repeat' (first
    | with_reducible refine Rd.p ?_
    | with_reducible (first|refine zI fun y hy=>?_|refine zL ?_|refine zS ?_|refine zV ?_|refine zC ?_)
    | refine aX ?_|with_reducible intro _
    | with_reducible refine zJ ?_ fun y hy=>?_|refine aP ?_ ?_)
   all_goals first
    | (exfalso;omega)
    | (rw[←he];rfl)
 | cons d post=>
   simp only[List.length_cons] at hlen
   have hdc:=hc d (by rw[hl];simp)
   have hl1:=stp1_len hdc
   have he1:out++(stp1 d++stepsG post)=stepsG G.ds:=by rw[←he];rfl
   cases hdr:drawsB d with
   | false=>
     have hdw:Fn0 Tryz.prog 52 [dlA d] (fun v=>v= .tup [.int .i64 0,.bool false]):=by have:=draws_c d;rw[hdr] at this;exact this
     have e1:stp1 d=[(d,false,decide (d.kind=6))]:=by unfold stp1;rw[hdr];rfl
     rw[e1] at he1
     repeat' (first
      | with_reducible refine Rd.p ?_
      | (refine w_ixP (f:=fun d:Dl=>[AV.int .i64 d.kind,.int .i64 d.bag,.int .i64 d.other,.int .i64 d.wood,.int .i64 d.count]) hl rfl rfl ?_)
      | with_reducible (first|refine zI fun y hy=>?_|refine zL ?_|refine zS ?_|refine zV ?_|refine zC ?_)
      | ((with_reducible refine aC ?_);first|(refine ACall.val hdw rfl rfl ?_))
      | refine aX ?_|with_reducible intro _
      | with_reducible refine zJ ?_ fun y hy=>?_|refine aP ?_ ?_)
     refine w_loopK [3,5,6,9,10,11,20] [3,5] (fun _:Unit=>True) (fun _=>0) (fun _=>[(21,.int .i64 0)]) (fun _=>[]) () trivial ⟨rfl,trivial⟩ trivial ?_
     rintro⟨⟩ _ e2 σ2
     repeat' (first
      | with_reducible refine Rd.p ?_
      | with_reducible (first|refine zI fun y hy=>?_|refine zL ?_|refine zS ?_|refine zV ?_|refine zC ?_)
      | refine aX ?_|with_reducible intro _
      | with_reducible refine zJ ?_ fun y hy=>?_|refine aP ?_ ?_)
     all_goals try (exfalso;omega)
     all_goals
      rename_i g4
      exact q_loop (pre++[d],post,out++[(d,false,decide (d.kind=6))],g4) ⟨by rw[hl];simp,by rw[←he1];simp,by show (out++[_]).length≤_;rw[List.length_append,List.length_append];simp only[List.length_cons,List.length_nil];omega⟩ (by show post.length<post.length+1;omega) ⟨by rw[len_snoc];rfl,sp_snoc out d false (decide (d.kind=6)) g4,trivial⟩ aS aK aK
   | true=>
     have hdn:=hdc hdr
     have hdw:Fn0 Tryz.prog 52 [dlA d] (fun v=>v= .tup [.int .i64 d.count,.bool (decide (d.kind=5))]):=by have:=draws_c d;rw[hdr] at this;exact this
     have e1:stp1 d=List.replicate d.count.toNat (d,true,decide (d.kind=5)):=by unfold stp1;rw[hdr];rfl
     rw[e1] at he1
     repeat' (first
      | with_reducible refine Rd.p ?_
      | (refine w_ixP (f:=fun d:Dl=>[AV.int .i64 d.kind,.int .i64 d.bag,.int .i64 d.other,.int .i64 d.wood,.int .i64 d.count]) hl rfl rfl ?_)
      | with_reducible (first|refine zI fun y hy=>?_|refine zL ?_|refine zS ?_|refine zV ?_|refine zC ?_)
      | ((with_reducible refine aC ?_);first|(refine ACall.val hdw rfl rfl ?_))
      | refine aX ?_|with_reducible intro _
      | with_reducible refine zJ ?_ fun y hy=>?_|refine aP ?_ ?_)
     rename_i g5
     refine w_loopK [5,6,7,9,10,11,20] [5] (fun x:Nat×Nat=>(x.1:Int)≤d.count) (fun x=>d.count.toNat-x.1) (fun x=>[(21,.int .i64 (x.1:Int)),(3,.slc 7 (spR (out++List.replicate x.1 (d,true,decide (d.kind=5)))) (.own 3 x.2))]) (fun x=>[(3,(x.2,.row []))]) (0,g) (by show (0:Int)≤_;omega) ⟨rfl,by show AV.slc 7 (spR out) _=AV.slc 7 (spR (out++[])) _;rw[List.append_nil],trivial⟩ ⟨rfl,trivial⟩ ?_
     rintro⟨j,g'⟩ hj e2 σ2
     dsimp only at hj ⊢
     have hol2:(spR (out++List.replicate j (d,true,decide (d.kind=5)))).length=out.length+j:=by rw[List.length_map,List.length_append,List.length_replicate]
     have hol3:(out++List.replicate j (d,true,decide (d.kind=5))).length=out.length+j:=by rw[List.length_append,List.length_replicate]
     by_cases hje:(j:Int)=d.count
     · have hjn:d.count.toNat=j:=by omega
       rw[hjn] at he1
       repeat' (first
        | with_reducible refine Rd.p ?_
        | with_reducible (first|refine zI fun y hy=>?_|refine zL ?_|refine zS ?_|refine zV ?_|refine zC ?_)
        | refine aX ?_|with_reducible intro _
        | with_reducible refine zJ ?_ fun y hy=>?_|refine aP ?_ ?_)
       all_goals first
        | (exfalso;omega)
        | exact q_loop (pre++[d],post,out++List.replicate j (d,true,decide (d.kind=5)),g') ⟨by rw[hl];simp,by rw[←he1];simp,by show (out++List.replicate j _).length≤_;rw[hol3,List.length_append];simp only[List.length_cons,List.length_nil];omega⟩ (by show post.length<post.length+1;omega) ⟨by rw[len_snoc];rfl,rfl,trivial⟩ aS aK aK
     repeat' (first
      | with_reducible refine Rd.p ?_
      | with_reducible (first|refine zI fun y hy=>?_|refine zL ?_|refine zS ?_|refine zV ?_|refine zC ?_)
      | refine aX ?_|with_reducible intro _
      | with_reducible refine zJ ?_ fun y hy=>?_|refine aP ?_ ?_)
     all_goals try (exfalso;omega)
     all_goals
      rename_i g4
      have hsn:out++List.replicate j (d,true,decide (d.kind=5))++[(d,true,decide (d.kind=5))]=out++List.replicate (j+1) (d,true,decide (d.kind=5)):=by rw[List.append_assoc,List.replicate_succ']
      refine q_loop (j+1,g4) (by show ((j+1:Nat):Int)≤_;omega) (by show d.count.toNat-(j+1)<d.count.toNat-j;omega) ⟨rfl,?_,trivial⟩ aS aK aK
      rw[←hsn]
      exact sp_snoc (out++List.replicate j (d,true,decide (d.kind=5))) d true (decide (d.kind=5)) g4
def ir57:IFn:=
 ⟨45,[(8,none)],(.seq (.ops [oo 4 (.box 7 0),oo 8 (.mov (.k .nmp))])
 (.seq (.blk 0 (.seq (.ops [oo 10 (.flA 5 4),oo 11 (.ld 1 false 10),oo 12 (.mov 11),
 ⟨(some 13),(some (12,true)),(.flA 6 4)⟩,
 ⟨(some 14),(some (12,true)),(.ld 1 false 13)⟩,oo 15 (.pick 12 14 (kB false)),oo 9 (.mov 15)])
 (.cnd 9
 (.seq (.ops [oo 16 (.mov 1),oo 17 (.flA 0 4),oo 18 (.flA 1 17),oo 19 (.ld 1 false 18),oo 20 (.mov 2),oo 21 (.callF 94 [16,19,20]),oo 8 (.mov 21)])
 .ret)
 (.seq (.ops [oo 23 (.flA 5 4),oo 24 (.ld 1 false 23),oo 22 (.mov 24)])
 (.cnd 22
 (.seq (.ops [oo 25 (.mov 1),oo 26 (.flA 0 4),oo 27 (.flA 1 26),oo 28 (.ld 1 false 27),oo 29 (.mov 3),oo 30 (.callF 58 [25,28,29]),oo 8 (.mov 30)])
 .ret)
 (.seq (.ops [oo 32 (.flA 6 4),oo 33 (.ld 1 false 32),oo 34 (.mov 33),
 ⟨(some 35),(some (34,true)),(.flA 0 4)⟩,
 ⟨(some 36),(some (34,true)),(.flA 3 35)⟩,
 ⟨(some 37),(some (34,true)),(.ld 1 false 36)⟩,
 ⟨(some 38),(some (34,true)),(.mov 2)⟩,
 ⟨(some 39),(some (34,true)),(.bin .neq 37 38)⟩,oo 40 (.pick 34 39 (kB false)),oo 31 (.mov 40)])
 (.cnd 31
 (.seq (.ops [oo 8 (.mov (.k .nmp))])
 .ret)
 .skip)))))))
 (.seq (.ops [oo 41 (.mov 1),oo 42 (.flA 0 4),oo 43 (.ld 5 true 42),oo 44 (.callF 95 [41,43]),oo 8 (.mov 44)])
 .ret)))⟩
def hint57 (P:Program):Hint:={}
def ir70:IFn:=
 ⟨19,[(2,none)],(.seq (.ops [oo 1 (.box 2 0),oo 2 (.mov (kI 0))])
 (.seq (.ops [oo 3 (.mov (kI 0))])
 (.seq (.seq (.ops [oo 6 (.ld 2 true 1),oo 7 (.callF 56 [6]),oo 8 (.len false 7),oo 9 (.mov (kI 0))])
 (.blk 0 (.loop (.seq (.ops [oo 10 (.bin .lss 9 8)])
 (.seq (.cnd 10
 .skip
 (.exit 0))
 (.seq (.blk 1 (.seq (.ops [oo 11 (.ixA 7 7 9),oo 12 (.ld 7 true 11),oo 5 (.new [(.int .i64 0),(.int .i64 0),(.int .i64 0),(.int .i64 0),(.int .i64 0),(.bool false),(.bool false)]),
 ⟨none,none,(.st 7 5 12)⟩])
 (.seq (.ops [oo 13 (.flA 6 5),oo 14 (.ld 1 false 13)])
 (.cnd 14
 (.ops [oo 15 (.mov 3),oo 16 (.bin .add 15 (kI 1)),oo 3 (.mov 16)])
 .skip))))
 (.ops [oo 17 (.bin .add 9 (kI 1)),oo 9 (.mov 17)])))))))
 (.seq (.ops [oo 18 (.mov 3),oo 2 (.mov 18)])
 .ret))))⟩
def hint70 (P:Program):Hint:={}
def nextV (x:Sp) (wood:Int) (n:Nat) (V:List Int→Int) (B:List Int):Int:=
 if x.2.1=true then (if x.2.2=true then bgAt B x.1.bag wood*V (drawB B x.1.bag wood) else nSum n fun w=>bgAt B x.1.bag w*V (drawB B x.1.bag w))
 else if x.2.2=true∧x.1.wood≠wood then 0 else V (mixedB x.1 B)
def nextB (x:Sp) (wood:Int) (n:Nat) (B C:List Int):Prop:=
 if x.2.1=true then (if x.2.2=true then 0<bgAt B x.1.bag wood∧C=drawB B x.1.bag wood else ∃w:Nat,w<n∧0<bgAt B x.1.bag w∧C=drawB B x.1.bag w)
 else C=mixedB x.1 B
structure NxIn (x:Sp) (wood:Int) (n:Nat) (W:Wt):Prop where
 hp:∀y∈W,0<y.2
 hk:∀y∈W,bgIn y.1
 hs:sumW W (fun _=>1)<2^60
 hn:n≤6
 hw:0≤wood∧wood≤5
 hd:x.2.1=true→(0≤x.1.bag∧x.1.bag≤3)∧sumW W (fun B=>nSum n fun w=>bgAt B x.1.bag w)<2^60∧sumW W (fun B=>bgAt B x.1.bag wood)<2^60
 h2:x.2.1=false→x.1.kind=2→(0≤x.1.bag∧x.1.bag≤3)∧(0≤x.1.wood∧x.1.wood≤5)∧0≤x.1.count∧x.1.count≤1000000
 h3:x.2.1=false→x.1.kind=3→(0≤x.1.bag∧x.1.bag≤3)∧(0≤x.1.other∧x.1.other≤3)∧x.1.bag≠x.1.other
def stW (W:Wt) (v:AV):Prop:=v=stV W∨(v= .nmp∧W=[])
theorem StOut.congr {W:Wt} {T U:(List Int→Int)→Int} {I J:List Int→Prop} (h:StOut W T I) (h1:∀V,T V=U V) (h2:∀B,I B→J B):StOut W U J:=
 ⟨h.nd,h.pos,fun V=>(h.sum V).trans (h1 V),fun x hx=>h2 _ (h.key x hx)⟩
theorem sumW_zero:∀U:Wt,sumW U (fun _=>(0:Int))=0
 | []=>rfl
 | (B,m)::r=>by show m*0+sumW r (fun _=>(0:Int))=0;rw[sumW_zero r];omega
theorem next_c (x:Sp) (wood:Int) (n:Nat) (W:Wt) (h:NxIn x wood n W):Fn0 Tryz.prog 57 [.agg [.int .i64 x.1.kind,.int .i64 x.1.bag,.int .i64 x.1.other,.int .i64 x.1.wood,.int .i64 x.1.count,.bool x.2.1,.bool x.2.2],stV W,.int .i64 wood,.int .i64 n] (fun v=>∃W',stW W' v∧StOut W' (fun V=>sumW W (nextV x wood n V)) (fun B=>∃y∈W,nextB x wood n y.1 B)):=by
 obtain⟨d,b,c⟩:=x
 cases b with
 | true=>
   obtain⟨h1,h2,h3⟩:=h.hd rfl
   dsimp only at h1 h2 h3
   cases c with
   | true=>
     refine RawC.walk (H:=hint57 Tryz.prog) ir57 Tryz.func57 rfl rfl rfl ?_
     unfold ir57
     repeat' (first
      | with_reducible refine Rd.p ?_
      | with_reducible (first|refine zI fun y hy=>?_|refine zL ?_|refine zS ?_|refine zV ?_|refine zC ?_)
      | ((with_reducible refine aC ?_);first|((refine ACall.st (drawn_c d.bag wood W h1 h.hw h.hp h.hk h.hs h3) rfl ?_;intro D hD)))
      | refine aX ?_|with_reducible intro _
      | with_reducible refine zJ ?_ fun y hy=>?_|refine aP ?_ ?_)
     exact⟨D,.inl rfl,hD.congr (fun V=>rfl) fun B hB=>hB⟩
   | false=>
     refine RawC.walk (H:=hint57 Tryz.prog) ir57 Tryz.func57 rfl rfl rfl ?_
     unfold ir57
     repeat' (first
      | with_reducible refine Rd.p ?_
      | with_reducible (first|refine zI fun y hy=>?_|refine zL ?_|refine zS ?_|refine zV ?_|refine zC ?_)
      | ((with_reducible refine aC ?_);first|((refine ACall.st (aside_c d.bag n W h1 h.hn h.hp h.hk h.hs h2) rfl ?_;intro D hD)))
      | refine aX ?_|with_reducible intro _
      | with_reducible refine zJ ?_ fun y hy=>?_|refine aP ?_ ?_)
     exact⟨D,.inl rfl,hD.congr (fun V=>rfl) fun B hB=>hB⟩
 | false=>
   have hdl:=dealt_c d W h.hp h.hk h.hs (h.h2 rfl) (h.h3 rfl)
   cases c with
   | false=>
     refine RawC.walk (H:=hint57 Tryz.prog) ir57 Tryz.func57 rfl rfl rfl ?_
     unfold ir57
     repeat' (first
      | with_reducible refine Rd.p ?_
      | with_reducible (first|refine zI fun y hy=>?_|refine zL ?_|refine zS ?_|refine zV ?_|refine zC ?_)
      | ((with_reducible refine aC ?_);first|((refine ACall.st hdl rfl ?_;intro D hD)))
      | refine aX ?_|with_reducible intro _
      | with_reducible refine zJ ?_ fun y hy=>?_|refine aP ?_ ?_)
     exact⟨D,.inl rfl,hD.congr (fun V=>rfl) fun B hB=>hB⟩
   | true=>
     by_cases hwd:d.wood=wood
     · refine RawC.walk (H:=hint57 Tryz.prog) ir57 Tryz.func57 rfl rfl rfl ?_
       unfold ir57
       repeat' (first
        | with_reducible refine Rd.p ?_
        | with_reducible (first|refine zI fun y hy=>?_|refine zL ?_|refine zS ?_|refine zV ?_|refine zC ?_)
        | ((with_reducible refine aC ?_);first|((refine ACall.st hdl rfl ?_;intro D hD)))
        | refine aX ?_|with_reducible intro _
        | with_reducible refine zJ ?_ fun y hy=>?_|refine aP ?_ ?_)
       all_goals first
        | (exfalso;omega)
        | (rename_i hx;exact absurd hwd hx)
        | exact⟨D,.inl rfl,hD.congr (fun V=>sumW_congr fun y _=>by show _=nextV _ _ _ _ _;unfold nextV;rw[if_neg Bool.false_ne_true,if_neg (fun h=>h.2 hwd)]) fun B hB=>hB⟩
     · refine RawC.walk (H:=hint57 Tryz.prog) ir57 Tryz.func57 rfl rfl rfl ?_
       unfold ir57
       repeat' (first
        | with_reducible refine Rd.p ?_
        | with_reducible (first|refine zI fun y hy=>?_|refine zL ?_|refine zS ?_|refine zV ?_|refine zC ?_)
        | refine aX ?_|with_reducible intro _
        | with_reducible refine zJ ?_ fun y hy=>?_|refine aP ?_ ?_)
       all_goals first
        | (exfalso;omega)
        | exact⟨[],.inr ⟨rfl,rfl⟩,⟨List.nodup_nil,(fun y hy=>by cases hy),(fun V=>by
           show (0:Int)=_
           rw[←sumW_zero W]
           exact sumW_congr fun y _=>by show _=nextV _ _ _ _ _;unfold nextV;rw[if_neg Bool.false_ne_true,if_pos ⟨rfl,hwd⟩]),(fun y hy=>by cases hy)⟩⟩
def censG (l:List Sp):Nat:=(l.filter fun x=>x.2.2).length
theorem stepsG_len:∀(l:List Dl),(∀d∈l,drawsB d=true→1≤d.count∧d.count≤12)→(stepsG l).length≤12*l.length
 | [],_=>Nat.le_refl _
 | d::r,h=>by
   have h1:=stp1_len (h d (by simp))
   have h2:=stepsG_len r fun x hx=>h x (by simp[hx])
   show (stp1 d++stepsG r).length≤12*(r.length+1)
   rw[List.length_append];omega
theorem censers_c (G:Gm) (hd:G.ds.length≤24) (hc:∀d∈G.ds,drawsB d=true→1≤d.count∧d.count≤12):Fn0 Tryz.prog 70 [gmA G] (fun v=>v= .int .i64 (censG (stepsG G.ds):Nat)):=by
 have hst:=steps_c G hd hc
 have hsl:=stepsG_len G.ds hc
 obtain⟨L,hL⟩:∃L,stepsG G.ds=L:=⟨_,rfl⟩
 rw[hL] at hst hsl ⊢
 refine RawC.walk (H:=hint70 Tryz.prog) ir70 Tryz.func70 rfl rfl rfl ?_
 unfold ir70
 repeat' (first
  | with_reducible refine Rd.p ?_
  | with_reducible (first|refine zL ?_|refine zS ?_|refine zV ?_|refine zC ?_)
  | ((with_reducible refine aC ?_);first|(refine ACall.val hst rfl rfl ?_))
  | refine aX ?_|with_reducible intro _
  | refine aP ?_ ?_)
 refine w_loopK [7,8] [] (fun x:List Sp×List Sp=>L=x.1++x.2) (fun x=>x.2.length) (fun x=>[(3,.int .i64 (censG x.1:Nat)),(9,.int .i64 (x.1.length:Int))]) (fun _=>[]) ([],L) rfl ⟨rfl,rfl,trivial⟩ trivial ?_
 rintro⟨pre,post⟩ hl e σ
 dsimp only at hl ⊢
 have hlen:=congrArg List.length hl
 rw[List.length_append] at hlen
 have hcl:censG pre≤pre.length:=List.length_filter_le _ _
 cases post with
 | nil=>
   simp only[List.length_nil] at hlen
   rw[List.append_nil] at hl
   subst hl
   repeat' (first
    | with_reducible refine Rd.p ?_
    | with_reducible (first|refine zL ?_|refine zS ?_|refine zV ?_|refine zC ?_)
    | refine aX ?_|with_reducible intro _
    | refine aP ?_ ?_)
   all_goals first
    | (exfalso;omega)
    | rfl
 | cons x post=>
   obtain⟨d,b,c⟩:=x
   simp only[List.length_cons] at hlen
   cases c with
   | false=>
     have hcs:censG (pre++[(d,b,false)])=censG pre:=by simp[censG,List.filter_append]
     repeat' (first
      | with_reducible refine Rd.p ?_
      | (refine w_ixP (f:=fun x:Sp=>[AV.int .i64 x.1.kind,.int .i64 x.1.bag,.int .i64 x.1.other,.int .i64 x.1.wood,.int .i64 x.1.count,.bool x.2.1,.bool x.2.2]) hl rfl rfl ?_)
      | with_reducible (first|refine zL ?_|refine zS ?_|refine zV ?_|refine zC ?_)
      | refine aX ?_|with_reducible intro _
      | refine aP ?_ ?_)
     all_goals first
      | (exfalso;omega)
      | exact q_loop (pre++[(d,b,false)],post) (by show L=_;rw[hl];simp) (Nat.lt_succ_self _) ⟨by show AV.int .i64 _=AV.int .i64 _;rw[hcs],by rw[len_snoc];rfl,trivial⟩ aS aK aK
   | true=>
     have hcs:censG (pre++[(d,b,true)])=censG pre+1:=by simp[censG,List.filter_append]
     repeat' (first
      | with_reducible refine Rd.p ?_
      | (refine w_ixP (f:=fun x:Sp=>[AV.int .i64 x.1.kind,.int .i64 x.1.bag,.int .i64 x.1.other,.int .i64 x.1.wood,.int .i64 x.1.count,.bool x.2.1,.bool x.2.2]) hl rfl rfl ?_)
      | with_reducible (first|refine zL ?_|refine zS ?_|refine zV ?_|refine zC ?_)
      | refine aX ?_|with_reducible intro _
      | refine aP ?_ ?_)
     all_goals first
      | (exfalso;omega)
      | exact q_loop (pre++[(d,b,true)],post) (by show L=_;rw[hl];simp) (Nat.lt_succ_self _) ⟨by show AV.int .i64 _=AV.int .i64 _;rw[hcs];rfl,by rw[len_snoc];rfl,trivial⟩ aS aK aK
def ir85:IFn:=
 ⟨4,[(2,none)],(.seq (.ops [oo 1 (.box 2 0),oo 2 (.mov (.k .nfn))])
 (.seq (.seq (.frz 1)
 (.ops [oo 3 (.mkf (.func 109) [] [1]),oo 2 (.mov 3)]))
 .ret))⟩
def hint85 (P:Program):Hint:={site:=[],nils:=[],frz:=[(3,1)],mve:=[],wr:=[] }
def ir109:IFn:=
 ⟨13,[],(.seq (.ops [oo 2 (.box 1 0)])
 (.seq (.ops [oo 5 (.ld 2 true 1),oo 6 (.callF 56 [5]),oo 3 (.new [.nsl]),
 ⟨none,none,(.st 1 3 6)⟩])
 (.seq (.ops [oo 4 (.new [.nfn])])
 (.seq (.ops [oo 7 (.mkf (.func 110) [] [3,2,4,1]),
 ⟨none,none,(.st 1 4 7)⟩])
 (.ops [⟨none,none,(.kil 9)⟩,oo 8 (.ld 1 false 4),oo 10 (.bld [z0,z0,z0,z0,z0,z0,z0,z0,z0,z0,z0,z0,z0,z0,z0,z0,z0,z0,z0,z0,z0,z0,z0,z0] []),
 ⟨(some 9),none,.mkm⟩,
 ⟨none,none,(.mup (.flat [.i,.i,.i,.i,.i,.i,.i,.i,.i,.i,.i,.i,.i,.i,.i,.i,.i,.i,.i,.i,.i,.i,.i,.i]) 9 10 (kI 1))⟩,
 ⟨none,none,(.chk 1 false 4 8)⟩,oo 11 (.mov 9),oo 12 (.callV 8 [(kI 0),11,(.k .nsl)])])))))⟩
def hint109 (P:Program):Hint:={}
def ir110:IFn:=
 ⟨74,[(10,none)],(.seq (.ops [oo 10 (.mov (kB false))])
 (.seq (.blk 0 (.seq (.ops [oo 13 (.mov 1),oo 14 (.mln 13),oo 15 (.bin .eql 14 (kI 0)),oo 12 (.mov 15)])
 (.cnd 12
 (.seq (.ops [oo 10 (.mov (kB true))])
 .ret)
 (.seq (.ops [oo 17 (.mov 0),oo 18 (.ld 1 false 3),oo 19 (.len false 18),oo 20 (.bin .eql 17 19),oo 16 (.mov 20)])
 (.cnd 16
 (.seq (.ops [oo 21 (.ld 1 false 4),oo 22 (.mov 2),oo 23 (.mov 1),oo 24 (.callF 59 [23]),
 ⟨none,none,(.chk 1 false 4 21)⟩,oo 25 (.callV 21 [22,24]),oo 10 (.mov 25)])
 .ret)
 (.seq (.ops [oo 27 (.ld 1 false 3),oo 28 (.mov 0),oo 29 (.ixA 7 27 28),oo 30 (.flA 6 29),oo 31 (.ld 1 false 30),oo 32 (.not 31),oo 26 (.mov 32)])
 (.cnd 26
 (.seq (.ops [oo 33 (.ld 1 false 5),oo 34 (.mov 0),oo 35 (.bin .add 34 (kI 1)),oo 36 (.ld 1 false 3),oo 37 (.mov 0),oo 38 (.ixA 7 36 37),oo 39 (.ld 7 true 38),oo 40 (.mov 1),oo 41 (.flA 0 6),oo 42 (.ld 1 false 41),oo 43 (.len false 42),oo 45 (.mov 2),oo 44 (.callF 57 [39,40,(kI 0),43]),
 ⟨none,none,(.chk 1 false 5 33)⟩,oo 46 (.callV 33 [35,44,45]),oo 10 (.mov 46)])
 .ret)
 .skip)))))))
 (.seq (.seq (.ops [oo 47 (.flA 0 6),oo 48 (.ld 1 false 47),oo 49 (.len false 48),oo 50 (.mov (kI 0))])
 (.blk 1 (.loop (.seq (.ops [oo 51 (.bin .lss 50 49)])
 (.seq (.cnd 51
 .skip
 (.exit 1))
 (.seq (.blk 2 (.seq (.ops [oo 52 (.mov 50),oo 11 (.mov 52)])
 (.seq (.ops [oo 53 (.ld 1 false 5),oo 54 (.mov 0),oo 55 (.bin .add 54 (kI 1)),oo 56 (.ld 1 false 3),oo 57 (.mov 0),oo 58 (.ixA 7 56 57),oo 59 (.ld 7 true 58),oo 60 (.mov 1),oo 61 (.mov 11),oo 62 (.flA 0 6),oo 63 (.ld 1 false 62),oo 64 (.len false 63),oo 66 (.mov 2),oo 68 (.mov 11),oo 69 (.bsl 1 [[(.int .i64 0)]] [(0,68)]),oo 65 (.callF 57 [59,60,61,64]),
 ⟨none,none,(.chk 1 false 5 53)⟩,oo 67 (.callF 80 [66]),
 ⟨none,none,(.chk 1 false 5 53)⟩,oo 70 (.app 1 8 67 69 70),
 ⟨none,none,(.chk 1 false 5 53)⟩,oo 71 (.callV 53 [55,65,70]),oo 72 (.not 71)])
 (.cnd 72
 (.seq (.ops [oo 10 (.mov (kB false))])
 .ret)
 .skip))))
 (.ops [oo 73 (.bin .add 50 (kI 1)),oo 50 (.mov 73)])))))))
 (.seq (.ops [oo 10 (.mov (kB true))])
 .ret))))⟩
def hint110 (P:Program):Hint:={}
def crs (n:Nat):List Sp→((List Int→Int)→Int)→List Int→List (List Int×Int)
 | [],T,c=>if T (fun _=>1)=0 then[] else[(c,T fun _=>1)]
 | x::r,T,c=>if T (fun _=>1)=0 then[] else if x.2.2=true then (List.range n).flatMap fun (w:Nat)=>crs n r (fun V=>T (nextV x w n V)) (c++[(w:Int)]) else crs n r (fun V=>T (nextV x 0 n V)) c
abbrev encC (x:List Int×Int):List AV:=[.slc 1 (iR x.1) .non,.int .i64 x.2]
def wkS (G:Gm) (L:List Sp) (gs gy gw l:Nat) (y:Res):List (Nat×(Nat×Res)):=
 [(1000,(gs,.row [.slc 7 (spR L) .non])),(1001,(gy,.row [.clo (.yield l) [] []])),(1002,(gw,.row [.clo (.func 110) [] [.ref 1000 gs 0,.ref 1001 gy 0,.ref 1002 gw 0,.pin [.slc 2 (wR G.ws) .non,.slc 5 (dlR G.ds) .non]]])),(YS,(0,y))]
structure SrI (n:Nat) (I:List Sp→Wt→Prop):Prop where
 pos:∀{l W},I l W→ ∀y∈W,0<y.2
 bd:∀{l W},I l W→sumW W (fun _=>1)<2^60
 nx:∀{x r W} {w:Nat},I (x::r) W→W≠[]→w<n→NxIn x w n W
 go:∀{x r W W'} {w:Nat},I (x::r) W→W≠[]→w<n→StOut W' (fun V=>sumW W (nextV x w n V)) (fun B=>∃y∈W,nextB x w n y.1 B)→I r W'
theorem crsW_c (G:Gm) (L:List Sp) (gs gy gw l:Nat) (I:List Sp→Wt→Prop) (hI:SrI G.ws.length I) (hL:L.length<1000) (hn1:1≤G.ws.length) (hn:G.ws.length≤6):∀(post pre:List Sp) (k:Int) (W:Wt) (v:AV) (c:List Int) (a:AV) (rest:List (List Int×Int)),k=pre.length→L=pre++post→NowV a c→stW W v→I post W→c.length+post.length<1000→1≤c.length+censG post→
  RawC Tryz.prog 110 [.int .i64 k,v,a,.ref 1000 gs 0,.ref 1001 gy 0,.ref 1002 gw 0,.pin [.slc 2 (wR G.ws) .non,.slc 5 (dlR G.ds) .non]] (sg (wkS G L gs gy gw l (.yld l (some ((crs G.ws.length post (sumW W) c++rest).map encC)))))
   (SR (fun (b:Bool) v=>v= .bool b) (fun b=>wkS G L gs gy gw l (.yld l (yNext (rest.map encC) b)))):=by
 intro post
 induction post with
 | nil=>
   intro pre k W v c a rest hk hl ha hv hW hcl h1
   subst hk
   have hpos:=hI.pos hW
   have hlen:=congrArg List.length hl
   rw[List.append_nil] at hl
   subst hl
   by_cases hz:sumW W (fun _=>1)=0
   · have hW0:=(sumW_nil hpos).2 hz
     rw[show crs G.ws.length [] (sumW W) c=[] by rw[crs,if_pos hz]]
     subst hW0
     have h00:(wK []).length=0:=rfl
     have h01:([]:List AV).length=0:=rfl
     rcases hv with rfl | ⟨rfl,-⟩
     all_goals
      refine RawC.walk (H:=hint110 Tryz.prog) ir110 Tryz.func110 rfl rfl rfl ?_
      unfold ir110
      repeat' (first
       | with_reducible refine Rd.p ?_
       | with_reducible (first|refine zI fun y hy=>?_|refine zL ?_|refine zS ?_|refine zV ?_|refine zC ?_)
       | refine aX ?_|with_reducible intro _
       | with_reducible refine zJ ?_ fun y hy=>?_|refine aP ?_ ?_)
      all_goals first
       | (exfalso;omega)
       | exact⟨true,rfl,aS⟩
   · rw[show crs G.ws.length [] (sumW W) c=[(c,sumW W fun _=>1)] by rw[crs,if_neg hz]]
     have hne:W≠[]:=fun h=>hz ((sumW_nil hpos).1 h)
     have hwl:0<(wK W).length:=by rw[List.length_map];exact List.length_pos_iff.2 hne
     have hc0:c≠[]:=fun h=>by subst h;simp[censG] at h1
     rcases ha with⟨_,h⟩ | ⟨rfl,-⟩
     · exact absurd h hc0
     rcases hv with rfl | ⟨-,h⟩
     · have hwy:=ways_c W hpos (hI.bd hW)
       refine RawC.walk (H:=hint110 Tryz.prog) ir110 Tryz.func110 rfl rfl rfl ?_
       unfold ir110
       repeat' (first
        | with_reducible refine Rd.p ?_
        | with_reducible (first|refine zI fun y hy=>?_|refine zL ?_|refine zS ?_|refine zV ?_|refine zC ?_)
        | ((with_reducible refine aC ?_);first|(refine ACall.val hwy rfl rfl ?_))
        | with_reducible refine zQi fun b=>?_
        | refine aX ?_|with_reducible intro _
        | with_reducible refine zJ ?_ fun y hy=>?_|refine aP ?_ ?_)
       all_goals first
        | (exfalso;omega)
        | exact⟨b,rfl,aS⟩
     · exact absurd h hne
 | cons x post ih=>
   intro pre k W v c a rest hk hl ha hv hW hcl h1
   subst hk
   have hpos:=hI.pos hW
   have hlen:=congrArg List.length hl
   rw[List.length_append,List.length_cons] at hlen
   by_cases hz:sumW W (fun _=>1)=0
   · have hW0:=(sumW_nil hpos).2 hz
     rw[show crs G.ws.length (x::post) (sumW W) c=[] by rw[crs,if_pos hz]]
     subst hW0
     have h00:(wK []).length=0:=rfl
     have h01:([]:List AV).length=0:=rfl
     rcases hv with rfl | ⟨rfl,-⟩
     all_goals
      refine RawC.walk (H:=hint110 Tryz.prog) ir110 Tryz.func110 rfl rfl rfl ?_
      unfold ir110
      repeat' (first
       | with_reducible refine Rd.p ?_
       | with_reducible (first|refine zI fun y hy=>?_|refine zL ?_|refine zS ?_|refine zV ?_|refine zC ?_)
       | refine aX ?_|with_reducible intro _
       | with_reducible refine zJ ?_ fun y hy=>?_|refine aP ?_ ?_)
      all_goals first
       | (exfalso;omega)
       | exact⟨true,rfl,aS⟩
   have hne:W≠[]:=fun h=>hz ((sumW_nil hpos).1 h)
   have hwl:0<(wK W).length:=by rw[List.length_map];exact List.length_pos_iff.2 hne
   rcases hv with rfl | ⟨-,h⟩
   rotate_left
   · exact absurd h hne
   obtain⟨d,b,z⟩:=x
   have hNV:=ha
   cases z with
   | false=>
     have hnx:=next_c _ ((0:Nat):Int) G.ws.length W (hI.nx (w:=0) hW hne (by omega))
     rw[show crs G.ws.length ((d,b,false)::post) (sumW W) c=crs G.ws.length post (fun V=>sumW W (nextV (d,b,false) ((0:Nat):Int) G.ws.length V)) c by rw[crs,if_neg hz];rfl]
     have hrec:∀W' v',stW W' v'→StOut W' (fun V=>sumW W (nextV (d,b,false) ((0:Nat):Int) G.ws.length V)) (fun B=>∃y∈W,nextB (d,b,false) ((0:Nat):Int) G.ws.length y.1 B)→RawC Tryz.prog 110 [.int .i64 ((pre.length:Int)+1),v',a,.ref 1000 gs 0,.ref 1001 gy 0,.ref 1002 gw 0,.pin [.slc 2 (wR G.ws) .non,.slc 5 (dlR G.ds) .non]] (sg (wkS G L gs gy gw l (.yld l (some ((crs G.ws.length post (fun V=>sumW W (nextV (d,b,false) ((0:Nat):Int) G.ws.length V)) c++rest).map encC)))))
       (SR (fun (b:Bool) v=>v= .bool b) (fun b=>wkS G L gs gy gw l (.yld l (yNext (rest.map encC) b)))):=fun W' v' hv' hW'=>by
      have:=ih (pre++[(d,b,false)]) ((pre.length:Int)+1) W' v' c a rest (by simp) (by rw[hl];simp) hNV hv' (hI.go (w:=0) hW hne (by omega) hW') (by rw[List.length_cons] at hcl;omega) h1
      rw[show sumW W'=_ from funext hW'.sum] at this
      exact this
     rcases ha with⟨rfl,hc0⟩ | ⟨rfl,hc0⟩
     all_goals
      refine RawC.walk (H:=hint110 Tryz.prog) ir110 Tryz.func110 rfl rfl rfl ?_
      unfold ir110
      repeat' (first
       | with_reducible refine Rd.p ?_
       | (refine w_ixP (f:=fun x:Sp=>[AV.int .i64 x.1.kind,.int .i64 x.1.bag,.int .i64 x.1.other,.int .i64 x.1.wood,.int .i64 x.1.count,.bool x.2.1,.bool x.2.2]) hl rfl rfl ?_)
       | with_reducible (first|refine zI fun y hy=>?_|refine zL ?_|refine zS ?_|refine zV ?_|refine zC ?_)
       | ((with_reducible refine aC ?_);first|((refine ACall.fn0 hnx rfl ?_;rintro _ ⟨W',rfl | ⟨rfl,hW0⟩,hW'⟩))|((refine ACall.liftYS (hrec W' _ (.inl rfl) hW') [(1000,1000),(1001,1001),(1002,1002)] none rfl rfl rfl rfl ⟨⟨_,rfl⟩,⟨_,rfl⟩,⟨_,rfl⟩,trivial⟩ (fun _=>rfl) (fun b=>(0,.yld l (yNext (rest.map encC) b))) (fun _=>rfl) ?_;rintro b _ rfl))|((refine ACall.liftYS (hrec W' _ (.inr ⟨rfl,hW0⟩) hW') [(1000,1000),(1001,1001),(1002,1002)] none rfl rfl rfl rfl ⟨⟨_,rfl⟩,⟨_,rfl⟩,⟨_,rfl⟩,trivial⟩ (fun _=>rfl) (fun b=>(0,.yld l (yNext (rest.map encC) b))) (fun _=>rfl) ?_;rintro b _ rfl)))
       | refine aX ?_|with_reducible intro _
       | with_reducible refine zJ ?_ fun y hy=>?_|refine aP ?_ ?_)
      all_goals first
       | (exfalso;omega)
       | exact⟨_,rfl,aS⟩
   | true=>
     rw[show crs G.ws.length ((d,b,true)::post) (sumW W) c=(List.range G.ws.length).flatMap fun (w:Nat)=>crs G.ws.length post (fun V=>sumW W (nextV (d,b,true) w G.ws.length V)) (c++[(w:Int)]) by rw[crs,if_neg hz];rfl]
     obtain⟨F,hF⟩:∃F:Nat→List (List Int×Int),F=fun (w:Nat)=>crs G.ws.length post (fun V=>sumW W (nextV (d,b,true) w G.ws.length V)) (c++[(w:Int)]):=⟨_,rfl⟩
     rw[←hF]
     have hcg:censG ((d,b,true)::post)=censG post+1:=rfl
     have hrec:∀(i:Nat),i<G.ws.length→ ∀W' v',stW W' v'→StOut W' (fun V=>sumW W (nextV (d,b,true) i G.ws.length V)) (fun B=>∃y∈W,nextB (d,b,true) i G.ws.length y.1 B)→RawC Tryz.prog 110 [.int .i64 ((pre.length:Int)+1),v',.slc 1 (iR (c++[(i:Int)])) .non,.ref 1000 gs 0,.ref 1001 gy 0,.ref 1002 gw 0,.pin [.slc 2 (wR G.ws) .non,.slc 5 (dlR G.ds) .non]] (sg (wkS G L gs gy gw l (.yld l (some ((F i++(((List.range G.ws.length).drop (i+1)).flatMap F++rest)).map encC)))))
       (SR (fun (b:Bool) v=>v= .bool b) (fun b=>wkS G L gs gy gw l (.yld l (yNext ((((List.range G.ws.length).drop (i+1)).flatMap F++rest).map encC) b)))):=fun i hi W' v' hv' hW'=>by
      have:=ih (pre++[(d,b,true)]) ((pre.length:Int)+1) W' v' (c++[(i:Int)]) _ (((List.range G.ws.length).drop (i+1)).flatMap F++rest) (by simp) (by rw[hl];simp) (.inr ⟨rfl,by simp⟩) hv' (hI.go hW hne hi hW') (by rw[List.length_cons] at hcl;rw[len_snoc];omega) (by simp;omega)
      rw[show sumW W'=_ from funext hW'.sum] at this
      rw[hF]
      rw[hF] at this
      exact this
     rcases ha with⟨rfl,hc0⟩ | ⟨rfl,hc0⟩
     all_goals
      refine RawC.walk (H:=hint110 Tryz.prog) ir110 Tryz.func110 rfl rfl rfl ?_
      unfold ir110
      repeat' (first
       | with_reducible refine Rd.p ?_
       | (refine w_ixP (f:=fun x:Sp=>[AV.int .i64 x.1.kind,.int .i64 x.1.bag,.int .i64 x.1.other,.int .i64 x.1.wood,.int .i64 x.1.count,.bool x.2.1,.bool x.2.2]) hl rfl rfl ?_)
       | with_reducible (first|refine zI fun y hy=>?_|refine zL ?_|refine zS ?_|refine zV ?_|refine zC ?_)
       | refine aX ?_|with_reducible intro _
       | with_reducible refine zJ ?_ fun y hy=>?_|refine aP ?_ ?_)
      all_goals try (exfalso;omega)
      all_goals
       refine w_loopK [0,1,2,3,5,6,49] [1000,1001,1002] (fun i:Nat=>i≤G.ws.length) (fun i=>G.ws.length-i) (fun i=>[(50,.int .i64 (i:Int))]) (fun i=>[(YS,(0,.yld l (some ((((List.range G.ws.length).drop i).flatMap F++rest).map encC))))]) 0 (Nat.zero_le _) ⟨rfl,trivial⟩ ⟨rfl,trivial⟩ ?_
       rintro i hi e σ
       dsimp only at hi ⊢
       by_cases hie:i=G.ws.length
       · have hdr:((List.range G.ws.length).drop i).flatMap F++rest=rest:=by rw[hie,List.drop_of_length_le (by simp)];rfl
         rw[hdr]
         repeat' (first
          | with_reducible refine Rd.p ?_
          | with_reducible (first|refine zI fun y hy=>?_|refine zL ?_|refine zS ?_|refine zV ?_|refine zC ?_)
          | refine aX ?_|with_reducible intro _
          | with_reducible refine zJ ?_ fun y hy=>?_|refine aP ?_ ?_)
         all_goals first
          | (exfalso;omega)
          | exact⟨true,rfl,aS⟩
       have hil:i<G.ws.length:=by omega
       have hdr:((List.range G.ws.length).drop i).flatMap F++rest=F i++(((List.range G.ws.length).drop (i+1)).flatMap F++rest):=by
        rw[List.drop_eq_getElem_cons (by simpa using hil),List.getElem_range,List.flatMap_cons,List.append_assoc]
       rw[hdr]
       have hnx:=next_c _ (i:Int) G.ws.length W (hI.nx hW hne hil)
       have hclo:=cloneO_c c _ hNV (by omega)
       repeat' (first
        | with_reducible refine Rd.p ?_
        | (refine w_ixP (f:=fun x:Sp=>[AV.int .i64 x.1.kind,.int .i64 x.1.bag,.int .i64 x.1.other,.int .i64 x.1.wood,.int .i64 x.1.count,.bool x.2.1,.bool x.2.2]) hl rfl rfl ?_)
        | with_reducible (first|refine zI fun y hy=>?_|refine zL ?_|refine zS ?_|refine zV ?_|refine zC ?_)
        | ((with_reducible refine aC ?_);first|((refine ACall.fn0 hnx rfl ?_;rintro _ ⟨W',rfl | ⟨rfl,hW0⟩,hW'⟩))|(refine ACall.liftS hclo [] (some 2) rfl rfl rfl trivial (fun _=>rfl) ?_;rintro g67 _ rfl)|((refine ACall.liftYS (hrec i hil W' _ (.inl rfl) hW') [(1000,1000),(1001,1001),(1002,1002)] none rfl rfl rfl rfl ⟨⟨_,rfl⟩,⟨_,rfl⟩,⟨_,rfl⟩,trivial⟩ (fun _=>rfl) (fun b=>(0,.yld l (yNext ((((List.range G.ws.length).drop (i+1)).flatMap F++rest).map encC) b))) (fun _=>rfl) ?_;rintro b _ rfl))|((refine ACall.liftYS (hrec i hil W' _ (.inr ⟨rfl,hW0⟩) hW') [(1000,1000),(1001,1001),(1002,1002)] none rfl rfl rfl rfl ⟨⟨_,rfl⟩,⟨_,rfl⟩,⟨_,rfl⟩,trivial⟩ (fun _=>rfl) (fun b=>(0,.yld l (yNext ((((List.range G.ws.length).drop (i+1)).flatMap F++rest).map encC) b))) (fun _=>rfl) ?_;rintro b _ rfl)))
        | refine aX ?_|with_reducible intro _
        | with_reducible refine zJ ?_ fun y hy=>?_|refine aP ?_ ?_)
       all_goals first
        | (rename_i hb;subst hb;exact⟨false,rfl,aS⟩)
        | (rename_i hb;subst hb;exact q_loop (i+1) hil (by show G.ws.length-(i+1)<G.ws.length-i;omega) ⟨rfl,trivial⟩ aS aK aK)
end Go.Abs
