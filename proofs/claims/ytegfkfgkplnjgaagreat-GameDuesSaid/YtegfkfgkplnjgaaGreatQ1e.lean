/- A part of the proofs of the laws of this seat: contracts of the functions that they reach, each proved of the program's form in Lean. No condition beyond those that each contract names. -/
import Derived.Test.YtegfkfgkplnjgaaGreatProg
import Derived.Test.YtegfkfgkplnjgaaGreatSnd3
import Derived.Test.YtegfkfgkplnjgaaGreatA0
import Derived.Test.YtegfkfgkplnjgaaGreatQ1a
import Derived.Test.YtegfkfgkplnjgaaGreatQ1b
import Derived.Test.YtegfkfgkplnjgaaGreatQ1c
import Derived.Test.YtegfkfgkplnjgaaGreatQ1d
set_option linter.unusedVariables false
set_option linter.unusedSimpArgs false
set_option maxRecDepth 20000
set_option maxHeartbeats 4000000
namespace Go.Abs
open Go.Proofs
theorem checkAsk_c (G:Gm) (a:Aq) (hn:G.ws.length<1000):Fn0 Tryz.prog 39 [gmA G,aqA a] (fun v=>v= .int .i64 (askErr G.ws.length a)):=by
 obtain⟨B,hB⟩:∃B,askErr G.ws.length a=B:=⟨_,rfl⟩
 rw[hB]
 unfold askErr at hB
 have h1:=gin_c a.kind 1 6
 have h2:=gin_c a.wood 0 (G.ws.length-1)
 cases e1:inB a.kind 1 6 with
 | false=>
   rw[e1] at hB h1
   rw[if_neg Bool.false_ne_true] at hB
   subst hB
   refine RawC.walk (H:=hint39 Tryz.prog) ir39 Tryz.func39 rfl rfl rfl ?_
   unfold ir39
   repeat' (first
    | with_reducible refine Rd.p ?_
    | with_reducible (first|refine zL ?_|refine zS ?_|refine zV ?_|refine zC ?_)
    | ((with_reducible refine aC ?_);first|(refine ACall.val h1 rfl rfl ?_))
    | refine aX ?_|with_reducible intro _
    | refine aP ?_ ?_)
   all_goals first
    | (exfalso;omega)
    | rfl
 | true=>
   rw[e1] at hB h1
   rw[if_pos rfl] at hB
   by_cases e4:a.kind=4
   · rw[if_pos e4] at hB
     cases e2:inB a.wood 0 (G.ws.length-1) with
     | true=>
       rw[e2] at hB h2
       rw[if_pos rfl] at hB
       subst hB
       refine RawC.walk (H:=hint39 Tryz.prog) ir39 Tryz.func39 rfl rfl rfl ?_
       unfold ir39
       repeat' (first
        | with_reducible refine Rd.p ?_
        | with_reducible (first|refine zL ?_|refine zS ?_|refine zV ?_|refine zC ?_)
        | ((with_reducible refine aC ?_);first|(refine ACall.val h1 rfl rfl ?_)|(refine ACall.val h2 rfl rfl ?_))
        | refine aX ?_|with_reducible intro _
        | refine aP ?_ ?_)
       all_goals first
        | (exfalso;omega)
        | rfl
     | false=>
       rw[e2] at hB h2
       rw[if_neg Bool.false_ne_true] at hB
       subst hB
       refine RawC.walk (H:=hint39 Tryz.prog) ir39 Tryz.func39 rfl rfl rfl ?_
       unfold ir39
       repeat' (first
        | with_reducible refine Rd.p ?_
        | with_reducible (first|refine zL ?_|refine zS ?_|refine zV ?_|refine zC ?_)
        | ((with_reducible refine aC ?_);first|(refine ACall.val h1 rfl rfl ?_)|(refine ACall.val h2 rfl rfl ?_))
        | refine aX ?_|with_reducible intro _
        | refine aP ?_ ?_)
       all_goals first
        | (exfalso;omega)
        | rfl
   · rw[if_neg e4] at hB
     by_cases e0:a.wood=0
     · rw[if_pos e0] at hB
       subst hB
       refine RawC.walk (H:=hint39 Tryz.prog) ir39 Tryz.func39 rfl rfl rfl ?_
       unfold ir39
       repeat' (first
        | with_reducible refine Rd.p ?_
        | with_reducible (first|refine zL ?_|refine zS ?_|refine zV ?_|refine zC ?_)
        | ((with_reducible refine aC ?_);first|(refine ACall.val h1 rfl rfl ?_)|(refine ACall.val h2 rfl rfl ?_))
        | refine aX ?_|with_reducible intro _
        | refine aP ?_ ?_)
       all_goals first
        | (exfalso;omega)
        | rfl
     · rw[if_neg e0] at hB
       subst hB
       refine RawC.walk (H:=hint39 Tryz.prog) ir39 Tryz.func39 rfl rfl rfl ?_
       unfold ir39
       repeat' (first
        | with_reducible refine Rd.p ?_
        | with_reducible (first|refine zL ?_|refine zS ?_|refine zV ?_|refine zC ?_)
        | ((with_reducible refine aC ?_);first|(refine ACall.val h1 rfl rfl ?_)|(refine ACall.val h2 rfl rfl ?_))
        | refine aX ?_|with_reducible intro _
        | refine aP ?_ ?_)
       all_goals first
        | (exfalso;omega)
        | rfl
def rowB (B:List Int) (i:Int):List Int:=(List.range 6).map fun (w:Nat)=>bgAt B i w
theorem rowB_len (B:List Int) (i:Int):(rowB B i).length=6:=by simp[rowB]
theorem rowB_get (B:List Int) (i:Int) {w:Nat} (h:w<6):(rowB B i).getD w 0=bgAt B i w:=by
 unfold rowB
 rw[List.getD_eq_getElem?_getD,List.getElem?_map,List.getElem?_range h];rfl
theorem rowB_sum (B:List Int) (i:Int):(rowB B i).sum=bgSize B i:=rfl
theorem rowB_nn {B:List Int} (h:∀v∈B,0≤v) (i:Int):∀v∈rowB B i,0≤v:=fun v hv=>by
 obtain⟨w,_,rfl⟩:=List.mem_map.1 hv
 exact bgAt_nn h i w
def pickF:List Int→Int→Nat
 | [],_=>0
 | k::r,p=>if p<k then 0 else pickF r (p-k)+1
def pickW (B:List Int) (i p:Int):Int:=(pickF (rowB B i) p:Nat)
theorem pickF_lt:∀{R:List Int} {p:Int},0≤p→p<R.sum→pickF R p<R.length∧0<R.getD (pickF R p) 0
 | [],p,h0,h1=>by simp at h1;omega
 | k::r,p,h0,h1=>by
   rw[pickF]
   by_cases h:p<k
   · rw[if_pos h];exact⟨by simp,by simp;omega⟩
   · rw[if_neg h]
     rw[List.sum_cons] at h1
     obtain⟨h2,h3⟩:=pickF_lt (R:=r) (p:=p-k) (by omega) (by omega)
     exact⟨by simp;omega,by simpa using h3⟩
theorem pickW_ok {B:List Int} {i p:Int} (h0:0≤p) (h1:p<bgSize B i):(0≤pickW B i p∧pickW B i p≤5)∧0<bgAt B i (pickW B i p):=by
 obtain⟨h2,h3⟩:=pickF_lt (R:=rowB B i) h0 (by rw[rowB_sum];exact h1)
 rw[rowB_len] at h2
 rw[rowB_get B i h2] at h3
 exact⟨by unfold pickW;omega,h3⟩
def drawN (l:List Sp):Nat:=(l.filter fun x=>x.2.1).length
def playS:List Sp→List Int→List Int→List Int→Option (List Int)
 | [],_,_,c=>some c
 | x::r,B,ps,c=>if x.2.1=true then (match ps with
    | []=>none
    | p::ps=>if 0≤p∧p<bgSize B x.1.bag then playS r (drawB B x.1.bag (pickW B x.1.bag p)) ps (if x.2.2=true then c++[pickW B x.1.bag p] else c) else none)
   else playS r (mixedB x.1 B) ps (if x.2.2=true then c++[x.1.wood] else c)
theorem playS_f {x:Sp} {r:List Sp} {B ps c:List Int} (h:¬x.2.1=true):playS (x::r) B ps c=playS r (mixedB x.1 B) ps (if x.2.2=true then c++[x.1.wood] else c):=by
 show (if x.2.1=true then _ else _)=_
 rw[if_neg h]
theorem playS_t {x:Sp} {r:List Sp} {B ps c:List Int} {p:Int} (h:x.2.1=true):playS (x::r) B (p::ps) c=if 0≤p∧p<bgSize B x.1.bag then playS r (drawB B x.1.bag (pickW B x.1.bag p)) ps (if x.2.2=true then c++[pickW B x.1.bag p] else c) else none:=by
 show (if x.2.1=true then _ else _)=_
 rw[if_pos h]
theorem drawN_app (l r:List Sp):drawN (l++r)=drawN l+drawN r:=by simp[drawN]
theorem drawN_rep (c:Nat) (d:Dl) (z:Bool):drawN (List.replicate c (d,true,z))=c:=by simp[drawN]
def playO (G:Gm) (ps:List Int):List Int×Int:=
 if gmErr G=0 then (if ps.length=drawN (stepsG G.ds) then (match playS (stepsG G.ds) bg0 ps [] with
  | some c=>(c,0)
  | none=>([],2))   else ([],3)) else ([],gmErr G)
theorem bgT.size {n:Nat} {b B:List Int} (h:bgT n b B) {i:Int} (hi:0≤i∧i≤3):bgSize B i=atI b i:=by
 rw[←h.s i hi,nSum6]
 show bgAt B i 0+(bgAt B i 1+(bgAt B i 2+(bgAt B i 3+(bgAt B i 4+(bgAt B i 5+0)))))=_
 omega
theorem bgT.lt {n:Nat} {b B:List Int} (h:bgT n b B) {i w:Int} (hi:0≤i∧i≤3) (hw:0≤w∧w≤5) (hp:0<bgAt B i w):w<n:=by
 apply Int.not_le.1
 intro hle
 have:=h.z i w hi ⟨hle,hw.2⟩
 omega
theorem bgT.draw {n:Nat} {b B:List Int} (h:bgT n b B) (hb:b.length=4) (hn:n≤6) {i w:Int} (hi:0≤i∧i≤3) (hw:0≤w∧w≤5) (hp:0<bgAt B i w):bgT n (setI b i (atI b i+ -1)) (drawB B i w):=
 h.add hb hn hi ⟨hw.1,h.lt hi hw hp⟩ (by omega)
theorem bgT.mix {n:Nat} {b B:List Int} {m:Int} (h:bgT n b B) (hb:b.length=4) (hn:n≤6) {x:Sp} (hx:spOK n b m x) (hd:x.2.1=false):bgT n (spB x b) (mixedB x.1 B):=by
 unfold spB mixedB
 rw[hd]
 simp only[Bool.false_eq_true,if_false]
 by_cases h2:x.1.kind=2
 · obtain⟨hb',hw,hc,hm⟩:=hx.h2 hd h2
   rw[if_pos h2,if_pos h2]
   exact h.add hb hn hb' hw (by have:=bgAt_nn h.nn x.1.bag x.1.wood;omega)
 · rw[if_neg h2,if_neg h2]
   by_cases h3:x.1.kind=3
   · obtain⟨hb',ho,hne⟩:=hx.h3 hd h3
     rw[if_pos h3,if_pos h3]
     exact h.pour hb hb' ho hne
   · rw[if_neg h3,if_neg h3];exact h
def cntG (n:Nat):List Sp→List Int→List Int→Int
 | [],c,_=>if c=[] then 1 else 0
 | x::r,c,B=>if x.2.2=true then (match c with
    | []=>0
    | w::c=>nextV x w n (cntG n r c) B) else nextV x 0 n (cntG n r c) B
theorem cntG_0 (n:Nat) (c B:List Int):cntG n [] c B=if c=[] then 1 else 0:=by unfold cntG;rfl
theorem cntG_f {n:Nat} {x:Sp} {r:List Sp} {c B:List Int} (h:¬x.2.2=true):cntG n (x::r) c B=nextV x 0 n (cntG n r c) B:=by
 show (if x.2.2=true then _ else _)=_
 rw[if_neg h]
theorem cntG_t {n:Nat} {x:Sp} {r:List Sp} {w:Int} {c B:List Int} (h:x.2.2=true):cntG n (x::r) (w::c) B=nextV x w n (cntG n r c) B:=by
 show (if x.2.2=true then _ else _)=_
 rw[if_pos h]
theorem cntG_n {n:Nat} {x:Sp} {r:List Sp} {B:List Int} (h:x.2.2=true):cntG n (x::r) [] B=0:=by
 show (if x.2.2=true then _ else _)=_
 rw[if_pos h]
def nnB (B:List Int):Prop:=∀v∈B,0≤v
def stOK (l:List Sp):Prop:=∀x∈l,x.2.1=false→x.1.kind=2→0≤x.1.count
theorem nn_getD {B:List Int} (h:nnB B) (p:Nat):0≤B.getD p 0:=by
 rw[List.getD_eq_getElem?_getD]
 cases hh:B[p]? with
 | none=>exact Int.le_refl _
 | some v=>exact h v (List.mem_of_getElem? hh)
theorem nn_add {B:List Int} (h:nnB B) {i j x:Int} (hx:0≤bgAt B i j+x):nnB (bgAdd B i j x):=fun v hv=>by
 unfold bgAdd at hv
 rcases List.mem_or_eq_of_mem_set hv with hv|rfl
 · exact h v hv
 · exact hx
theorem nn_draw {B:List Int} (h:nnB B) {i j:Int} (hx:0<bgAt B i j):nnB (drawB B i j):=nn_add h (by omega)
theorem nn_pour {B:List Int} (h:nnB B) (i j:Int):nnB (bgPour B i j):=fun v hv=>by
 unfold bgPour at hv
 obtain⟨y,hy,rfl⟩:=List.mem_map.1 hv
 have:=nn_getD h y
 have:=nn_getD h (i.toNat*6+y%6)
 split
 · omega
 · split<;>omega
theorem nn_mix {B:List Int} (h:nnB B) {d:Dl} (hd:d.kind=2→0≤d.count):nnB (mixedB d B):=by
 unfold mixedB
 split
 · have:=bgAt_nn h d.bag d.wood
   have:=hd (by assumption)
   exact nn_add h (by omega)
 · split
   · exact nn_pour h _ _
   · exact h
theorem nn_drawV {V:List Int→Int} (hV:∀C,nnB C→0≤V C) {B:List Int} (hB:nnB B) (i w:Int):0≤bgAt B i w*V (drawB B i w):=by
 have h0:=bgAt_nn hB i w
 by_cases h:bgAt B i w=0
 · rw[h,Int.zero_mul];exact Int.le_refl _
 · exact Int.mul_nonneg h0 (hV _ (nn_draw hB (by omega)))
theorem nextV_nn {x:Sp} {V:List Int→Int} (hV:∀C,nnB C→0≤V C) {B:List Int} (hB:nnB B) (hx:x.2.1=false→x.1.kind=2→0≤x.1.count) (w:Int) (n:Nat):0≤nextV x w n V B:=by
 unfold nextV
 by_cases hd:x.2.1=true
 · rw[if_pos hd]
   split
   · exact nn_drawV hV hB _ _
   · exact nSum_nn fun k _=>nn_drawV hV hB _ _
 · rw[if_neg hd]
   split
   · exact Int.le_refl _
   · exact hV _ (nn_mix hB (hx (by simpa using hd)))
theorem cntG_nn (n:Nat):∀{l:List Sp},stOK l→ ∀(c:List Int) {B:List Int},nnB B→0≤cntG n l c B
 | [],_,c,B,_=>by rw[cntG_0];split<;>decide
 | x::r,h,c,B,hB=>by
   have hx:=h x (by simp)
   have hr:stOK r:=fun y hy=>h y (by simp[hy])
   by_cases hc:x.2.2=true
   · cases c with
     | nil=>rw[cntG_n hc];exact Int.le_refl _
     | cons w c=>rw[cntG_t hc];exact nextV_nn (fun C hC=>cntG_nn n hr c hC) hB hx w n
   · rw[cntG_f hc];exact nextV_nn (fun C hC=>cntG_nn n hr c hC) hB hx 0 n
def goodW (W:Wt):Prop:=∀y∈W,0<y.2∧nnB y.1
theorem good_app {W U:Wt} (h:goodW W) (g:goodW U):goodW (W++U):=fun y hy=>by
 rcases List.mem_append.1 hy with hy | hy
 · exact h y hy
 · exact g y hy
theorem step1 {m:Int} {B:List Int} (hm:0<m) (hB:nnB B) (i w:Int):∃W',goodW W'∧ ∀V,sumW W' V=m*(bgAt B i w*V (drawB B i w)):=by
 have h0:=bgAt_nn hB i w
 by_cases h:bgAt B i w=0
 · exact⟨[],(fun y hy=>by cases hy),fun V=>by rw[h,Int.zero_mul,Int.mul_zero];rfl⟩
 · refine⟨[(drawB B i w,m*bgAt B i w)],fun y hy=>?_,fun V=>?_⟩
   · rw[List.mem_singleton.1 hy];exact⟨Int.mul_pos hm (by omega),nn_draw hB (by omega)⟩
   · show m*bgAt B i w*V _+0=_
     rw[Int.add_zero,Int.mul_assoc]
theorem stepN {m:Int} {B:List Int} (hm:0<m) (hB:nnB B) (i:Int):∀n:Nat,∃W',goodW W'∧ ∀V,sumW W' V=m*nSum n fun w=>bgAt B i w*V (drawB B i w)
 | 0=>⟨[],(fun y hy=>by cases hy),fun V=>by show (0:Int)=m*0;rw[Int.mul_zero]⟩
 | n+1=>by
   obtain⟨W1,g1,h1⟩:=stepN hm hB i n
   obtain⟨W2,g2,h2⟩:=step1 hm hB i n
   exact⟨W1++W2,good_app g1 g2,fun V=>by rw[sumW_app,h1,h2,nSum,Int.mul_add]⟩
theorem stepWt {W:Wt} (hW:goodW W) {x:Sp} (hx:x.2.1=false→x.1.kind=2→0≤x.1.count) (w:Int) (n:Nat):∃W',goodW W'∧ ∀V,sumW W' V=sumW W (nextV x w n V):=by
 induction W with
 | nil=>exact⟨[],(fun y hy=>by cases hy),fun V=>rfl⟩
 | cons a r ih=>
   obtain⟨W2,g2,h2⟩:=ih fun y hy=>hW y (by simp[hy])
   obtain⟨hm,hB⟩:=hW a (by simp)
   suffices h:∃W1,goodW W1∧ ∀V,sumW W1 V=a.2*nextV x w n V a.1 by
    obtain⟨W1,g1,h1⟩:=h
    exact⟨W1++W2,good_app g1 g2,fun V=>by rw[sumW_app,h1,h2];rfl⟩
   unfold nextV
   by_cases hd:x.2.1=true
   · simp only[if_pos hd]
     by_cases hc:x.2.2=true
     · simp only[if_pos hc];exact step1 hm hB _ _
     · simp only[if_neg hc];exact stepN hm hB _ _
   · simp only[if_neg hd]
     by_cases hc:x.2.2=true∧x.1.wood≠w
     · simp only[if_pos hc];exact⟨[],(fun y hy=>by cases hy),fun V=>by rw[Int.mul_zero];rfl⟩
     · simp only[if_neg hc]
       refine⟨[(mixedB x.1 a.1,a.2)],fun y hy=>?_,fun V=>?_⟩
       · rw[List.mem_singleton.1 hy];exact⟨hm,nn_mix hB (hx (by simpa using hd))⟩
       · show a.2*V _+0=_
         rw[Int.add_zero]
theorem good_zero {W:Wt} (h:goodW W) (h0:sumW W (fun _=>1)=0):W=[]:=(sumW_nil fun y hy=>(h y hy).1).2 h0
theorem crs_eq (n:Nat):∀(l:List Sp),stOK l→ ∀(W:Wt),goodW W→ ∀c:List Int,crs n l (sumW W) c=((allL n (censG l)).filter fun s=>decide (0<sumW W (cntG n l s))).map fun s=>(c++s,sumW W (cntG n l s))
 | [],_,W,hW,c=>by
   have e:cntG n [] []=fun _=>1:=by funext B;rfl
   show crs n [] (sumW W) c=([[]].filter fun s=>decide (0<sumW W (cntG n [] s))).map _
   rw[crs]
   have h0:=sumW_nn (W:=W) (V:=fun _=>1) (fun y hy=>(hW y hy).1) fun _ _=>by decide
   by_cases h:sumW W (fun _=>1)=0
   · rw[if_pos h,List.filter_cons,e,h];rfl
   · rw[if_neg h,List.filter_cons,e,if_pos (by simp;omega)]
     simp[e]
 | x::r,hl,W,hW,c=>by
   have hx:=hl x (by simp)
   have hr:stOK r:=fun y hy=>hl y (by simp[hy])
   rw[crs]
   by_cases h:sumW W (fun _=>1)=0
   · rw[if_pos h,good_zero hW h]
     have:((allL n (censG (x::r))).filter fun s=>decide (0<sumW [] (cntG n (x::r) s)))=[]:=List.filter_eq_nil_iff.2 fun s _=>by simp[sumW]
     rw[this];rfl
   rw[if_neg h]
   have key:∀(w:Int) (c:List Int),crs n r (fun V=>sumW W (nextV x w n V)) c=((allL n (censG r)).filter fun s=>decide (0<sumW W (nextV x w n (cntG n r s)))).map fun s=>(c++s,sumW W (nextV x w n (cntG n r s))):=fun w c=>by
    obtain⟨W',g,hV⟩:=stepWt hW hx w n
    rw[show (fun V=>sumW W (nextV x w n V))=sumW W' from funext fun V=>(hV V).symm,crs_eq n r hr W' g c]
    simp only[hV]
   by_cases hc:x.2.2=true
   · rw[if_pos hc]
     have hk:censG (x::r)=censG r+1:=by simp[censG,hc]
     rw[hk]
     show _=(((List.range n).flatMap fun (w:Nat)=>(allL n (censG r)).map fun l=>(w:Int)::l).filter fun s=>decide (0<sumW W (cntG n (x::r) s))).map _
     rw[List.filter_flatMap,List.map_flatMap]
     congr 1
     funext w
     rw[key]
     have e:∀s,cntG n (x::r) ((w:Int)::s)=nextV x w n (cntG n r s):=fun s=>by funext B;rw[cntG_t hc]
     rw[List.filter_map,List.map_map]
     simp only[Function.comp_def,e,List.append_assoc,List.singleton_append]
   · rw[if_neg hc]
     have hk:censG (x::r)=censG r:=by simp[censG,hc]
     have e:∀s,cntG n (x::r) s=nextV x 0 n (cntG n r s):=fun s=>by funext B;rw[cntG_f hc]
     rw[hk,key]
     simp only[e]
theorem nn_bg0:nnB bg0:=fun v hv=>by rw[(List.mem_replicate.1 hv).2];decide
def cwG (G:Gm) (s:List Int):Int:=cntG G.ws.length (stepsG G.ds) s bg0
theorem crsG_eq (G:Gm) (h:stOK (stepsG G.ds)):crsG G=((allL G.ws.length (censG (stepsG G.ds))).filter fun s=>decide (0<cwG G s)).map fun s=>(s,cwG G s):=by
 have e:∀V,sumW W0 V=V bg0:=fun V=>by show 1*V bg0+0=_;omega
 unfold crsG
 rw[crs_eq _ _ h W0 (fun y hy=>by rw[List.mem_singleton.1 hy];exact⟨by decide,nn_bg0⟩)]
 simp only[e,List.nil_append];rfl
theorem run_stOK {n:Nat}:∀{l:List Sp} {b:List Int} {m:Int},runOK n l b m→stOK l
 | [],_,_,_,y,hy=>by cases hy
 | x::r,b,m,h,y,hy=>by
   rcases List.mem_cons.1 hy with rfl | hy
   · intro h1 h2;have:=(h.1.h2 h1 h2).2.2.1;omega
   · exact run_stOK h.2 y hy
def lsum (L:List (List Int)) (f:List Int→Int):Int:=(L.map f).sum
theorem lsum_cons (a:List Int) (L:List (List Int)) (f:List Int→Int):lsum (a::L) f=f a+lsum L f:=rfl
theorem lsum_app (L M:List (List Int)) (f:List Int→Int):lsum (L++M) f=lsum L f+lsum M f:=by simp[lsum]
theorem lsum_map (g:List Int→List Int) (f:List Int→Int) (L:List (List Int)):lsum (L.map g) f=lsum L fun s=>f (g s):=by simp[lsum,Function.comp_def]
theorem lsum_congr {f g:List Int→Int}:∀{L:List (List Int)},(∀s∈L,f s=g s)→lsum L f=lsum L g
 | [],_=>rfl
 | a::r,h=>by rw[lsum_cons,lsum_cons,h a (by simp),lsum_congr fun s hs=>h s (by simp[hs])]
theorem lsum_mul (k:Int) (f:List Int→Int):∀L:List (List Int),lsum L (fun s=>k*f s)=k*lsum L f
 | []=>by show (0:Int)=k*0;rw[Int.mul_zero]
 | a::r=>by rw[lsum_cons,lsum_cons,lsum_mul k f r,Int.mul_add]
theorem lsum_zero:∀L:List (List Int),lsum L (fun _=>0)=0
 | []=>rfl
 | a::r=>by rw[lsum_cons,lsum_zero r];rfl
theorem lsum_plus (f g:List Int→Int):∀L:List (List Int),lsum L (fun s=>f s+g s)=lsum L f+lsum L g
 | []=>rfl
 | a::r=>by rw[lsum_cons,lsum_cons,lsum_cons,lsum_plus f g r];omega
theorem lsum_nSum (g:List Int→Int→Int) (L:List (List Int)):∀n:Nat,lsum L (fun s=>nSum n (g s))=nSum n fun w=>lsum L fun s=>g s w
 | 0=>lsum_zero L
 | n+1=>by
   have:=lsum_plus (fun s=>nSum n (g s)) (fun s=>g s n) L
   show lsum L (fun s=>nSum n (g s)+g s n)=nSum n _+lsum L fun s=>g s n
   rw[this,lsum_nSum g L n]
theorem lsum_nn {f:List Int→Int}:∀{L:List (List Int)},(∀s∈L,0≤f s)→0≤lsum L f
 | [],_=>Int.le_refl _
 | a::r,h=>by
   have:=lsum_nn (L:=r) fun s hs=>h s (by simp[hs])
   have:=h a (by simp)
   rw[lsum_cons];omega
theorem lsum_mem {f:List Int→Int}:∀{L:List (List Int)},(∀s∈L,0≤f s)→ ∀s∈L,f s≤lsum L f
 | a::r,h,s,hs=>by
   have h1:=lsum_nn (L:=r) fun s hs=>h s (by simp[hs])
   have h2:=h a (by simp)
   rw[lsum_cons]
   rcases List.mem_cons.1 hs with rfl | hs
   · omega
   · have:=lsum_mem (L:=r) (fun s hs=>h s (by simp[hs])) s hs
     omega
theorem lsum_flat (F:Nat→List (List Int)) (f:List Int→Int) (g:Int→Int) (h:∀w:Nat,lsum (F w) f=g w):∀n:Nat,lsum ((List.range n).flatMap F) f=nSum n g
 | 0=>rfl
 | n+1=>by rw[List.range_succ,List.flatMap_append,lsum_app,lsum_flat F f g h n,List.flatMap_cons,List.flatMap_nil,List.append_nil,h,nSum]
theorem lsum_allL (n k:Nat) (f:List Int→Int):lsum (allL n (k+1)) f=nSum n fun w=>lsum (allL n k) fun s=>f (w::s):=
 lsum_flat _ _ _ (fun w=>lsum_map _ _ _) n
theorem nSum_mulr (k:Int) (f:Int→Int):∀n:Nat,nSum n (fun w=>f w*k)=nSum n f*k
 | 0=>by show (0:Int)=0*k;rw[Int.zero_mul]
 | n+1=>by rw[nSum,nSum,nSum_mulr k f n,Int.add_mul]
theorem nSum_one (K:Int→Int) (a:Int):∀n:Nat,nSum n (fun w=>if w=a then K w else 0)=if 0≤a∧a<n then K a else 0
 | 0=>by rw[if_neg (by omega)];rfl
 | n+1=>by
   rw[nSum,nSum_one K a n]
   by_cases e:(n:Int)=a
   · rw[if_neg (by omega),if_pos e,if_pos (by omega),e];omega
   · rw[if_neg e]
     by_cases h:0≤a∧a<n
     · rw[if_pos h,if_pos (by omega)];omega
     · rw[if_neg h,if_neg (by omega)];rfl
theorem nSum_more {n:Nat} {f:Int→Int}:∀m:Nat,(∀k:Nat,n≤k→k<n+m→f k=0)→nSum (n+m) f=nSum n f
 | 0,_=>rfl
 | m+1,h=>by
   show nSum (n+m) f+f ((n+m:Nat):Int)=_
   rw[nSum_more m fun k h1 h2=>h k h1 (by omega),h (n+m) (by omega) (by omega)];omega
def szP:List Sp→List Int→Int
 | [],_=>1
 | x::r,b=>(if x.2.1=true then atI b x.1.bag else 1)*szP r (spB x b)
def wdOK (n:Nat) (l:List Sp):Prop:=∀x∈l,x.2.2=true→x.2.1=false→0≤x.1.wood∧x.1.wood<n
def cntP:List Sp→List Int→List Int→Int
 | [],_,_=>1
 | x::r,c,B=>
   if x.2.1=true then (match c with
    | []=>bgSize B x.1.bag*cntP r [] (drawB B x.1.bag (pickW B x.1.bag 0))
    | w::c'=>nSum 6 fun v=>if x.2.2=true then (if v=w then bgAt B x.1.bag v*cntP r c' (drawB B x.1.bag v) else 0) else bgAt B x.1.bag v*cntP r c (drawB B x.1.bag v))
   else if x.2.2=true then (match c with
    | []=>cntP r [] (mixedB x.1 B)
    | w::c'=>if w=x.1.wood then cntP r c' (mixedB x.1 B) else 0)
   else cntP r c (mixedB x.1 B)
theorem censG_cons (x:Sp) (r:List Sp):censG (x::r)=(if x.2.2=true then 1 else 0)+censG r:=by
 unfold censG
 rw[List.filter_cons]
 split
 · rw[List.length_cons];omega
 · omega
theorem cntP_nil {n:Nat} (hn:n≤6):∀{l:List Sp} {b:List Int} {m:Int} {B:List Int},tbIn b m→runOK n l b m→bgT n b B→cntP l [] B=szP l b
 | [],_,_,_,_,_,_=>rfl
 | x::r,b,m,B,ht,hr,hB=>by
   have hx:=hr.1
   have ht2:=(ht.step hx).1
   rw[cntP,szP]
   by_cases hd:x.2.1=true
   · obtain⟨hb,ha⟩:=hx.d hd
     have hs:=hB.size hb
     obtain⟨hp,hq⟩:=pickW_ok (B:=B) (i:=x.1.bag) (p:=0) (Int.le_refl _) (by rw[hs];omega)
     have hB2:=hB.draw ht.l hn hb hp hq
     rw[if_pos hd,if_pos hd,hs]
     have e:spB x b=setI b x.1.bag (atI b x.1.bag+ -1):=by unfold spB;rw[if_pos hd]
     rw[cntP_nil hn ht2 hr.2 (by rw[e];exact hB2)]
   · have hdf:x.2.1=false:=by simpa using hd
     rw[if_neg hd,if_neg hd,Int.one_mul]
     have hB2:=hB.mix ht.l hn hx hdf
     have:=cntP_nil hn ht2 hr.2 hB2
     split<;>exact this
theorem cnt_tot {n:Nat} (hn:n≤6):∀{l:List Sp} {b:List Int} {m:Int} {B:List Int},tbIn b m→runOK n l b m→wdOK n l→bgT n b B→lsum (allL n (censG l)) (fun s=>cntG n l s B)=szP l b
 | [],_,_,_,_,_,_,_=>rfl
 | x::r,b,m,B,ht,hr,hw,hB=>by
   have hx:=hr.1
   have ht2:=(ht.step hx).1
   have hwr:wdOK n r:=fun y hy=>hw y (by simp[hy])
   rw[szP,censG_cons]
   have hnn:=hB.nn
   have hdr:x.2.1=true→ ∀w:Nat,w<n→bgAt B x.1.bag w*lsum (allL n (censG r)) (fun s=>cntG n r s (drawB B x.1.bag w))=bgAt B x.1.bag w*szP r (spB x b):=fun hd w hw=>by
    obtain⟨hb,ha⟩:=hx.d hd
    by_cases h0:bgAt B x.1.bag w=0
    · rw[h0,Int.zero_mul,Int.zero_mul]
    · have hp:=bgAt_nn hnn x.1.bag w
      have hB2:=hB.draw ht.l hn hb (w:=w) (by omega) (by omega)
      have e:spB x b=setI b x.1.bag (atI b x.1.bag+ -1):=by unfold spB;rw[if_pos hd]
      rw[cnt_tot hn ht2 hr.2 hwr (by rw[e];exact hB2)]
   by_cases hc:x.2.2=true
   · rw[if_pos hc,Nat.add_comm,lsum_allL]
     by_cases hd:x.2.1=true
     · obtain⟨hb,ha⟩:=hx.d hd
       rw[if_pos hd,←hB.sum hn hb,←nSum_mulr]
       refine nSum_congr fun w hwn=>?_
       rw[←hdr hd w hwn,←lsum_mul]
       refine lsum_congr fun s _=>?_
       rw[cntG_t hc]
       unfold nextV
       rw[if_pos hd,if_pos hc]
     · have hdf:x.2.1=false:=by simpa using hd
       have hww:=hw x (by simp) hc hdf
       rw[if_neg hd,Int.one_mul,←cnt_tot hn ht2 hr.2 hwr (hB.mix ht.l hn hx hdf)]
       have e:∀w:Int,lsum (allL n (censG r)) (fun s=>cntG n (x::r) (w::s) B)=if w=x.1.wood then lsum (allL n (censG r)) (fun s=>cntG n r s (mixedB x.1 B)) else 0:=fun w=>by
        by_cases hwx:w=x.1.wood
        · rw[if_pos hwx]
          refine lsum_congr fun s _=>?_
          rw[cntG_t hc]
          unfold nextV
          rw[if_neg hd,if_neg (by rintro⟨_,h⟩;exact h hwx.symm)]
        · rw[if_neg hwx,←lsum_zero (allL n (censG r))]
          refine lsum_congr fun s _=>?_
          rw[cntG_t hc]
          unfold nextV
          rw[if_neg hd,if_pos ⟨hc,fun h=>hwx h.symm⟩]
       simp only[e]
       rw[nSum_one (fun _=>lsum (allL n (censG r)) (fun s=>cntG n r s (mixedB x.1 B))) x.1.wood n,if_pos hww]
   · rw[if_neg hc,Nat.zero_add]
     by_cases hd:x.2.1=true
     · obtain⟨hb,ha⟩:=hx.d hd
       rw[if_pos hd,←hB.sum hn hb,←nSum_mulr]
       have e:lsum (allL n (censG r)) (fun s=>cntG n (x::r) s B)=lsum (allL n (censG r)) (fun s=>nSum n fun w=>bgAt B x.1.bag w*cntG n r s (drawB B x.1.bag w)):=lsum_congr fun s _=>by
        rw[cntG_f hc]
        unfold nextV
        rw[if_pos hd,if_neg hc]
       rw[e,lsum_nSum]
       refine nSum_congr fun w hwn=>?_
       rw[lsum_mul]
       exact hdr hd w hwn
     · have hdf:x.2.1=false:=by simpa using hd
       rw[if_neg hd,Int.one_mul,←cnt_tot hn ht2 hr.2 hwr (hB.mix ht.l hn hx hdf)]
       refine lsum_congr fun s _=>?_
       rw[cntG_f hc]
       unfold nextV
       rw[if_neg hd,if_neg (fun h=>hc h.1)]
theorem cntP_sum {n:Nat} (hn:n≤6):∀{l:List Sp} {b:List Int} {m:Int} {B:List Int} {c:List Int},tbIn b m→runOK n l b m→wdOK n l→bgT n b B→c.length≤censG l→(∀w∈c,0≤w∧w<n)→cntP l c B=lsum (allL n (censG l-c.length)) (fun s=>cntG n l (c++s) B)
 | l,b,m,B,[],ht,hr,hw,hB,_,_=>by
   rw[cntP_nil hn ht hr hB,←cnt_tot hn ht hr hw hB];rfl
 | [],_,_,_,w::c,_,_,_,_,h,_=>by simp[censG] at h
 | x::r,b,m,B,w::c,ht,hr,hw,hB,hl,hcw=>by
   have hx:=hr.1
   have ht2:=(ht.step hx).1
   have hwr:wdOK n r:=fun y hy=>hw y (by simp[hy])
   have hw0:=hcw w (by simp)
   have hnn:=hB.nn
   rw[censG_cons] at hl ⊢
   rw[List.length_cons] at hl ⊢
   rw[cntP]
   have hdr:x.2.1=true→ ∀(c':List Int),c'.length≤censG r→(∀w∈c',0≤w∧w<n)→ ∀v:Int,0≤v→v<n→bgAt B x.1.bag v*cntP r c' (drawB B x.1.bag v)=lsum (allL n (censG r-c'.length)) fun s=>bgAt B x.1.bag v*cntG n r (c'++s) (drawB B x.1.bag v):=fun hd c' h1 h2 v hv0 hv=>by
    obtain⟨hb,ha⟩:=hx.d hd
    rw[lsum_mul]
    by_cases h0:bgAt B x.1.bag v=0
    · rw[h0,Int.zero_mul,Int.zero_mul]
    · have hp:=bgAt_nn hnn x.1.bag v
      have hB2:=hB.draw ht.l hn hb (w:=v) (by omega) (by omega)
      have e:spB x b=setI b x.1.bag (atI b x.1.bag+ -1):=by unfold spB;rw[if_pos hd]
      rw[cntP_sum hn ht2 hr.2 hwr (by rw[e];exact hB2) h1 h2]
   by_cases hd:x.2.1=true
   · obtain⟨hb,ha⟩:=hx.d hd
     rw[if_pos hd]
     by_cases hc:x.2.2=true
     · simp only[if_pos hc] at hl ⊢
       rw[nSum_one (fun v=>bgAt B x.1.bag v*cntP r c (drawB B x.1.bag v)) w 6,if_pos (by omega),hdr hd c (by omega) (fun v hv=>hcw v (by simp[hv])) w hw0.1 hw0.2,show 1+censG r-(c.length+1)=censG r-c.length by omega]
       refine lsum_congr fun s _=>?_
       rw[List.cons_append,cntG_t hc]
       unfold nextV
       rw[if_pos hd,if_pos hc]
     · simp only[if_neg hc] at hl ⊢
       have hz:∀k:Nat,n≤k→k<n+(6-n)→bgAt B x.1.bag (k:Int)*cntP r (w::c) (drawB B x.1.bag k)=0:=fun k h1 h2=>by
        rw[hB.z x.1.bag k hb (by omega),Int.zero_mul]
       have:=nSum_more (f:=fun v=>bgAt B x.1.bag v*cntP r (w::c) (drawB B x.1.bag v)) (6-n) hz
       rw[show n+(6-n)=6 by omega] at this
       rw[this,Nat.zero_add]
       have e:lsum (allL n (censG r-(c.length+1))) (fun s=>cntG n (x::r) (w::c++s) B)=lsum (allL n (censG r-(c.length+1))) (fun s=>nSum n fun v=>bgAt B x.1.bag v*cntG n r (w::c++s) (drawB B x.1.bag v)):=lsum_congr fun s _=>by
        rw[cntG_f hc]
        unfold nextV
        rw[if_pos hd,if_neg hc]
       rw[e,lsum_nSum]
       refine nSum_congr fun v hv=>?_
       exact hdr hd (w::c) (by simp;omega) hcw v (by omega) (by omega)
   · have hdf:x.2.1=false:=by simpa using hd
     have hB2:=hB.mix ht.l hn hx hdf
     rw[if_neg hd]
     by_cases hc:x.2.2=true
     · simp only[if_pos hc] at hl ⊢
       rw[show 1+censG r-(c.length+1)=censG r-c.length by omega]
       by_cases hwx:w=x.1.wood
       · rw[if_pos hwx,cntP_sum hn ht2 hr.2 hwr hB2 (by omega) fun v hv=>hcw v (by simp[hv])]
         refine lsum_congr fun s _=>?_
         rw[List.cons_append,cntG_t hc]
         unfold nextV
         rw[if_neg hd,if_neg (by rintro⟨_,h⟩;exact h hwx.symm)]
       · rw[if_neg hwx,←lsum_zero (allL n (censG r-c.length))]
         refine lsum_congr fun s _=>?_
         rw[List.cons_append,cntG_t hc]
         unfold nextV
         rw[if_neg hd,if_pos ⟨hc,fun h=>hwx h.symm⟩]
     · simp only[if_neg hc] at hl ⊢
       rw[Nat.zero_add,cntP_sum hn ht2 hr.2 hwr hB2 (by simp;omega) hcw]
       refine lsum_congr fun s _=>?_
       rw[cntG_f hc]
       unfold nextV
       rw[if_neg hd,if_neg (fun h=>hc h.1)]
theorem allL_mem {n:Nat}:∀{k:Nat} {s:List Int},s∈allL n k↔s.length=k∧ ∀w∈s,0≤w∧w<n
 | 0,s=>by
   rw[allL,List.mem_singleton]
   constructor
   · rintro rfl;exact⟨rfl,fun w hw=>by cases hw⟩
   · intro h;exact List.eq_nil_of_length_eq_zero h.1
 | k+1,s=>by
   rw[allL,List.mem_flatMap]
   constructor
   · rintro⟨w,hw,hs⟩
     obtain⟨t,ht,rfl⟩:=List.mem_map.1 hs
     obtain⟨h1,h2⟩:=allL_mem.1 ht
     refine⟨by simp[h1],fun v hv=>?_⟩
     rcases List.mem_cons.1 hv with rfl | hv
     · have:=List.mem_range.1 hw;omega
     · exact h2 v hv
   · rintro⟨h1,h2⟩
     cases s with
     | nil=>simp at h1
     | cons w t=>
       have hw:=h2 w (by simp)
       refine⟨w.toNat,List.mem_range.2 (by omega),List.mem_map.2 ⟨t,allL_mem.2 ⟨by simpa using h1,fun v hv=>h2 v (by simp[hv])⟩,?_⟩⟩
       rw[show ((w.toNat:Nat):Int)=w by omega]
def szL:List Sp→List Int→List Int
 | [],_=>[]
 | x::r,b=>if x.2.1=true then atI b x.1.bag::szL r (spB x b) else szL r (spB x b)
def allP:List Int→List (List Int)
 | []=>[[]]
 | s::r=>(List.range s.toNat).flatMap fun (p:Nat)=>(allP r).map fun l=>(p:Int)::l
theorem szL_len:∀(l:List Sp) (b:List Int),(szL l b).length=drawN l
 | [],_=>rfl
 | x::r,b=>by
   have:=szL_len r (spB x b)
   rw[szL]
   unfold drawN at this ⊢
   rw[List.filter_cons]
   split
   · rw[List.length_cons,List.length_cons,this]
   · exact this
def playT:List Sp→List Int→List Int→Option (List Int)
 | [],_,_=>some []
 | x::r,B,ps=>if x.2.1=true then (match ps with
    | []=>none
    | p::ps=>if 0≤p∧p<bgSize B x.1.bag then (playT r (drawB B x.1.bag (pickW B x.1.bag p)) ps).map fun c=>if x.2.2=true then pickW B x.1.bag p::c else c else none)
   else (playT r (mixedB x.1 B) ps).map fun c=>if x.2.2=true then x.1.wood::c else c
theorem playS_T:∀(l:List Sp) (B ps c:List Int),playS l B ps c=(playT l B ps).map fun s=>c++s
 | [],_,_,c=>by show some c=some (c++[]);rw[List.append_nil]
 | x::r,B,ps,c=>by
   by_cases hd:x.2.1=true
   · cases ps with
     | nil=>simp only[playS,playT,if_pos hd];rfl
     | cons p ps=>
       simp only[playS,playT,if_pos hd]
       by_cases hp:0≤p∧p<bgSize B x.1.bag
       · rw[if_pos hp,if_pos hp,playS_T r,Option.map_map]
         congr 1
         funext s
         simp only[Function.comp_def]
         split<;>simp
       · rw[if_neg hp,if_neg hp];rfl
   · simp only[playS,playT,if_neg hd]
     rw[playS_T r,Option.map_map]
     congr 1
     funext s
     simp only[Function.comp_def]
     split<;>simp
theorem nSum_add (f:Int→Int) (a:Nat):∀b:Nat,nSum (a+b) f=nSum a f+nSum b fun p=>f (a+p)
 | 0=>by show _=_+0;rw[Int.add_zero];rfl
 | b+1=>by
   show nSum (a+b) f+f ((a+b:Nat):Int)=_
   rw[nSum_add f a b,nSum,Int.natCast_add];omega
theorem nSum_const (k:Int):∀n:Nat,nSum n (fun _=>k)=n*k
 | 0=>by show (0:Int)=((0:Nat):Int)*k;simp
 | n+1=>by rw[nSum,nSum_const k n,Int.natCast_succ,Int.add_mul,Int.one_mul]
theorem nSum_head (f:Int→Int) (n:Nat):nSum (n+1) f=f 0+nSum n fun p=>f (p+1):=by
 rw[Nat.add_comm,nSum_add]
 show (0+f 0)+_=_
 rw[Int.zero_add]
 congr 1
 refine nSum_congr fun k _=>?_
 show f (((1:Nat):Int)+(k:Int))=f ((k:Int)+1)
 rw[Int.add_comm];rfl
theorem pick_sum (F:Int→Int):∀(R:List Int),(∀v∈R,0≤v)→nSum R.sum.toNat (fun p=>F (pickF R p:Nat))=nSum R.length fun w=>R.getD w.toNat 0*F w
 | [],_=>rfl
 | k::r,h=>by
   have hk:=h k (by simp)
   have hr:=sum_nn (l:=r) fun x hx=>h x (by simp[hx])
   have ih:=pick_sum (fun w=>F (w+1)) r fun x hx=>h x (by simp[hx])
   rw[List.sum_cons,show (k+r.sum).toNat=k.toNat+r.sum.toNat by omega,nSum_add,List.length_cons,nSum_head]
   congr 1
   · have:nSum k.toNat (fun p=>F (pickF (k::r) p:Nat))=nSum k.toNat fun _=>F 0:=nSum_congr fun p hp=>by
      show F (pickF (k::r) (p:Int):Nat)=_
      rw[pickF,if_pos (by omega)];rfl
     rw[this,nSum_const]
     show _=(k::r).getD 0 0*F 0
     rw[show ((k.toNat:Nat):Int)=k by omega];rfl
   · have e1:nSum r.sum.toNat (fun p=>F (pickF (k::r) ((k.toNat:Nat)+p):Nat))=nSum r.sum.toNat fun p=>F ((pickF r p:Nat)+1):=nSum_congr fun p hp=>by
      show F (pickF (k::r) (((k.toNat:Nat):Int)+(p:Int)):Nat)=_
      rw[pickF,if_neg (by omega),show ((k.toNat:Nat):Int)+(p:Int)-k=(p:Int) by omega]
      rw[Int.natCast_add];rfl
     rw[e1,ih]
     refine nSum_congr fun w _=>?_
     show r.getD w 0*F ((w:Int)+1)=(k::r).getD (w+1) 0*F ((w:Int)+1)
     rfl
theorem pickW_sum {B:List Int} (h:∀v∈B,0≤v) (i:Int) (F:Int→Int):nSum (bgSize B i).toNat (fun p=>F (pickW B i p))=nSum 6 fun w=>bgAt B i w*F w:=by
 have:=pick_sum F (rowB B i) (rowB_nn h i)
 rw[rowB_sum,rowB_len] at this
 refine this.trans (nSum_congr fun w hw=>?_)
 show (rowB B i).getD w 0*F w=_
 rw[rowB_get B i hw]
theorem lsum_allP (s:Int) (r:List Int) (f:List Int→Int):lsum (allP (s::r)) f=nSum s.toNat fun p=>lsum (allP r) fun l=>f (p::l):=
 lsum_flat _ _ _ (fun w=>lsum_map _ _ _) s.toNat
def oneIf (p:Prop) [Decidable p]:Int:=if p then 1 else 0
theorem pick_cnt {n:Nat} (hn:n≤6):∀{l:List Sp} {b:List Int} {m:Int} {B:List Int} (c:List Int),tbIn b m→runOK n l b m→bgT n b B→(∀w∈c,0≤w∧w<n)→c.length=censG l→
  lsum (allP (szL l b)) (fun ps=>oneIf (playT l B ps=some c))=cntG n l c B
 | [],b,m,B,c,_,_,_,_,hl=>by
   have:c=[]:=List.eq_nil_of_length_eq_zero (by rw[hl];rfl)
   subst this
   rfl
 | x::r,b,m,B,c,ht,hr,hB,hc,hl=>by
   have hx:=hr.1
   have ht2:=(ht.step hx).1
   have hnn:=hB.nn
   rw[censG_cons] at hl
   rw[szL]
   by_cases hd:x.2.1=true
   · obtain⟨hb,ha⟩:=hx.d hd
     have hs:=hB.size hb
     have e:spB x b=setI b x.1.bag (atI b x.1.bag+ -1):=by unfold spB;rw[if_pos hd]
     rw[if_pos hd,lsum_allP,←hs]
     have hin:∀p:Nat,p<(bgSize B x.1.bag).toNat→0≤(p:Int)∧(p:Int)<bgSize B x.1.bag:=fun p hp=>by omega
     by_cases hce:x.2.2=true
     · rw[if_pos hce] at hl
       cases c with
       | nil=>rw[List.length_nil] at hl;omega
       | cons w c=>
         have hw:=hc w (by simp)
         have e1:nSum (bgSize B x.1.bag).toNat (fun p=>lsum (allP (szL r (spB x b))) fun ps=>oneIf (playT (x::r) B (p::ps)=some (w::c)))=nSum (bgSize B x.1.bag).toNat (fun p=>(fun v=>if v=w then lsum (allP (szL r (spB x b))) (fun ps=>oneIf (playT r (drawB B x.1.bag v) ps=some c)) else 0) (pickW B x.1.bag p)):=nSum_congr fun p hp=>by
          show _=if pickW B x.1.bag p=w then _ else _
          by_cases hv:pickW B x.1.bag p=w
          · rw[if_pos hv]
            refine lsum_congr fun ps _=>?_
            simp only[playT,if_pos hd,if_pos (hin p hp),if_pos hce,oneIf]
            cases hh:playT r (drawB B x.1.bag (pickW B x.1.bag p)) ps with
            | none=>simp
            | some s=>simp[hv]
          · rw[if_neg hv,←lsum_zero (allP (szL r (spB x b)))]
            refine lsum_congr fun ps _=>?_
            simp only[playT,if_pos hd,if_pos (hin p hp),if_pos hce,oneIf]
            cases hh:playT r (drawB B x.1.bag (pickW B x.1.bag p)) ps with
            | none=>simp
            | some s=>simp[hv]
         rw[e1,pickW_sum hnn x.1.bag (fun v=>if v=w then lsum (allP (szL r (spB x b))) (fun ps=>oneIf (playT r (drawB B x.1.bag v) ps=some c)) else 0),cntG_t hce]
         have e2:nSum 6 (fun v=>bgAt B x.1.bag v*(if v=w then lsum (allP (szL r (spB x b))) (fun ps=>oneIf (playT r (drawB B x.1.bag v) ps=some c)) else 0))=nSum 6 fun v=>if v=w then bgAt B x.1.bag v*lsum (allP (szL r (spB x b))) (fun ps=>oneIf (playT r (drawB B x.1.bag v) ps=some c)) else 0:=nSum_congr fun v _=>by
          show bgAt B x.1.bag v*(if (v:Int)=w then _ else 0)=_
          split
          · rfl
          · rw[Int.mul_zero]
         rw[e2,nSum_one,if_pos (by omega)]
         unfold nextV
         rw[if_pos hd,if_pos hce]
         by_cases h0:bgAt B x.1.bag w=0
         · rw[h0,Int.zero_mul,Int.zero_mul]
         · have hp:=bgAt_nn hnn x.1.bag w
           have hB2:=hB.draw ht.l hn hb (w:=w) (by omega) (by omega)
           rw[pick_cnt hn c ht2 hr.2 (by rw[e];exact hB2) (fun v hv=>hc v (by simp[hv])) (by rw[List.length_cons] at hl;omega)]
     · rw[if_neg hce,Nat.zero_add] at hl
       have e1:nSum (bgSize B x.1.bag).toNat (fun p=>lsum (allP (szL r (spB x b))) fun ps=>oneIf (playT (x::r) B (p::ps)=some c))=nSum (bgSize B x.1.bag).toNat (fun p=>(fun v=>lsum (allP (szL r (spB x b))) (fun ps=>oneIf (playT r (drawB B x.1.bag v) ps=some c))) (pickW B x.1.bag p)):=nSum_congr fun p hp=>by
        refine lsum_congr fun ps _=>?_
        simp only[playT,if_pos hd,if_pos (hin p hp),if_neg hce,oneIf]
        cases hh:playT r (drawB B x.1.bag (pickW B x.1.bag p)) ps with
        | none=>simp
        | some s=>simp
       rw[e1,pickW_sum hnn x.1.bag (fun v=>lsum (allP (szL r (spB x b))) (fun ps=>oneIf (playT r (drawB B x.1.bag v) ps=some c))),cntG_f hce]
       unfold nextV
       rw[if_pos hd,if_neg hce]
       have hz:∀k:Nat,n≤k→k<n+(6-n)→bgAt B x.1.bag (k:Int)*lsum (allP (szL r (spB x b))) (fun ps=>oneIf (playT r (drawB B x.1.bag k) ps=some c))=0:=fun k h1 h2=>by
        rw[hB.z x.1.bag k hb (by omega),Int.zero_mul]
       have:=nSum_more (f:=fun v=>bgAt B x.1.bag v*lsum (allP (szL r (spB x b))) (fun ps=>oneIf (playT r (drawB B x.1.bag v) ps=some c))) (6-n) hz
       rw[show n+(6-n)=6 by omega] at this
       rw[this]
       refine nSum_congr fun v hv=>?_
       by_cases h0:bgAt B x.1.bag v=0
       · rw[h0,Int.zero_mul,Int.zero_mul]
       · have hp:=bgAt_nn hnn x.1.bag v
         have hB2:=hB.draw ht.l hn hb (w:=v) (by omega) (by omega)
         rw[pick_cnt hn c ht2 hr.2 (by rw[e];exact hB2) hc hl]
   · have hdf:x.2.1=false:=by simpa using hd
     have hB2:=hB.mix ht.l hn hx hdf
     rw[if_neg hd]
     by_cases hce:x.2.2=true
     · rw[if_pos hce] at hl
       cases c with
       | nil=>rw[List.length_nil] at hl;omega
       | cons w c=>
         rw[cntG_t hce]
         unfold nextV
         rw[if_neg hd]
         by_cases hw:x.1.wood=w
         · rw[if_neg (fun h=>h.2 hw),←pick_cnt hn c ht2 hr.2 hB2 (fun v hv=>hc v (by simp[hv])) (by rw[List.length_cons] at hl;omega)]
           refine lsum_congr fun ps _=>?_
           simp only[playT,if_neg hd,if_pos hce,oneIf]
           cases hh:playT r (mixedB x.1 B) ps with
           | none=>simp
           | some s=>simp[hw]
         · rw[if_pos ⟨hce,hw⟩,←lsum_zero (allP (szL r (spB x b)))]
           refine lsum_congr fun ps _=>?_
           simp only[playT,if_neg hd,if_pos hce,oneIf]
           cases hh:playT r (mixedB x.1 B) ps with
           | none=>simp
           | some s=>simp[hw]
     · rw[if_neg hce,Nat.zero_add] at hl
       rw[cntG_f hce,←show nextV x 0 n (cntG n r c) B=nextV x 0 n (cntG n r c) B from rfl]
       unfold nextV
       rw[if_neg hd,if_neg (fun h=>hce h.1),←pick_cnt hn c ht2 hr.2 hB2 hc hl]
       refine lsum_congr fun ps _=>?_
       simp only[playT,if_neg hd,if_neg hce,oneIf]
       cases hh:playT r (mixedB x.1 B) ps with
       | none=>simp
       | some s=>simp
theorem allP_mem:∀{sz ps:List Int},ps∈allP sz↔ps.length=sz.length∧ ∀i:Nat,i<sz.length→0≤ps.getD i 0∧ps.getD i 0<sz.getD i 0
 | [],ps=>by
   rw[allP,List.mem_singleton]
   constructor
   · rintro rfl;exact⟨rfl,fun i hi=>by simp at hi⟩
   · intro h;exact List.eq_nil_of_length_eq_zero h.1
 | s::r,ps=>by
   rw[allP,List.mem_flatMap]
   constructor
   · rintro⟨p,hp,hs⟩
     obtain⟨t,ht,rfl⟩:=List.mem_map.1 hs
     obtain⟨h1,h2⟩:=allP_mem.1 ht
     have hp:=List.mem_range.1 hp
     refine⟨by simp[h1],fun i hi=>?_⟩
     cases i with
     | zero=>simp;omega
     | succ i=>simpa using h2 i (by simpa using hi)
   · rintro⟨h1,h2⟩
     cases ps with
     | nil=>simp at h1
     | cons p t=>
       have hp:=h2 0 (by simp)
       simp only[List.getD_cons_zero] at hp
       refine⟨p.toNat,List.mem_range.2 (by omega),List.mem_map.2 ⟨t,allP_mem.2 ⟨by simpa using h1,fun i hi=>?_⟩,?_⟩⟩
       · simpa using h2 (i+1) (by simpa using hi)
       · rw[show ((p.toNat:Nat):Int)=p by omega]
theorem play_in {n:Nat} (hn:n≤6):∀{l:List Sp} {b:List Int} {m:Int} {B ps:List Int},tbIn b m→runOK n l b m→wdOK n l→bgT n b B→ps∈allP (szL l b)→ ∃c,playT l B ps=some c∧c.length=censG l∧ ∀w∈c,0≤w∧w<n
 | [],_,_,_,_,_,_,_,_,_=>⟨[],rfl,rfl,fun w hw=>by cases hw⟩
 | x::r,b,m,B,ps,ht,hr,hw,hB,hp=>by
   have hx:=hr.1
   have ht2:=(ht.step hx).1
   have hwr:wdOK n r:=fun y hy=>hw y (by simp[hy])
   rw[szL] at hp
   rw[censG_cons]
   by_cases hd:x.2.1=true
   · obtain⟨hb,ha⟩:=hx.d hd
     have hs:=hB.size hb
     rw[if_pos hd,allP,List.mem_flatMap] at hp
     obtain⟨p,hp,hps⟩:=hp
     obtain⟨t,ht',rfl⟩:=List.mem_map.1 hps
     have hp:=List.mem_range.1 hp
     have hpi:0≤(p:Int)∧(p:Int)<bgSize B x.1.bag:=by omega
     obtain⟨hq,hq2⟩:=pickW_ok hpi.1 hpi.2
     have hB2:=hB.draw ht.l hn hb hq hq2
     have e:spB x b=setI b x.1.bag (atI b x.1.bag+ -1):=by unfold spB;rw[if_pos hd]
     obtain⟨c,h1,h2,h3⟩:=play_in hn ht2 hr.2 hwr (by rw[e];exact hB2) ht'
     simp only[playT,if_pos hd,if_pos hpi,h1,Option.map_some]
     refine⟨_,rfl,?_,?_⟩
     · split
       · rw[List.length_cons,h2];omega
       · rw[h2];omega
     · split
       · intro w hw
         rcases List.mem_cons.1 hw with rfl | hw
         · exact⟨hq.1,hB.lt hb hq hq2⟩
         · exact h3 w hw
       · exact h3
   · have hdf:x.2.1=false:=by simpa using hd
     rw[if_neg hd] at hp
     obtain⟨c,h1,h2,h3⟩:=play_in hn ht2 hr.2 hwr (hB.mix ht.l hn hx hdf) hp
     simp only[playT,if_neg hd,h1,Option.map_some]
     refine⟨_,rfl,?_,?_⟩
     · split
       · rw[List.length_cons,h2];omega
       · rw[h2];omega
     · split
       · intro w hw'
         rcases List.mem_cons.1 hw' with rfl | hw'
         · exact hw x (by simp) (by assumption) hdf
         · exact h3 w hw'
       · exact h3
theorem play_out {n:Nat} (hn:n≤6):∀{l:List Sp} {b:List Int} {m:Int} {B ps c:List Int},tbIn b m→runOK n l b m→bgT n b B→ps.length=drawN l→playT l B ps=some c→ps∈allP (szL l b)
 | [],_,_,_,ps,_,_,_,_,hl,_=>by
   have:ps=[]:=List.eq_nil_of_length_eq_zero (by rw[hl];rfl)
   subst this;simp[szL,allP]
 | x::r,b,m,B,ps,c,ht,hr,hB,hl,hp=>by
   have hx:=hr.1
   have ht2:=(ht.step hx).1
   rw[szL]
   by_cases hd:x.2.1=true
   · obtain⟨hb,ha⟩:=hx.d hd
     have hs:=hB.size hb
     have hdn:drawN (x::r)=drawN r+1:=by unfold drawN;rw[List.filter_cons,if_pos hd];rfl
     rw[hdn] at hl
     cases ps with
     | nil=>simp at hl
     | cons p t=>
       simp only[playT,if_pos hd] at hp
       by_cases hpi:0≤p∧p<bgSize B x.1.bag
       · rw[if_pos hpi] at hp
         obtain⟨s,h1,-⟩:=Option.map_eq_some_iff.1 hp
         obtain⟨hq,hq2⟩:=pickW_ok hpi.1 hpi.2
         have hB2:=hB.draw ht.l hn hb hq hq2
         have e:spB x b=setI b x.1.bag (atI b x.1.bag+ -1):=by unfold spB;rw[if_pos hd]
         have:=play_out hn ht2 hr.2 (by rw[e];exact hB2) (by rw[List.length_cons] at hl;omega) h1
         rw[if_pos hd,allP,List.mem_flatMap]
         exact⟨p.toNat,List.mem_range.2 (by omega),List.mem_map.2 ⟨t,this,by rw[show ((p.toNat:Nat):Int)=p by omega]⟩⟩
       · rw[if_neg hpi] at hp;cases hp
   · have hdf:x.2.1=false:=by simpa using hd
     have hdn:drawN (x::r)=drawN r:=by unfold drawN;rw[List.filter_cons,if_neg hd]
     rw[hdn] at hl
     simp only[playT,if_neg hd] at hp
     obtain⟨s,h1,-⟩:=Option.map_eq_some_iff.1 hp
     rw[if_neg hd]
     exact play_out hn ht2 hr.2 (hB.mix ht.l hn hx hdf) hl h1
structure GOK (G:Gm):Prop where
 n1:1≤G.ws.length
 n6:G.ws.length≤6
 d24:G.ds.length≤24
 cnt:∀d∈G.ds,drawsB d=true→1≤d.count∧d.count≤12
 cen:1≤censG (stepsG G.ds)∧censG (stepsG G.ds)≤9
 wd:wdOK G.ws.length (stepsG G.ds)
 ex:runOK G.ws.length (stepsG G.ds) tb0.bags tb0.mixed
 ws:wsErr [] G.ws=0
 ds:dsErr G.ws.length tb0 G.ds=0
theorem bgT0 (n:Nat):bgT n tb0.bags bg0:=by
 refine⟨rfl,fun v hv=>?_,fun i w _ _=>bg0_at i w,fun i hi=>?_⟩
 · rw[(List.mem_replicate.1 hv).2];decide
 · rw[nSum6,bg0_at,bg0_at,bg0_at,bg0_at,bg0_at,bg0_at]
   rcases (by omega:i=0∨i=1∨i=2∨i=3) with rfl|rfl|rfl|rfl<;>rfl
theorem dl_of {n:Nat} {d:Dl} {t:Tb} (h:dlErr n d t=0):inB d.kind 1 6=true∧formD d=true∧dealE n d t=0:=by
 unfold dlErr at h
 by_cases hk:inB d.kind 1 6=true
 · rw[if_pos hk] at h
   by_cases hf:formD d=true
   · rw[if_pos hf] at h;exact⟨hk,hf,h⟩
   · rw[if_neg hf] at h;exact absurd h (by decide)
 · rw[if_neg hk] at h;exact absurd h (by decide)
theorem ds_cons {n:Nat} {t:Tb} {d:Dl} {r:List Dl} (h:dsErr n t (d::r)=0):dlErr n d t=0∧dsErr n (dealT d t) r=0:=by
 rw[dsErr] at h
 by_cases hd:dlErr n d t=0
 · rw[if_pos hd] at h;exact⟨hd,h⟩
 · rw[if_neg hd] at h;exact absurd h hd
theorem deals_tab {n:Nat}:∀(l:List Dl) (t:Tb),tbOK t→dsErr n t l=0→tbOK (dsTab t l)
 | [],t,h,_=>h
 | d::r,t,h,h0=>by
   obtain⟨h1,h2⟩:=ds_cons h0
   obtain⟨k1,k2,k3⟩:=dl_of h1
   exact deals_tab r _ (dealT_ok k1 h k3) h2
theorem stp1_wd {n:Nat} {d:Dl} {t:Tb} (hk:inB d.kind 1 6=true) (h0:dealE n d t=0):wdOK n (stp1 d):=by
 intro x hx h1 h2
 unfold stp1 at hx
 split at hx
 · rw[(List.mem_replicate.1 hx).2] at h2;cases h2
 · rw[List.mem_singleton.1 hx] at h1 ⊢
   have h6:d.kind=6:=by simpa using h1
   unfold dealE at h0
   rw[if_neg (by omega),if_neg (by omega),if_neg (by omega),if_neg (by omega),if_neg (by omega)] at h0
   have:=inB_t.1 (place_0 h0)
   exact⟨this.1,by show d.wood<_;omega⟩
theorem deals_wd {n:Nat}:∀(l:List Dl) (t:Tb),dsErr n t l=0→wdOK n (stepsG l)
 | [],_,_=>fun x hx=>by cases hx
 | d::r,t,h0=>by
   obtain⟨h1,h2⟩:=ds_cons h0
   obtain⟨k1,k2,k3⟩:=dl_of h1
   intro x hx
   rcases List.mem_append.1 (show x∈stp1 d++stepsG r from hx) with hx | hx
   · exact stp1_wd k1 k3 x hx
   · exact deals_wd r _ h2 x hx
theorem gm_ok {G:Gm} (h:gmErr G=0):GOK G:=by
 unfold gmErr at h
 by_cases h1:G.ws=[]
 · rw[if_pos h1] at h;exact absurd h (by decide)
 rw[if_neg h1] at h
 by_cases h2:6<G.ws.length
 · rw[if_pos h2] at h;exact absurd h (by decide)
 rw[if_neg h2] at h
 by_cases h3:wsErr [] G.ws=0
 rotate_left
 · rw[if_neg h3] at h;exact absurd h h3
 rw[if_pos h3] at h
 by_cases h4:24<G.ds.length
 · rw[if_pos h4] at h;exact absurd h (by decide)
 rw[if_neg h4] at h
 by_cases h5:dsErr G.ws.length tb0 G.ds=0
 rotate_left
 · rw[if_neg h5] at h;exact absurd h h5
 rw[if_pos h5] at h
 by_cases h6:(dsTab tb0 G.ds).cens=0
 · rw[if_pos h6] at h;exact absurd h (by decide)
 obtain⟨i1,i2,i3⟩:=deals_run G.ds tb0 tb0_ok h5
 have hw0:G.ws.length≠0:=fun e=>h1 (List.eq_nil_of_length_eq_zero e)
 have hc0:tb0.cens=0:=rfl
 have hc9:=(deals_tab G.ds tb0 tb0_ok h5).c
 exact⟨by omega,by omega,by omega,i1,⟨by omega,by omega⟩,deals_wd _ _ h5,i2,h3,h5⟩
theorem tb0_in:tbIn tb0.bags tb0.mixed:=tb0_ok.tin
theorem bgT.bgin {n:Nat} {b B:List Int} {m:Int} (h:bgT n b B) (ht:tbIn b m):bgIn B:=by
 refine⟨h.l,fun v hv=>?_⟩
 obtain⟨p,hp,rfl⟩:=List.getElem_of_mem hv
 have hp24:p<24:=by rw[←h.l];exact hp
 have hi:(0:Int)≤(p/6:Nat)∧((p/6:Nat):Int)≤3:=by omega
 have:=h.at hi (w:=(p%6:Nat)) (by omega)
 have h2:=ht.le hi
 have h3:=ht.sm
 have h4:=ht.m
 have e:bgAt B (p/6:Nat) (p%6:Nat)=B[p]:=by
  unfold bgAt
  rw[Int.toNat_natCast,Int.toNat_natCast,show p/6*6+p%6=p by omega,List.getD_eq_getElem?_getD,List.getElem?_eq_getElem hp];rfl
 rw[e] at this
 omega
theorem crsG_list {G:Gm} (h:GOK G):crsG G=((allL G.ws.length (censG (stepsG G.ds))).filter fun s=>decide (0<cwG G s)).map fun s=>(s,cwG G s):=crsG_eq G (run_stOK h.ex)
theorem szP_pos {n:Nat}:∀{l:List Sp} {b:List Int} {m:Int},runOK n l b m→1≤szP l b
 | [],_,_,_=>Int.le_refl _
 | x::r,b,m,h=>by
   have ih:=szP_pos h.2
   rw[szP]
   split
   · have:=(h.1.d (by assumption)).2
     have:1*1≤atI b x.1.bag*szP r (spB x b):=Int.mul_le_mul this ih (by decide) (by omega)
     omega
   · omega
theorem lsum_pos {f:List Int→Int}:∀{L:List (List Int)},0<lsum L f→ ∃s∈L,0<f s
 | [],h=>by simp[lsum] at h
 | a::r,h=>by
   rw[lsum_cons] at h
   by_cases ha:0<f a
   · exact⟨a,by simp,ha⟩
   · obtain⟨s,hs,hf⟩:=lsum_pos (L:=r) (f:=f) (by omega)
     exact⟨s,by simp[hs],hf⟩
def allW (G:Gm):Int:=szP (stepsG G.ds) tb0.bags
theorem cwG_tot {G:Gm} (h:GOK G):lsum (allL G.ws.length (censG (stepsG G.ds))) (cwG G)=allW G:=cnt_tot h.n6 tb0_in h.ex h.wd (bgT0 _)
theorem crsG_mem {G:Gm} (h:GOK G) {c:List Int×Int}:c∈crsG G↔(c.1.length=censG (stepsG G.ds)∧ ∀w∈c.1,0≤w∧w<G.ws.length)∧0<cwG G c.1∧c.2=cwG G c.1:=by
 rw[crsG_list h,List.mem_map]
 constructor
 · rintro⟨s,hs,rfl⟩
   obtain⟨h1,h2⟩:=List.mem_filter.1 hs
   exact⟨allL_mem.1 h1,by simpa using h2,rfl⟩
 · rintro⟨h1,h2,h3⟩
   exact⟨c.1,List.mem_filter.2 ⟨allL_mem.2 h1,by simpa using h2⟩,by rw[←h3]⟩
theorem crsG_ne {G:Gm} (h:GOK G):crsG G≠[]:=fun e=>by
 have h1:=cwG_tot h
 have h2:=szP_pos h.ex
 obtain⟨s,hs,hp⟩:=lsum_pos (L:=allL G.ws.length (censG (stepsG G.ds))) (f:=cwG G) (by rw[h1];exact h2)
 have:(s,cwG G s)∈crsG G:=(crsG_mem h).2 ⟨allL_mem.1 hs,hp,rfl⟩
 rw[e] at this
 cases this
theorem szP_le {n:Nat}:∀{l:List Sp} {b:List Int} {m:Int},tbIn b m→runOK n l b m→szP l b≤fct (sumB b+12-m).toNat
 | [],b,m,_,_=>fct_pos _
 | x::r,b,m,ht,h=>by
   obtain⟨ht2,hs⟩:=ht.step h.1
   have ih:=szP_le ht2 h.2
   rw[szP]
   by_cases hd:x.2.1=true
   · obtain⟨hb,ha⟩:=h.1.d hd
     rw[if_pos hd] at hs ⊢
     have hle:=ht.le hb
     have hsm:=ht.sm
     have hm:=ht.m
     obtain⟨k,hk⟩:∃k:Nat,(sumB b+12-m).toNat=k+1:=⟨(sumB b+12-m).toNat-1,by omega⟩
     have hk2:(sumB (spB x b)+12-spM x m).toNat=k:=by omega
     rw[hk2] at ih
     rw[hk]
     have hz:=szP_pos h.2
     have e1:atI b x.1.bag*szP r (spB x b)≤((k+1:Nat):Int)*fct k:=Int.mul_le_mul (by omega) ih (by omega) (by omega)
     exact e1
   · rw[if_neg hd] at hs ⊢
     have hk2:(sumB (spB x b)+12-spM x m).toNat=(sumB b+12-m).toNat:=by omega
     rw[hk2] at ih
     omega
theorem allW_bd {G:Gm} (h:GOK G):1≤allW G∧allW G≤479001600:=by
 have:=szP_le tb0_in h.ex
 have e:(sumB tb0.bags+12-tb0.mixed).toNat=12:=by decide
 rw[e,fct12] at this
 exact⟨szP_pos h.ex,this⟩
theorem lsum_filter (f:List Int→Int) (hf:∀s,0≤f s):∀L:List (List Int),lsum (L.filter fun s=>decide (0<f s)) f=lsum L f
 | []=>rfl
 | a::r=>by
   rw[List.filter_cons,lsum_cons]
   have:=hf a
   split
   · rw[lsum_cons,lsum_filter f hf r]
   · rename_i h
     rw[lsum_filter f hf r]
     have:¬0<f a:=by simpa using h
     omega
theorem cwG_nn {G:Gm} (h:GOK G) (s:List Int):0≤cwG G s:=cntG_nn _ (run_stOK h.ex) s nn_bg0
def sumA:List (List Int×Int)→Int
 | []=>0
 | y::r=>y.2+sumA r
theorem sumA_map (f:List Int→Int):∀L:List (List Int),sumA (L.map fun s=>(s,f s))=lsum L f
 | []=>rfl
 | a::r=>by rw[List.map_cons,sumA,lsum_cons,sumA_map f r]
theorem crsG_sum {G:Gm} (h:GOK G):sumA (crsG G)=allW G:=by
 rw[crsG_list h,sumA_map,lsum_filter _ (cwG_nn h),cwG_tot h]
theorem ACall.exb {P:Program} {f:Nat} {args0 args:List AV} {R:Bool→Prop} {σ:Sig} {d:Nat} {Q:AV→Sig→Prop} (h:Fn0 P f args0 (fun v=>∃b,v= .bool b∧R b)) (ha:args0=renL [] args) (hQ:∀b,R b→Q (.bool b) σ):ACall P f args σ d Q:=
 ACall.fn0 h ha fun av hav=>by
  obtain⟨b,rfl,hb⟩:=hav
  exact hQ b hb
theorem subV2 {P:Program} {f:Nat} {args:List AV} {a b:AV} (h:Fn0 P f args (fun v=>v=a)) (hs:Sub a b):Fn0 P f args (fun v=>v=b):=
 h.sub fun _ _ e=>⟨b,e▸hs,rfl⟩
def ir23:IFn:=
 ⟨121,[(4,none),(5,none)],(.seq (.ops [oo 2 (.box 2 0),oo 4 (.mov (.k .nsl)),oo 5 (.mov (kI 0))])
 (.seq (.seq (.ops [oo 20 (.ld 2 true 2),oo 21 (.callF 38 [20]),oo 6 (.mov 21)])
 (.seq (.ops [oo 22 (.mov 6),oo 23 (.bin .neq 22 (kI 0))])
 (.cnd 23
 (.seq (.ops [oo 24 (.mov 6),oo 4 (.mov (.k .nsl)),oo 5 (.mov 24)])
 .ret)
 .skip)))
 (.seq (.ops [oo 7 (.mov (kI 0))])
 (.seq (.seq (.ops [oo 25 (.flA 1 2),oo 26 (.ld 1 false 25),oo 27 (.len false 26),oo 28 (.mov (kI 0))])
 (.blk 0 (.loop (.seq (.ops [oo 29 (.bin .lss 28 27)])
 (.seq (.cnd 29
 .skip
 (.exit 0))
 (.seq (.blk 1 (.seq (.ops [oo 30 (.ixA 5 26 28),oo 31 (.ld 5 true 30),oo 9 (.new [(.int .i64 0),(.int .i64 0),(.int .i64 0),(.int .i64 0),(.int .i64 0)]),
 ⟨none,none,(.st 5 9 31)⟩])
 (.seq (.ops [oo 33 (.ld 5 true 9),oo 34 (.callF 52 [33]),oo 32 (.mov 34),oo 35 (.ext 0 32),oo 36 (.ext 1 32),oo 10 (.mov 35),oo 11 (.mov 36)])
 (.ops [oo 37 (.mov 7),oo 38 (.mov 10),oo 39 (.bin .add 37 38),oo 7 (.mov 39)]))))
 (.ops [oo 40 (.bin .add 28 (kI 1)),oo 28 (.mov 40)])))))))
 (.seq (.seq (.ops [oo 41 (.mov 1),oo 42 (.len false 41),oo 43 (.mov 7),oo 44 (.bin .neq 42 43)])
 (.cnd 44
 (.seq (.ops [oo 4 (.mov (.k .nsl)),oo 5 (.mov (kI 3))])
 .ret)
 .skip))
 (.seq (.ops [oo 12 (.new [z0,z0,z0,z0,z0,z0,z0,z0,z0,z0,z0,z0,z0,z0,z0,z0,z0,z0,z0,z0,z0,z0,z0,z0])])
 (.seq (.ops [oo 13 (.nil 1 13)])
 (.seq (.seq (.ops [oo 45 (.flA 1 2),oo 46 (.ld 1 false 45),oo 47 (.len false 46),oo 48 (.mov (kI 0))])
 (.blk 2 (.loop (.seq (.ops [oo 49 (.bin .lss 48 47)])
 (.seq (.cnd 49
 .skip
 (.exit 2))
 (.seq (.blk 3 (.seq (.ops [oo 50 (.ixA 5 46 48),oo 51 (.ld 5 true 50),oo 15 (.new [(.int .i64 0),(.int .i64 0),(.int .i64 0),(.int .i64 0),(.int .i64 0)]),
 ⟨none,none,(.st 5 15 51)⟩])
 (.seq (.ops [oo 52 (.ld 24 true 12),oo 53 (.ld 5 true 15),oo 54 (.callF 53 [52,53]),
 ⟨none,none,(.st 24 12 54)⟩])
 (.seq (.seq (.ops [oo 55 (.flA 0 15),oo 56 (.ld 1 false 55),oo 57 (.bin .eql 56 (kI 6))])
 (.cnd 57
 (.ops [oo 58 (.mov 13),oo 59 (.flA 3 15),oo 60 (.ld 1 false 59),oo 61 (.bsl 1 [[(.int .i64 0)]] [(0,60)]),oo 62 (.app 1 8 58 61 13),oo 13 (.mov 62)])
 .skip))
 (.seq (.ops [oo 64 (.ld 5 true 15),oo 65 (.callF 52 [64]),oo 63 (.mov 65),oo 66 (.ext 0 63),oo 67 (.ext 1 63),oo 16 (.mov 66),oo 17 (.mov 67)])
 (.blk 4 (.loop (.seq (.seq (.ops [oo 68 (.mov 16),oo 69 (.bin .gtr 68 (kI 0))])
 (.cnd 69
 .skip
 (.exit 4)))
 (.seq (.blk 5 (.seq (.seq (.ops [oo 72 (.mov 1),oo 73 (.ixA 1 72 (kI 0)),oo 74 (.ld 1 false 73),oo 75 (.ld 24 true 12),oo 76 (.flA 1 15),oo 77 (.ld 1 false 76),oo 78 (.callF 55 [75,77]),
 ⟨none,none,(.chk 1 false 73 74)⟩,oo 79 (.bin .sub 78 (kI 1)),oo 80 (.callF 54 [74,(kI 0),79]),oo 81 (.not 80)])
 (.cnd 81
 (.seq (.ops [oo 4 (.mov (.k .nsl)),oo 5 (.mov (kI 2))])
 .ret)
 .skip))
 (.seq (.ops [oo 18 (.mov (kI 0))])
 (.seq (.seq (.ops [oo 82 (.mov 1),oo 83 (.ixA 1 82 (kI 0)),oo 84 (.ld 1 false 83),oo 19 (.mov 84)])
 (.blk 6 (.loop (.seq (.seq (.ops [oo 85 (.mov 19),oo 86 (.flA 1 15),oo 87 (.ld 1 false 86),oo 88 (.mov 18),oo 89 (.ixAr 4 6 12 87),oo 90 (.ixAr 6 1 89 88),oo 91 (.ld 1 false 90),oo 92 (.bin .geq 85 91)])
 (.cnd 92
 .skip
 (.exit 6)))
 (.seq (.blk 7 (.ops [oo 95 (.mov 19),oo 96 (.flA 1 15),oo 97 (.ld 1 false 96),oo 98 (.mov 18),oo 99 (.ixAr 4 6 12 97),oo 100 (.ixAr 6 1 99 98),oo 101 (.ld 1 false 100),oo 102 (.bin .sub 95 101),oo 19 (.mov 102)]))
 (.ops [oo 93 (.mov 18),oo 94 (.bin .add 93 (kI 1)),oo 18 (.mov 94)]))))))
 (.seq (.ops [oo 103 (.mov 1),oo 104 (.slS 1 103 (some (kI 1)) none none),oo 1 (.mov 104)])
 (.seq (.ops [oo 105 (.flA 1 15),oo 106 (.ld 1 false 105),oo 107 (.mov 18),oo 108 (.ixAr 4 6 12 106),oo 109 (.ixAr 6 1 108 107),oo 110 (.ld 1 false 109),oo 111 (.bin .sub 110 (kI 1)),oo 112 (.ixAr 4 6 12 106),oo 113 (.ixAr 6 1 112 107),
 ⟨none,none,(.st 1 113 111)⟩])
 (.seq (.ops [oo 114 (.mov 17)])
 (.cnd 114
 (.ops [oo 115 (.mov 13),oo 116 (.mov 18),oo 117 (.bsl 1 [[(.int .i64 0)]] [(0,116)]),oo 118 (.app 1 8 115 117 13),oo 13 (.mov 118)])
 .skip))))))))
 (.ops [oo 70 (.mov 16),oo 71 (.bin .sub 70 (kI 1)),oo 16 (.mov 71)]))))))))))
 (.ops [oo 119 (.bin .add 48 (kI 1)),oo 48 (.mov 119)])))))))
 (.seq (.ops [oo 120 (.mov 13),oo 4 (.mov 120),oo 5 (.mov (kI 0))])
 .ret)))))))))⟩
def hint23 (P:Program):Hint:={site:=[(62,13),(118,13)],nils:=[(13,1)],frz:=[],mve:=[],wr:=[] }
theorem ACall.bgint {P:Program} {f:Nat} {B:List Int} {a1 a2:AV} {r:Int} {σ:Sig} {d:Nat} {Q:AV→Sig→Prop} (h:Fn0 P f [bgV B,a1] (fun a=>a= .int .i64 r)) (ha:a1=ren [] a2) (hQ:Q (.int .i64 r) σ):ACall P f [bgV B,a2] σ d Q:=
 ACall.val h (by show[bgV B,a1]=[ren [] (bgV B),ren [] a2];rw[ren_bg,ha]) rfl hQ
def plA (r:List Int×Int):AV:=if r.2=0 then .tup [.slc 1 (iR r.1) .non,.int .i64 r.2] else .tup [.nsl,.int .i64 r.2]
section
variable {P:Program} {K:(Nat→AV)→Sig→Prop} {e:Nat→AV} {σ:Sig} {x h:IOpd} {r:List IStep}
theorem w_sl1 {l:List Int} {p:Int} {d:Nat} {t:Tag} (hx:x.ev e= .slc 1 (iR (p::l)) t) (hk:stepsW P r K (upd e d (.slc 1 (iR l) .non)) σ):stepsW P (⟨some d,none,.slS 1 x (some (.k (.int .i64 1))) none none⟩::r) K e σ:=by
 refine w_slM (a:=1) (b:=((p::l).length:Int)) hx rfl rfl ⟨by decide,by rw[List.length_cons];omega,Int.le_refl _⟩ ?_
 have e1:((p::l).drop (1:Int).toNat).take (((p::l).length:Int)-1).toNat=l:=by
  show l.take _=l
  exact List.take_of_length_le (by rw[List.length_cons];omega)
 rw[e1];exact hk
end
theorem drawN_stp (d:Dl):drawN (stp1 d)=if drawsB d=true then d.count.toNat else 0:=by
 unfold stp1
 split
 · rw[drawN_rep]
 · rfl
theorem drawN_le:∀{l:List Dl},(∀d∈l,drawsB d=true→1≤d.count∧d.count≤12)→drawN (stepsG l)≤12*l.length
 | [],_=>Nat.le_refl _
 | d::r,h=>by
   have h1:=drawN_le (l:=r) fun x hx=>h x (by simp[hx])
   show drawN (stp1 d++stepsG r)≤12*(r.length+1)
   rw[drawN_app,drawN_stp]
   split
   · have:=h d (by simp) (by assumption);omega
   · omega
end Go.Abs
