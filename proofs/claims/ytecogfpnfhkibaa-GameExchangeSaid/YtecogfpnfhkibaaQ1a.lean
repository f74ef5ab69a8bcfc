/- A part of the proofs of the laws of this seat: contracts of the functions that they reach, each proved of the program's form in Lean. No condition beyond those that each contract names. -/
import Derived.Test.YtecogfpnfhkibaaProg
import Derived.Test.YtecogfpnfhkibaaSnd3
import Derived.Test.YtecogfpnfhkibaaA0
import Derived.Test.YtecogfpnfhkibaaN1a
import Derived.Test.YtecogfpnfhkibaaN1b
import Derived.Test.YtecogfpnfhkibaaN1c
import Derived.Test.YtecogfpnfhkibaaN1d
import Derived.Test.YtecogfpnfhkibaaN1e
import Derived.Test.YtecogfpnfhkibaaN1f
import Derived.Test.YtecogfpnfhkibaaN1g
import Derived.Test.YtecogfpnfhkibaaN1h
set_option linter.unusedVariables false
set_option linter.unusedSimpArgs false
set_option maxRecDepth 20000
set_option maxHeartbeats 4000000
namespace Go.Abs
open Go.Proofs
def ir93:IFn:=
 ⟨19,[(2,none)],(.seq (.ops [oo 1 (.box 2 0),
 oo 2 (.mov (kI 0))])
 (.seq (.ops [oo 3 (.mov (kI 0))])
 (.seq (.seq (.ops [oo 6 (.ld 2 true 1),
 oo 7 (.callF 72 [6]),
 oo 8 (.len false 7),
 oo 9 (.mov (kI 0))])
 (.blk 0 (.loop (.seq (.ops [oo 10 (.bin .lss 9 8)])
 (.seq (.cnd 10
 .skip
 (.exit 0))
 (.seq (.blk 1 (.seq (.ops [oo 11 (.ixA 7 7 9),
 oo 12 (.ld 7 true 11),
 oo 5 (.new [(.int .i64 0),(.int .i64 0),(.int .i64 0),(.int .i64 0),(.int .i64 0),(.bool false),(.bool false)]),
 ⟨none,none,(.st 7 5 12)⟩])
 (.seq (.ops [oo 13 (.flA 6 5),
 oo 14 (.ld 1 false 13)])
 (.cnd 14
 (.ops [oo 15 (.mov 3),
 oo 16 (.bin .add 15 (kI 1)),
 oo 3 (.mov 16)])
 .skip))))
 (.ops [oo 17 (.bin .add 9 (kI 1)),
 oo 9 (.mov 17)])))))))
 (.seq (.ops [oo 18 (.mov 3),
 oo 2 (.mov 18)])
 .ret))))⟩
def hint93 (P:Program):Hint:={}
theorem censers_c (G:Gm) (hd:G.ds.length≤24) (hc:∀d∈G.ds,drawsB d=true→1≤d.count∧d.count≤12):Fn0 Try.prog 93 [gmA G] (fun v=>v= .int .i64 (censG (stepsG G.ds):Nat)):=by
 have hst:=steps_c G hd hc
 have hsl:=stepsG_len G.ds hc
 obtain⟨L,hL⟩:∃L,stepsG G.ds=L:=⟨_,rfl⟩
 rw[hL] at hst hsl ⊢
 refine RawC.walk (H:=hint93 Try.prog) ir93 Try.func93 rfl rfl rfl ?_
 unfold ir93
 repeat' (first
  | with_reducible (first | refine Rd.p ?_ | refine w_alt ?_ ?_ | refine zE ?_ | refine zE0 ?_)
  | with_reducible (first | refine zI fun y hy=>?_ | refine zL ?_ | refine zS ?_ | refine zA fun _=>?_ | refine zV ?_ | refine zC ?_ | refine zG ?_ | refine zU ?_ | refine zG0 ?_ | refine zU0 ?_ | refine zF ?_)
  | ((with_reducible refine acall_id ?_);refine ACall.val hst rfl rfl ?_)
  | with_reducible (first | refine zX ?_ | refine zD fun _=>?_ | refine zD0 ?_ | refine zN ?_ | refine zF0 ?_ | refine zX0 ?_ | refine z1 ?_ | refine z2 ?_ | refine z3 ?_ | refine z4 ?_ | refine z5 ?_ | refine z6 ?_ | refine z7 ?_ | refine z8 ?_ | refine y1 ?_ | refine y2 ?_ | refine y3 ?_ | refine y4 ?_ | refine y5 ?_ | refine y6 ?_ | refine y7 ?_ | refine y8 ?_ | refine Rt.p (fun _=>?_) fun _=>?_)
  | ((with_reducible apply w_ixM);(focus exact rfl);(focus exact rfl);case' hk=>intro y hy) | ((with_reducible (first | apply w_val | apply q_ends));(focus exact rfl)))
 refine w_loopK [7,8] [] (fun x:List Sp×List Sp=>L=x.1++x.2) (fun x=>x.2.length) (fun x=>[(3,.int .i64 (censG x.1:Nat)),(9,.int .i64 (x.1.length:Int))]) (fun _=>[]) ([],L) rfl ⟨rfl,rfl,trivial⟩ trivial ?_
 rintro⟨pre,post⟩ hl e σ
 dsimp only at hl ⊢
 have hlen:=congrArg List.length hl
 rw[List.length_append] at hlen
 have hcl:censG pre≤pre.length:=List.length_filter_le _ _
 cases post with
 | nil=>
   simp only[List.length_nil] at hlen
   rw[List.append_nil] at hl
   subst hl
   repeat' (first
    | with_reducible (first | refine Rd.p ?_ | refine w_alt ?_ ?_ | refine zE ?_ | refine zE0 ?_)
    | with_reducible (first | refine zI fun y hy=>?_ | refine zL ?_ | refine zS ?_ | refine zA fun _=>?_ | refine zV ?_ | refine zC ?_ | refine zG ?_ | refine zU ?_ | refine zG0 ?_ | refine zU0 ?_ | refine zF ?_)
    | with_reducible (first | refine zX ?_ | refine zD fun _=>?_ | refine zD0 ?_ | refine zN ?_ | refine zF0 ?_ | refine zX0 ?_ | refine z1 ?_ | refine z2 ?_ | refine z3 ?_ | refine z4 ?_ | refine z5 ?_ | refine z6 ?_ | refine z7 ?_ | refine z8 ?_ | refine y1 ?_ | refine y2 ?_ | refine y3 ?_ | refine y4 ?_ | refine y5 ?_ | refine y6 ?_ | refine y7 ?_ | refine y8 ?_ | refine Rt.p (fun _=>?_) fun _=>?_)
    | ((with_reducible apply w_ixM);(focus exact rfl);(focus exact rfl);case' hk=>intro y hy) | ((with_reducible (first | apply w_val | apply q_ends));(focus exact rfl)))
   all_goals first
    | (exfalso;omega)
    | rfl
 | cons x post=>
   obtain⟨d,b,c⟩:=x
   simp only[List.length_cons] at hlen
   cases c with
   | false=>
     have hcs:censG (pre++[(d,b,false)])=censG pre:=by simp[censG,List.filter_append]
     repeat' (first
      | with_reducible (first | refine Rd.p ?_ | refine w_alt ?_ ?_ | refine zE ?_ | refine zE0 ?_)
      | (refine w_ixP (f:=fun x:Sp=>[AV.int .i64 x.1.kind,.int .i64 x.1.bag,.int .i64 x.1.other,.int .i64 x.1.wood,.int .i64 x.1.count,.bool x.2.1,.bool x.2.2]) hl rfl rfl ?_)
      | with_reducible (first | refine zI fun y hy=>?_ | refine zL ?_ | refine zS ?_ | refine zA fun _=>?_ | refine zV ?_ | refine zC ?_ | refine zG ?_ | refine zU ?_ | refine zG0 ?_ | refine zU0 ?_ | refine zF ?_)
      | with_reducible (first | refine zX ?_ | refine zD fun _=>?_ | refine zD0 ?_ | refine zN ?_ | refine zF0 ?_ | refine zX0 ?_ | refine z1 ?_ | refine z2 ?_ | refine z3 ?_ | refine z4 ?_ | refine z5 ?_ | refine z6 ?_ | refine z7 ?_ | refine z8 ?_ | refine y1 ?_ | refine y2 ?_ | refine y3 ?_ | refine y4 ?_ | refine y5 ?_ | refine y6 ?_ | refine y7 ?_ | refine y8 ?_ | refine Rt.p (fun _=>?_) fun _=>?_)
      | ((with_reducible apply w_ixM);(focus exact rfl);(focus exact rfl);case' hk=>intro y hy) | ((with_reducible (first | apply w_val | apply q_ends));(focus exact rfl)))
     all_goals first
      | (exfalso;omega)
      | exact q_loop (pre++[(d,b,false)],post) (by show L=_;rw[hl];simp) (Nat.lt_succ_self _) ⟨by show AV.int .i64 _=AV.int .i64 _;rw[hcs],by rw[len_snoc];rfl,trivial⟩ (by repeat' (first | exact slots_nil | apply slots_cons | rfl | (rw[map_snoc];rfl) | (rw[len_snoc];rfl) | (rw[hS];rfl) | (rw[hS,map_snoc];rfl) | (refine int_eq ?_;(try dsimp only);omega) | (refine congrArg AV.bool ?_;simp_all;done))) (by repeat' (first | exact kept_nil | apply kept_cons | rfl)) (by repeat' (first | exact kept_nil | apply kept_cons | rfl))
   | true=>
     have hcs:censG (pre++[(d,b,true)])=censG pre+1:=by simp[censG,List.filter_append]
     repeat' (first
      | with_reducible (first | refine Rd.p ?_ | refine w_alt ?_ ?_ | refine zE ?_ | refine zE0 ?_)
      | (refine w_ixP (f:=fun x:Sp=>[AV.int .i64 x.1.kind,.int .i64 x.1.bag,.int .i64 x.1.other,.int .i64 x.1.wood,.int .i64 x.1.count,.bool x.2.1,.bool x.2.2]) hl rfl rfl ?_)
      | with_reducible (first | refine zI fun y hy=>?_ | refine zL ?_ | refine zS ?_ | refine zA fun _=>?_ | refine zV ?_ | refine zC ?_ | refine zG ?_ | refine zU ?_ | refine zG0 ?_ | refine zU0 ?_ | refine zF ?_)
      | with_reducible (first | refine zX ?_ | refine zD fun _=>?_ | refine zD0 ?_ | refine zN ?_ | refine zF0 ?_ | refine zX0 ?_ | refine z1 ?_ | refine z2 ?_ | refine z3 ?_ | refine z4 ?_ | refine z5 ?_ | refine z6 ?_ | refine z7 ?_ | refine z8 ?_ | refine y1 ?_ | refine y2 ?_ | refine y3 ?_ | refine y4 ?_ | refine y5 ?_ | refine y6 ?_ | refine y7 ?_ | refine y8 ?_ | refine Rt.p (fun _=>?_) fun _=>?_)
      | ((with_reducible apply w_ixM);(focus exact rfl);(focus exact rfl);case' hk=>intro y hy) | ((with_reducible (first | apply w_val | apply q_ends));(focus exact rfl)))
     all_goals first
      | (exfalso;omega)
      | exact q_loop (pre++[(d,b,true)],post) (by show L=_;rw[hl];simp) (Nat.lt_succ_self _) ⟨by show AV.int .i64 _=AV.int .i64 _;rw[hcs];rfl,by rw[len_snoc];rfl,trivial⟩ (by repeat' (first | exact slots_nil | apply slots_cons | rfl | (rw[map_snoc];rfl) | (rw[len_snoc];rfl) | (rw[hS];rfl) | (rw[hS,map_snoc];rfl) | (refine int_eq ?_;(try dsimp only);omega) | (refine congrArg AV.bool ?_;simp_all;done))) (by repeat' (first | exact kept_nil | apply kept_cons | rfl)) (by repeat' (first | exact kept_nil | apply kept_cons | rfl))
theorem rowB_sum (B:List Int) (i:Int):(rowB B i).sum=bgSize B i:=rfl
theorem pickF_lt:∀{R:List Int} {p:Int},0≤p→p<R.sum→pickF R p<R.length∧0<R.getD (pickF R p) 0
 | [],p,h0,h1=>by simp at h1;omega
 | k::r,p,h0,h1=>by
   rw[pickF]
   by_cases h:p<k
   · rw[if_pos h];exact⟨by simp,by simp;omega⟩
   · rw[if_neg h]
     rw[List.sum_cons] at h1
     obtain⟨h2,h3⟩:=pickF_lt (R:=r) (p:=p-k) (by omega) (by omega)
     exact⟨by simp;omega,by simpa using h3⟩
theorem pickW_ok {B:List Int} {i p:Int} (h0:0≤p) (h1:p<bgSize B i):(0≤pickW B i p∧pickW B i p≤5)∧0<bgAt B i (pickW B i p):=by
 obtain⟨h2,h3⟩:=pickF_lt (R:=rowB B i) h0 (by rw[rowB_sum];exact h1)
 rw[rowB_len] at h2
 rw[rowB_get B i h2] at h3
 exact⟨by unfold pickW;omega,h3⟩
theorem lsum_nn {f:List Int→Int}:∀{L:List (List Int)},(∀s∈L,0≤f s)→0≤lsum L f
 | [],_=>Int.le_refl _
 | a::r,h=>by
   have:=lsum_nn (L:=r) fun s hs=>h s (by simp[hs])
   have:=h a (by simp)
   rw[lsum_cons];omega
theorem lsum_mem {f:List Int→Int}:∀{L:List (List Int)},(∀s∈L,0≤f s)→ ∀s∈L,f s≤lsum L f
 | a::r,h,s,hs=>by
   have h1:=lsum_nn (L:=r) fun s hs=>h s (by simp[hs])
   have h2:=h a (by simp)
   rw[lsum_cons]
   rcases List.mem_cons.1 hs with rfl | hs
   · omega
   · have:=lsum_mem (L:=r) (fun s hs=>h s (by simp[hs])) s hs
     omega
theorem nSum_more {n:Nat} {f:Int→Int}:∀m:Nat,(∀k:Nat,n≤k→k<n+m→f k=0)→nSum (n+m) f=nSum n f
 | 0,_=>rfl
 | m+1,h=>by
   show nSum (n+m) f+f ((n+m:Nat):Int)=_
   rw[nSum_more m fun k h1 h2=>h k h1 (by omega),h (n+m) (by omega) (by omega)];omega
def cntP:List Sp→List Int→List Int→Int
 | [],_,_=>1
 | x::r,c,B=>
   if x.2.1=true then (match c with
    | []=>bgSize B x.1.bag*cntP r [] (drawB B x.1.bag (pickW B x.1.bag 0))
    | w::c'=>nSum 6 fun v=>if x.2.2=true then (if v=w then bgAt B x.1.bag v*cntP r c' (drawB B x.1.bag v) else 0) else bgAt B x.1.bag v*cntP r c (drawB B x.1.bag v))
   else if x.2.2=true then (match c with
    | []=>cntP r [] (mixedB x.1 B)
    | w::c'=>if w=x.1.wood then cntP r c' (mixedB x.1 B) else 0)
   else cntP r c (mixedB x.1 B)
def szL:List Sp→List Int→List Int
 | [],_=>[]
 | x::r,b=>if x.2.1=true then atI b x.1.bag::szL r (spB x b) else szL r (spB x b)
def allP:List Int→List (List Int)
 | []=>[[]]
 | s::r=>(List.range s.toNat).flatMap fun (p:Nat)=>(allP r).map fun l=>(p:Int)::l
theorem szL_len:∀(l:List Sp) (b:List Int),(szL l b).length=drawN l
 | [],_=>rfl
 | x::r,b=>by
   have:=szL_len r (spB x b)
   rw[szL]
   unfold drawN at this ⊢
   rw[List.filter_cons]
   split
   · rw[List.length_cons,List.length_cons,this]
   · exact this
def playT:List Sp→List Int→List Int→Option (List Int)
 | [],_,_=>some []
 | x::r,B,ps=>if x.2.1=true then (match ps with
    | []=>none
    | p::ps=>if 0≤p∧p<bgSize B x.1.bag then (playT r (drawB B x.1.bag (pickW B x.1.bag p)) ps).map fun c=>if x.2.2=true then pickW B x.1.bag p::c else c else none)
   else (playT r (mixedB x.1 B) ps).map fun c=>if x.2.2=true then x.1.wood::c else c
theorem playS_T:∀(l:List Sp) (B ps c:List Int),playS l B ps c=(playT l B ps).map fun s=>c++s
 | [],_,_,c=>by show some c=some (c++[]);rw[List.append_nil]
 | x::r,B,ps,c=>by
   by_cases hd:x.2.1=true
   · cases ps with
     | nil=>simp only[playS,playT,if_pos hd];rfl
     | cons p ps=>
       simp only[playS,playT,if_pos hd]
       by_cases hp:0≤p∧p<bgSize B x.1.bag
       · rw[if_pos hp,if_pos hp,playS_T r,Option.map_map]
         congr 1
         funext s
         simp only[Function.comp_def]
         split<;>simp
       · rw[if_neg hp,if_neg hp];rfl
   · simp only[playS,playT,if_neg hd]
     rw[playS_T r,Option.map_map]
     congr 1
     funext s
     simp only[Function.comp_def]
     split<;>simp
theorem nSum_add (f:Int→Int) (a:Nat):∀b:Nat,nSum (a+b) f=nSum a f+nSum b fun p=>f (a+p)
 | 0=>by show _=_+0;rw[Int.add_zero];rfl
 | b+1=>by
   show nSum (a+b) f+f ((a+b:Nat):Int)=_
   rw[nSum_add f a b,nSum,Int.natCast_add];omega
theorem nSum_const (k:Int):∀n:Nat,nSum n (fun _=>k)=n*k
 | 0=>by show (0:Int)=((0:Nat):Int)*k;simp
 | n+1=>by rw[nSum,nSum_const k n,Int.natCast_succ,Int.add_mul,Int.one_mul]
theorem nSum_head (f:Int→Int) (n:Nat):nSum (n+1) f=f 0+nSum n fun p=>f (p+1):=by
 rw[Nat.add_comm,nSum_add]
 show (0+f 0)+_=_
 rw[Int.zero_add]
 congr 1
 refine nSum_congr fun k _=>?_
 show f (((1:Nat):Int)+(k:Int))=f ((k:Int)+1)
 rw[Int.add_comm];rfl
theorem pick_sum (F:Int→Int):∀(R:List Int),(∀v∈R,0≤v)→nSum R.sum.toNat (fun p=>F (pickF R p:Nat))=nSum R.length fun w=>R.getD w.toNat 0*F w
 | [],_=>rfl
 | k::r,h=>by
   have hk:=h k (by simp)
   have hr:=sum_nn (l:=r) fun x hx=>h x (by simp[hx])
   have ih:=pick_sum (fun w=>F (w+1)) r fun x hx=>h x (by simp[hx])
   rw[List.sum_cons,show (k+r.sum).toNat=k.toNat+r.sum.toNat by omega,nSum_add,List.length_cons,nSum_head]
   congr 1
   · have:nSum k.toNat (fun p=>F (pickF (k::r) p:Nat))=nSum k.toNat fun _=>F 0:=nSum_congr fun p hp=>by
      show F (pickF (k::r) (p:Int):Nat)=_
      rw[pickF,if_pos (by omega)];rfl
     rw[this,nSum_const]
     show _=(k::r).getD 0 0*F 0
     rw[show ((k.toNat:Nat):Int)=k by omega];rfl
   · have e1:nSum r.sum.toNat (fun p=>F (pickF (k::r) ((k.toNat:Nat)+p):Nat))=nSum r.sum.toNat fun p=>F ((pickF r p:Nat)+1):=nSum_congr fun p hp=>by
      show F (pickF (k::r) (((k.toNat:Nat):Int)+(p:Int)):Nat)=_
      rw[pickF,if_neg (by omega),show ((k.toNat:Nat):Int)+(p:Int)-k=(p:Int) by omega]
      rw[Int.natCast_add];rfl
     rw[e1,ih]
     refine nSum_congr fun w _=>?_
     show r.getD w 0*F ((w:Int)+1)=(k::r).getD (w+1) 0*F ((w:Int)+1)
     rfl
theorem pickW_sum {B:List Int} (h:∀v∈B,0≤v) (i:Int) (F:Int→Int):nSum (bgSize B i).toNat (fun p=>F (pickW B i p))=nSum 6 fun w=>bgAt B i w*F w:=by
 have:=pick_sum F (rowB B i) (rowB_nn h i)
 rw[rowB_sum,rowB_len] at this
 refine this.trans (nSum_congr fun w hw=>?_)
 show (rowB B i).getD w 0*F w=_
 rw[rowB_get B i hw]
theorem lsum_allP (s:Int) (r:List Int) (f:List Int→Int):lsum (allP (s::r)) f=nSum s.toNat fun p=>lsum (allP r) fun l=>f (p::l):=
 lsum_flat _ _ _ (fun w=>lsum_map _ _ _) s.toNat
def oneIf (p:Prop) [Decidable p]:Int:=if p then 1 else 0
theorem pick_cnt {n:Nat} (hn:n≤6):∀{l:List Sp} {b:List Int} {m:Int} {B:List Int} (c:List Int),tbIn b m→runOK n l b m→bgT n b B→(∀w∈c,0≤w∧w<n)→c.length=censG l→
  lsum (allP (szL l b)) (fun ps=>oneIf (playT l B ps=some c))=cntG n l c B
 | [],b,m,B,c,_,_,_,_,hl=>by
   have:c=[]:=List.eq_nil_of_length_eq_zero (by rw[hl];rfl)
   subst this
   rfl
 | x::r,b,m,B,c,ht,hr,hB,hc,hl=>by
   have hx:=hr.1
   have ht2:=(ht.step hx).1
   have hnn:=hB.nn
   rw[censG_cons] at hl
   rw[szL]
   by_cases hd:x.2.1=true
   · obtain⟨hb,ha⟩:=hx.d hd
     have hs:=hB.size hb
     have e:spB x b=setI b x.1.bag (atI b x.1.bag+ -1):=by unfold spB;rw[if_pos hd]
     rw[if_pos hd,lsum_allP,←hs]
     have hin:∀p:Nat,p<(bgSize B x.1.bag).toNat→0≤(p:Int)∧(p:Int)<bgSize B x.1.bag:=fun p hp=>by omega
     by_cases hce:x.2.2=true
     · rw[if_pos hce] at hl
       cases c with
       | nil=>rw[List.length_nil] at hl;omega
       | cons w c=>
         have hw:=hc w (by simp)
         have e1:nSum (bgSize B x.1.bag).toNat (fun p=>lsum (allP (szL r (spB x b))) fun ps=>oneIf (playT (x::r) B (p::ps)=some (w::c)))=nSum (bgSize B x.1.bag).toNat (fun p=>(fun v=>if v=w then lsum (allP (szL r (spB x b))) (fun ps=>oneIf (playT r (drawB B x.1.bag v) ps=some c)) else 0) (pickW B x.1.bag p)):=nSum_congr fun p hp=>by
          show _=if pickW B x.1.bag p=w then _ else _
          by_cases hv:pickW B x.1.bag p=w
          · rw[if_pos hv]
            refine lsum_congr fun ps _=>?_
            simp only[playT,if_pos hd,if_pos (hin p hp),if_pos hce,oneIf]
            cases hh:playT r (drawB B x.1.bag (pickW B x.1.bag p)) ps with
            | none=>simp
            | some s=>simp[hv]
          · rw[if_neg hv,←lsum_zero (allP (szL r (spB x b)))]
            refine lsum_congr fun ps _=>?_
            simp only[playT,if_pos hd,if_pos (hin p hp),if_pos hce,oneIf]
            cases hh:playT r (drawB B x.1.bag (pickW B x.1.bag p)) ps with
            | none=>simp
            | some s=>simp[hv]
         rw[e1,pickW_sum hnn x.1.bag (fun v=>if v=w then lsum (allP (szL r (spB x b))) (fun ps=>oneIf (playT r (drawB B x.1.bag v) ps=some c)) else 0),cntG_t hce]
         have e2:nSum 6 (fun v=>bgAt B x.1.bag v*(if v=w then lsum (allP (szL r (spB x b))) (fun ps=>oneIf (playT r (drawB B x.1.bag v) ps=some c)) else 0))=nSum 6 fun v=>if v=w then bgAt B x.1.bag v*lsum (allP (szL r (spB x b))) (fun ps=>oneIf (playT r (drawB B x.1.bag v) ps=some c)) else 0:=nSum_congr fun v _=>by
          show bgAt B x.1.bag v*(if (v:Int)=w then _ else 0)=_
          split
          · rfl
          · rw[Int.mul_zero]
         rw[e2,nSum_one,if_pos (by omega)]
         unfold nextV
         rw[if_pos hd,if_pos hce]
         by_cases h0:bgAt B x.1.bag w=0
         · rw[h0,Int.zero_mul,Int.zero_mul]
         · have hp:=bgAt_nn hnn x.1.bag w
           have hB2:=hB.draw ht.l hn hb (w:=w) (by omega) (by omega)
           rw[pick_cnt hn c ht2 hr.2 (by rw[e];exact hB2) (fun v hv=>hc v (by simp[hv])) (by rw[List.length_cons] at hl;omega)]
     · rw[if_neg hce,Nat.zero_add] at hl
       have e1:nSum (bgSize B x.1.bag).toNat (fun p=>lsum (allP (szL r (spB x b))) fun ps=>oneIf (playT (x::r) B (p::ps)=some c))=nSum (bgSize B x.1.bag).toNat (fun p=>(fun v=>lsum (allP (szL r (spB x b))) (fun ps=>oneIf (playT r (drawB B x.1.bag v) ps=some c))) (pickW B x.1.bag p)):=nSum_congr fun p hp=>by
        refine lsum_congr fun ps _=>?_
        simp only[playT,if_pos hd,if_pos (hin p hp),if_neg hce,oneIf]
        cases hh:playT r (drawB B x.1.bag (pickW B x.1.bag p)) ps with
        | none=>simp
        | some s=>simp
       rw[e1,pickW_sum hnn x.1.bag (fun v=>lsum (allP (szL r (spB x b))) (fun ps=>oneIf (playT r (drawB B x.1.bag v) ps=some c))),cntG_f hce]
       unfold nextV
       rw[if_pos hd,if_neg hce]
       have hz:∀k:Nat,n≤k→k<n+(6-n)→bgAt B x.1.bag (k:Int)*lsum (allP (szL r (spB x b))) (fun ps=>oneIf (playT r (drawB B x.1.bag k) ps=some c))=0:=fun k h1 h2=>by
        rw[hB.z x.1.bag k hb (by omega),Int.zero_mul]
       have:=nSum_more (f:=fun v=>bgAt B x.1.bag v*lsum (allP (szL r (spB x b))) (fun ps=>oneIf (playT r (drawB B x.1.bag v) ps=some c))) (6-n) hz
       rw[show n+(6-n)=6 by omega] at this
       rw[this]
       refine nSum_congr fun v hv=>?_
       by_cases h0:bgAt B x.1.bag v=0
       · rw[h0,Int.zero_mul,Int.zero_mul]
       · have hp:=bgAt_nn hnn x.1.bag v
         have hB2:=hB.draw ht.l hn hb (w:=v) (by omega) (by omega)
         rw[pick_cnt hn c ht2 hr.2 (by rw[e];exact hB2) hc hl]
   · have hdf:x.2.1=false:=by simpa using hd
     have hB2:=hB.mix ht.l hn hx hdf
     rw[if_neg hd]
     by_cases hce:x.2.2=true
     · rw[if_pos hce] at hl
       cases c with
       | nil=>rw[List.length_nil] at hl;omega
       | cons w c=>
         rw[cntG_t hce]
         unfold nextV
         rw[if_neg hd]
         by_cases hw:x.1.wood=w
         · rw[if_neg (fun h=>h.2 hw),←pick_cnt hn c ht2 hr.2 hB2 (fun v hv=>hc v (by simp[hv])) (by rw[List.length_cons] at hl;omega)]
           refine lsum_congr fun ps _=>?_
           simp only[playT,if_neg hd,if_pos hce,oneIf]
           cases hh:playT r (mixedB x.1 B) ps with
           | none=>simp
           | some s=>simp[hw]
         · rw[if_pos ⟨hce,hw⟩,←lsum_zero (allP (szL r (spB x b)))]
           refine lsum_congr fun ps _=>?_
           simp only[playT,if_neg hd,if_pos hce,oneIf]
           cases hh:playT r (mixedB x.1 B) ps with
           | none=>simp
           | some s=>simp[hw]
     · rw[if_neg hce,Nat.zero_add] at hl
       rw[cntG_f hce,←show nextV x 0 n (cntG n r c) B=nextV x 0 n (cntG n r c) B from rfl]
       unfold nextV
       rw[if_neg hd,if_neg (fun h=>hce h.1),←pick_cnt hn c ht2 hr.2 hB2 hc hl]
       refine lsum_congr fun ps _=>?_
       simp only[playT,if_neg hd,if_neg hce,oneIf]
       cases hh:playT r (mixedB x.1 B) ps with
       | none=>simp
       | some s=>simp
theorem allP_mem:∀{sz ps:List Int},ps∈allP sz↔ps.length=sz.length∧ ∀i:Nat,i<sz.length→0≤ps.getD i 0∧ps.getD i 0<sz.getD i 0
 | [],ps=>by
   rw[allP,List.mem_singleton]
   constructor
   · rintro rfl;exact⟨rfl,fun i hi=>by simp at hi⟩
   · intro h;exact List.eq_nil_of_length_eq_zero h.1
 | s::r,ps=>by
   rw[allP,List.mem_flatMap]
   constructor
   · rintro⟨p,hp,hs⟩
     obtain⟨t,ht,rfl⟩:=List.mem_map.1 hs
     obtain⟨h1,h2⟩:=allP_mem.1 ht
     have hp:=List.mem_range.1 hp
     refine⟨by simp[h1],fun i hi=>?_⟩
     cases i with
     | zero=>simp;omega
     | succ i=>simpa using h2 i (by simpa using hi)
   · rintro⟨h1,h2⟩
     cases ps with
     | nil=>simp at h1
     | cons p t=>
       have hp:=h2 0 (by simp)
       simp only[List.getD_cons_zero] at hp
       refine⟨p.toNat,List.mem_range.2 (by omega),List.mem_map.2 ⟨t,allP_mem.2 ⟨by simpa using h1,fun i hi=>?_⟩,?_⟩⟩
       · simpa using h2 (i+1) (by simpa using hi)
       · rw[show ((p.toNat:Nat):Int)=p by omega]
theorem play_in {n:Nat} (hn:n≤6):∀{l:List Sp} {b:List Int} {m:Int} {B ps:List Int},tbIn b m→runOK n l b m→wdOK n l→bgT n b B→ps∈allP (szL l b)→ ∃c,playT l B ps=some c∧c.length=censG l∧ ∀w∈c,0≤w∧w<n
 | [],_,_,_,_,_,_,_,_,_=>⟨[],rfl,rfl,fun w hw=>by cases hw⟩
 | x::r,b,m,B,ps,ht,hr,hw,hB,hp=>by
   have hx:=hr.1
   have ht2:=(ht.step hx).1
   have hwr:wdOK n r:=fun y hy=>hw y (by simp[hy])
   rw[szL] at hp
   rw[censG_cons]
   by_cases hd:x.2.1=true
   · obtain⟨hb,ha⟩:=hx.d hd
     have hs:=hB.size hb
     rw[if_pos hd,allP,List.mem_flatMap] at hp
     obtain⟨p,hp,hps⟩:=hp
     obtain⟨t,ht',rfl⟩:=List.mem_map.1 hps
     have hp:=List.mem_range.1 hp
     have hpi:0≤(p:Int)∧(p:Int)<bgSize B x.1.bag:=by omega
     obtain⟨hq,hq2⟩:=pickW_ok hpi.1 hpi.2
     have hB2:=hB.draw ht.l hn hb hq hq2
     have e:spB x b=setI b x.1.bag (atI b x.1.bag+ -1):=by unfold spB;rw[if_pos hd]
     obtain⟨c,h1,h2,h3⟩:=play_in hn ht2 hr.2 hwr (by rw[e];exact hB2) ht'
     simp only[playT,if_pos hd,if_pos hpi,h1,Option.map_some]
     refine⟨_,rfl,?_,?_⟩
     · split
       · rw[List.length_cons,h2];omega
       · rw[h2];omega
     · split
       · intro w hw
         rcases List.mem_cons.1 hw with rfl | hw
         · exact⟨hq.1,hB.lt hb hq hq2⟩
         · exact h3 w hw
       · exact h3
   · have hdf:x.2.1=false:=by simpa using hd
     rw[if_neg hd] at hp
     obtain⟨c,h1,h2,h3⟩:=play_in hn ht2 hr.2 hwr (hB.mix ht.l hn hx hdf) hp
     simp only[playT,if_neg hd,h1,Option.map_some]
     refine⟨_,rfl,?_,?_⟩
     · split
       · rw[List.length_cons,h2];omega
       · rw[h2];omega
     · split
       · intro w hw'
         rcases List.mem_cons.1 hw' with rfl | hw'
         · exact hw x (by simp) (by assumption) hdf
         · exact h3 w hw'
       · exact h3
def ir114:IFn:=
 ⟨19,[(4,none)],(.seq (.ops [oo 4 (.mov (kI 0))])
 (.seq (.seq (.ops [oo 6 (.mov 0),
 oo 7 (.len false 6),
 oo 8 (.mov (kI 0))])
 (.blk 0 (.loop (.seq (.ops [oo 9 (.bin .lss 8 7)])
 (.seq (.cnd 9
 .skip
 (.exit 0))
 (.seq (.blk 1 (.seq (.ops [oo 10 (.mov 8),
 oo 5 (.mov 10)])
 (.seq (.ops [oo 11 (.mov 1),
 oo 12 (.mov 0),
 oo 13 (.mov 5),
 oo 14 (.ixA 1 12 13),
 oo 15 (.ld 1 false 14),
 oo 16 (.callV 11 [15])])
 (.cnd 16
 (.seq (.ops [oo 17 (.mov 5),
 oo 4 (.mov 17)])
 .ret)
 .skip))))
 (.ops [oo 18 (.bin .add 8 (kI 1)),
 oo 8 (.mov 18)])))))))
 (.seq (.ops [oo 4 (.mov (.k (.int .i64 (-1))))])
 .ret)))⟩
def hint114 (P:Program):Hint:={}
def ir94:IFn:=
 ⟨9,[(4,none)],(.seq (.ops [oo 4 (.mov (kB false))])
 (.seq (.ops [oo 5 (.mov 0),
 oo 6 (.mov 1),
 oo 7 (.callF 114 [5,6]),
 oo 8 (.bin .geq 7 (kI 0)),
 oo 4 (.mov 8)])
 .ret))⟩
def hint94 (P:Program):Hint:={}
def ir95:IFn:=
 ⟨11,[(3,none)],(.seq (.ops [oo 3 (.mov (kB false))])
 (.seq (.ops [oo 4 (.mov 0),
 oo 5 (.flA 0 1),
 oo 6 (.ld 1 false 5),
 oo 7 (.len false 6),
 oo 8 (.bin .sub 7 (kI 1)),
 oo 9 (.callF 50 [4,(kI 0),8]),
 oo 10 (.not 9),
 oo 3 (.mov 10)])
 .ret))⟩
def hint95 (P:Program):Hint:={}
def ir70:IFn:=
 ⟨13,[(4,none)],(.seq (.ops [oo 2 (.box 2 0),
 oo 4 (.mov (kI 0))])
 (.seq (.seq (.ops [oo 5 (.mov 1),
 oo 6 (.len false 5),
 oo 7 (.ld 2 true 2),
 oo 8 (.callF 93 [7]),
 oo 9 (.bin .neq 6 8)])
 (.cnd 9
 (.seq (.ops [oo 4 (.mov (kI 3))])
 .ret)
 .skip))
 (.seq (.seq (.seq (.frz 2)
 (.ops [oo 10 (.mov 1),
 oo 11 (.mkf (.func 95) [] [2]),
 oo 12 (.callF 94 [10,11])]))
 (.cnd 12
 (.seq (.ops [oo 4 (.mov (kI 7))])
 .ret)
 .skip))
 (.seq (.ops [oo 4 (.mov (kI 0))])
 .ret))))⟩
def hint70 (P:Program):Hint:={site:=[],nils:=[],frz:=[(11,2)],mve:=[],wr:=[] }
theorem idxF_c (k:Nat) (cs:List AV) (p:Int→Bool) (l:List Int) (hl:l.length<1000000) (hf:∀x∈l,Fn0 Try.prog k [.int .i64 x,.pin cs] (fun v=>v= .bool (p x))):Fn0 Try.prog 114 [.slc 1 (iR l) .non,.clo (.func k) [] [.pin cs]] (fun v=>∃i:Int,v= .int .i64 i∧(0≤i↔l.any p=true)):=by
 refine RawC.walk (H:=hint114 Try.prog) ir114 Try.func114 rfl rfl rfl ?_
 unfold ir114
 repeat' (first
  | with_reducible (first | refine Rd.p ?_ | refine w_alt ?_ ?_ | refine zE ?_ | refine zE0 ?_)
  | with_reducible (first | refine zI fun y hy=>?_ | refine zL ?_ | refine zS ?_ | refine zA fun _=>?_ | refine zV ?_ | refine zC ?_ | refine zG ?_ | refine zU ?_ | refine zG0 ?_ | refine zU0 ?_ | refine zF ?_)
  | with_reducible (first | refine zX ?_ | refine zD fun _=>?_ | refine zD0 ?_ | refine zN ?_ | refine zF0 ?_ | refine zX0 ?_ | refine z1 ?_ | refine z2 ?_ | refine z3 ?_ | refine z4 ?_ | refine z5 ?_ | refine z6 ?_ | refine z7 ?_ | refine z8 ?_ | refine y1 ?_ | refine y2 ?_ | refine y3 ?_ | refine y4 ?_ | refine y5 ?_ | refine y6 ?_ | refine y7 ?_ | refine y8 ?_ | refine Rt.p (fun _=>?_) fun _=>?_)
  | ((with_reducible apply w_ixM);(focus exact rfl);(focus exact rfl);case' hk=>intro y hy) | ((with_reducible (first | apply w_val | apply q_ends));(focus exact rfl)))
 refine w_loopK [0,1,7] [] (fun x:List Int×List Int=>l=x.1++x.2∧x.1.any p=false) (fun x=>x.2.length) (fun x=>[(8,.int .i64 x.1.length)]) (fun _=>[]) ([],l) ⟨rfl,rfl⟩ ⟨rfl,trivial⟩ trivial ?_
 rintro⟨pre,post⟩ ⟨hll,hb⟩ e σ
 dsimp only at hll hb ⊢
 have hlen:=congrArg List.length hll
 cases post with
 | nil=>
   simp only[List.append_nil,List.length_append,List.length_nil] at hlen
   repeat' (first
    | with_reducible (first | refine Rd.p ?_ | refine w_alt ?_ ?_ | refine zE ?_ | refine zE0 ?_)
    | with_reducible (first | refine zI fun y hy=>?_ | refine zL ?_ | refine zS ?_ | refine zA fun _=>?_ | refine zV ?_ | refine zC ?_ | refine zG ?_ | refine zU ?_ | refine zG0 ?_ | refine zU0 ?_ | refine zF ?_)
    | with_reducible (first | refine zX ?_ | refine zD fun _=>?_ | refine zD0 ?_ | refine zN ?_ | refine zF0 ?_ | refine zX0 ?_ | refine z1 ?_ | refine z2 ?_ | refine z3 ?_ | refine z4 ?_ | refine z5 ?_ | refine z6 ?_ | refine z7 ?_ | refine z8 ?_ | refine y1 ?_ | refine y2 ?_ | refine y3 ?_ | refine y4 ?_ | refine y5 ?_ | refine y6 ?_ | refine y7 ?_ | refine y8 ?_ | refine Rt.p (fun _=>?_) fun _=>?_)
    | ((with_reducible apply w_ixM);(focus exact rfl);(focus exact rfl);case' hk=>intro y hy) | ((with_reducible (first | apply w_val | apply q_ends));(focus exact rfl)))
   all_goals first
    | (exfalso;omega)
    | exact⟨-1,rfl,by rw[hll,List.append_nil,hb];simp⟩
 | cons c post=>
   simp only[List.length_append,List.length_cons] at hlen
   have hfc:=hf c (by rw[hll];simp)
   cases hpc:p c with
   | false=>
     rw[hpc] at hfc
     repeat' (first
      | with_reducible (first | refine Rd.p ?_ | refine w_alt ?_ ?_ | refine zE ?_ | refine zE0 ?_)
      | (refine w_ixP hll rfl rfl ?_)
      | with_reducible (first | refine zI fun y hy=>?_ | refine zL ?_ | refine zS ?_ | refine zA fun _=>?_ | refine zV ?_ | refine zC ?_ | refine zG ?_ | refine zU ?_ | refine zG0 ?_ | refine zU0 ?_ | refine zF ?_)
      | ((with_reducible refine acall_id ?_);refine ACall.val hfc rfl rfl ?_)
      | with_reducible (first | refine zX ?_ | refine zD fun _=>?_ | refine zD0 ?_ | refine zN ?_ | refine zF0 ?_ | refine zX0 ?_ | refine z1 ?_ | refine z2 ?_ | refine z3 ?_ | refine z4 ?_ | refine z5 ?_ | refine z6 ?_ | refine z7 ?_ | refine z8 ?_ | refine y1 ?_ | refine y2 ?_ | refine y3 ?_ | refine y4 ?_ | refine y5 ?_ | refine y6 ?_ | refine y7 ?_ | refine y8 ?_ | refine Rt.p (fun _=>?_) fun _=>?_)
      | ((with_reducible apply w_ixM);(focus exact rfl);(focus exact rfl);case' hk=>intro y hy) | ((with_reducible (first | apply w_val | apply q_ends));(focus exact rfl)))
     all_goals first
      | (exfalso;omega)
      | exact q_loop (pre++[c],post) ⟨by dsimp only;rw[hll];simp,by rw[List.any_append,hb];simp[hpc]⟩ (Nat.lt_succ_self _) ⟨by rw[len_snoc];rfl,trivial⟩ (by repeat' (first | exact slots_nil | apply slots_cons | rfl | (rw[map_snoc];rfl) | (rw[len_snoc];rfl) | (rw[hS];rfl) | (rw[hS,map_snoc];rfl) | (refine int_eq ?_;(try dsimp only);omega) | (refine congrArg AV.bool ?_;simp_all;done))) (by repeat' (first | exact kept_nil | apply kept_cons | rfl)) (by repeat' (first | exact kept_nil | apply kept_cons | rfl))
   | true=>
     rw[hpc] at hfc
     repeat' (first
      | with_reducible (first | refine Rd.p ?_ | refine w_alt ?_ ?_ | refine zE ?_ | refine zE0 ?_)
      | (refine w_ixP hll rfl rfl ?_)
      | with_reducible (first | refine zI fun y hy=>?_ | refine zL ?_ | refine zS ?_ | refine zA fun _=>?_ | refine zV ?_ | refine zC ?_ | refine zG ?_ | refine zU ?_ | refine zG0 ?_ | refine zU0 ?_ | refine zF ?_)
      | ((with_reducible refine acall_id ?_);refine ACall.val hfc rfl rfl ?_)
      | with_reducible (first | refine zX ?_ | refine zD fun _=>?_ | refine zD0 ?_ | refine zN ?_ | refine zF0 ?_ | refine zX0 ?_ | refine z1 ?_ | refine z2 ?_ | refine z3 ?_ | refine z4 ?_ | refine z5 ?_ | refine z6 ?_ | refine z7 ?_ | refine z8 ?_ | refine y1 ?_ | refine y2 ?_ | refine y3 ?_ | refine y4 ?_ | refine y5 ?_ | refine y6 ?_ | refine y7 ?_ | refine y8 ?_ | refine Rt.p (fun _=>?_) fun _=>?_)
      | ((with_reducible apply w_ixM);(focus exact rfl);(focus exact rfl);case' hk=>intro y hy) | ((with_reducible (first | apply w_val | apply q_ends));(focus exact rfl)))
     all_goals first
      | (exfalso;omega)
      | exact⟨pre.length,rfl,by rw[hll];simp[hpc]⟩
theorem conF_c (k:Nat) (cs:List AV) (p:Int→Bool) (l:List Int) (hl:l.length<1000000) (hf:∀x∈l,Fn0 Try.prog k [.int .i64 x,.pin cs] (fun v=>v= .bool (p x))):Fn0 Try.prog 94 [.slc 1 (iR l) .non,.clo (.func k) [] [.pin cs]] (fun v=>v= .bool (l.any p)):=by
 have hi:=idxF_c k cs p l hl hf
 refine RawC.walk (H:=hint94 Try.prog) ir94 Try.func94 rfl rfl rfl ?_
 unfold ir94
 repeat' (first
  | with_reducible (first | refine Rd.p ?_ | refine w_alt ?_ ?_ | refine zE ?_ | refine zE0 ?_)
  | with_reducible (first | refine zI fun y hy=>?_ | refine zL ?_ | refine zS ?_ | refine zA fun _=>?_ | refine zV ?_ | refine zC ?_ | refine zG ?_ | refine zU ?_ | refine zG0 ?_ | refine zU0 ?_ | refine zF ?_)
  | ((with_reducible refine acall_id ?_);refine ACall.fn0 hi rfl ?_;rintro _ ⟨i,rfl,hk⟩)
  | with_reducible (first | refine zX ?_ | refine zD fun _=>?_ | refine zD0 ?_ | refine zN ?_ | refine zF0 ?_ | refine zX0 ?_ | refine z1 ?_ | refine z2 ?_ | refine z3 ?_ | refine z4 ?_ | refine z5 ?_ | refine z6 ?_ | refine z7 ?_ | refine z8 ?_ | refine y1 ?_ | refine y2 ?_ | refine y3 ?_ | refine y4 ?_ | refine y5 ?_ | refine y6 ?_ | refine y7 ?_ | refine y8 ?_ | refine Rt.p (fun _=>?_) fun _=>?_)
  | ((with_reducible apply w_ixM);(focus exact rfl);(focus exact rfl);case' hk=>intro y hy) | ((with_reducible (first | apply w_val | apply q_ends));(focus exact rfl)))
 exact congrArg AV.bool (by rw[Bool.eq_iff_iff];simpa using hk)
theorem checkCourse1_c (G:Gm) (x:Int) (hn:G.ws.length<1000):Fn0 Try.prog 95 [.int .i64 x,gmP G] (fun v=>v= .bool (!inB x 0 (G.ws.length-1))):=by
 refine RawC.walk (H:=hint95 Try.prog) ir95 Try.func95 rfl rfl rfl ?_
 unfold ir95
 repeat' (first
  | with_reducible (first | refine Rd.p ?_ | refine w_alt ?_ ?_ | refine zE ?_ | refine zE0 ?_)
  | with_reducible (first | refine zI fun y hy=>?_ | refine zL ?_ | refine zS ?_ | refine zA fun _=>?_ | refine zV ?_ | refine zC ?_ | refine zG ?_ | refine zU ?_ | refine zG0 ?_ | refine zU0 ?_ | refine zF ?_)
  | ((with_reducible refine acall_id ?_);refine ACall.val (gin_c x 0 (G.ws.length-1)) rfl rfl ?_)
  | with_reducible (first | refine zX ?_ | refine zD fun _=>?_ | refine zD0 ?_ | refine zN ?_ | refine zF0 ?_ | refine zX0 ?_ | refine z1 ?_ | refine z2 ?_ | refine z3 ?_ | refine z4 ?_ | refine z5 ?_ | refine z6 ?_ | refine z7 ?_ | refine z8 ?_ | refine y1 ?_ | refine y2 ?_ | refine y3 ?_ | refine y4 ?_ | refine y5 ?_ | refine y6 ?_ | refine y7 ?_ | refine y8 ?_ | refine Rt.p (fun _=>?_) fun _=>?_)
  | ((with_reducible apply w_ixM);(focus exact rfl);(focus exact rfl);case' hk=>intro y hy) | ((with_reducible (first | apply w_val | apply q_ends));(focus exact rfl)))
 all_goals first
  | (exfalso;omega)
  | rfl
def courseErr (G:Gm) (c:List Int):Int:=if (c.length:Int)=(censG (stepsG G.ds):Nat) then (if c.any (fun x=>!inB x 0 (G.ws.length-1))=true then 7 else 0) else 3
theorem checkCourse_c (G:Gm) (I:List Sp→Wt→Prop) (h:GmIn G I) (c:List Int) (hc:c.length<1000):Fn0 Try.prog 70 [gmA G,.slc 1 (iR c) .non] (fun v=>v= .int .i64 (courseErr G c)):=by
 obtain⟨B,hB⟩:∃B,courseErr G c=B:=⟨_,rfl⟩
 rw[hB]
 unfold courseErr at hB
 have h6:=h.n6
 have hce:=censers_c G h.d24 h.cnt
 have hcf:=conF_c 95 [.slc 2 (wR G.ws) .non,.slc 5 (dlR G.ds) .non] (fun x=>!inB x 0 (G.ws.length-1)) c (by omega) fun x _=>checkCourse1_c G x (by omega)
 by_cases h1:(c.length:Int)=(censG (stepsG G.ds):Nat)
 · rw[if_pos h1] at hB
   cases hany:c.any (fun x=>!inB x 0 (G.ws.length-1)) with
   | true=>
     rw[hany] at hB hcf
     rw[if_pos rfl] at hB
     subst hB
     refine RawC.walk (H:=hint70 Try.prog) ir70 Try.func70 rfl rfl rfl ?_
     unfold ir70
     repeat' (first
      | with_reducible (first | refine Rd.p ?_ | refine w_alt ?_ ?_ | refine zE ?_ | refine zE0 ?_)
      | with_reducible (first | refine zI fun y hy=>?_ | refine zL ?_ | refine zS ?_ | refine zA fun _=>?_ | refine zV ?_ | refine zC ?_ | refine zG ?_ | refine zU ?_ | refine zG0 ?_ | refine zU0 ?_ | refine zF ?_)
      | ((with_reducible refine acall_id ?_);refine ACall.val hce rfl rfl ?_)
      | (refine w_frzR rfl rfl rfl ?_)
      | ((with_reducible refine acall_id ?_);refine ACall.val hcf rfl rfl ?_)
      | with_reducible (first | refine zX ?_ | refine zD fun _=>?_ | refine zD0 ?_ | refine zN ?_ | refine zF0 ?_ | refine zX0 ?_ | refine z1 ?_ | refine z2 ?_ | refine z3 ?_ | refine z4 ?_ | refine z5 ?_ | refine z6 ?_ | refine z7 ?_ | refine z8 ?_ | refine y1 ?_ | refine y2 ?_ | refine y3 ?_ | refine y4 ?_ | refine y5 ?_ | refine y6 ?_ | refine y7 ?_ | refine y8 ?_ | refine Rt.p (fun _=>?_) fun _=>?_)
      | ((with_reducible apply w_ixM);(focus exact rfl);(focus exact rfl);case' hk=>intro y hy) | ((with_reducible (first | apply w_val | apply q_ends));(focus exact rfl)))
     all_goals first
      | (exfalso;omega)
      | rfl
   | false=>
     rw[hany] at hB hcf
     rw[if_neg Bool.false_ne_true] at hB
     subst hB
     refine RawC.walk (H:=hint70 Try.prog) ir70 Try.func70 rfl rfl rfl ?_
     unfold ir70
     repeat' (first
      | with_reducible (first | refine Rd.p ?_ | refine w_alt ?_ ?_ | refine zE ?_ | refine zE0 ?_)
      | with_reducible (first | refine zI fun y hy=>?_ | refine zL ?_ | refine zS ?_ | refine zA fun _=>?_ | refine zV ?_ | refine zC ?_ | refine zG ?_ | refine zU ?_ | refine zG0 ?_ | refine zU0 ?_ | refine zF ?_)
      | ((with_reducible refine acall_id ?_);refine ACall.val hce rfl rfl ?_)
      | (refine w_frzR rfl rfl rfl ?_)
      | ((with_reducible refine acall_id ?_);refine ACall.val hcf rfl rfl ?_)
      | with_reducible (first | refine zX ?_ | refine zD fun _=>?_ | refine zD0 ?_ | refine zN ?_ | refine zF0 ?_ | refine zX0 ?_ | refine z1 ?_ | refine z2 ?_ | refine z3 ?_ | refine z4 ?_ | refine z5 ?_ | refine z6 ?_ | refine z7 ?_ | refine z8 ?_ | refine y1 ?_ | refine y2 ?_ | refine y3 ?_ | refine y4 ?_ | refine y5 ?_ | refine y6 ?_ | refine y7 ?_ | refine y8 ?_ | refine Rt.p (fun _=>?_) fun _=>?_)
      | ((with_reducible apply w_ixM);(focus exact rfl);(focus exact rfl);case' hk=>intro y hy) | ((with_reducible (first | apply w_val | apply q_ends));(focus exact rfl)))
     all_goals first
      | (exfalso;omega)
      | rfl
 · rw[if_neg h1] at hB
   subst hB
   refine RawC.walk (H:=hint70 Try.prog) ir70 Try.func70 rfl rfl rfl ?_
   unfold ir70
   repeat' (first
    | with_reducible (first | refine Rd.p ?_ | refine w_alt ?_ ?_ | refine zE ?_ | refine zE0 ?_)
    | with_reducible (first | refine zI fun y hy=>?_ | refine zL ?_ | refine zS ?_ | refine zA fun _=>?_ | refine zV ?_ | refine zC ?_ | refine zG ?_ | refine zU ?_ | refine zG0 ?_ | refine zU0 ?_ | refine zF ?_)
    | ((with_reducible refine acall_id ?_);refine ACall.val hce rfl rfl ?_)
    | with_reducible (first | refine zX ?_ | refine zD fun _=>?_ | refine zD0 ?_ | refine zN ?_ | refine zF0 ?_ | refine zX0 ?_ | refine z1 ?_ | refine z2 ?_ | refine z3 ?_ | refine z4 ?_ | refine z5 ?_ | refine z6 ?_ | refine z7 ?_ | refine z8 ?_ | refine y1 ?_ | refine y2 ?_ | refine y3 ?_ | refine y4 ?_ | refine y5 ?_ | refine y6 ?_ | refine y7 ?_ | refine y8 ?_ | refine Rt.p (fun _=>?_) fun _=>?_)
    | ((with_reducible apply w_ixM);(focus exact rfl);(focus exact rfl);case' hk=>intro y hy) | ((with_reducible (first | apply w_val | apply q_ends));(focus exact rfl)))
   all_goals first
    | (exfalso;omega)
    | rfl
def ir37:IFn:=
 ⟨80,[(4,none),(5,none),(6,none)],(.seq (.ops [oo 2 (.box 2 0),
 oo 4 (.mov (kI 0)),
 oo 5 (.mov (kI 0)),
 oo 6 (.mov (kI 0))])
 (.seq (.seq (.ops [oo 14 (.ld 2 true 2),
 oo 15 (.callF 18 [14]),
 oo 7 (.mov 15)])
 (.seq (.ops [oo 16 (.mov 7),
 oo 17 (.bin .neq 16 (kI 0))])
 (.cnd 17
 (.seq (.ops [oo 18 (.mov 7),
 oo 4 (.mov (kI 0)),
 oo 5 (.mov (kI 0)),
 oo 6 (.mov 18)])
 .ret)
 .skip)))
 (.seq (.seq (.ops [oo 19 (.ld 2 true 2),
 oo 20 (.mov 1),
 oo 21 (.callF 70 [19,20]),
 oo 8 (.mov 21)])
 (.seq (.ops [oo 22 (.mov 8),
 oo 23 (.bin .neq 22 (kI 0))])
 (.cnd 23
 (.seq (.ops [oo 24 (.mov 8),
 oo 4 (.mov (kI 0)),
 oo 5 (.mov (kI 0)),
 oo 6 (.mov 24)])
 .ret)
 .skip)))
 (.seq (.seq (.ops [⟨none,none,(.kil 28)⟩])
 (.seq (.ops [oo 26 (.bld [(.int .i64 0),(.int .i64 0),(.int .i64 0),(.int .i64 0),(.int .i64 0),(.int .i64 0),(.int .i64 0),(.int .i64 0),(.int .i64 0),(.int .i64 0),(.int .i64 0),(.int .i64 0),(.int .i64 0),(.int .i64 0),(.int .i64 0),(.int .i64 0),(.int .i64 0),(.int .i64 0),(.int .i64 0),(.int .i64 0),(.int .i64 0),(.int .i64 0),(.int .i64 0),(.int .i64 0)] []),
 oo 29 (.bld [(.int .i64 0),(.int .i64 0),(.int .i64 0),(.int .i64 0),(.int .i64 0),(.int .i64 0),(.int .i64 0),(.int .i64 0),(.int .i64 0),(.int .i64 0),(.int .i64 0),(.int .i64 0),(.int .i64 0),(.int .i64 0),(.int .i64 0),(.int .i64 0),(.int .i64 0),(.int .i64 0),(.int .i64 0),(.int .i64 0),(.int .i64 0),(.int .i64 0),(.int .i64 0),(.int .i64 0)] []),
 ⟨(some 25),none,.mkm⟩])
 (.alt (.seq (.ops [])
 (.alt (.ops [⟨none,none,(.mup (.flat [.i,.i,.i,.i,.i,.i,.i,.i,.i,.i,.i,.i,.i,.i,.i,.i,.i,.i,.i,.i,.i,.i,.i,.i]) 25 26 (kI 1))⟩,
 oo 27 (.mov 25),
 oo 9 (.mov 27),
 ⟨(some 28),none,.mkm⟩,
 ⟨none,none,(.mup (.flat [.i,.i,.i,.i,.i,.i,.i,.i,.i,.i,.i,.i,.i,.i,.i,.i,.i,.i,.i,.i,.i,.i,.i,.i]) 28 29 (kI 1))⟩,
 oo 30 (.mov 28),
 oo 10 (.mov 30)])
 (.ops [⟨(some 28),none,.mkm⟩,
 ⟨none,none,(.mup (.flat [.i,.i,.i,.i,.i,.i,.i,.i,.i,.i,.i,.i,.i,.i,.i,.i,.i,.i,.i,.i,.i,.i,.i,.i]) 28 29 (kI 1))⟩,
 oo 30 (.mov 28),
 ⟨none,none,(.mup (.flat [.i,.i,.i,.i,.i,.i,.i,.i,.i,.i,.i,.i,.i,.i,.i,.i,.i,.i,.i,.i,.i,.i,.i,.i]) 25 26 (kI 1))⟩,
 oo 27 (.mov 25),
 oo 9 (.mov 27),
 oo 10 (.mov 30)])))
 (.seq (.ops [⟨(some 28),none,.mkm⟩])
 (.alt (.ops [⟨none,none,(.mup (.flat [.i,.i,.i,.i,.i,.i,.i,.i,.i,.i,.i,.i,.i,.i,.i,.i,.i,.i,.i,.i,.i,.i,.i,.i]) 25 26 (kI 1))⟩,
 oo 27 (.mov 25),
 oo 9 (.mov 27),
 ⟨none,none,(.mup (.flat [.i,.i,.i,.i,.i,.i,.i,.i,.i,.i,.i,.i,.i,.i,.i,.i,.i,.i,.i,.i,.i,.i,.i,.i]) 28 29 (kI 1))⟩,
 oo 30 (.mov 28),
 oo 10 (.mov 30)])
 (.ops [⟨none,none,(.mup (.flat [.i,.i,.i,.i,.i,.i,.i,.i,.i,.i,.i,.i,.i,.i,.i,.i,.i,.i,.i,.i,.i,.i,.i,.i]) 28 29 (kI 1))⟩,
 oo 30 (.mov 28),
 ⟨none,none,(.mup (.flat [.i,.i,.i,.i,.i,.i,.i,.i,.i,.i,.i,.i,.i,.i,.i,.i,.i,.i,.i,.i,.i,.i,.i,.i]) 25 26 (kI 1))⟩,
 oo 27 (.mov 25),
 oo 9 (.mov 27),
 oo 10 (.mov 30)]))))))
 (.seq (.ops [oo 11 (.mov (kI 0))])
 (.seq (.seq (.seq (.frz 9)
 (.seq (.frz 10)
 (.ops [oo 31 (.ld 2 true 2),
 oo 32 (.callF 72 [31]),
 oo 33 (.len false 32),
 oo 34 (.mov (kI 0))])))
 (.blk 0 (.loop (.seq (.ops [oo 35 (.bin .lss 34 33)])
 (.seq (.cnd 35
 .skip
 (.exit 0))
 (.seq (.blk 1 (.seq (.ops [oo 36 (.ixA 7 32 34),
 oo 37 (.ld 7 true 36),
 oo 13 (.new [(.int .i64 0),(.int .i64 0),(.int .i64 0),(.int .i64 0),(.int .i64 0),(.bool false),(.bool false)]),
 ⟨none,none,(.st 7 13 37)⟩])
 (.seq (.seq (.ops [oo 38 (.flA 6 13),
 oo 39 (.ld 1 false 38),
 oo 40 (.not 39)])
 (.cnd 40
 (.seq (.ops [oo 41 (.ld 7 true 13),
 oo 42 (.mov 9),
 oo 43 (.flA 0 2),
 oo 44 (.ld 1 false 43),
 oo 45 (.len false 44),
 oo 47 (.ld 7 true 13),
 oo 48 (.mov 10),
 oo 49 (.flA 0 2),
 oo 50 (.ld 1 false 49),
 oo 51 (.len false 50),
 oo 46 (.callF 73 [41,42,(kI 0),45]),
 ⟨none,none,(.chk 7 true 13 47)⟩,
 ⟨none,none,(.chk 1 false 49 50)⟩,
 oo 52 (.callF 73 [47,48,(kI 0),51]),
 oo 9 (.mov 46),
 oo 10 (.mov 52)])
 (.exit 1))
 .skip))
 (.seq (.ops [oo 53 (.ld 7 true 13),
 oo 54 (.mov 9),
 oo 55 (.mov 1),
 oo 56 (.mov 11),
 oo 57 (.ixA 1 55 56),
 oo 58 (.ld 1 false 57),
 oo 59 (.flA 0 2),
 oo 60 (.ld 1 false 59),
 oo 61 (.len false 60),
 oo 62 (.callF 73 [53,54,58,61]),
 oo 9 (.mov 62)])
 (.seq (.seq (.ops [oo 63 (.flA 5 13),
 oo 64 (.ld 1 false 63)])
 (.cnd 64
 (.ops [oo 65 (.mov 10),
 oo 66 (.flA 0 13),
 oo 67 (.flA 1 66),
 oo 68 (.ld 1 false 67),
 oo 69 (.flA 0 2),
 oo 70 (.ld 1 false 69),
 oo 71 (.len false 70),
 oo 72 (.callF 74 [65,68,71]),
 oo 10 (.mov 72)])
 .skip))
 (.ops [oo 73 (.mov 11),
 oo 74 (.bin .add 73 (kI 1)),
 oo 11 (.mov 74)]))))))
 (.ops [oo 75 (.bin .add 34 (kI 1)),
 oo 34 (.mov 75)])))))))
 (.seq (.ops [oo 76 (.mov 9),
 oo 77 (.callF 75 [76]),
 oo 78 (.mov 10),
 oo 79 (.callF 75 [78]),
 oo 4 (.mov 77),
 oo 5 (.mov 79),
 oo 6 (.mov (kI 0))])
 .ret)))))))⟩
def hint37 (P:Program):Hint:={site:=[],nils:=[],frz:=[(32,9),(32,10)],mve:=[],wr:=[] }
def noC (l:List Sp):List Sp:=l.map fun x=>(x.1,x.2.1,false)
theorem noC_run {n:Nat}:∀{l:List Sp} {b:List Int} {m:Int},runOK n l b m→runOK n (noC l) b m
 | [],_,_,_=>trivial
 | _::_,_,_,h=>⟨⟨h.1.d,h.1.h2,h.1.h3⟩,noC_run h.2⟩
theorem noC_cens (l:List Sp):censG (noC l)=0:=by
 induction l with
 | nil=>rfl
 | cons x r ih=>show censG (_::noC r)=0;rw[censG_cons,ih];rfl
theorem noC_szP:∀(l:List Sp) (b:List Int),szP (noC l) b=szP l b
 | [],_=>rfl
 | x::r,b=>by
   show szP (_::noC r) b=szP (x::r) b
   rw[szP,szP,noC_szP r];rfl
theorem any_tot {n:Nat} (hn:n≤6) {l:List Sp} {b:List Int} {m:Int} {B:List Int} (ht:tbIn b m) (hr:runOK n l b m) (hB:bgT n b B):cntG n (noC l) [] B=szP l b:=by
 have h:=cnt_tot hn ht (noC_run hr) (fun x hx h2=>by
  obtain⟨y,_,rfl⟩:=List.mem_map.1 hx;cases h2) hB
 rw[noC_cens,noC_szP] at h
 rw[←h]
 show _=cntG n (noC l) [] B+0
 omega
theorem noC_inv {n:Nat} {l:List Sp} {W:Wt} (h:invW n l W):invW n (noC l) W:=by
 obtain⟨b,m,h⟩:=h
 exact⟨b,m,h.t,noC_run h.run,h.pos,h.key,h.bd⟩
theorem w0_sum (V:List Int→Int):sumW W0 V=V bg0:=by show 1*V bg0+0=_;omega
theorem sumW_ne {W:Wt} {V:List Int→Int} (h:0<sumW W V):W≠[]:=fun e=>by rw[e] at h;exact absurd (show (0:Int)<0 from h) (by decide)
theorem stW_ne {W:Wt} {v:AV} (h:stW W v) (hn:W≠[]):v=stV W:=h.resolve_right fun h2=>hn h2.2
theorem ACall.nx {P:Program} {f:Nat} {args0 args:List AV} {R:Wt→Prop} {σ:Sig} {d:Nat} {Q:AV→Sig→Prop} (h:Fn0 P f args0 (fun v=>∃W',stW W' v∧R W')) (ha:args0=renL [] args) (hn:∀W',R W'→W'≠[]) (hQ:∀W',R W'→Q (stV W') σ):ACall P f args σ d Q:=
 ACall.fn0 h ha fun av hav=>by
  obtain⟨W',h1,h2⟩:=hav
  rw[stW_ne h1 (hn W' h2)];exact hQ W' h2
theorem waysP_c (G:Gm) (c:List Int) (h0:gmErr G=0) (hs:∀w∈G.ws,w.name.size≤1000) (hc:c.length=censG (stepsG G.ds)) (hw:∀x∈c,0≤x∧x<(G.ws.length:Int)) (hpos:0<cwG G c):Fn0 Try.prog 37 [gmA G,.slc 1 (iR c) .non] (fun v=>v= .tup [.int .i64 (cwG G c),.int .i64 (allW G),.int .i64 0]):=by
 have hG:=gm_ok h0
 have hn6:=hG.n6
 have hn1:=hG.n1
 have h24:=hG.d24
 have hcn:=hG.cen
 have hsl:=stepsG_len G.ds hG.cnt
 have hck:=gCheck_c G (by omega) (by omega) hs
 rw[h0] at hck
 have hcc:=checkCourse_c G (invW G.ws.length) (gmOK h0) c (by omega)
 have hce:courseErr G c=0:=by
  unfold courseErr
  rw[if_pos (by rw[hc]),if_neg]
  rw[List.any_eq_true]
  rintro⟨x,hx,h⟩
  have:=hw x hx
  rw[show inB x 0 (G.ws.length-1)=true from inB_t.2 (by omega)] at h
  exact absurd h (by decide)
 rw[hce] at hcc
 have hst:=steps_c G h24 hG.cnt
 have hI:=invW_sr G.ws.length hn6
 have hini:=(gmOK h0).ini
 have hwl:(wR G.ws).length=G.ws.length:=List.length_map _
 have hL6:∀x∈stepsG G.ds,x.2.2=true→x.2.1=false→x.1.kind=6:=fun x hx h1 h2=>by
  obtain⟨d,hd,hxd⟩:=List.mem_flatMap.1 hx
  unfold stp1 at hxd
  split at hxd
  · rw[(List.mem_replicate.1 hxd).2] at h2;cases h2
  · rw[List.mem_singleton.1 hxd] at h1 ⊢;simpa using h1
 have hall0:sumW W0 (cntG G.ws.length (noC (stepsG G.ds)) [])=allW G:=by rw[w0_sum];exact any_tot hn6 tb0_in hG.ex (bgT0 _)
 have hsome0:sumW W0 (cntG G.ws.length (stepsG G.ds) c)=cwG G c:=by rw[w0_sum];rfl
 have hallp:=(allW_bd hG).1
 refine RawC.walk (H:=hint37 Try.prog) ir37 Try.func37 rfl (by kernel_rfl) rfl ?_
 unfold ir37
 repeat' (first
  | with_reducible (first | refine Rd.p ?_ | refine w_alt ?_ ?_ | refine zE ?_ | refine zE0 ?_)
  | with_reducible (first | refine zI fun y hy=>?_ | refine zL ?_ | refine zS ?_ | refine zA fun _=>?_ | refine zV ?_ | refine zC ?_ | refine zG ?_ | refine zU ?_ | refine zG0 ?_ | refine zU0 ?_ | refine zF ?_)
  | ((with_reducible refine acall_id ?_);refine ACall.val hck rfl rfl ?_)
  | ((with_reducible refine acall_id ?_);refine ACall.val hcc rfl rfl ?_)
  | with_reducible (first | refine zX ?_ | refine zD fun _=>?_ | refine zD0 ?_ | refine zN ?_ | refine zF0 ?_ | refine zX0 ?_ | refine z1 ?_ | refine z2 ?_ | refine z3 ?_ | refine z4 ?_ | refine z5 ?_ | refine z6 ?_ | refine z7 ?_ | refine z8 ?_ | refine y1 ?_ | refine y2 ?_ | refine y3 ?_ | refine y4 ?_ | refine y5 ?_ | refine y6 ?_ | refine y7 ?_ | refine y8 ?_ | refine Rt.p (fun _=>?_) fun _=>?_)
  | ((with_reducible apply w_ixM);(focus exact rfl);(focus exact rfl);case' hk=>intro y hy) | ((with_reducible (first | apply w_val | apply q_ends));(focus exact rfl)))
 all_goals try (exfalso;omega)
 all_goals
  refine w_frzMK (t:=9) (i:=25) (ks:=wK W0) (vs:=wV W0) [(1,.slc 1 (iR c) .non),(2,.ref 2 _ 0),(9,stV W0),(10,.map 28 _),(11,.int .i64 0)] [(2,(_,.row [.slc 2 (wR G.ws) .non,.slc 5 (dlR G.ds) .non])),(28,(_,.row [.mpv (wK W0) (wV W0)]))] rfl rfl ⟨rfl,rfl,frzME_at rfl,rfl,rfl,trivial⟩ ⟨rfl,rfl,trivial⟩ ?_
  intro e1 σ1
  repeat' (first
   | with_reducible (first | refine Rd.p ?_ | refine w_alt ?_ ?_ | refine zE ?_ | refine zE0 ?_)
   | with_reducible (first | refine zI fun y hy=>?_ | refine zL ?_ | refine zS ?_ | refine zA fun _=>?_ | refine zV ?_ | refine zC ?_ | refine zG ?_ | refine zU ?_ | refine zG0 ?_ | refine zU0 ?_ | refine zF ?_)
   | with_reducible (first | refine zX ?_ | refine zD fun _=>?_ | refine zD0 ?_ | refine zN ?_ | refine zF0 ?_ | refine zX0 ?_ | refine z1 ?_ | refine z2 ?_ | refine z3 ?_ | refine z4 ?_ | refine z5 ?_ | refine z6 ?_ | refine z7 ?_ | refine z8 ?_ | refine y1 ?_ | refine y2 ?_ | refine y3 ?_ | refine y4 ?_ | refine y5 ?_ | refine y6 ?_ | refine y7 ?_ | refine y8 ?_ | refine Rt.p (fun _=>?_) fun _=>?_)
   | ((with_reducible apply w_ixM);(focus exact rfl);(focus exact rfl);case' hk=>intro y hy) | ((with_reducible (first | apply w_val | apply q_ends));(focus exact rfl)))
  refine w_frzMK (t:=10) (i:=28) (ks:=wK W0) (vs:=wV W0) [(1,.slc 1 (iR c) .non),(2,.ref 2 _ 0),(9,stV W0),(10,stV W0),(11,.int .i64 0)] [(2,(_,.row [.slc 2 (wR G.ws) .non,.slc 5 (dlR G.ds) .non]))] rfl rfl ⟨rfl,rfl,rfl,frzME_at rfl,rfl,trivial⟩ ⟨rfl,trivial⟩ ?_
  intro e2 σ2
  repeat' (first
   | with_reducible (first | refine Rd.p ?_ | refine w_alt ?_ ?_ | refine zE ?_ | refine zE0 ?_)
   | with_reducible (first | refine zI fun y hy=>?_ | refine zL ?_ | refine zS ?_ | refine zA fun _=>?_ | refine zV ?_ | refine zC ?_ | refine zG ?_ | refine zU ?_ | refine zG0 ?_ | refine zU0 ?_ | refine zF ?_)
   | ((with_reducible refine acall_id ?_);refine ACall.val hst rfl rfl ?_)
   | with_reducible (first | refine zX ?_ | refine zD fun _=>?_ | refine zD0 ?_ | refine zN ?_ | refine zF0 ?_ | refine zX0 ?_ | refine z1 ?_ | refine z2 ?_ | refine z3 ?_ | refine z4 ?_ | refine z5 ?_ | refine z6 ?_ | refine z7 ?_ | refine z8 ?_ | refine y1 ?_ | refine y2 ?_ | refine y3 ?_ | refine y4 ?_ | refine y5 ?_ | refine y6 ?_ | refine y7 ?_ | refine y8 ?_ | refine Rt.p (fun _=>?_) fun _=>?_)
   | ((with_reducible apply w_ixM);(focus exact rfl);(focus exact rfl);case' hk=>intro y hy) | ((with_reducible (first | apply w_val | apply q_ends));(focus exact rfl)))
 all_goals
  refine w_loopK [1,2,32,33] [2] (fun z:List Sp×List Sp×List Int×List Int×Wt×Wt=>stepsG G.ds=z.1++z.2.1∧c=z.2.2.1++z.2.2.2.1∧z.2.2.2.1.length=censG z.2.1∧invW G.ws.length z.2.1 z.2.2.2.2.1∧sumW z.2.2.2.2.1 (cntG G.ws.length z.2.1 z.2.2.2.1)=cwG G c∧invW G.ws.length (noC z.2.1) z.2.2.2.2.2∧sumW z.2.2.2.2.2 (cntG G.ws.length (noC z.2.1) [])=allW G) (fun z=>z.2.1.length) (fun z=>[(9,stV z.2.2.2.2.1),(10,stV z.2.2.2.2.2),(11,.int .i64 (z.2.2.1.length:Int)),(34,.int .i64 (z.1.length:Int))]) (fun _=>[]) ([],stepsG G.ds,[],c,W0,W0) ⟨rfl,rfl,hc,hini,hsome0,noC_inv hini,hall0⟩ ⟨rfl,rfl,rfl,rfl,trivial⟩ trivial ?_
  rintro⟨pre,post,cp,cs,W1,W2⟩ ⟨hl,hcl,hcn2,hi1,hs1,hi2,hs2⟩ e σ
  dsimp only at hl hcl hcn2 hi1 hs1 hi2 hs2 ⊢
  have hlen:=congrArg List.length hl
  have hlc:=congrArg List.length hcl
  rw[List.length_append] at hlen hlc
  have hW1:W1≠[]:=sumW_ne (V:=cntG G.ws.length post cs) (by omega)
  have hW2:W2≠[]:=sumW_ne (V:=cntG G.ws.length (noC post) []) (by omega)
  cases post with
  | nil=>
    have hcs:cs=[]:=List.eq_nil_of_length_eq_zero (by rw[hcn2];rfl)
    subst hcs
    simp only[List.length_nil] at hlen
    have hy1:=ways_c W1 (hI.pos hi1) (hI.bd hi1)
    have hy2:=ways_c W2 (hI.pos hi2) (hI.bd hi2)
    have e1:sumW W1 (fun _=>1)=cwG G c:=hs1
    have e2:sumW W2 (fun _=>1)=allW G:=hs2
    rw[e1] at hy1
    rw[e2] at hy2
    repeat' (first
     | with_reducible (first | refine Rd.p ?_ | refine w_alt ?_ ?_ | refine zE ?_ | refine zE0 ?_)
     | with_reducible (first | refine zI fun y hy=>?_ | refine zL ?_ | refine zS ?_ | refine zA fun _=>?_ | refine zV ?_ | refine zC ?_ | refine zG ?_ | refine zU ?_ | refine zG0 ?_ | refine zU0 ?_ | refine zF ?_)
     | ((with_reducible refine acall_id ?_);refine ACall.val hy1 rfl rfl ?_)
     | ((with_reducible refine acall_id ?_);refine ACall.val hy2 rfl rfl ?_)
     | with_reducible (first | refine zX ?_ | refine zD fun _=>?_ | refine zD0 ?_ | refine zN ?_ | refine zF0 ?_ | refine zX0 ?_ | refine z1 ?_ | refine z2 ?_ | refine z3 ?_ | refine z4 ?_ | refine z5 ?_ | refine z6 ?_ | refine z7 ?_ | refine z8 ?_ | refine y1 ?_ | refine y2 ?_ | refine y3 ?_ | refine y4 ?_ | refine y5 ?_ | refine y6 ?_ | refine y7 ?_ | refine y8 ?_ | refine Rt.p (fun _=>?_) fun _=>?_)
     | ((with_reducible apply w_ixM);(focus exact rfl);(focus exact rfl);case' hk=>intro y hy) | ((with_reducible (first | apply w_val | apply q_ends));(focus exact rfl)))
    all_goals first
     | (exfalso;omega)
     | rfl
  | cons x post=>
    simp only[List.length_cons] at hlen
    obtain⟨d,b,cen⟩:=x
    have hi2':invW G.ws.length ((d,b,false)::noC post) W2:=hi2
    have hs2':sumW W2 (nextV (d,b,false) 0 G.ws.length (cntG G.ws.length (noC post) []))=allW G:=hs2
    have nx2:=hI.nx (w:=0) hi2' hW2 (by omega)
    have go2:∀W',StOut W' (fun V=>sumW W2 (nextV (d,b,false) 0 G.ws.length V)) (fun B=>∃y∈W2,nextB (d,b,false) 0 G.ws.length y.1 B)→invW G.ws.length (noC post) W'∧sumW W' (cntG G.ws.length (noC post) [])=allW G:=fun W' h=>⟨hI.go (w:=0) hi2' hW2 (by omega) h,by rw[h.sum];exact hs2'⟩
    have hx2:=next_c (d,b,false) 0 G.ws.length W2 nx2
    cases cen with
    | false=>
      have hcn3:cs.length=censG post:=by rw[censG_cons] at hcn2;simpa using hcn2
      have nx1:=hI.nx (w:=0) hi1 hW1 (by omega)
      have hs1':sumW W1 (nextV (d,b,false) 0 G.ws.length (cntG G.ws.length post cs))=cwG G c:=by
       rw[←hs1]
       refine sumW_congr fun y _=>(cntG_f (show ¬false=true by decide)).symm
      have go1:∀W',StOut W' (fun V=>sumW W1 (nextV (d,b,false) 0 G.ws.length V)) (fun B=>∃y∈W1,nextB (d,b,false) 0 G.ws.length y.1 B)→invW G.ws.length post W'∧sumW W' (cntG G.ws.length post cs)=cwG G c:=fun W' h=>⟨hI.go (w:=0) hi1 hW1 (by omega) h,by rw[h.sum];exact hs1'⟩
      have hx1:=next_c (d,b,false) 0 G.ws.length W1 nx1
      repeat' (first
       | with_reducible (first | refine Rd.p ?_ | refine w_alt ?_ ?_ | refine zE ?_ | refine zE0 ?_)
       | (first | refine w_ixP hl rfl rfl ?_)
       | with_reducible (first | refine zI fun y hy=>?_ | refine zL ?_ | refine zS ?_ | refine zA fun _=>?_ | refine zV ?_ | refine zC ?_ | refine zG ?_ | refine zU ?_ | refine zG0 ?_ | refine zU0 ?_ | refine zF ?_)
       | ((with_reducible refine acall_id ?_);(refine ACall.nx hx1 rfl (fun W' h=>sumW_ne (by rw[(go1 W' h).2];exact hpos)) ?_;intro W1' ho1))
       | ((with_reducible refine acall_id ?_);(refine ACall.nx hx2 rfl (fun W' h=>sumW_ne (by rw[(go2 W' h).2];omega)) ?_;intro W2' ho2))
       | with_reducible (first | refine zX ?_ | refine zD fun _=>?_ | refine zD0 ?_ | refine zN ?_ | refine zF0 ?_ | refine zX0 ?_ | refine z1 ?_ | refine z2 ?_ | refine z3 ?_ | refine z4 ?_ | refine z5 ?_ | refine z6 ?_ | refine z7 ?_ | refine z8 ?_ | refine y1 ?_ | refine y2 ?_ | refine y3 ?_ | refine y4 ?_ | refine y5 ?_ | refine y6 ?_ | refine y7 ?_ | refine y8 ?_ | refine Rt.p (fun _=>?_) fun _=>?_)
       | ((with_reducible apply w_ixM);(focus exact rfl);(focus exact rfl);case' hk=>intro y hy) | ((with_reducible (first | apply w_val | apply q_ends));(focus exact rfl)))
      all_goals first
       | (exfalso;omega)
       | exact q_loop (pre++[(d,b,false)],post,cp,cs,W1',W2') ⟨by show stepsG G.ds=_;rw[hl];simp,hcl,hcn3,(go1 _ ho1).1,(go1 _ ho1).2,(go2 _ ho2).1,(go2 _ ho2).2⟩ (Nat.lt_succ_self _) ⟨rfl,rfl,rfl,by rw[len_snoc];rfl,trivial⟩ (by repeat' (first | exact slots_nil | apply slots_cons | rfl | (rw[map_snoc];rfl) | (rw[len_snoc];rfl) | (rw[hS];rfl) | (rw[hS,map_snoc];rfl) | (refine int_eq ?_;(try dsimp only);omega) | (refine congrArg AV.bool ?_;simp_all;done))) (by repeat' (first | exact kept_nil | apply kept_cons | rfl)) (by repeat' (first | exact kept_nil | apply kept_cons | rfl))
    | true=>
      cases cs with
      | nil=>exfalso;rw[censG_cons] at hcn2;simp at hcn2;omega
      | cons w cs=>
        simp only[List.length_cons] at hlc
        have hcn3:cs.length=censG post:=by rw[censG_cons] at hcn2;simp only[List.length_cons,if_true] at hcn2;omega
        have hwb:=hw w (by rw[hcl];simp)
        have hwn:((w.toNat:Nat):Int)=w:=by omega
        have nx1:=hI.nx (w:=w.toNat) hi1 hW1 (by omega)
        rw[hwn] at nx1
        have hs1':sumW W1 (nextV (d,b,true) w G.ws.length (cntG G.ws.length post cs))=cwG G c:=by
         rw[←hs1]
         refine sumW_congr fun y _=>(cntG_t rfl).symm
        have go1:∀W',StOut W' (fun V=>sumW W1 (nextV (d,b,true) w G.ws.length V)) (fun B=>∃y∈W1,nextB (d,b,true) w G.ws.length y.1 B)→invW G.ws.length post W'∧sumW W' (cntG G.ws.length post cs)=cwG G c:=fun W' h=>⟨hI.go (w:=w.toNat) hi1 hW1 (by omega) (by rw[hwn];exact h),by rw[h.sum];exact hs1'⟩
        have hx1:=next_c (d,b,true) w G.ws.length W1 nx1
        cases b with
        | true=>
          obtain⟨a1,a2,a3⟩:=nx2.hd rfl
          dsimp only at a1 a2
          have hA:=aside_c d.bag G.ws.length W2 a1 hn6 nx2.hp nx2.hk nx2.hs a2
          repeat' (first
           | with_reducible (first | refine Rd.p ?_ | refine w_alt ?_ ?_ | refine zE ?_ | refine zE0 ?_)
           | (first | refine w_ixP hl rfl rfl ?_ | refine w_ixP (f:=fun x:Int=>[AV.int .i64 x]) hcl rfl rfl ?_)
           | with_reducible (first | refine zI fun y hy=>?_ | refine zL ?_ | refine zS ?_ | refine zA fun _=>?_ | refine zV ?_ | refine zC ?_ | refine zG ?_ | refine zU ?_ | refine zG0 ?_ | refine zU0 ?_ | refine zF ?_)
           | ((with_reducible refine acall_id ?_);(refine ACall.nx hx1 rfl (fun W' h=>sumW_ne (by rw[(go1 W' h).2];exact hpos)) ?_;intro W1' ho1))
           | ((with_reducible refine acall_id ?_);(refine ACall.st hA rfl ?_;intro W2' ho2))
           | with_reducible (first | refine zX ?_ | refine zD fun _=>?_ | refine zD0 ?_ | refine zN ?_ | refine zF0 ?_ | refine zX0 ?_ | refine z1 ?_ | refine z2 ?_ | refine z3 ?_ | refine z4 ?_ | refine z5 ?_ | refine z6 ?_ | refine z7 ?_ | refine z8 ?_ | refine y1 ?_ | refine y2 ?_ | refine y3 ?_ | refine y4 ?_ | refine y5 ?_ | refine y6 ?_ | refine y7 ?_ | refine y8 ?_ | refine Rt.p (fun _=>?_) fun _=>?_)
           | ((with_reducible apply w_ixM);(focus exact rfl);(focus exact rfl);case' hk=>intro y hy) | ((with_reducible (first | apply w_val | apply q_ends));(focus exact rfl)))
          all_goals try (exfalso;omega)
          all_goals
           have ho3:StOut W2' (fun V=>sumW W2 (nextV (d,true,false) 0 G.ws.length V)) (fun B=>∃y∈W2,nextB (d,true,false) 0 G.ws.length y.1 B):=ho2.congr (fun V=>rfl) fun B hB=>hB
           exact q_loop (pre++[(d,true,true)],post,cp++[w],cs,W1',W2') ⟨by show stepsG G.ds=_;rw[hl];simp,by show c=_;rw[hcl];simp,hcn3,(go1 _ ho1).1,(go1 _ ho1).2,(go2 _ ho3).1,(go2 _ ho3).2⟩ (Nat.lt_succ_self _) ⟨rfl,rfl,by rw[len_snoc];rfl,by rw[len_snoc];rfl,trivial⟩ (by repeat' (first | exact slots_nil | apply slots_cons | rfl | (rw[map_snoc];rfl) | (rw[len_snoc];rfl) | (rw[hS];rfl) | (rw[hS,map_snoc];rfl) | (refine int_eq ?_;(try dsimp only);omega) | (refine congrArg AV.bool ?_;simp_all;done))) (by repeat' (first | exact kept_nil | apply kept_cons | rfl)) (by repeat' (first | exact kept_nil | apply kept_cons | rfl))
        | false=>
          have hk6:d.kind=6:=hL6 (d,false,true) (by rw[hl];simp) rfl rfl
          have hmb:∀B,mixedB d B=B:=fun B=>by unfold mixedB;rw[if_neg (by omega),if_neg (by omega)]
          have hi3:invW G.ws.length (noC post) W2:=by
           obtain⟨b0,m0,h⟩:=hi2'
           have e1:spB (d,false,false) b0=b0:=by unfold spB;simp[hk6]
           have e2:spM (d,false,false) m0=m0:=by unfold spM;simp[hk6]
           have hr:=h.run.2
           rw[e1,e2] at hr
           exact⟨b0,m0,h.t,hr,h.pos,h.key,h.bd⟩
          have hs3:sumW W2 (cntG G.ws.length (noC post) [])=allW G:=by
           rw[←hs2']
           refine sumW_congr fun y _=>?_
           unfold nextV
           rw[if_neg Bool.false_ne_true,if_neg (fun h=>Bool.false_ne_true h.1),hmb]
          repeat' (first
           | with_reducible (first | refine Rd.p ?_ | refine w_alt ?_ ?_ | refine zE ?_ | refine zE0 ?_)
           | (first | refine w_ixP hl rfl rfl ?_ | refine w_ixP (f:=fun x:Int=>[AV.int .i64 x]) hcl rfl rfl ?_)
           | with_reducible (first | refine zI fun y hy=>?_ | refine zL ?_ | refine zS ?_ | refine zA fun _=>?_ | refine zV ?_ | refine zC ?_ | refine zG ?_ | refine zU ?_ | refine zG0 ?_ | refine zU0 ?_ | refine zF ?_)
           | ((with_reducible refine acall_id ?_);(refine ACall.nx hx1 rfl (fun W' h=>sumW_ne (by rw[(go1 W' h).2];exact hpos)) ?_;intro W1' ho1))
           | with_reducible (first | refine zX ?_ | refine zD fun _=>?_ | refine zD0 ?_ | refine zN ?_ | refine zF0 ?_ | refine zX0 ?_ | refine z1 ?_ | refine z2 ?_ | refine z3 ?_ | refine z4 ?_ | refine z5 ?_ | refine z6 ?_ | refine z7 ?_ | refine z8 ?_ | refine y1 ?_ | refine y2 ?_ | refine y3 ?_ | refine y4 ?_ | refine y5 ?_ | refine y6 ?_ | refine y7 ?_ | refine y8 ?_ | refine Rt.p (fun _=>?_) fun _=>?_)
           | ((with_reducible apply w_ixM);(focus exact rfl);(focus exact rfl);case' hk=>intro y hy) | ((with_reducible (first | apply w_val | apply q_ends));(focus exact rfl)))
          all_goals first
           | (exfalso;omega)
           | exact q_loop (pre++[(d,false,true)],post,cp++[w],cs,W1',W2) ⟨by show stepsG G.ds=_;rw[hl];simp,by show c=_;rw[hcl];simp,hcn3,(go1 _ ho1).1,(go1 _ ho1).2,hi3,hs3⟩ (Nat.lt_succ_self _) ⟨rfl,rfl,by rw[len_snoc];rfl,by rw[len_snoc];rfl,trivial⟩ (by repeat' (first | exact slots_nil | apply slots_cons | rfl | (rw[map_snoc];rfl) | (rw[len_snoc];rfl) | (rw[hS];rfl) | (rw[hS,map_snoc];rfl) | (refine int_eq ?_;(try dsimp only);omega) | (refine congrArg AV.bool ?_;simp_all;done))) (by repeat' (first | exact kept_nil | apply kept_cons | rfl)) (by repeat' (first | exact kept_nil | apply kept_cons | rfl))
def ir60:IFn:=
 ⟨11,[(2,none)],(.seq (.ops [oo 1 (.box 5 0),
 oo 2 (.mov (kB false))])
 (.seq (.ops [oo 3 (.flA 0 1),
 oo 4 (.ld 1 false 3),
 oo 5 (.bin .eql 4 (kI 4)),
 oo 6 (.mov 5),
 ⟨(some 7),(some (6,false)),(.flA 0 1)⟩,
 ⟨(some 8),(some (6,false)),(.ld 1 false 7)⟩,
 ⟨(some 9),(some (6,false)),(.bin .eql 8 (kI 5))⟩,
 oo 10 (.pick 6 (kB true) 9),
 oo 2 (.mov 10)])
 .ret))⟩
def hint60 (P:Program):Hint:={}
def ir61:IFn:=
 ⟨19,[(4,none)],(.seq (.ops [oo 2 (.box 24 0),
 oo 4 (.mov (kI 0))])
 (.seq (.ops [oo 5 (.mov (kI 0))])
 (.seq (.seq (.ops [oo 6 (.mov (kI 0))])
 (.blk 0 (.loop (.seq (.seq (.ops [oo 7 (.mov 6),
 oo 8 (.bin .lss 7 (kI 6))])
 (.cnd 8
 .skip
 (.exit 0)))
 (.seq (.blk 1 (.ops [oo 11 (.mov 5),
 oo 12 (.mov 1),
 oo 13 (.mov 6),
 oo 14 (.ixAr 4 6 2 12),
 oo 15 (.ixAr 6 1 14 13),
 oo 16 (.ld 1 false 15),
 oo 17 (.bin .add 11 16),
 oo 5 (.mov 17)]))
 (.ops [oo 9 (.mov 6),
 oo 10 (.bin .add 9 (kI 1)),
 oo 6 (.mov 10)]))))))
 (.seq (.ops [oo 18 (.mov 5),
 oo 4 (.mov 18)])
 .ret))))⟩
def hint61 (P:Program):Hint:={}
def ir62:IFn:=
 ⟨16,[(6,some (24,true))],(.seq (.ops [oo 3 (.box 24 0),
 oo 6 (.new [(.int .i64 0),(.int .i64 0),(.int .i64 0),(.int .i64 0),(.int .i64 0),(.int .i64 0),(.int .i64 0),(.int .i64 0),(.int .i64 0),(.int .i64 0),(.int .i64 0),(.int .i64 0),(.int .i64 0),(.int .i64 0),(.int .i64 0),(.int .i64 0),(.int .i64 0),(.int .i64 0),(.int .i64 0),(.int .i64 0),(.int .i64 0),(.int .i64 0),(.int .i64 0),(.int .i64 0)])])
 (.seq (.ops [oo 7 (.mov 1),
 oo 8 (.mov 2),
 oo 9 (.ixAr 4 6 3 7),
 oo 10 (.ixAr 6 1 9 8),
 oo 11 (.ld 1 false 10),
 oo 12 (.bin .sub 11 (kI 1)),
 oo 13 (.ixAr 4 6 3 7),
 oo 14 (.ixAr 6 1 13 8),
 ⟨none,none,(.st 1 14 12)⟩])
 (.seq (.ops [oo 15 (.ld 24 true 3),
 ⟨none,none,(.st 24 6 15)⟩])
 .ret)))⟩
def hint62 (P:Program):Hint:={}
def ir63:IFn:=
 ⟨27,[(6,none)],(.seq (.ops [oo 3 (.box 24 0),
 oo 6 (.mov (kI 0))])
 (.seq (.seq (.ops [oo 7 (.mov (kI 0))])
 (.blk 0 (.loop (.seq (.seq (.ops [oo 8 (.mov 7),
 oo 9 (.bin .lss 8 (kI 6))])
 (.cnd 9
 .skip
 (.exit 0)))
 (.seq (.blk 1 (.seq (.seq (.ops [oo 12 (.mov 2),
 oo 13 (.mov 1),
 oo 14 (.mov 7),
 oo 15 (.ixAr 4 6 3 13),
 oo 16 (.ixAr 6 1 15 14),
 oo 17 (.ld 1 false 16),
 oo 18 (.bin .lss 12 17)])
 (.cnd 18
 (.seq (.ops [oo 19 (.mov 7),
 oo 6 (.mov 19)])
 .ret)
 .skip))
 (.ops [oo 20 (.mov 2),
 oo 21 (.mov 1),
 oo 22 (.mov 7),
 oo 23 (.ixAr 4 6 3 21),
 oo 24 (.ixAr 6 1 23 22),
 oo 25 (.ld 1 false 24),
 oo 26 (.bin .sub 20 25),
 oo 2 (.mov 26)])))
 (.ops [oo 10 (.mov 7),
 oo 11 (.bin .add 10 (kI 1)),
 oo 7 (.mov 11)]))))))
 (.seq (.ops [oo 6 (.mov (kI 0))])
 .ret)))⟩
def hint63 (P:Program):Hint:={}
def ir64:IFn:=
 ⟨56,[(4,some (24,true))],(.seq (.ops [oo 2 (.box 24 0),
 oo 3 (.box 5 1),
 oo 4 (.new [(.int .i64 0),(.int .i64 0),(.int .i64 0),(.int .i64 0),(.int .i64 0),(.int .i64 0),(.int .i64 0),(.int .i64 0),(.int .i64 0),(.int .i64 0),(.int .i64 0),(.int .i64 0),(.int .i64 0),(.int .i64 0),(.int .i64 0),(.int .i64 0),(.int .i64 0),(.int .i64 0),(.int .i64 0),(.int .i64 0),(.int .i64 0),(.int .i64 0),(.int .i64 0),(.int .i64 0)])])
 (.seq (.seq (.ops [oo 6 (.flA 0 3),
 oo 7 (.ld 1 false 6)])
 (.blk 0 (.seq (.ops [oo 9 (.bin .eql 7 (kI 2)),
 oo 8 (.mov 9)])
 (.cnd 8
 (.ops [oo 10 (.flA 1 3),
 oo 11 (.ld 1 false 10),
 oo 12 (.flA 3 3),
 oo 13 (.ld 1 false 12),
 oo 14 (.flA 1 3),
 oo 15 (.ld 1 false 14),
 oo 16 (.flA 3 3),
 oo 17 (.ld 1 false 16),
 oo 18 (.ixAr 4 6 2 15),
 oo 19 (.ixAr 6 1 18 17),
 oo 20 (.ld 1 false 19),
 oo 21 (.flA 4 3),
 oo 22 (.ld 1 false 21),
 oo 23 (.bin .add 20 22),
 oo 24 (.ixAr 4 6 2 11),
 oo 25 (.ixAr 6 1 24 13),
 ⟨none,none,(.st 1 25 23)⟩])
 (.seq (.ops [oo 27 (.bin .eql 7 (kI 3)),
 oo 26 (.mov 27)])
 (.cnd 26
 (.seq (.ops [oo 5 (.mov (kI 0))])
 (.blk 1 (.loop (.seq (.seq (.ops [oo 28 (.mov 5),
 oo 29 (.bin .lss 28 (kI 6))])
 (.cnd 29
 .skip
 (.exit 1)))
 (.seq (.blk 2 (.ops [oo 32 (.flA 2 3),
 oo 33 (.ld 1 false 32),
 oo 34 (.mov 5),
 oo 35 (.flA 1 3),
 oo 36 (.ld 1 false 35),
 oo 37 (.mov 5),
 oo 38 (.flA 2 3),
 oo 39 (.ld 1 false 38),
 oo 40 (.mov 5),
 oo 41 (.ixAr 4 6 2 39),
 oo 42 (.ixAr 6 1 41 40),
 oo 43 (.ld 1 false 42),
 oo 44 (.flA 1 3),
 oo 45 (.ld 1 false 44),
 oo 46 (.mov 5),
 oo 47 (.ixAr 4 6 2 45),
 oo 48 (.ixAr 6 1 47 46),
 oo 49 (.ld 1 false 48),
 oo 50 (.bin .add 43 49),
 oo 51 (.ixAr 4 6 2 33),
 oo 52 (.ixAr 6 1 51 34),
 oo 53 (.ixAr 4 6 2 36),
 ⟨none,none,(.st 1 52 50)⟩,
 ⟨none,none,(.chk 1 false 35 36)⟩,
 oo 54 (.ixAr 6 1 53 37),
 ⟨none,none,(.st 1 54 (kI 0))⟩]))
 (.ops [oo 30 (.mov 5),
 oo 31 (.bin .add 30 (kI 1)),
 oo 5 (.mov 31)]))))))
 .skip))))))
 (.seq (.ops [oo 55 (.ld 24 true 2),
 ⟨none,none,(.st 24 4 55)⟩])
 .ret)))⟩
def hint64 (P:Program):Hint:={}
theorem rdraws_c (d:Dl):Fn0 Try.prog 60 [dlA d] (fun v=>v= .bool (drawsB d)):=by
 by_cases h4:d.kind=4
 · have e1:drawsB d=true:=by simp[drawsB,h4]
   rw[e1]
   refine RawC.walk (H:=hint60 Try.prog) ir60 Try.func60 rfl rfl rfl ?_
   unfold ir60
   repeat' (first
    | with_reducible (first | refine Rd.p ?_ | refine w_alt ?_ ?_ | refine zE ?_ | refine zE0 ?_)
    | with_reducible (first | refine zI fun y hy=>?_ | refine zL ?_ | refine zS ?_ | refine zA fun _=>?_ | refine zV ?_ | refine zC ?_ | refine zG ?_ | refine zU ?_ | refine zG0 ?_ | refine zU0 ?_ | refine zF ?_)
    | with_reducible (first | refine zX ?_ | refine zD fun _=>?_ | refine zD0 ?_ | refine zN ?_ | refine zF0 ?_ | refine zX0 ?_ | refine z1 ?_ | refine z2 ?_ | refine z3 ?_ | refine z4 ?_ | refine z5 ?_ | refine z6 ?_ | refine z7 ?_ | refine z8 ?_ | refine y1 ?_ | refine y2 ?_ | refine y3 ?_ | refine y4 ?_ | refine y5 ?_ | refine y6 ?_ | refine y7 ?_ | refine y8 ?_ | refine Rt.p (fun _=>?_) fun _=>?_)
    | ((with_reducible apply w_ixM);(focus exact rfl);(focus exact rfl);case' hk=>intro y hy) | ((with_reducible (first | apply w_val | apply q_ends));(focus exact rfl)))
   all_goals first
    | (exfalso;omega)
    | rfl
 · have e1:drawsB d=decide (d.kind=5):=by simp[drawsB,h4]
   rw[e1]
   refine RawC.walk (H:=hint60 Try.prog) ir60 Try.func60 rfl rfl rfl ?_
   unfold ir60
   repeat' (first
    | with_reducible (first | refine Rd.p ?_ | refine w_alt ?_ ?_ | refine zE ?_ | refine zE0 ?_)
    | with_reducible (first | refine zI fun y hy=>?_ | refine zL ?_ | refine zS ?_ | refine zA fun _=>?_ | refine zV ?_ | refine zC ?_ | refine zG ?_ | refine zU ?_ | refine zG0 ?_ | refine zU0 ?_ | refine zF ?_)
    | with_reducible (first | refine zX ?_ | refine zD fun _=>?_ | refine zD0 ?_ | refine zN ?_ | refine zF0 ?_ | refine zX0 ?_ | refine z1 ?_ | refine z2 ?_ | refine z3 ?_ | refine z4 ?_ | refine z5 ?_ | refine z6 ?_ | refine z7 ?_ | refine z8 ?_ | refine y1 ?_ | refine y2 ?_ | refine y3 ?_ | refine y4 ?_ | refine y5 ?_ | refine y6 ?_ | refine y7 ?_ | refine y8 ?_ | refine Rt.p (fun _=>?_) fun _=>?_)
    | ((with_reducible apply w_ixM);(focus exact rfl);(focus exact rfl);case' hk=>intro y hy) | ((with_reducible (first | apply w_val | apply q_ends));(focus exact rfl)))
   all_goals first
    | (exfalso;omega)
    | rfl
theorem rsize_c (B:List Int) (h:bgIn B) (i:Int) (hi:0≤i∧i≤3):Fn0 Try.prog 61 [bgV B,.int .i64 i] (fun v=>v= .int .i64 (bgSize B i)):=by
 have hl:=h.l
 obtain⟨R,hR⟩:∃R,rowB B i=R:=⟨_,rfl⟩
 have hRl:R.length=6:=by rw[←hR];exact rowB_len _ _
 have hRs:R.sum=bgSize B i:=by rw[←hR];rfl
 have hRg:∀w,w<6→R.getD w 0=B.getD (i.toNat*6+w) 0:=fun w hw=>by rw[←hR,rowB_get _ _ hw];rfl
 have hRb:∀v∈R,0≤v∧v≤1000000:=fun v hv=>by
  rw[←hR] at hv
  obtain⟨w,_,rfl⟩:=List.mem_map.1 hv
  exact h.at _
 refine RawC.walk (H:=hint61 Try.prog) ir61 Try.func61 rfl rfl rfl ?_
 unfold ir61
 repeat' (first
  | with_reducible (first | refine Rd.p ?_ | refine w_alt ?_ ?_ | refine zE ?_ | refine zE0 ?_)
  | (first | (refine w_boxN rfl hl ?_;intro g2))
  | with_reducible (first | refine zI fun y hy=>?_ | refine zL ?_ | refine zS ?_ | refine zA fun _=>?_ | refine zV ?_ | refine zC ?_ | refine zG ?_ | refine zU ?_ | refine zG0 ?_ | refine zU0 ?_ | refine zF ?_)
  | with_reducible (first | refine zX ?_ | refine zD fun _=>?_ | refine zD0 ?_ | refine zN ?_ | refine zF0 ?_ | refine zX0 ?_ | refine z1 ?_ | refine z2 ?_ | refine z3 ?_ | refine z4 ?_ | refine z5 ?_ | refine z6 ?_ | refine z7 ?_ | refine z8 ?_ | refine y1 ?_ | refine y2 ?_ | refine y3 ?_ | refine y4 ?_ | refine y5 ?_ | refine y6 ?_ | refine y7 ?_ | refine y8 ?_ | refine Rt.p (fun _=>?_) fun _=>?_)
  | ((with_reducible apply w_ixM);(focus exact rfl);(focus exact rfl);case' hk=>intro y hy) | ((with_reducible (first | apply w_val | apply q_ends));(focus exact rfl)))
 refine w_loopK [1,2] [2] (fun k:Nat=>k≤6) (fun k=>6-k) (fun k=>[(6,.int .i64 (k:Int)),(5,.int .i64 ((R.take k).sum))]) (fun _=>[]) 0 (Nat.zero_le _) ⟨rfl,rfl,trivial⟩ trivial ?_
 rintro k hk e σ
 try dsimp only at hk ⊢
 have hb:=sum_bd (M:=1000000) (l:=R.take k) fun x hx=>hRb x (List.mem_of_mem_take hx)
 have hlk:(R.take k).length=k:=by rw[List.length_take];omega
 by_cases hk6:k=6
 · subst hk6
   have e1:R.take 6=R:=List.take_of_length_le (by omega)
   rw[e1,hRs]
   repeat' (first
    | with_reducible (first | refine Rd.p ?_ | refine w_alt ?_ ?_ | refine zE ?_ | refine zE0 ?_)
    | with_reducible (first | refine zI fun y hy=>?_ | refine zL ?_ | refine zS ?_ | refine zA fun _=>?_ | refine zV ?_ | refine zC ?_ | refine zG ?_ | refine zU ?_ | refine zG0 ?_ | refine zU0 ?_ | refine zF ?_)
    | with_reducible (first | refine zX ?_ | refine zD fun _=>?_ | refine zD0 ?_ | refine zN ?_ | refine zF0 ?_ | refine zX0 ?_ | refine z1 ?_ | refine z2 ?_ | refine z3 ?_ | refine z4 ?_ | refine z5 ?_ | refine z6 ?_ | refine z7 ?_ | refine z8 ?_ | refine y1 ?_ | refine y2 ?_ | refine y3 ?_ | refine y4 ?_ | refine y5 ?_ | refine y6 ?_ | refine y7 ?_ | refine y8 ?_ | refine Rt.p (fun _=>?_) fun _=>?_)
    | ((with_reducible apply w_ixM);(focus exact rfl);(focus exact rfl);case' hk=>intro y hy) | ((with_reducible (first | apply w_val | apply q_ends));(focus exact rfl)))
   all_goals first
    | (exfalso;omega)
    | rfl
 have hts:=take_sum (R:=R) (k:=k) (by omega)
 have hrg:=hRg k (by omega)
 have hat:=h.at (i.toNat*6+k)
 have ho:0+i.toNat*6+k*1=i.toNat*6+k:=by omega
 rw[hlk] at hb
 repeat' (first
  | with_reducible (first | refine Rd.p ?_ | refine w_alt ?_ ?_ | refine zE ?_ | refine zE0 ?_)
  | (first | refine w_ldEl rfl ho rfl (by omega) ?_)
  | with_reducible (first | refine zI fun y hy=>?_ | refine zL ?_ | refine zS ?_ | refine zA fun _=>?_ | refine zV ?_ | refine zC ?_ | refine zG ?_ | refine zU ?_ | refine zG0 ?_ | refine zU0 ?_ | refine zF ?_)
  | with_reducible (first | refine zX ?_ | refine zD fun _=>?_ | refine zD0 ?_ | refine zN ?_ | refine zF0 ?_ | refine zX0 ?_ | refine z1 ?_ | refine z2 ?_ | refine z3 ?_ | refine z4 ?_ | refine z5 ?_ | refine z6 ?_ | refine z7 ?_ | refine z8 ?_ | refine y1 ?_ | refine y2 ?_ | refine y3 ?_ | refine y4 ?_ | refine y5 ?_ | refine y6 ?_ | refine y7 ?_ | refine y8 ?_ | refine Rt.p (fun _=>?_) fun _=>?_)
  | ((with_reducible apply w_ixM);(focus exact rfl);(focus exact rfl);case' hk=>intro y hy) | ((with_reducible (first | apply w_val | apply q_ends));(focus exact rfl)))
 all_goals first
  | (exfalso;omega)
  | exact q_loop (k+1) (by show k+1≤6;omega) (by show 6-(k+1)<6-k;omega) ⟨int_eq (by simp),by show AV.int .i64 _=AV.int .i64 _;rw[hts,hrg],trivial⟩ trivial (by repeat' (first | exact kept_nil | apply kept_cons | rfl)) (by repeat' (first | exact kept_nil | apply kept_cons | rfl))
theorem rwithout_c (B:List Int) (h:bgIn B) (i w:Int) (hi:0≤i∧i≤3) (hw:0≤w∧w≤5):Fn0 Try.prog 62 [bgV B,.int .i64 i,.int .i64 w] (fun v=>v=bgV (drawB B i w)):=by
 have hl:=h.l
 have hat:=h.at (i.toNat*6+w.toNat)
 have ho:0+i.toNat*6+w.toNat*1=i.toNat*6+w.toNat:=by omega
 have hdl:=drawB_len hl i w
 refine RawC.walk (H:=hint62 Try.prog) ir62 Try.func62 rfl rfl rfl ?_
 unfold ir62
 repeat' (first
  | with_reducible (first | refine Rd.p ?_ | refine w_alt ?_ ?_ | refine zE ?_ | refine zE0 ?_)
  | (first | (refine w_boxN rfl hl ?_;intro g2) | refine w_ldEl rfl ho rfl (by omega) ?_ | refine w_stElC rfl ho rfl (by omega) rfl (drawB_set B i w) ?_ | refine w_ldN rfl rfl hdl ?_ | refine w_stN rfl rfl rfl rfl hdl ?_)
  | with_reducible (first | refine zI fun y hy=>?_ | refine zL ?_ | refine zS ?_ | refine zA fun _=>?_ | refine zV ?_ | refine zC ?_ | refine zG ?_ | refine zU ?_ | refine zG0 ?_ | refine zU0 ?_ | refine zF ?_)
  | with_reducible (first | refine zX ?_ | refine zD fun _=>?_ | refine zD0 ?_ | refine zN ?_ | refine zF0 ?_ | refine zX0 ?_ | refine z1 ?_ | refine z2 ?_ | refine z3 ?_ | refine z4 ?_ | refine z5 ?_ | refine z6 ?_ | refine z7 ?_ | refine z8 ?_ | refine y1 ?_ | refine y2 ?_ | refine y3 ?_ | refine y4 ?_ | refine y5 ?_ | refine y6 ?_ | refine y7 ?_ | refine y8 ?_ | refine Rt.p (fun _=>?_) fun _=>?_)
  | ((with_reducible apply w_ixM);(focus exact rfl);(focus exact rfl);case' hk=>intro y hy) | ((with_reducible (first | apply w_val | apply q_ends));(focus exact rfl)))
 all_goals first
  | (exfalso;omega)
  | exact end_bg hdl
theorem rwood_c (B:List Int) (h:bgIn B) (i p:Int) (hi:0≤i∧i≤3) (hp:0≤p∧p<bgSize B i) (hp2:p≤1000000):Fn0 Try.prog 63 [bgV B,.int .i64 i,.int .i64 p] (fun v=>v= .int .i64 (pickW B i p)):=by
 have hl:=h.l
 obtain⟨R6,hR6⟩:∃R6,rowB B i=R6:=⟨_,rfl⟩
 have hRl:R6.length=6:=by rw[←hR6];exact rowB_len _ _
 have hRs:R6.sum=bgSize B i:=by rw[←hR6];rfl
 have hpw:pickW B i p=(pickF R6 p:Nat):=by unfold pickW;rw[hR6]
 have hRg:∀w,w<6→R6.getD w 0=B.getD (i.toNat*6+w) 0:=fun w hw=>by rw[←hR6,rowB_get _ _ hw];rfl
 rw[hpw]
 refine RawC.walk (H:=hint63 Try.prog) ir63 Try.func63 rfl rfl rfl ?_
 unfold ir63
 repeat' (first
  | with_reducible (first | refine Rd.p ?_ | refine w_alt ?_ ?_ | refine zE ?_ | refine zE0 ?_)
  | (first | (refine w_boxN rfl hl ?_;intro g2))
  | with_reducible (first | refine zI fun y hy=>?_ | refine zL ?_ | refine zS ?_ | refine zA fun _=>?_ | refine zV ?_ | refine zC ?_ | refine zG ?_ | refine zU ?_ | refine zG0 ?_ | refine zU0 ?_ | refine zF ?_)
  | with_reducible (first | refine zX ?_ | refine zD fun _=>?_ | refine zD0 ?_ | refine zN ?_ | refine zF0 ?_ | refine zX0 ?_ | refine z1 ?_ | refine z2 ?_ | refine z3 ?_ | refine z4 ?_ | refine z5 ?_ | refine z6 ?_ | refine z7 ?_ | refine z8 ?_ | refine y1 ?_ | refine y2 ?_ | refine y3 ?_ | refine y4 ?_ | refine y5 ?_ | refine y6 ?_ | refine y7 ?_ | refine y8 ?_ | refine Rt.p (fun _=>?_) fun _=>?_)
  | ((with_reducible apply w_ixM);(focus exact rfl);(focus exact rfl);case' hk=>intro y hy) | ((with_reducible (first | apply w_val | apply q_ends));(focus exact rfl)))
 refine w_loopK [1,3] [3] (fun x:Nat×Int=>(0≤x.2∧x.2<(R6.drop x.1).sum)∧x.2≤1000000∧x.1+pickF (R6.drop x.1) x.2=pickF R6 p∧x.1≤6) (fun x=>6-x.1) (fun x=>[(7,.int .i64 (x.1:Int)),(2,.int .i64 x.2)]) (fun _=>[]) (0,p) ⟨⟨hp.1,by show p<R6.sum;omega⟩,hp2,Nat.zero_add _,Nat.zero_le 6⟩ ⟨rfl,rfl,trivial⟩ trivial ?_
 rintro⟨w,k⟩ ⟨hk,hk12,hpk,hw6⟩ e3 σ3
 dsimp only at hk hk12 hpk hw6 ⊢
 have hw5:w<6:=by
  apply Classical.byContradiction
  intro h
  have:R6.drop w=[]:=List.drop_of_length_le (by omega)
  rw[this] at hk;simp at hk;omega
 have hdw:R6.drop w=R6.getD w 0::R6.drop (w+1):=by
  rw[List.drop_eq_getElem_cons (by omega),List.getD_eq_getElem?_getD,List.getElem?_eq_getElem (by omega)];rfl
 have hRw:=hRg w hw5
 have hin2:=h.at (i.toNat*6+w)
 have ho:0+i.toNat*6+w*1=i.toNat*6+w:=by omega
 rw[hdw,pickF] at hpk
 rw[hdw,List.sum_cons] at hk
 rw[hRw] at hpk hk
 by_cases hkw:k<B.getD (i.toNat*6+w) 0
 · rw[if_pos hkw] at hpk
   rw[←hpk]
   repeat' (first
    | with_reducible (first | refine Rd.p ?_ | refine w_alt ?_ ?_ | refine zE ?_ | refine zE0 ?_)
    | (first | refine w_ldEl rfl ho rfl (by omega) ?_)
    | with_reducible (first | refine zI fun y hy=>?_ | refine zL ?_ | refine zS ?_ | refine zA fun _=>?_ | refine zV ?_ | refine zC ?_ | refine zG ?_ | refine zU ?_ | refine zG0 ?_ | refine zU0 ?_ | refine zF ?_)
    | with_reducible (first | refine zX ?_ | refine zD fun _=>?_ | refine zD0 ?_ | refine zN ?_ | refine zF0 ?_ | refine zX0 ?_ | refine z1 ?_ | refine z2 ?_ | refine z3 ?_ | refine z4 ?_ | refine z5 ?_ | refine z6 ?_ | refine z7 ?_ | refine z8 ?_ | refine y1 ?_ | refine y2 ?_ | refine y3 ?_ | refine y4 ?_ | refine y5 ?_ | refine y6 ?_ | refine y7 ?_ | refine y8 ?_ | refine Rt.p (fun _=>?_) fun _=>?_)
    | ((with_reducible apply w_ixM);(focus exact rfl);(focus exact rfl);case' hk=>intro y hy) | ((with_reducible (first | apply w_val | apply q_ends));(focus exact rfl)))
   all_goals first
    | (exfalso;omega)
    | rfl
 · rw[if_neg hkw] at hpk
   repeat' (first
    | with_reducible (first | refine Rd.p ?_ | refine w_alt ?_ ?_ | refine zE ?_ | refine zE0 ?_)
    | (first | refine w_ldEl rfl ho rfl (by omega) ?_)
    | with_reducible (first | refine zI fun y hy=>?_ | refine zL ?_ | refine zS ?_ | refine zA fun _=>?_ | refine zV ?_ | refine zC ?_ | refine zG ?_ | refine zU ?_ | refine zG0 ?_ | refine zU0 ?_ | refine zF ?_)
    | with_reducible (first | refine zX ?_ | refine zD fun _=>?_ | refine zD0 ?_ | refine zN ?_ | refine zF0 ?_ | refine zX0 ?_ | refine z1 ?_ | refine z2 ?_ | refine z3 ?_ | refine z4 ?_ | refine z5 ?_ | refine z6 ?_ | refine z7 ?_ | refine z8 ?_ | refine y1 ?_ | refine y2 ?_ | refine y3 ?_ | refine y4 ?_ | refine y5 ?_ | refine y6 ?_ | refine y7 ?_ | refine y8 ?_ | refine Rt.p (fun _=>?_) fun _=>?_)
    | ((with_reducible apply w_ixM);(focus exact rfl);(focus exact rfl);case' hk=>intro y hy) | ((with_reducible (first | apply w_val | apply q_ends));(focus exact rfl)))
   all_goals first
    | (exfalso;omega)
    | exact q_loop (w+1,k-B.getD (i.toNat*6+w) 0) ⟨by dsimp only;omega,by dsimp only;omega,by dsimp only;omega,hw5⟩ (by show 6-(w+1)<6-w;omega) ⟨by show AV.int .i64 _=AV.int .i64 _;exact int_eq (by simp),rfl,trivial⟩ (by repeat' (first | exact slots_nil | apply slots_cons | rfl | (rw[map_snoc];rfl) | (rw[len_snoc];rfl) | (rw[hS];rfl) | (rw[hS,map_snoc];rfl) | (refine int_eq ?_;(try dsimp only);omega) | (refine congrArg AV.bool ?_;simp_all;done))) (by repeat' (first | exact kept_nil | apply kept_cons | rfl)) (by repeat' (first | exact kept_nil | apply kept_cons | rfl))
def pourW (B:List Int) (i k w:Nat):List Int:=(List.range 24).map fun y=>if y/6=k∧y%6<w then B.getD y 0+B.getD (i*6+y%6) 0 else if y/6=i∧y%6<w then 0 else B.getD y 0
theorem pourW_len (B:List Int) (i k w:Nat):(pourW B i k w).length=24:=by simp[pourW]
theorem pourW_zero {B:List Int} (h:B.length=24) (i k:Nat):pourW B i k 0=B:=ext24 (pourW_len ..) h fun y hy=>by
 unfold pourW
 rw[map24_get hy,if_neg (by omega),if_neg (by omega)]
theorem pourW_six {B:List Int} (i k:Int):pourW B i.toNat k.toNat 6=bgPour B i k:=by
 unfold pourW bgPour
 refine List.map_congr_left fun y hy=>?_
 have:y%6<6:=Nat.mod_lt _ (by decide)
 by_cases h1:y/6=k.toNat
 · rw[if_pos ⟨h1,this⟩,if_pos h1]
 · rw[if_neg (fun h=>h1 h.1),if_neg h1]
   by_cases h2:y/6=i.toNat
   · rw[if_pos ⟨h2,this⟩,if_pos h2]
   · rw[if_neg (fun h=>h2 h.1),if_neg h2]
theorem pourW_succ {B:List Int} {i k w:Nat} (hi:i<4) (hk:k<4) (hik:i≠k) (hw:w<6):((pourW B i k w).set (k*6+w) (B.getD (k*6+w) 0+B.getD (i*6+w) 0)).set (i*6+w) 0=pourW B i k (w+1):=ext24 (by rw[List.length_set,List.length_set,pourW_len]) (pourW_len ..) fun y hy=>by
 rw[set_getD (by rw[List.length_set,pourW_len];omega),set_getD (by rw[pourW_len];omega)]
 unfold pourW
 rw[map24_get hy,map24_get hy]
 by_cases e1:y=i*6+w
 · subst e1
   have h1:(i*6+w)/6=i:=by omega
   have h2:(i*6+w)%6=w:=by omega
   rw[if_pos rfl,h1,h2,if_neg (by omega),if_pos (by omega)]
 · rw[if_neg e1]
   by_cases e2:y=k*6+w
   · subst e2
     have h1:(k*6+w)/6=k:=by omega
     have h2:(k*6+w)%6=w:=by omega
     rw[if_pos rfl,h1,h2,if_pos (by omega)]
   · rw[if_neg e2]
     by_cases h1:y/6=k∧y%6<w
     · rw[if_pos h1,if_pos (by omega)]
     · rw[if_neg h1,if_neg (c:=y/6=k∧y%6<w+1) (by omega)]
       by_cases h2:y/6=i∧y%6<w
       · rw[if_pos h2,if_pos (by omega)]
       · rw[if_neg h2,if_neg (by omega)]
theorem pourW_get {B:List Int} {i k w:Nat} (hi:i<4) (hk:k<4) (hw:w<6):(pourW B i k w).getD (k*6+w) 0=B.getD (k*6+w) 0∧(pourW B i k w).getD (i*6+w) 0=B.getD (i*6+w) 0:=by
 unfold pourW
 rw[map24_get (by omega),map24_get (by omega)]
 have h1:(i*6+w)/6=i:=by omega
 have h2:(i*6+w)%6=w:=by omega
 have h3:(k*6+w)/6=k:=by omega
 have h4:(k*6+w)%6=w:=by omega
 rw[h1,h2,h3,h4]
 refine⟨?_,?_⟩
 · rw[if_neg (by omega),if_neg (by omega)]
 · rw[if_neg (by omega),if_neg (by omega)]
theorem rready_c (d:Dl) (B:List Int) (h:bgIn B) (h2:d.kind=2→(0≤d.bag∧d.bag≤3)∧(0≤d.wood∧d.wood≤5)∧0≤d.count∧d.count≤1000000) (h3:d.kind=3→(0≤d.bag∧d.bag≤3)∧(0≤d.other∧d.other≤3)∧d.bag≠d.other):
  Fn0 Try.prog 64 [bgV B,dlA d] (fun v=>v=bgV (mixedB d B)):=by
 have hl:=h.l
 unfold mixedB
 by_cases e2:d.kind=2
 · obtain⟨b1,b2,b3⟩:=h2 e2
   rw[if_pos e2]
   have hp:=h.at (d.bag.toNat*6+d.wood.toNat)
   have ho:0+d.bag.toNat*6+d.wood.toNat*1=d.bag.toNat*6+d.wood.toNat:=by omega
   have hsl:(B.set (d.bag.toNat*6+d.wood.toNat) (B.getD (d.bag.toNat*6+d.wood.toNat) 0+d.count)).length=24:=by rw[List.length_set];exact hl
   refine RawC.walk (H:=hint64 Try.prog) ir64 Try.func64 rfl rfl rfl ?_
   unfold ir64
   repeat' (first
    | with_reducible (first | refine Rd.p ?_ | refine w_alt ?_ ?_ | refine zE ?_ | refine zE0 ?_)
    | (first | (refine w_boxN rfl hl ?_;intro g2) | refine w_ldEl rfl ho rfl (by omega) ?_ | refine w_stEl rfl ho rfl (by omega) rfl ?_ | refine w_ldN rfl rfl hsl ?_ | refine w_stN rfl rfl rfl rfl hsl ?_)
    | with_reducible (first | refine zI fun y hy=>?_ | refine zL ?_ | refine zS ?_ | refine zA fun _=>?_ | refine zV ?_ | refine zC ?_ | refine zG ?_ | refine zU ?_ | refine zG0 ?_ | refine zU0 ?_ | refine zF ?_)
    | with_reducible (first | refine zX ?_ | refine zD fun _=>?_ | refine zD0 ?_ | refine zN ?_ | refine zF0 ?_ | refine zX0 ?_ | refine z1 ?_ | refine z2 ?_ | refine z3 ?_ | refine z4 ?_ | refine z5 ?_ | refine z6 ?_ | refine z7 ?_ | refine z8 ?_ | refine y1 ?_ | refine y2 ?_ | refine y3 ?_ | refine y4 ?_ | refine y5 ?_ | refine y6 ?_ | refine y7 ?_ | refine y8 ?_ | refine Rt.p (fun _=>?_) fun _=>?_)
    | ((with_reducible apply w_ixM);(focus exact rfl);(focus exact rfl);case' hk=>intro y hy) | ((with_reducible (first | apply w_val | apply q_ends));(focus exact rfl)))
   all_goals first
    | (exfalso;omega)
    | exact end_bg hsl
 rw[if_neg e2]
 by_cases e3:d.kind=3
 case neg=>
  rw[if_neg e3]
  refine RawC.walk (H:=hint64 Try.prog) ir64 Try.func64 rfl rfl rfl ?_
  unfold ir64
  repeat' (first
   | with_reducible (first | refine Rd.p ?_ | refine w_alt ?_ ?_ | refine zE ?_ | refine zE0 ?_)
   | (first | (refine w_boxN rfl hl ?_;intro g2) | refine w_ldN rfl rfl hl ?_ | refine w_stN rfl rfl rfl rfl hl ?_)
   | with_reducible (first | refine zI fun y hy=>?_ | refine zL ?_ | refine zS ?_ | refine zA fun _=>?_ | refine zV ?_ | refine zC ?_ | refine zG ?_ | refine zU ?_ | refine zG0 ?_ | refine zU0 ?_ | refine zF ?_)
   | with_reducible (first | refine zX ?_ | refine zD fun _=>?_ | refine zD0 ?_ | refine zN ?_ | refine zF0 ?_ | refine zX0 ?_ | refine z1 ?_ | refine z2 ?_ | refine z3 ?_ | refine z4 ?_ | refine z5 ?_ | refine z6 ?_ | refine z7 ?_ | refine z8 ?_ | refine y1 ?_ | refine y2 ?_ | refine y3 ?_ | refine y4 ?_ | refine y5 ?_ | refine y6 ?_ | refine y7 ?_ | refine y8 ?_ | refine Rt.p (fun _=>?_) fun _=>?_)
   | ((with_reducible apply w_ixM);(focus exact rfl);(focus exact rfl);case' hk=>intro y hy) | ((with_reducible (first | apply w_val | apply q_ends));(focus exact rfl)))
  all_goals first
   | (exfalso;omega)
   | exact end_bg hl
 obtain⟨b1,b2,b3⟩:=h3 e3
 rw[if_pos e3]
 refine RawC.walk (H:=hint64 Try.prog) ir64 Try.func64 rfl rfl rfl ?_
 unfold ir64
 repeat' (first
  | with_reducible (first | refine Rd.p ?_ | refine w_alt ?_ ?_ | refine zE ?_ | refine zE0 ?_)
  | (first | (refine w_boxN rfl hl ?_;intro g2))
  | with_reducible (first | refine zI fun y hy=>?_ | refine zL ?_ | refine zS ?_ | refine zA fun _=>?_ | refine zV ?_ | refine zC ?_ | refine zG ?_ | refine zU ?_ | refine zG0 ?_ | refine zU0 ?_ | refine zF ?_)
  | with_reducible (first | refine zX ?_ | refine zD fun _=>?_ | refine zD0 ?_ | refine zN ?_ | refine zF0 ?_ | refine zX0 ?_ | refine z1 ?_ | refine z2 ?_ | refine z3 ?_ | refine z4 ?_ | refine z5 ?_ | refine z6 ?_ | refine z7 ?_ | refine z8 ?_ | refine y1 ?_ | refine y2 ?_ | refine y3 ?_ | refine y4 ?_ | refine y5 ?_ | refine y6 ?_ | refine y7 ?_ | refine y8 ?_ | refine Rt.p (fun _=>?_) fun _=>?_)
  | ((with_reducible apply w_ixM);(focus exact rfl);(focus exact rfl);case' hk=>intro y hy) | ((with_reducible (first | apply w_val | apply q_ends));(focus exact rfl)))
 all_goals try (exfalso;omega)
 rename_i g3 g4
 refine w_loopK [2,3,4] [3,4] (fun w:Nat=>w≤6) (fun w=>6-w) (fun w=>[(5,.int .i64 (w:Int))]) (fun w=>[(2,(g2,.row (nI (pourW B d.bag.toNat d.other.toNat w))))]) 0 (Nat.zero_le _) ⟨rfl,trivial⟩ ⟨by rw[pourW_zero hl];rfl,trivial⟩ ?_
 rintro w hw e σ
 try dsimp only at hw ⊢
 have hpl:=pourW_len B d.bag.toNat d.other.toNat w
 by_cases hw6:w=6
 · subst hw6
   rw[pourW_six] at hpl ⊢
   repeat' (first
    | with_reducible (first | refine Rd.p ?_ | refine w_alt ?_ ?_ | refine zE ?_ | refine zE0 ?_)
    | (first | refine w_ldN rfl rfl hpl ?_ | refine w_stN rfl rfl rfl rfl hpl ?_)
    | with_reducible (first | refine zI fun y hy=>?_ | refine zL ?_ | refine zS ?_ | refine zA fun _=>?_ | refine zV ?_ | refine zC ?_ | refine zG ?_ | refine zU ?_ | refine zG0 ?_ | refine zU0 ?_ | refine zF ?_)
    | with_reducible (first | refine zX ?_ | refine zD fun _=>?_ | refine zD0 ?_ | refine zN ?_ | refine zF0 ?_ | refine zX0 ?_ | refine z1 ?_ | refine z2 ?_ | refine z3 ?_ | refine z4 ?_ | refine z5 ?_ | refine z6 ?_ | refine z7 ?_ | refine z8 ?_ | refine y1 ?_ | refine y2 ?_ | refine y3 ?_ | refine y4 ?_ | refine y5 ?_ | refine y6 ?_ | refine y7 ?_ | refine y8 ?_ | refine Rt.p (fun _=>?_) fun _=>?_)
    | ((with_reducible apply w_ixM);(focus exact rfl);(focus exact rfl);case' hk=>intro y hy) | ((with_reducible (first | apply w_val | apply q_ends));(focus exact rfl)))
   all_goals first
    | (exfalso;omega)
    | exact end_bg hpl
 have ho:0+d.other.toNat*6+w*1=d.other.toNat*6+w:=by omega
 have hb:0+d.bag.toNat*6+w*1=d.bag.toNat*6+w:=by omega
 have q1:=h.at (d.other.toNat*6+w)
 have q2:=h.at (d.bag.toNat*6+w)
 obtain⟨p1,p2⟩:=pourW_get (B:=B) (i:=d.bag.toNat) (k:=d.other.toNat) (w:=w) (by omega) (by omega) (by omega)
 have hps:=pourW_succ (B:=B) (i:=d.bag.toNat) (k:=d.other.toNat) (w:=w) (by omega) (by omega) (by omega) (by omega)
 generalize pourW B d.bag.toNat d.other.toNat w=PK at*
 have hsl:d.bag.toNat*6+w<(PK.set (d.other.toNat*6+w) (B.getD (d.other.toNat*6+w) 0+B.getD (d.bag.toNat*6+w) 0)).length:=by rw[List.length_set];omega
 repeat' (first
  | with_reducible (first | refine Rd.p ?_ | refine w_alt ?_ ?_ | refine zE ?_ | refine zE0 ?_)
  | (first | refine w_ldV rfl ho rfl (by omega) p1 ?_ | refine w_ldV rfl hb rfl (by omega) p2 ?_ | refine w_stEl rfl ho rfl (by omega) rfl ?_ | refine w_stEl rfl hb rfl hsl rfl ?_)
  | with_reducible (first | refine zI fun y hy=>?_ | refine zL ?_ | refine zS ?_ | refine zA fun _=>?_ | refine zV ?_ | refine zC ?_ | refine zG ?_ | refine zU ?_ | refine zG0 ?_ | refine zU0 ?_ | refine zF ?_)
  | with_reducible (first | refine zX ?_ | refine zD fun _=>?_ | refine zD0 ?_ | refine zN ?_ | refine zF0 ?_ | refine zX0 ?_ | refine z1 ?_ | refine z2 ?_ | refine z3 ?_ | refine z4 ?_ | refine z5 ?_ | refine z6 ?_ | refine z7 ?_ | refine z8 ?_ | refine y1 ?_ | refine y2 ?_ | refine y3 ?_ | refine y4 ?_ | refine y5 ?_ | refine y6 ?_ | refine y7 ?_ | refine y8 ?_ | refine Rt.p (fun _=>?_) fun _=>?_)
  | ((with_reducible apply w_ixM);(focus exact rfl);(focus exact rfl);case' hk=>intro y hy) | ((with_reducible (first | apply w_val | apply q_ends));(focus exact rfl)))
 all_goals first
  | (exfalso;omega)
  | exact q_loop (w+1) (by show w+1≤6;omega) (by show 6-(w+1)<6-w;omega) ⟨int_eq (by simp),trivial⟩ ⟨by rw[←hps];rfl,trivial⟩ (by repeat' (first | exact kept_nil | apply kept_cons | rfl)) (by repeat' (first | exact kept_nil | apply kept_cons | rfl))
def ir58:IFn:=
 ⟨39,[(2,none)],(.seq (.ops [oo 1 (.box 2 0),
 oo 2 (.mov (.k .nsl))])
 (.seq (.ops [oo 3 (.nil 5 3)])
 (.seq (.seq (.ops [oo 4 (.mov (kI 0))])
 (.blk 0 (.loop (.seq (.seq (.ops [oo 7 (.mov 4),
 oo 8 (.flA 1 1),
 oo 9 (.ld 1 false 8),
 oo 10 (.len false 9),
 oo 11 (.bin .lss 7 10)])
 (.cnd 11
 .skip
 (.exit 0)))
 (.seq (.blk 1 (.seq (.ops [oo 14 (.flA 1 1),
 oo 15 (.ld 1 false 14),
 oo 16 (.mov 4),
 oo 17 (.ixA 5 15 16),
 oo 18 (.ld 5 true 17),
 oo 5 (.new [(.int .i64 0),(.int .i64 0),(.int .i64 0),(.int .i64 0),(.int .i64 0)]),
 ⟨none,none,(.st 5 5 18)⟩])
 (.seq (.ops [oo 6 (.mov (kI 1))])
 (.seq (.seq (.ops [oo 19 (.flA 0 5),
 oo 20 (.ld 1 false 19),
 oo 21 (.bin .eql 20 (kI 4)),
 oo 22 (.mov 21),
 ⟨(some 23),(some (22,false)),(.flA 0 5)⟩,
 ⟨(some 24),(some (22,false)),(.ld 1 false 23)⟩,
 ⟨(some 25),(some (22,false)),(.bin .eql 24 (kI 5))⟩,
 oo 26 (.pick 22 (kB true) 25)])
 (.cnd 26
 (.ops [oo 27 (.flA 4 5),
 oo 28 (.ld 1 false 27),
 oo 6 (.mov 28),
 oo 29 (.flA 4 5),
 ⟨none,none,(.st 1 29 (kI 1))⟩])
 .skip))
 (.blk 2 (.loop (.seq (.seq (.ops [oo 30 (.mov 6),
 oo 31 (.bin .gtr 30 (kI 0))])
 (.cnd 31
 .skip
 (.exit 2)))
 (.seq (.blk 3 (.ops [oo 34 (.mov 3),
 oo 35 (.ld 5 true 5),
 oo 36 (.bsl 5 [[(.int .i64 0),(.int .i64 0),(.int .i64 0),(.int .i64 0),(.int .i64 0)]] [(0,35)]),
 oo 37 (.app 5 40 34 36 3),
 oo 3 (.mov 37)]))
 (.ops [oo 32 (.mov 6),
 oo 33 (.bin .sub 32 (kI 1)),
 oo 6 (.mov 33)])))))))))
 (.ops [oo 12 (.mov 4),
 oo 13 (.bin .add 12 (kI 1)),
 oo 4 (.mov 13)]))))))
 (.seq (.ops [oo 38 (.mov 3),
 oo 2 (.mov 38)])
 .ret))))⟩
def hint58 (P:Program):Hint:={site:=[(37,3)],nils:=[(3,5)],frz:=[],mve:=[],wr:=[] }
def spOf (d:Dl):Sp:=(d,drawsB d,decide (d.kind=5) || decide (d.kind=6))
end Go.Abs
