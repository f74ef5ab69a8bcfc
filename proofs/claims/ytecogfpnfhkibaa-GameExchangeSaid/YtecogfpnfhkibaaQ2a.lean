/- A part of the proofs of the laws of this seat: contracts of the functions that they reach, each proved of the program's form in Lean. No condition beyond those that each contract names. -/
import Derived.Test.YtecogfpnfhkibaaProg
import Derived.Test.YtecogfpnfhkibaaSnd3
import Derived.Test.YtecogfpnfhkibaaA0
import Derived.Test.YtecogfpnfhkibaaN1a
import Derived.Test.YtecogfpnfhkibaaN1b
import Derived.Test.YtecogfpnfhkibaaN1c
import Derived.Test.YtecogfpnfhkibaaN1d
import Derived.Test.YtecogfpnfhkibaaN1e
import Derived.Test.YtecogfpnfhkibaaN1f
import Derived.Test.YtecogfpnfhkibaaN1g
import Derived.Test.YtecogfpnfhkibaaN1h
import Derived.Test.YtecogfpnfhkibaaQ1a
import Derived.Test.YtecogfpnfhkibaaQ1b
set_option linter.unusedVariables false
set_option linter.unusedSimpArgs false
set_option maxRecDepth 20000
set_option maxHeartbeats 4000000
namespace Go.Abs
open Go.Proofs
def ir41:IFn:=
 ⟨33,[(2,none)],(.seq (.ops [oo 1 (.box 2 0),
 oo 2 (.mov (kI 0))])
 (.seq (.ops [oo 3 (.mov (kI 0))])
 (.seq (.seq (.ops [oo 4 (.mov (kI 0))])
 (.blk 0 (.loop (.seq (.seq (.ops [oo 5 (.mov 4),
 oo 6 (.flA 1 1),
 oo 7 (.ld 1 false 6),
 oo 8 (.len false 7),
 oo 9 (.bin .lss 5 8)])
 (.cnd 9
 .skip
 (.exit 0)))
 (.seq (.blk 1 (.seq (.ops [oo 12 (.flA 1 1),
 oo 13 (.ld 1 false 12),
 oo 14 (.mov 4),
 oo 15 (.ixA 5 13 14),
 oo 16 (.flA 0 15),
 oo 17 (.ld 1 false 16)])
 (.blk 2 (.seq (.ops [oo 19 (.bin .eql 17 (kI 5)),
 oo 18 (.mov 19)])
 (.cnd 18
 (.ops [oo 20 (.mov 3),
 oo 21 (.flA 1 1),
 oo 22 (.ld 1 false 21),
 oo 23 (.mov 4),
 oo 24 (.ixA 5 22 23),
 oo 25 (.flA 4 24),
 oo 26 (.ld 1 false 25),
 oo 27 (.bin .add 20 26),
 oo 3 (.mov 27)])
 (.seq (.ops [oo 29 (.bin .eql 17 (kI 6)),
 oo 28 (.mov 29)])
 (.cnd 28
 (.ops [oo 30 (.mov 3),
 oo 31 (.bin .add 30 (kI 1)),
 oo 3 (.mov 31)])
 .skip)))))))
 (.ops [oo 10 (.mov 4),
 oo 11 (.bin .add 10 (kI 1)),
 oo 4 (.mov 11)]))))))
 (.seq (.ops [oo 32 (.mov 3),
 oo 2 (.mov 32)])
 .ret))))⟩
def hint41 (P:Program):Hint:={}
theorem censG_stp (d:Dl):censG (stp1 d)=if d.kind=5 then d.count.toNat else if d.kind=6 then 1 else 0:=by
 unfold stp1
 by_cases h:drawsB d=true
 · rw[if_pos h,censG_rep]
   have hk:d.kind=4∨d.kind=5:=by simpa[drawsB] using h
   by_cases h5:d.kind=5
   · rw[if_pos h5,if_pos (by simpa using h5)]
   · rw[if_neg h5,if_neg (by simpa using h5),if_neg (by omega)]
 · have hk:¬(d.kind=4∨d.kind=5):=by simpa[drawsB] using h
   rw[if_neg h,if_neg (by omega)]
   by_cases h6:d.kind=6
   · simp[censG,h6]
   · simp[censG,h6]
theorem censG_le:∀{l:List Dl},(∀d∈l,drawsB d=true→1≤d.count∧d.count≤12)→censG (stepsG l)≤12*l.length
 | [],_=>Nat.le_refl _
 | d::r,h=>by
   have h1:=censG_le (l:=r) fun x hx=>h x (by simp[hx])
   show censG (stp1 d++stepsG r)≤12*(r.length+1)
   rw[censG_app,censG_stp]
   split
   · have:=h d (by simp) (by simp[drawsB];right;assumption);omega
   · split<;>omega
theorem Censers_c (G:Gm) (hd:G.ds.length≤24) (hc:∀d∈G.ds,drawsB d=true→1≤d.count∧d.count≤12):Fn0 Try.prog 41 [gmA G] (fun v=>v= .int .i64 (censG (stepsG G.ds):Nat)):=by
 refine RawC.walk (H:=hint41 Try.prog) ir41 Try.func41 rfl rfl rfl ?_
 unfold ir41
 repeat' (first
  | refine advE ?_ | with_reducible refine w_alt ?_ ?_
  | with_reducible refine zI fun y hy=>?_ | refine advL ?_
  | refine adv ?_ | with_reducible (first | intro _ | refine Rt.p (fun _=>?_) fun _=>?_)
  | ((with_reducible apply w_ixM);(focus exact rfl);(focus exact rfl);case' hk=>intro y hy) | ((with_reducible (first | apply w_val | apply q_ends));(focus exact rfl)))
 refine w_loopK [1] [1] (fun x:List Dl×List Dl=>G.ds=x.1++x.2) (fun x=>x.2.length) (fun x=>[(4,.int .i64 (x.1.length:Int)),(3,.int .i64 (censG (stepsG x.1):Nat))]) (fun _=>[]) ([],G.ds) rfl ⟨rfl,rfl,trivial⟩ trivial ?_
 rintro⟨pre,post⟩ hl e σ
 dsimp only at hl ⊢
 have hlen:=congrArg List.length hl
 rw[List.length_append] at hlen
 have hcl:=censG_le (l:=pre) fun d hd=>hc d (by rw[hl];simp[hd])
 cases post with
 | nil=>
   simp only[List.length_nil] at hlen
   rw[List.append_nil] at hl
   rw[←hl] at hcl ⊢
   repeat' (first
    | refine advE ?_ | with_reducible refine w_alt ?_ ?_
    | with_reducible refine zI fun y hy=>?_ | refine advL ?_
    | refine adv ?_ | with_reducible (first | intro _ | refine Rt.p (fun _=>?_) fun _=>?_)
    | ((with_reducible apply w_ixM);(focus exact rfl);(focus exact rfl);case' hk=>intro y hy) | ((with_reducible (first | apply w_val | apply q_ends));(focus exact rfl)))
   all_goals first
    | (exfalso;omega)
    | rfl
 | cons d post=>
   simp only[List.length_cons] at hlen
   have hsn:censG (stepsG (pre++[d]))=censG (stepsG pre)+(if d.kind=5 then d.count.toNat else if d.kind=6 then 1 else 0):=by
    show censG ((pre++[d]).flatMap stp1)=_
    rw[List.flatMap_append,censG_app,List.flatMap_cons,List.flatMap_nil,List.append_nil,censG_stp];rfl
   by_cases h5:d.kind=5
   · have:=hc d (by rw[hl];simp) (by simp[drawsB];right;exact h5)
     rw[if_pos h5] at hsn
     repeat' (first
      | refine advE ?_ | with_reducible refine w_alt ?_ ?_
      | (refine w_ixP (f:=fun d:Dl=>[AV.int .i64 d.kind,.int .i64 d.bag,.int .i64 d.other,.int .i64 d.wood,.int .i64 d.count]) hl rfl rfl ?_)
      | with_reducible refine zI fun y hy=>?_ | refine advL ?_
      | refine adv ?_ | with_reducible (first | intro _ | refine Rt.p (fun _=>?_) fun _=>?_)
      | ((with_reducible apply w_ixM);(focus exact rfl);(focus exact rfl);case' hk=>intro y hy) | ((with_reducible (first | apply w_val | apply q_ends));(focus exact rfl)))
     all_goals first
      | (exfalso;omega)
      | exact q_loop (pre++[d],post) (by show G.ds=_;rw[hl];simp) (Nat.lt_succ_self _) ⟨by rw[len_snoc];rfl,by show AV.int .i64 _=AV.int .i64 _;rw[hsn];exact int_eq (by omega),trivial⟩ (by repeat' (first | exact slots_nil | apply slots_cons | rfl | (rw[map_snoc];rfl) | (rw[len_snoc];rfl) | (rw[hS];rfl) | (rw[hS,map_snoc];rfl) | (refine int_eq ?_;(try dsimp only);omega) | (refine congrArg AV.bool ?_;simp_all;done))) (by repeat' (first | exact kept_nil | apply kept_cons | rfl)) (by repeat' (first | exact kept_nil | apply kept_cons | rfl))
   · rw[if_neg h5] at hsn
     by_cases h6:d.kind=6
     · rw[if_pos h6] at hsn
       repeat' (first
        | refine advE ?_ | with_reducible refine w_alt ?_ ?_
        | (refine w_ixP (f:=fun d:Dl=>[AV.int .i64 d.kind,.int .i64 d.bag,.int .i64 d.other,.int .i64 d.wood,.int .i64 d.count]) hl rfl rfl ?_)
        | with_reducible refine zI fun y hy=>?_ | refine advL ?_
        | refine adv ?_ | with_reducible (first | intro _ | refine Rt.p (fun _=>?_) fun _=>?_)
        | ((with_reducible apply w_ixM);(focus exact rfl);(focus exact rfl);case' hk=>intro y hy) | ((with_reducible (first | apply w_val | apply q_ends));(focus exact rfl)))
       all_goals first
        | (exfalso;omega)
        | exact q_loop (pre++[d],post) (by show G.ds=_;rw[hl];simp) (Nat.lt_succ_self _) ⟨by rw[len_snoc];rfl,by show AV.int .i64 _=AV.int .i64 _;rw[hsn];rfl,trivial⟩ (by repeat' (first | exact slots_nil | apply slots_cons | rfl | (rw[map_snoc];rfl) | (rw[len_snoc];rfl) | (rw[hS];rfl) | (rw[hS,map_snoc];rfl) | (refine int_eq ?_;(try dsimp only);omega) | (refine congrArg AV.bool ?_;simp_all;done))) (by repeat' (first | exact kept_nil | apply kept_cons | rfl)) (by repeat' (first | exact kept_nil | apply kept_cons | rfl))
     · rw[if_neg h6] at hsn
       repeat' (first
        | refine advE ?_ | with_reducible refine w_alt ?_ ?_
        | (refine w_ixP (f:=fun d:Dl=>[AV.int .i64 d.kind,.int .i64 d.bag,.int .i64 d.other,.int .i64 d.wood,.int .i64 d.count]) hl rfl rfl ?_)
        | with_reducible refine zI fun y hy=>?_ | refine advL ?_
        | refine adv ?_ | with_reducible (first | intro _ | refine Rt.p (fun _=>?_) fun _=>?_)
        | ((with_reducible apply w_ixM);(focus exact rfl);(focus exact rfl);case' hk=>intro y hy) | ((with_reducible (first | apply w_val | apply q_ends));(focus exact rfl)))
       all_goals first
        | (exfalso;omega)
        | exact q_loop (pre++[d],post) (by show G.ds=_;rw[hl];simp) (Nat.lt_succ_self _) ⟨by rw[len_snoc];rfl,by show AV.int .i64 _=AV.int .i64 _;rw[hsn];rfl,trivial⟩ (by repeat' (first | exact slots_nil | apply slots_cons | rfl | (rw[map_snoc];rfl) | (rw[len_snoc];rfl) | (rw[hS];rfl) | (rw[hS,map_snoc];rfl) | (refine int_eq ?_;(try dsimp only);omega) | (refine congrArg AV.bool ?_;simp_all;done))) (by repeat' (first | exact kept_nil | apply kept_cons | rfl)) (by repeat' (first | exact kept_nil | apply kept_cons | rfl))
theorem draw_same {B:List Int} {i v w:Int} (h:v.toNat=w.toNat):bgAt B i v=bgAt B i w∧drawB B i v=drawB B i w:=by
 unfold drawB bgAdd bgAt
 rw[h];exact⟨rfl,rfl⟩
theorem bgAt_draw {B:List Int} {i v j w:Int} (h:i.toNat*6+v.toNat≠j.toNat*6+w.toNat):bgAt (drawB B i v) j w=bgAt B j w:=by
 show (B.set _ _).getD _ 0=B.getD _ 0
 rw[List.getD_eq_getElem?_getD,List.getElem?_set_ne h,←List.getD_eq_getElem?_getD]
theorem draw_comm {B:List Int} {i v j w:Int} (h:i.toNat*6+v.toNat≠j.toNat*6+w.toNat):drawB (drawB B i v) j w=drawB (drawB B j w) i v:=by
 have e1:=bgAt_draw (B:=B) h
 have e2:=bgAt_draw (B:=B) (Ne.symm h)
 show (drawB B i v).set _ (bgAt (drawB B i v) j w+ -1)=(drawB B j w).set _ (bgAt (drawB B j w) i v+ -1)
 rw[e1,e2]
 exact List.set_comm _ _ h
theorem draw_two (B:List Int) (i v w:Int) (V:List Int→Int):bgAt B i v*(bgAt (drawB B i v) i w*V (drawB (drawB B i v) i w))=bgAt B i w*(bgAt (drawB B i w) i v*V (drawB (drawB B i w) i v)):=by
 by_cases h:v.toNat=w.toNat
 · obtain⟨e1,e2⟩:=draw_same (B:=B) (i:=i) h
   rw[e1,e2,(draw_same (B:=drawB B i w) (i:=i) h).1,(draw_same (B:=drawB B i w) (i:=i) h).2]
 · have hn:i.toNat*6+v.toNat≠i.toNat*6+w.toNat:=by omega
   rw[bgAt_draw hn,bgAt_draw (Ne.symm hn),draw_comm hn,Int.mul_left_comm]
theorem cntG_dr1 {n:Nat} {x:Sp} {r:List Sp} {w:Int} {c B:List Int} (hd:x.2.1=true) (hc:x.2.2=true):cntG n (x::r) (w::c) B=bgAt B x.1.bag w*cntG n r c (drawB B x.1.bag w):=by
 rw[cntG_t hc];unfold nextV;rw[if_pos hd,if_pos hc]
theorem stepsG_app (l r:List Dl):stepsG (l++r)=stepsG l++stepsG r:=List.flatMap_append
def ir40:IFn:=
 ⟨49,[(2,none),(3,none),(4,none)],(.seq (.ops [oo 1 (.box 2 0),
 oo 2 (.mov (kI 0)),
 oo 3 (.mov (kI 0)),
 oo 4 (.mov (kB false))])
 (.seq (.ops [oo 5 (.mov (kI 0))])
 (.seq (.seq (.ops [oo 6 (.mov (kI 0))])
 (.blk 0 (.loop (.seq (.seq (.ops [oo 8 (.mov 6),
 oo 9 (.flA 1 1),
 oo 10 (.ld 1 false 9),
 oo 11 (.len false 10),
 oo 12 (.bin .lss 8 11)])
 (.cnd 12
 .skip
 (.exit 0)))
 (.seq (.blk 1 (.seq (.ops [oo 15 (.flA 1 1),
 oo 16 (.ld 1 false 15),
 oo 17 (.mov 6),
 oo 18 (.ixA 5 16 17),
 oo 19 (.ld 5 true 18),
 oo 7 (.new [(.int .i64 0),(.int .i64 0),(.int .i64 0),(.int .i64 0),(.int .i64 0)]),
 ⟨none,none,(.st 5 7 19)⟩])
 (.blk 2 (.seq (.ops [oo 21 (.flA 0 7),
 oo 22 (.ld 1 false 21),
 oo 23 (.bin .eql 22 (kI 6)),
 oo 20 (.mov 23)])
 (.cnd 20
 (.ops [oo 24 (.mov 5),
 oo 25 (.bin .add 24 (kI 1)),
 oo 5 (.mov 25)])
 (.seq (.ops [oo 27 (.flA 0 7),
 oo 28 (.ld 1 false 27),
 oo 29 (.bin .eql 28 (kI 5)),
 oo 30 (.mov 29),
 ⟨(some 31),(some (30,true)),(.flA 4 7)⟩,
 ⟨(some 32),(some (30,true)),(.ld 1 false 31)⟩,
 ⟨(some 33),(some (30,true)),(.bin .gtr 32 (kI 1))⟩,
 oo 34 (.pick 30 33 (kB false)),
 oo 26 (.mov 34)])
 (.cnd 26
 (.seq (.ops [oo 35 (.mov 5),
 oo 36 (.mov 5),
 oo 37 (.flA 4 7),
 oo 38 (.ld 1 false 37),
 oo 39 (.bin .add 36 38),
 oo 40 (.bin .sub 39 (kI 1)),
 oo 2 (.mov 35),
 oo 3 (.mov 40),
 oo 4 (.mov (kB true))])
 .ret)
 (.seq (.ops [oo 42 (.flA 0 7),
 oo 43 (.ld 1 false 42),
 oo 44 (.bin .eql 43 (kI 5)),
 oo 41 (.mov 44)])
 (.cnd 41
 (.ops [oo 45 (.mov 5),
 oo 46 (.flA 4 7),
 oo 47 (.ld 1 false 46),
 oo 48 (.bin .add 45 47),
 oo 5 (.mov 48)])
 .skip)))))))))
 (.ops [oo 13 (.mov 6),
 oo 14 (.bin .add 13 (kI 1)),
 oo 6 (.mov 14)]))))))
 (.seq (.ops [oo 2 (.mov (kI 0)),
 oo 3 (.mov (kI 0)),
 oo 4 (.mov (kB false))])
 .ret))))⟩
def hint40 (P:Program):Hint:={}
theorem cnt_perm {n:Nat} {P:Sp} (hd:P.2.1=true) (hc:P.2.2=true) {r:List Sp} {c:List Int} {l1 l2:List Int} (h:List.Perm l1 l2):∀B,cntG n (List.replicate l1.length P++r) (l1++c) B=cntG n (List.replicate l2.length P++r) (l2++c) B:=by
 have st:∀(w:Int) (l:List Int) (B:List Int),cntG n (List.replicate (w::l).length P++r) ((w::l)++c) B=bgAt B P.1.bag w*cntG n (List.replicate l.length P++r) (l++c) (drawB B P.1.bag w):=fun w l B=>by
  rw[List.length_cons,List.replicate_succ,List.cons_append,List.cons_append,cntG_dr1 hd hc]
 induction h with
 | nil=>intro B;rfl
 | cons x _ ih=>intro B;rw[st,st,ih]
 | swap x y l=>
   intro B
   rw[st,st,st,st]
   exact draw_two B _ _ _ _
 | trans _ _ h1 h2=>intro B;rw[h1,h2]
theorem cnt_pre {n:Nat} {R:List Sp} {s t:List Int} (h:∀B,cntG n R s B=cntG n R t B):∀(l:List Sp) (u:List Int),u.length=censG l→ ∀B,cntG n (l++R) (u++s) B=cntG n (l++R) (u++t) B
 | [],u,hu,B=>by
   have:u=[]:=List.eq_nil_of_length_eq_zero (by rw[hu];rfl)
   subst this;exact h B
 | x::l,u,hu,B=>by
   rw[censG_cons] at hu
   have ih:=cnt_pre h l
   by_cases hc:x.2.2=true
   · rw[if_pos hc] at hu
     cases u with
     | nil=>simp at hu;omega
     | cons w u=>
       have e:cntG n (l++R) (u++s)=cntG n (l++R) (u++t):=funext fun B=>ih u (by rw[List.length_cons] at hu;omega) B
       rw[List.cons_append,List.cons_append,List.cons_append,cntG_t hc,cntG_t hc,e]
   · rw[if_neg hc,Nat.zero_add] at hu
     have e:cntG n (l++R) (u++s)=cntG n (l++R) (u++t):=funext fun B=>ih u hu B
     rw[List.cons_append,cntG_f hc,cntG_f hc,e]
theorem swap_perm (l:List Int) {i k:Nat} (hi:i<l.length) (hk:k<l.length):List.Perm ((l.set i (l.getD k 0)).set k (l.getD i 0)) l:=by
 have key:∀(a b c:List Int) (u v:Int),List.Perm (a++v::(b++u::c)) (a++u::(b++v::c)):=fun a b c u v=>by
  refine List.Perm.append_left a ?_
  have h1:List.Perm (v::(b++u::c)) (v::u::(b++c)):=List.Perm.cons v List.perm_middle
  have h2:List.Perm (u::(b++v::c)) (u::v::(b++c)):=List.Perm.cons u List.perm_middle
  exact h1.trans ((List.Perm.swap u v (b++c)).trans h2.symm)
 have main:∀{i k:Nat},i<k→k<l.length→List.Perm ((l.set i (l.getD k 0)).set k (l.getD i 0)) l:=fun {i k} hik hk=>by
  have hi:i<l.length:=by omega
  have e1:l=l.take i++l[i]::(l.drop (i+1)):=by rw[List.getElem_cons_drop,List.take_append_drop]
  have hk2:k-(i+1)<(l.drop (i+1)).length:=by rw[List.length_drop];omega
  have e2:l.drop (i+1)=(l.drop (i+1)).take (k-(i+1))++(l.drop (i+1))[k-(i+1)]::(l.drop (i+1)).drop (k-(i+1)+1):=by rw[List.getElem_cons_drop,List.take_append_drop]
  have e3:(l.drop (i+1))[k-(i+1)]=l[k]:=by rw[List.getElem_drop];congr 1;omega
  rw[e3] at e2
  generalize ha:l.take i=a at e1
  generalize hb:(l.drop (i+1)).take (k-(i+1))=b at e2
  generalize hcc:(l.drop (i+1)).drop (k-(i+1)+1)=c at e2
  have hal:a.length=i:=by rw[←ha,List.length_take];omega
  have hbl:b.length=k-(i+1):=by rw[←hb,List.length_take];omega
  have gi:l.getD i 0=l[i]:=by rw[List.getD_eq_getElem?_getD,List.getElem?_eq_getElem hi];rfl
  have gk:l.getD k 0=l[k]:=by rw[List.getD_eq_getElem?_getD,List.getElem?_eq_getElem hk];rfl
  rw[gi,gk]
  generalize l[i]=u at*
  generalize l[k]=v at*
  rw[e2] at e1
  have s1:l.set i v=a++v::(b++v::c):=by rw[e1,←hal,List.set_append_right _ _ (Nat.le_refl _),Nat.sub_self];rfl
  have s2:(a++v::(b++v::c)).set k u=a++v::(b++u::c):=by
   rw[List.set_append_right _ _ (by omega),hal,show k-i=(k-(i+1))+1 by omega,List.set_cons_succ,List.set_append_right _ _ (by omega),hbl,Nat.sub_self];rfl
  rw[s1,s2]
  exact (key a b c u v).trans (by rw[e1])
 rcases Nat.lt_trichotomy i k with h | h | h
 · exact main h hk
 · subst h
   have gi:l.getD i 0=l[i]:=by rw[List.getD_eq_getElem?_getD,List.getElem?_eq_getElem hi];rfl
   rw[List.set_set,gi,List.set_getElem_self]
 · rw[List.set_comm _ _ (by omega)]
   exact main h hi
def pasF:Int→List Dl→Option (Int×Int)
 | _,[]=>none
 | n,d::r=>if d.kind=6 then pasF (n+1) r else if d.kind=5 then (if 1<d.count then some (n,n+d.count-1) else pasF (n+d.count) r) else pasF n r
theorem pasF_spec:∀{l:List Dl} {n a b:Int},(∀d∈l,drawsB d=true→1≤d.count∧d.count≤12)→pasF n l=some (a,b)→ ∃pre d post,l=pre++d::post∧d.kind=5∧1<d.count∧a=n+(censG (stepsG pre):Nat)∧b=a+d.count-1
 | [],_,_,_,_,h=>by cases h
 | d::r,n,a,b,hc,h=>by
   have hr:∀x∈r,drawsB x=true→1≤x.count∧x.count≤12:=fun x hx=>hc x (by simp[hx])
   have cs:censG (stepsG [d])=if d.kind=5 then d.count.toNat else if d.kind=6 then 1 else 0:=by
    show censG (stp1 d++[])=_
    rw[List.append_nil]
    unfold stp1
    by_cases h5:d.kind=5
    · rw[if_pos (by unfold drawsB;simp[h5]),if_pos h5]
      simp[censG,h5]
    · rw[if_neg h5]
      by_cases h4:d.kind=4
      · rw[if_pos (by unfold drawsB;simp[h4]),if_neg (by omega)]
        simp[censG,h4]
      · rw[if_neg (by unfold drawsB;simp[h4,h5])]
        by_cases h6:d.kind=6
        · simp[censG,h6]
        · simp[censG,h6]
   have ext:∀{m:Int},(∃pre e post,r=pre++e::post∧e.kind=5∧1<e.count∧a=m+(censG (stepsG pre):Nat)∧b=a+e.count-1)→m=n+(censG (stepsG [d]):Nat)→ ∃pre e post,d::r=pre++e::post∧e.kind=5∧1<e.count∧a=n+(censG (stepsG pre):Nat)∧b=a+e.count-1:=by
    rintro m ⟨pre,e,post,h1,h2,h3,h4,h5⟩ hm
    refine⟨d::pre,e,post,by rw[h1];rfl,h2,h3,?_,h5⟩
    have:stepsG (d::pre)=stepsG [d]++stepsG pre:=stepsG_app [d] pre
    rw[this,censG_app];omega
   rw[pasF] at h
   by_cases h6:d.kind=6
   · rw[if_pos h6] at h
     refine ext (pasF_spec hr h) ?_
     rw[cs,if_neg (by omega),if_pos h6];rfl
   · rw[if_neg h6] at h
     by_cases h5:d.kind=5
     · rw[if_pos h5] at h
       have hb:=hc d (by simp) (by unfold drawsB;simp[h5])
       by_cases h1:1<d.count
       · rw[if_pos h1] at h
         cases h
         exact⟨[],d,r,rfl,h5,h1,by show n=n+((0:Nat):Int);omega,rfl⟩
       · rw[if_neg h1] at h
         refine ext (pasF_spec hr h) ?_
         rw[cs,if_pos h5];omega
     · rw[if_neg h5] at h
       refine ext (pasF_spec hr h) ?_
       rw[cs,if_neg h5,if_neg h6];omega
def pasV (o:Option (Int×Int)):AV:=match o with
 | some (a,b)=> .tup [.int .i64 a,.int .i64 b,.bool true]
 | none=> .tup [.int .i64 0,.int .i64 0,.bool false]
theorem passes_c (G:Gm) (hd:G.ds.length≤24) (hc:∀d∈G.ds,drawsB d=true→1≤d.count∧d.count≤12):Fn0 Try.prog 40 [gmA G] (fun v=>v=pasV (pasF 0 G.ds)):=by
 have hdl:(dlR G.ds).length=G.ds.length:=List.length_map _
 obtain⟨R,hR⟩:∃R,pasF 0 G.ds=R:=⟨_,rfl⟩
 rw[hR]
 refine RawC.walk (H:=hint40 Try.prog) ir40 Try.func40 rfl rfl rfl ?_
 unfold ir40
 repeat' (first
  | refine advE ?_ | with_reducible refine w_alt ?_ ?_
  | with_reducible refine zI fun y hy=>?_ | refine advL ?_
  | refine adv ?_ | with_reducible (first | intro _ | refine Rt.p (fun _=>?_) fun _=>?_)
  | ((with_reducible apply w_ixM);(focus exact rfl);(focus exact rfl);case' hk=>intro y hy) | ((with_reducible (first | apply w_val | apply q_ends));(focus exact rfl)))
 all_goals try (exfalso;omega)
 refine w_loopK [1] [1] (fun x:List Dl×List Dl×Int=>G.ds=x.1++x.2.1∧pasF x.2.2 x.2.1=R∧0≤x.2.2∧x.2.2≤12*x.1.length) (fun x=>x.2.1.length) (fun x=>[(5,.int .i64 x.2.2),(6,.int .i64 (x.1.length:Int))]) (fun _=>[]) ([],G.ds,0) ⟨rfl,hR,Int.le_refl _,by show (0:Int)≤12*((0:Nat):Int);omega⟩ ⟨rfl,rfl,trivial⟩ trivial ?_
 rintro⟨pre,post,n⟩ ⟨hl,hp,hn0,hn1⟩ e σ
 dsimp only at hl hp hn0 hn1 ⊢
 have hlen:=congrArg List.length hl
 rw[List.length_append] at hlen
 cases post with
 | nil=>
   simp only[List.length_nil] at hlen
   rw[←hp]
   repeat' (first
    | refine advE ?_ | with_reducible refine w_alt ?_ ?_
    | with_reducible refine zI fun y hy=>?_ | refine advL ?_
    | refine adv ?_ | with_reducible (first | intro _ | refine Rt.p (fun _=>?_) fun _=>?_)
    | ((with_reducible apply w_ixM);(focus exact rfl);(focus exact rfl);case' hk=>intro y hy) | ((with_reducible (first | apply w_val | apply q_ends));(focus exact rfl)))
   all_goals first
    | (exfalso;omega)
    | rfl
 | cons d post=>
   simp only[List.length_cons] at hlen
   have hdc:=hc d (by rw[hl];simp)
   have hd5:d.kind=5→1≤d.count∧d.count≤12:=fun h=>hdc (by unfold drawsB;simp[h])
   rw[pasF] at hp
   have hsn:(pre++[d]).length=pre.length+1:=len_snoc
   rcases (by omega:d.kind=6∨d.kind=5∨(d.kind≠6∧d.kind≠5)) with hk | hk | hk
   · rw[if_pos hk] at hp
     repeat' (first
      | refine advE ?_ | with_reducible refine w_alt ?_ ?_
      | (first | refine w_ixP (f:=fun d:Dl=>[AV.int .i64 d.kind,.int .i64 d.bag,.int .i64 d.other,.int .i64 d.wood,.int .i64 d.count]) hl rfl rfl ?_)
      | with_reducible refine zI fun y hy=>?_ | refine advL ?_
      | refine adv ?_ | with_reducible (first | intro _ | refine Rt.p (fun _=>?_) fun _=>?_)
      | ((with_reducible apply w_ixM);(focus exact rfl);(focus exact rfl);case' hk=>intro y hy) | ((with_reducible (first | apply w_val | apply q_ends));(focus exact rfl)))
     all_goals first
      | (exfalso;omega)
      | exact q_loop (pre++[d],post,n+1) ⟨by show G.ds=_;rw[hl];simp,hp,by dsimp only;omega,by dsimp only;omega⟩ (Nat.lt_succ_self _) ⟨rfl,by rw[len_snoc];rfl,trivial⟩ (by repeat' (first | exact slots_nil | apply slots_cons | rfl | (rw[map_snoc];rfl) | (rw[len_snoc];rfl) | (rw[hS];rfl) | (rw[hS,map_snoc];rfl) | (refine int_eq ?_;(try dsimp only);omega) | (refine congrArg AV.bool ?_;simp_all;done))) (by repeat' (first | exact kept_nil | apply kept_cons | rfl)) (by repeat' (first | exact kept_nil | apply kept_cons | rfl))
   · have hb:=hd5 hk
     rw[if_neg (by omega),if_pos hk] at hp
     by_cases h1:1<d.count
     · rw[if_pos h1] at hp
       rw[←hp]
       repeat' (first
        | refine advE ?_ | with_reducible refine w_alt ?_ ?_
        | (first | refine w_ixP (f:=fun d:Dl=>[AV.int .i64 d.kind,.int .i64 d.bag,.int .i64 d.other,.int .i64 d.wood,.int .i64 d.count]) hl rfl rfl ?_)
        | with_reducible refine zI fun y hy=>?_ | refine advL ?_
        | refine adv ?_ | with_reducible (first | intro _ | refine Rt.p (fun _=>?_) fun _=>?_)
        | ((with_reducible apply w_ixM);(focus exact rfl);(focus exact rfl);case' hk=>intro y hy) | ((with_reducible (first | apply w_val | apply q_ends));(focus exact rfl)))
       all_goals first
        | (exfalso;omega)
        | rfl
     · rw[if_neg h1] at hp
       repeat' (first
        | refine advE ?_ | with_reducible refine w_alt ?_ ?_
        | (first | refine w_ixP (f:=fun d:Dl=>[AV.int .i64 d.kind,.int .i64 d.bag,.int .i64 d.other,.int .i64 d.wood,.int .i64 d.count]) hl rfl rfl ?_)
        | with_reducible refine zI fun y hy=>?_ | refine advL ?_
        | refine adv ?_ | with_reducible (first | intro _ | refine Rt.p (fun _=>?_) fun _=>?_)
        | ((with_reducible apply w_ixM);(focus exact rfl);(focus exact rfl);case' hk=>intro y hy) | ((with_reducible (first | apply w_val | apply q_ends));(focus exact rfl)))
       all_goals first
        | (exfalso;omega)
        | exact q_loop (pre++[d],post,n+d.count) ⟨by show G.ds=_;rw[hl];simp,hp,by dsimp only;omega,by dsimp only;omega⟩ (Nat.lt_succ_self _) ⟨rfl,by rw[len_snoc];rfl,trivial⟩ (by repeat' (first | exact slots_nil | apply slots_cons | rfl | (rw[map_snoc];rfl) | (rw[len_snoc];rfl) | (rw[hS];rfl) | (rw[hS,map_snoc];rfl) | (refine int_eq ?_;(try dsimp only);omega) | (refine congrArg AV.bool ?_;simp_all;done))) (by repeat' (first | exact kept_nil | apply kept_cons | rfl)) (by repeat' (first | exact kept_nil | apply kept_cons | rfl))
   · rw[if_neg hk.1,if_neg hk.2] at hp
     repeat' (first
      | refine advE ?_ | with_reducible refine w_alt ?_ ?_
      | (first | refine w_ixP (f:=fun d:Dl=>[AV.int .i64 d.kind,.int .i64 d.bag,.int .i64 d.other,.int .i64 d.wood,.int .i64 d.count]) hl rfl rfl ?_)
      | with_reducible refine zI fun y hy=>?_ | refine advL ?_
      | refine adv ?_ | with_reducible (first | intro _ | refine Rt.p (fun _=>?_) fun _=>?_)
      | ((with_reducible apply w_ixM);(focus exact rfl);(focus exact rfl);case' hk=>intro y hy) | ((with_reducible (first | apply w_val | apply q_ends));(focus exact rfl)))
     all_goals first
      | (exfalso;omega)
      | exact q_loop (pre++[d],post,n) ⟨by show G.ds=_;rw[hl];simp,hp,hn0,by dsimp only;omega⟩ (Nat.lt_succ_self _) ⟨rfl,by rw[len_snoc];rfl,trivial⟩ (by repeat' (first | exact slots_nil | apply slots_cons | rfl | (rw[map_snoc];rfl) | (rw[len_snoc];rfl) | (rw[hS];rfl) | (rw[hS,map_snoc];rfl) | (refine int_eq ?_;(try dsimp only);omega) | (refine congrArg AV.bool ?_;simp_all;done))) (by repeat' (first | exact kept_nil | apply kept_cons | rfl)) (by repeat' (first | exact kept_nil | apply kept_cons | rfl))
def ir42v:IFn:=
 ⟨6,[(2,none)],(.seq (.ops [oo 2 (.mov (.k .nsl))])
 (.seq (.ops [oo 3 (.bsl 1 [] []),
 oo 4 (.mov 0),
 oo 5 (.apm 1 8 3 4 2),
 oo 2 (.mov 5)])
 .ret))⟩
def hint42v (P:Program):Hint:={site:=[(5,2)],nils:=[],frz:=[],mve:=[],wr:=[5] }
def ir10:IFn:=
 ⟨105,[(2,none)],(.seq (.ops [oo 2 (.mov (kB false))])
 (.seq (.ops [oo 19 (.mov 0),
 oo 20 (.callF 15 [19]),
 oo 3 (.mov 20)])
 (.seq (.ops [oo 21 (.mov 3),
 oo 22 (.callF 14 [21,(kI 4),(kI 6),(kI 6)]),
 oo 4 (.new [.nsl,.nsl]),
 ⟨none,none,(.st 2 4 22)⟩])
 (.seq (.ops [oo 24 (.ld 2 true 4),
 oo 25 (.callF 40 [24]),
 oo 23 (.mov 25),
 oo 26 (.ext 0 23),
 oo 27 (.ext 1 23),
 oo 28 (.ext 2 23),
 oo 5 (.mov 26),
 oo 6 (.mov 27),
 oo 7 (.mov 28)])
 (.seq (.ops [oo 30 (.ld 2 true 4),
 oo 31 (.mov 3),
 oo 32 (.ld 2 true 4),
 oo 33 (.callF 36 [31,32]),
 ⟨none,none,(.chk 2 true 4 30)⟩,
 oo 34 (.callF 28 [30,33]),
 oo 29 (.mov 34),
 oo 35 (.ext 0 29),
 oo 36 (.ext 1 29),
 oo 8 (.mov 35),
 oo 9 (.mov 36)])
 (.seq (.seq (.ops [oo 37 (.mov 9),
 oo 38 (.bin .neq 37 (kI 0)),
 oo 39 (.mov 38),
 ⟨(some 40),(some (39,false)),(.mov 8)⟩,
 ⟨(some 41),(some (39,false)),(.len false 40)⟩,
 ⟨(some 42),(some (39,false)),(.ld 2 true 4)⟩,
 ⟨(some 43),(some (39,false)),(.callF 41 [42])⟩,
 ⟨(some 44),(some (39,false)),(.bin .neq 41 43)⟩,
 oo 45 (.pick 39 (kB true) 44)])
 (.cnd 45
 (.seq (.ops [oo 2 (.mov (kB false))])
 .ret)
 .skip))
 (.seq (.seq (.ops [oo 46 (.mov 7),
 oo 47 (.not 46)])
 (.cnd 47
 (.seq (.ops [oo 48 (.callF 13 []),
 oo 2 (.mov 48)])
 .ret)
 .skip))
 (.seq (.ops [oo 49 (.mov 8),
 oo 50 (.callF 42 [49]),
 oo 10 (.mov 50)])
 (.seq (.ops [oo 51 (.mov 3),
 oo 52 (.mov 5),
 oo 53 (.mov 6),
 oo 54 (.callF 30 [51,52,53]),
 oo 55 (.mov 3),
 oo 56 (.mov 5),
 oo 57 (.mov 6),
 oo 58 (.callF 30 [55,56,57]),
 oo 11 (.mov 54),
 oo 12 (.mov 58)])
 (.seq (.ops [oo 59 (.mov 10),
 oo 60 (.mov 11),
 oo 61 (.mov 10),
 oo 62 (.mov 12),
 oo 63 (.mov 10),
 oo 64 (.mov 12),
 oo 65 (.ixA 1 63 64),
 oo 66 (.ld 1 false 65),
 oo 67 (.mov 10),
 oo 68 (.mov 11),
 oo 69 (.ixA 1 67 68),
 oo 70 (.ld 1 false 69),
 oo 71 (.ixA 1 59 60),
 ⟨none,none,(.st 1 71 66)⟩,
 oo 72 (.ixA 1 61 62),
 ⟨none,none,(.st 1 72 70)⟩])
 (.seq (.ops [oo 74 (.ld 2 true 4),
 oo 75 (.mov 8),
 oo 76 (.callF 37 [74,75]),
 oo 73 (.mov 76),
 oo 77 (.ext 0 73),
 oo 78 (.ext 1 73),
 oo 79 (.ext 2 73),
 oo 13 (.mov 77),
 oo 14 (.mov 78),
 oo 15 (.mov 79)])
 (.seq (.seq (.frz 10)
 (.ops [oo 81 (.ld 2 true 4),
 oo 82 (.mov 10),
 oo 83 (.callF 37 [81,82]),
 oo 80 (.mov 83),
 oo 84 (.ext 0 80),
 oo 85 (.ext 1 80),
 oo 86 (.ext 2 80),
 oo 16 (.mov 84),
 oo 17 (.mov 85),
 oo 18 (.mov 86)]))
 (.seq (.ops [oo 87 (.mov 15),
 oo 88 (.bin .eql 87 (kI 0)),
 oo 89 (.mov 88),
 ⟨(some 90),(some (89,true)),(.mov 18)⟩,
 ⟨(some 91),(some (89,true)),(.bin .eql 90 (kI 0))⟩,
 oo 92 (.pick 89 91 (kB false)),
 oo 93 (.mov 92),
 ⟨(some 94),(some (93,true)),(.mov 13)⟩,
 ⟨(some 95),(some (93,true)),(.mov 16)⟩,
 ⟨(some 96),(some (93,true)),(.bin .eql 94 95)⟩,
 oo 97 (.pick 93 96 (kB false)),
 oo 98 (.mov 97),
 ⟨(some 99),(some (98,true)),(.mov 13)⟩,
 ⟨(some 100),(some (98,true)),(.bin .gtr 99 (kI 0))⟩,
 oo 101 (.pick 98 100 (kB false)),
 oo 102 (.mov 101),
 ⟨(some 103),(some (102,true)),(.callF 13 [])⟩,
 oo 104 (.pick 102 103 (kB false)),
 oo 2 (.mov 104)])
 .ret)))))))))))))⟩
def hint10 (P:Program):Hint:={site:=[],nils:=[],frz:=[(83,10)],mve:=[],wr:=[] }
theorem iR_flatL:∀l:List Int,(iR l).flatten=l.map (AV.int .i64)
 | []=>rfl
 | _::r=>congrArg _ (iR_flatL r)
theorem intsW_c (a:Int) (l:List Int) (h:l.length<2^40):RawC Try.prog 42 [.slc 1 (iR (a::l)) .non] (sg []) (SR (fun g v=>v= .msl 2 g (a::l).length 1) (fun g=>[(2,(g,.row ((a::l).map (AV.int .i64))))])):=by
 have hl:(iR (a::l)).length=l.length+1:=by simp
 refine RawC.walk (H:=hint42v Try.prog) ir42v Try.func42 rfl rfl rfl ?_
 unfold ir42v
 repeat' (first
  | with_reducible (first | refine Rd.p ?_ | refine w_alt ?_ ?_ | refine zO ?_ | refine zE0 ?_)
  | with_reducible refine zI fun y hy=>?_ | refine advL ?_
  | refine adv ?_ | with_reducible (first | intro _ | refine Rt.p (fun _=>?_) fun _=>?_)
  | ((with_reducible apply w_ixM);(focus exact rfl);(focus exact rfl);case' hk=>intro y hy) | ((with_reducible (first | apply w_val | apply q_ends));(focus exact rfl)))
 exact⟨_,by show AV.msl 2 _ (0+(iR (a::l)).length) 1=_;rw[Nat.zero_add,List.length_map],by show (_,Res.row ([]++(iR (a::l)).flatten))=_;rw[List.nil_append,iR_flatL],trivial⟩
def swpL (x:List Int) (i k:Nat):List Int:=(x.set i (x.getD k 0)).set k (x.getD i 0)
theorem exch {G:Gm} (hG:GOK G) {a b:Int} (hp:pasF 0 G.ds=some (a,b)) {x:List Int} (hx:x.length=censG (stepsG G.ds)):(0≤a∧a≤b∧b<x.length)∧ ∀i k:Int,a≤i∧i≤b→a≤k∧k≤b→cwG G (swpL x i.toNat k.toNat)=cwG G x:=by
 obtain⟨pre,d,post,h1,h2,h3,h4,h5⟩:=pasF_spec hG.cnt hp
 have hd:=hG.cnt d (by rw[h1];simp) (by unfold drawsB;simp[h2])
 have e1:stepsG G.ds=stepsG pre++(List.replicate d.count.toNat (d,true,true)++stepsG post):=by
  rw[h1,stepsG_app]
  show _++(stp1 d++stepsG post)=_
  unfold stp1
  rw[if_pos (by unfold drawsB;simp[h2]),show decide (d.kind=5)=true from decide_eq_true h2]
 have hcb:censG (List.replicate d.count.toNat ((d,true,true):Sp))=d.count.toNat:=by simp[censG]
 have hlen:x.length=censG (stepsG pre)+(d.count.toNat+censG (stepsG post)):=by rw[hx,e1,censG_app,censG_app,hcb]
 refine⟨by omega,fun i k hi hk=>?_⟩
 obtain⟨u,blk,t,rfl,hu,hbl⟩:∃u blk t:List Int,x=u++(blk++t)∧u.length=censG (stepsG pre)∧blk.length=d.count.toNat:=⟨x.take (censG (stepsG pre)),(x.drop (censG (stepsG pre))).take d.count.toNat,(x.drop (censG (stepsG pre))).drop d.count.toNat,by rw[List.take_append_drop,List.take_append_drop],by rw[List.length_take];omega,by rw[List.length_take,List.length_drop];omega⟩
 obtain⟨i',hi'⟩:∃i',i.toNat=u.length+i':=⟨i.toNat-u.length,by omega⟩
 obtain⟨k',hk'⟩:∃k',k.toNat=u.length+k':=⟨k.toNat-u.length,by omega⟩
 have gd:∀j,j<blk.length→(u++(blk++t)).getD (u.length+j) 0=blk.getD j 0:=fun j hj=>by
  rw[List.getD_eq_getElem?_getD,List.getD_eq_getElem?_getD,List.getElem?_append_right (by omega),Nat.add_sub_cancel_left,List.getElem?_append_left hj]
 have sd:∀(b2:List Int) (j:Nat) (v:Int),j<b2.length→(u++(b2++t)).set (u.length+j) v=u++(b2.set j v++t):=fun b2 j v hj=>by
  rw[List.set_append_right _ _ (by omega),Nat.add_sub_cancel_left,List.set_append_left _ _ hj]
 have e2:swpL (u++(blk++t)) i.toNat k.toNat=u++(swpL blk i' k'++t):=by
  unfold swpL
  rw[hi',hk',gd k' (by omega),gd i' (by omega),sd blk i' _ (by omega),sd (blk.set i' _) k' _ (by rw[List.length_set];omega)]
 rw[e2]
 show cntG _ (stepsG G.ds) _ bg0=cntG _ (stepsG G.ds) _ bg0
 rw[e1]
 have hpm:=swap_perm blk (i:=i') (k:=k') (by omega) (by omega)
 refine cnt_pre (fun B=>?_) (stepsG pre) u hu bg0
 have h6:=cnt_perm (n:=G.ws.length) (P:=(d,true,true)) rfl rfl (r:=stepsG post) (c:=t) hpm B
 have hl2:((blk.set i' (blk.getD k' 0)).set k' (blk.getD i' 0)).length=d.count.toNat:=by rw[List.length_set,List.length_set];exact hbl
 rw[hl2,hbl] at h6
 exact h6
theorem gameExchange_c (nums:List Int) (hn:nums.length<2^62):Fn0 Try.prog 10 [.slc 1 (iR nums) .non] (fun v=>v= .bool true):=by
 refine RawC.walk (H:=hint10 Try.prog) ir10 Try.func10 rfl rfl rfl ?_
 unfold ir10
 repeat' (first
  | refine advE ?_ | with_reducible refine w_alt ?_ ?_
  | with_reducible refine zI fun y hy=>?_ | refine advL ?_
  | ((with_reducible refine acall_id ?_);refine ACall.liftS (boxOf_s nums hn) [] (some 6) rfl rfl rfl trivial (fun _=>rfl) ?_;rintro⟨gb,w⟩ _ rfl)
  | ((with_reducible refine acall_id ?_);refine ACall.box (gameOf_c _ _ 4 6 6 (by decide) (by decide) (by decide)) rfl rfl rfl ?_;rintro _ _ ⟨G,rfl,hm⟩)
  | refine adv ?_ | with_reducible (first | intro _ | refine Rt.p (fun _=>?_) fun _=>?_)
  | ((with_reducible apply w_ixM);(focus exact rfl);(focus exact rfl);case' hk=>intro y hy) | ((with_reducible (first | apply w_val | apply q_ends));(focus exact rfl)))
 have h0:=hm.e
 have hG:=gm_ok h0
 have hn4:(G.ws.length:Int)≤4:=hm.n2
 have hd24:=hm.d
 have hcn:=hG.cen
 have hws:∀w∈G.ws,w.name.size≤1000:=fun w hw=>by have:=(madeW_ok hm.w).2 w hw;omega
 have hsl:=szL_288 hG
 have hPs:=passes_c G hd24 hG.cnt
 have hCe:=Censers_c G hd24 hG.cnt
 obtain⟨R,hR⟩:∃R,pasF 0 G.ds=R:=⟨_,rfl⟩
 rw[hR] at hPs
 cases R with
 | none=>
   repeat' (first
    | refine advE ?_ | with_reducible refine w_alt ?_ ?_
    | with_reducible refine zI fun y hy=>?_ | refine advL ?_
    | ((with_reducible refine acall_id ?_);refine ACall.val hPs rfl rfl ?_)
    | ((with_reducible refine acall_id ?_);refine ACall.box (picksOf_c _ _ G h0) rfl rfl rfl ?_;rintro _ _ ⟨ps,rfl,hps⟩)
    | refine adv ?_ | with_reducible (first | intro _ | refine Rt.p (fun _=>?_) fun _=>?_)
    | ((with_reducible apply w_ixM);(focus exact rfl);(focus exact rfl);case' hk=>intro y hy) | ((with_reducible (first | apply w_val | apply q_ends));(focus exact rfl)))
   obtain⟨x,hx1,_,hx3⟩:=play_crs h0 hps
   have hPx:=Play_c G ps (by omega) (by omega) hws (by rw[(allP_mem.1 hps).1];omega)
   rw[hx1,show plA (x,0)=AV.tup [.slc 1 (iR x) .non,.int .i64 0] from rfl] at hPx
   have g1:=((crsG_mem hG).1 hx3).1.1
   dsimp only at g1
   repeat' (first
    | refine advE ?_ | with_reducible refine w_alt ?_ ?_
    | with_reducible refine zI fun y hy=>?_ | refine advL ?_
    | ((with_reducible refine acall_id ?_);refine ACall.val hPx rfl rfl ?_)
    | ((with_reducible refine acall_id ?_);refine ACall.val hCe rfl rfl ?_)
    | ((with_reducible refine acall_id ?_);refine ACall.val awake_c rfl rfl ?_)
    | refine adv ?_ | with_reducible (first | intro _ | refine Rt.p (fun _=>?_) fun _=>?_)
    | ((with_reducible apply w_ixM);(focus exact rfl);(focus exact rfl);case' hk=>intro y hy) | ((with_reducible (first | apply w_val | apply q_ends));(focus exact rfl)))
   all_goals first
    | (exfalso;omega)
    | rfl
 | some ab=>
   obtain⟨a,b⟩:=ab
   repeat' (first
    | refine advE ?_ | with_reducible refine w_alt ?_ ?_
    | with_reducible refine zI fun y hy=>?_ | refine advL ?_
    | ((with_reducible refine acall_id ?_);refine ACall.val hPs rfl rfl ?_)
    | ((with_reducible refine acall_id ?_);refine ACall.box (picksOf_c _ _ G h0) rfl rfl rfl ?_;rintro _ _ ⟨ps,rfl,hps⟩)
    | refine adv ?_ | with_reducible (first | intro _ | refine Rt.p (fun _=>?_) fun _=>?_)
    | ((with_reducible apply w_ixM);(focus exact rfl);(focus exact rfl);case' hk=>intro y hy) | ((with_reducible (first | apply w_val | apply q_ends));(focus exact rfl)))
   obtain⟨x,hx1,_,hx3⟩:=play_crs h0 hps
   have hPx:=Play_c G ps (by omega) (by omega) hws (by rw[(allP_mem.1 hps).1];omega)
   rw[hx1,show plA (x,0)=AV.tup [.slc 1 (iR x) .non,.int .i64 0] from rfl] at hPx
   obtain⟨⟨g1,g2⟩,g3,_⟩:=(crsG_mem hG).1 hx3
   dsimp only at g1 g2 g3
   obtain⟨⟨ha0,hab,hbx⟩,hex⟩:=exch hG hR g1
   have hWx:=waysP_c G x h0 hws g1 g2 g3
   have hl3:(iR x).length=x.length:=List.length_map _
   cases x with
   | nil=>exfalso;rw[List.length_nil] at hbx;omega
   | cons x0 xs=>
     have hxl:(x0::xs).length=xs.length+1:=rfl
     repeat' (first
      | refine advE ?_ | with_reducible refine w_alt ?_ ?_
      | (first | refine w_ldEl rfl rfl (by show (g50,Res.row (renL _ (nI (x0::xs))))=_;rw[renL_nI]) (by omega) ?_ | refine w_stEl rfl rfl (by show (g50,Res.row (renL _ (nI (x0::xs))))=_;rw[renL_nI]) (by omega) rfl ?_ | refine w_stEl rfl rfl rfl (by rw[List.length_set];omega) rfl ?_)
      | with_reducible refine zI fun y hy=>?_ | refine advL ?_
      | ((with_reducible refine acall_id ?_);refine ACall.val hPx rfl rfl ?_)
      | ((with_reducible refine acall_id ?_);refine ACall.val hCe rfl rfl ?_)
      | ((with_reducible refine acall_id ?_);refine ACall.liftS (intsW_c x0 xs (by omega)) [] (some 2) rfl rfl rfl trivial (fun _=>rfl) ?_;rintro g50 _ rfl)
      | ((with_reducible refine acall_id ?_);refine ACall.box (any_c _ _ a b (by omega) (by omega) (by omega) (by omega)) rfl rfl rfl ?_;rintro _ _ ⟨k,rfl,hk1,hk2⟩)
      | ((with_reducible refine acall_id ?_);refine ACall.val hWx rfl rfl ?_)
      | refine adv ?_ | with_reducible (first | intro _ | refine Rt.p (fun _=>?_) fun _=>?_)
      | ((with_reducible apply w_ixM);(focus exact rfl);(focus exact rfl);case' hk=>intro y hy) | ((with_reducible (first | apply w_val | apply q_ends));(focus exact rfl)))
     rename_i u1 i hi1 hi2 u2
     obtain⟨y,hy⟩:∃y,swpL (x0::xs) i.toNat k.toNat=y:=⟨_,rfl⟩
     have hyl:y.length=(x0::xs).length:=by rw[←hy];unfold swpL;rw[List.length_set,List.length_set]
     have hyp:y.Perm (x0::xs):=by rw[←hy];exact swap_perm (x0::xs) (by omega) (by omega)
     have hyc:cwG G y=cwG G (x0::xs):=by rw[←hy];exact hex i k (by omega) (by omega)
     have hWy:=waysP_c G y h0 hws (by rw[hyl];exact g1) (fun w hw=>g2 w (hyp.mem_iff.1 hw)) (by rw[hyc];exact g3)
     rw[hyc] at hWy
     have hfz:frzA 50 g50 (y.map (AV.int .i64)) (.msl 50 g50 (x0::xs).length 1)= .slc 1 (iR y) .non:=by rw[←hyl];simp[frzA,chunk1]
     refine w_frzIG (t:=10) (i:=50) (g:=g50) (n:=(x0::xs).length) (xs:=y) [(4,.ref 4 _ 0),(10,.slc 1 (iR y) .non),(13,.int .i64 (cwG G (x0::xs))),(15,.int .i64 0)] [(4,(_,.row [.slc 2 (wR G.ws) .non,.slc 5 (dlR G.ds) .non]))] rfl (by rw[←hy];show (g50,Res.row (nI (((x0::xs).set (i.toNat*1) ((x0::xs).getD (k.toNat*1) 0)).set (k.toNat*1) ((x0::xs).getD (i.toNat*1) 0))))=_;rw[Nat.mul_one,Nat.mul_one];rfl) hyl ⟨rfl,hfz,rfl,rfl,trivial⟩ ⟨rfl,trivial⟩ ?_
     intro e2 σ2
     repeat' (first
      | refine advE ?_ | with_reducible refine w_alt ?_ ?_
      | with_reducible refine zI fun y hy=>?_ | refine advL ?_
      | ((with_reducible refine acall_id ?_);refine ACall.val hWy rfl rfl ?_)
      | ((with_reducible refine acall_id ?_);refine ACall.val awake_c rfl rfl ?_)
      | refine adv ?_ | with_reducible (first | intro _ | refine Rt.p (fun _=>?_) fun _=>?_)
      | ((with_reducible apply w_ixM);(focus exact rfl);(focus exact rfl);case' hk=>intro y hy) | ((with_reducible (first | apply w_val | apply q_ends));(focus exact rfl)))
     all_goals first
      | (exfalso;omega)
      | rfl
end Go.Abs
