/- Contracts of the functions that this law reaches, each proved of the program's form in Lean. No condition beyond those that each contract names. -/
import Derived.Test.YtegfkfgkplnjgaaGreatProg
import Derived.Test.YtegfkfgkplnjgaaGreatSnd3
import Derived.Test.YtegfkfgkplnjgaaGreatA0
import Derived.Test.YtegfkfgkplnjgaaGreatQ1a
import Derived.Test.YtegfkfgkplnjgaaGreatQ1b
import Derived.Test.YtegfkfgkplnjgaaGreatQ1c
import Derived.Test.YtegfkfgkplnjgaaGreatQ1d
import Derived.Test.YtegfkfgkplnjgaaGreatQ1e
import Derived.Test.YtegfkfgkplnjgaaGreatQ1f
import Derived.Test.YtegfkfgkplnjgaaGreatQ1g
import Derived.Test.YtegfkfgkplnjgaaGreatQ1h
import Derived.Test.YtegfkfgkplnjgaaGreatQ1i
import Derived.Test.YtegfkfgkplnjgaaGreatQ1j
import Derived.Test.YtegfkfgkplnjgaaGreatQ1k
import Derived.Test.YtegfkfgkplnjgaaGreatQ1l
import Derived.Test.YtegfkfgkplnjgaaGreatQ2a
import Derived.Test.YtegfkfgkplnjgaaGreatQ2b
set_option linter.unusedVariables false
set_option linter.unusedSimpArgs false
set_option maxRecDepth 20000
set_option maxHeartbeats 4000000
namespace Go.Abs
open Go.Proofs
def ir3:IFn:=
 ⟨171,[(8,none)],(.seq (.ops [oo 4 (.box 2 0),oo 5 (.box 2 1),oo 8 (.mov (kB false))])
 (.seq (.seq (.ops [oo 29 (.ld 2 true 4),oo 30 (.callF 5 [29]),oo 31 (.mov 30),
 ⟨(some 32),(some (31,false)),(.mov 2)⟩,
 ⟨(some 33),(some (31,false)),(.len false 32)⟩,
 ⟨(some 34),(some (31,false)),(.bin .gtr 33 (kI 20))⟩,oo 35 (.pick 31 (kB true) 34)])
 (.cnd 35
 (.seq (.ops [oo 36 (.callF 6 []),oo 8 (.mov 36)])
 .ret)
 .skip))
 (.seq (.ops [oo 37 (.mov 3),oo 38 (.callF 7 [37]),oo 9 (.mov 38)])
 (.seq (.ops [oo 39 (.mov 9),oo 40 (.callF 8 [39,(kI 4),(kI 5),(kI 6)]),oo 10 (.new [.nsl,.nsl]),
 ⟨none,none,(.st 2 10 40)⟩])
 (.seq (.ops [oo 42 (.ld 2 true 10),oo 43 (.mov 9),oo 44 (.ld 2 true 10),oo 45 (.callF 10 [43,44]),
 ⟨none,none,(.chk 2 true 10 42)⟩,oo 46 (.callF 9 [42,45]),oo 41 (.mov 46),oo 47 (.ext 0 41),oo 48 (.ext 1 41),oo 11 (.mov 47),oo 12 (.mov 48)])
 (.seq (.ops [oo 49 (.ld 2 true 4),oo 50 (.ld 2 true 10),oo 51 (.ld 2 true 10),oo 52 (.bsl 2 [[.nsl,.nsl],[.nsl,.nsl],[.nsl,.nsl]] [(0,49),(1,50),(2,51)]),oo 53 (.ld 2 true 5),oo 54 (.mov 9),oo 55 (.ld 2 true 10),oo 57 (.ld 2 true 5),oo 59 (.mov 2),oo 60 (.mov 11),oo 61 (.mov 11),oo 62 (.bsl 1 [[.nsl],[.nsl],[.nsl]] [(0,59),(1,60),(2,61)]),oo 56 (.callF 11 [54,55]),
 ⟨none,none,(.chk 2 true 4 49)⟩,
 ⟨none,none,(.chk 2 true 10 50)⟩,
 ⟨none,none,(.chk 2 true 10 51)⟩,
 ⟨none,none,(.chk 2 true 5 53)⟩,
 ⟨none,none,(.chk 2 true 5 57)⟩,oo 58 (.bsl 2 [[(.int .i64 0),(.int .i64 0)],[(.int .i64 0),(.int .i64 0)],[(.int .i64 0),(.int .i64 0)]] [(0,53),(1,56),(2,57)]),oo 13 (.mov 52),oo 14 (.mov 58),oo 15 (.mov 62)])
 (.seq (.seq (.ops [oo 16 (.mov (kI 0))])
 (.blk 0 (.loop (.seq (.seq (.ops [oo 63 (.mov 16),oo 64 (.mov 13),oo 65 (.len false 64),oo 66 (.bin .lss 63 65)])
 (.cnd 66
 .skip
 (.exit 0)))
 (.seq (.blk 1 (.seq (.ops [⟨none,none,(.kil 17)⟩,oo 69 (.mov 13),oo 70 (.mov 16),oo 71 (.ixA 2 69 70),oo 72 (.ld 2 true 71),oo 74 (.mov 15),oo 75 (.mov 16),oo 76 (.ixA 1 74 75),oo 77 (.ld 1 false 76),oo 73 (.callF 12 [72]),
 ⟨none,none,(.chk 1 false 76 77)⟩,oo 78 (.callF 13 [77]),oo 17 (.new [.nsl,.nsl]),
 ⟨none,none,(.st 2 17 73)⟩,oo 18 (.mov 78)])
 (.seq (.ops [oo 80 (.ld 2 true 17),oo 81 (.mov 14),oo 82 (.mov 16),oo 83 (.ixA 2 81 82),oo 84 (.ld 2 true 83),oo 85 (.mov 18),oo 86 (.callF 14 [80,84,85]),oo 79 (.mov 86),oo 87 (.ext 0 79),oo 88 (.ext 1 79),oo 19 (.mov 87),oo 20 (.mov 88)])
 (.seq (.ops [oo 90 (.mov 13),oo 91 (.mov 16),oo 92 (.ixA 2 90 91),oo 93 (.ld 2 true 92),oo 94 (.mov 14),oo 95 (.mov 16),oo 96 (.ixA 2 94 95),oo 97 (.ld 2 true 96),oo 98 (.mov 15),oo 99 (.mov 16),oo 100 (.ixA 1 98 99),oo 101 (.ld 1 false 100),oo 102 (.callF 15 [93,97,101]),oo 89 (.mov 102),oo 103 (.ext 0 89),oo 104 (.ext 1 89),oo 21 (.mov 103),oo 22 (.mov 104)])
 (.seq (.ops [oo 106 (.ld 2 true 17),oo 107 (.mov 14),oo 108 (.mov 16),oo 109 (.ixA 2 107 108),oo 110 (.ld 2 true 109),oo 111 (.callF 16 [106,110]),oo 105 (.mov 111),oo 112 (.ext 0 105),oo 113 (.ext 1 105),oo 114 (.ext 2 105),oo 23 (.mov 112),oo 24 (.mov 113),oo 25 (.mov 114)])
 (.seq (.ops [oo 116 (.mov 13),oo 117 (.mov 16),oo 118 (.ixA 2 116 117),oo 119 (.ld 2 true 118),oo 120 (.mov 14),oo 121 (.mov 16),oo 122 (.ixA 2 120 121),oo 123 (.ld 2 true 122),oo 124 (.callF 17 [119,123]),oo 115 (.mov 124),oo 125 (.ext 0 115),oo 126 (.ext 1 115),oo 127 (.ext 2 115),oo 26 (.mov 125),oo 27 (.mov 126),oo 28 (.mov 127)])
 (.seq (.seq (.ops [oo 128 (.mov 20),oo 129 (.mov 22),oo 130 (.bin .neq 128 129),oo 131 (.mov 130),
 ⟨(some 132),(some (131,false)),(.mov 19)⟩,
 ⟨(some 133),(some (131,false)),(.mov 21)⟩,
 ⟨(some 134),(some (131,false)),(.callF 18 [132,133])⟩,
 ⟨(some 135),(some (131,false)),(.not 134)⟩,oo 136 (.pick 131 (kB true) 135),oo 137 (.mov 136),
 ⟨(some 138),(some (137,false)),(.mov 25)⟩,
 ⟨(some 139),(some (137,false)),(.mov 28)⟩,
 ⟨(some 140),(some (137,false)),(.bin .neq 138 139)⟩,oo 141 (.pick 137 (kB true) 140),oo 142 (.mov 141),
 ⟨(some 143),(some (142,false)),(.mov 23)⟩,
 ⟨(some 144),(some (142,false)),(.mov 26)⟩,
 ⟨(some 145),(some (142,false)),(.callF 19 [143,144])⟩,
 ⟨(some 146),(some (142,false)),(.not 145)⟩,oo 147 (.pick 142 (kB true) 146),oo 148 (.mov 147),
 ⟨(some 149),(some (148,false)),(.mov 24)⟩,
 ⟨(some 150),(some (148,false)),(.mov 27)⟩,
 ⟨(some 151),(some (148,false)),(.callF 18 [149,150])⟩,
 ⟨(some 152),(some (148,false)),(.not 151)⟩,oo 153 (.pick 148 (kB true) 152)])
 (.cnd 153
 (.seq (.ops [oo 8 (.mov (kB false))])
 .ret)
 .skip))
 (.seq (.ops [oo 154 (.ld 2 true 17),oo 155 (.mov 13),oo 156 (.mov 16),oo 157 (.ixA 2 155 156),oo 158 (.ld 2 true 157),oo 159 (.callF 20 [154,158]),oo 160 (.not 159),oo 161 (.mov 160),
 ⟨(some 162),(some (161,false)),(.mov 18)⟩,
 ⟨(some 163),(some (161,false)),(.mov 15)⟩,
 ⟨(some 164),(some (161,false)),(.mov 16)⟩,
 ⟨(some 165),(some (161,false)),(.ixA 1 163 164)⟩,
 ⟨(some 166),(some (161,false)),(.ld 1 false 165)⟩,
 ⟨(some 167),(some (161,false)),(.callF 18 [162,166])⟩,
 ⟨(some 168),(some (161,false)),(.not 167)⟩,oo 169 (.pick 161 (kB true) 168)])
 (.cnd 169
 (.seq (.ops [oo 8 (.mov (kB false))])
 .ret)
 .skip)))))))))
 (.ops [oo 67 (.mov 16),oo 68 (.bin .add 67 (kI 1)),oo 16 (.mov 68)]))))))
 (.seq (.ops [oo 170 (.callF 6 []),oo 8 (.mov 170)])
 .ret))))))))⟩
def hint3 (P:Program):Hint:={}
theorem duO_nil (G:Gm) (a:Aq) (c:List Int):(duO G a c).2=0∨(duO G a c).1=[]:=by
 unfold duO
 split
 · split
   · split
     · exact .inl rfl
     · exact .inr rfl
   · exact .inr rfl
 · exact .inr rfl
theorem duO_bd (G:Gm) (a:Aq) (c:List Int) (hw:G.ws.length<1000) (hc:c.length<1000):(duO G a c).1.length<2000:=by
 have:=dueF_len G a c
 unfold duO
 split
 · split
   · split
     · show (dueF G a c).length<2000;omega
     · exact Nat.succ_pos _
   · exact Nat.succ_pos _
 · exact Nat.succ_pos _
theorem ansO_nil (G:Gm) (a:Aq):(ansO G a).2=0∨(ansO G a).1=[]:=by
 unfold ansO
 split
 · split
   · split
     · exact .inl rfl
     · exact .inr rfl
   · exact .inr rfl
 · exact .inr rfl
theorem sub_anA (r:List (List Int×Int)×Int) (h:r.2=0∨r.1=[]):Sub (anA r) (.tup [.slc 1 (llR (r.1.map (·.1))) .non,.slc 1 (iR (r.1.map (·.2))) .non,.int .i64 r.2]):=by
 unfold anA
 split
 · exact Sub.refl _
 · rename_i h0
   rw[h.resolve_left h0]
   exact Sub.tupM (.cons Sub.nil (.cons Sub.nil (.cons (Sub.refl _) .nil)))
theorem dueF_bd (G:Gm) (a:Aq) (c:List Int) (h:c.length≤9):(dueF G a c).length≤9+G.ws.length:=by
 have:=dueF_len G a c
 omega
theorem ansO_bd (G:Gm) (a:Aq):(ansO G a).1.length≤5000∧ ∀y∈(ansO G a).1,y.1.length≤9+G.ws.length:=by
 obtain⟨b1,b2⟩:=crsO_bd G
 have hz:∀y∈([]:List (List Int×Int)),y.1.length≤9+G.ws.length:=fun y hy=>by cases hy
 unfold ansO
 split
 · split
   · split
     · have key:∀(l A:List (List Int×Int)),(∀x∈l,x.1.length≤9)→(l.foldl (fun A c=>ansI (dueF G a c.1) c.2 A) A).length≤A.length+l.length∧((∀y∈A,y.1.length≤9+G.ws.length)→ ∀y∈l.foldl (fun A c=>ansI (dueF G a c.1) c.2 A) A,y.1.length≤9+G.ws.length):=by
        intro l
        induction l with
        | nil=>exact fun A _=>⟨Nat.le_refl _,id⟩
        | cons c l ih=>
          intro A hl
          obtain⟨h1,h2⟩:=ih (ansI (dueF G a c.1) c.2 A) fun x hx=>hl x (by simp[hx])
          have h3:=(ansI_len (dueF G a c.1) c.2 A).1
          refine⟨by rw[List.foldl_cons,List.length_cons];omega,fun hA=>h2 fun y hy=>?_⟩
          rcases ansI_mem hy with e | h
          · rw[e];exact dueF_bd G a _ (hl c (by simp))
          · exact hA y h
       obtain⟨k1,k2⟩:=key (crsO G).1 [] b2
       refine⟨?_,k2 hz⟩
       show (ansL _ _).length≤5000
       have e:([]:List (List Int×Int)).length=0:=rfl
       unfold ansL
       omega
     · exact⟨Nat.zero_le _,hz⟩
   · exact⟨Nat.zero_le _,hz⟩
 · exact⟨Nat.zero_le _,hz⟩
structure Duq where
 g:Gm
 a:Aq
 cs:List Int
theorem gameDues_c (G:Gm) (a:Aq) (course nums:List Int) (hw:G.ws.length<2^63) (hd:G.ds.length<2^63) (hcs:course.length<2^62) (hn:nums.length<2^62):Fn0 Tryz.prog 3 [gmA G,aqA a,.slc 1 (iR course) .non,.slc 1 (iR nums) .non] (fun v=>v= .bool true):=by
 have hbig:=gmBig_c G hw hd
 have hl2:(iR course).length=course.length:=List.length_map _
 refine RawC.walk (H:=hint3 Tryz.prog) ir3 Tryz.func3 rfl rfl rfl ?_
 unfold ir3
 repeat' (first
  | with_reducible refine Rd.p ?_
  | with_reducible (first|refine zL ?_|refine zS ?_|refine zV ?_|refine zC ?_)
  | ((with_reducible refine aC ?_);first|(refine ACall.val awake_c rfl rfl ?_)|((refine ACall.exb hbig rfl ?_;intro b hb))|(refine ACall.liftS (boxOf_s nums hn) [] (some 6) rfl rfl rfl trivial (fun _=>rfl) ?_;rintro⟨gb,w⟩ _ rfl)|(refine ACall.box (gameOf_c _ _ 4 5 6 (by decide) (by decide) (by decide)) rfl rfl rfl ?_;rintro _ _ ⟨M,rfl,hm⟩)|(refine ACall.box (picksOf_c _ _ M hm.e) rfl rfl rfl ?_;rintro _ _ ⟨ps,rfl,hps⟩))
  | refine aX ?_|with_reducible intro _
  | refine aP ?_ ?_)
 all_goals first|(exfalso;omega)|(rfl;done) | skip
 have h0:=hm.e
 have hG:=gm_ok h0
 have hn4:(M.ws.length:Int)≤4:=hm.n2
 have hM1:=hm.n1
 have hcn:=hG.cen
 have hsl:=szL_288 hG
 have hpl:=(allP_mem.1 hps).1
 have hws:∀w∈M.ws,w.name.size≤1000:=fun w hw=>by have:=(madeW_ok hm.w).2 w hw;omega
 obtain⟨X,hX1,hX2,hX3⟩:=playO_in h0 hps
 have hXl:=((crsG_mem hG).1 hX3).1.1
 dsimp only at hXl
 have hd24:=hm.d
 have hPp:=rPlay_c M ps (by omega) (by omega) hws (by omega)
 rw[hX1,show plA (X,0)=AV.tup [.slc 1 (iR X) .non,.int .i64 0] from rfl] at hPp
 repeat' (first
  | with_reducible refine Rd.p ?_
  | with_reducible (first|refine zL ?_|refine zS ?_|refine zV ?_|refine zC ?_)
  | ((with_reducible refine aC ?_);first|(refine ACall.val hPp rfl rfl ?_)|(refine ACall.box (askOf_c _ _ _ hm.n1 (by omega)) rfl rfl rfl ?_;rintro _ _ ⟨a2,rfl,ha⟩))
  | refine aX ?_|with_reducible intro _
  | refine aP ?_ ?_)
 all_goals try (exfalso;omega)
 have hqs:∀q∈[Duq.mk G a course,Duq.mk M a2 X,Duq.mk M a X],smlG q.g∧q.cs.length<1000:=by
  intro q hq
  simp only[List.mem_cons,List.not_mem_nil,or_false] at hq
  have hsM:smlG M:=⟨by omega,by omega,fun w hw=>by have:=(madeW_ok hm.w).2 w hw;omega⟩
  rcases hq with rfl|rfl|rfl
  · exact⟨hb (by assumption),by show course.length<1000;omega⟩
  · exact⟨hsM,by show X.length<1000;omega⟩
  · exact⟨hsM,by show X.length<1000;omega⟩
 generalize hqe:[Duq.mk G a course,Duq.mk M a2 X,Duq.mk M a X]=qs at hqs
 have hpl2:qs.length=3:=by rw[←hqe];rfl
 refine w_loopK [] [] (fun x:List Duq×List Duq=>qs=x.1++x.2) (fun x=>x.2.length) (fun x=>[(16,.int .i64 (x.1.length:Int)),(13,.slc 2 (qs.map fun q:Duq=>[.slc 2 (wR q.g.ws) .non,.slc 5 (dlR q.g.ds) .non]) .full),(14,.slc 2 (qs.map fun q:Duq=>[.int .i64 q.a.kind,.int .i64 q.a.wood]) .full),(15,.slc 1 (qs.map fun q:Duq=>[.slc 1 (iR q.cs) .non]) .full)]) (fun _=>[]) ([],qs) rfl ⟨rfl,by subst hqe;rfl,by subst hqe;rfl,by subst hqe;rfl,trivial⟩ trivial ?_
 rintro⟨pre,post⟩ hl e σ
 dsimp only at hl ⊢
 have hlen:=congrArg List.length hl
 rw[List.length_append] at hlen
 cases post with
 | nil=>
   simp only[List.length_nil] at hlen
   repeat' (first
    | with_reducible refine Rd.p ?_
    | with_reducible (first|refine zL ?_|refine zS ?_|refine zV ?_|refine zC ?_)
    | ((with_reducible refine aC ?_);first|(refine ACall.val awake_c rfl rfl ?_))
    | refine aX ?_|with_reducible intro _
    | refine aP ?_ ?_)
   all_goals first
    | (exfalso;omega)
    | rfl
 | cons q post=>
   simp only[List.length_cons] at hlen
   obtain⟨⟨q1,q2,q3⟩,q5⟩:=hqs q (by rw[hl];simp)
   have qw:∀w∈q.g.ws,w.name.size≤1000:=fun w hw=>by have:=q3 w hw;omega
   have hOw:=ownGame_c q.g (by omega) (by omega)
   have hI2:=ints_c q.cs (by omega)
   have hP:=subV2 (DueA_c q.g q.a q.cs (by omega) (by omega) qw q5) (sub_plA _ (duO_nil _ _ _))
   have hP2:=subV2 (rDueA_c q.g q.a q.cs (by omega) (by omega) qw q5) (sub_plA _ (duO_nil _ _ _))
   have hW:=subV2 (Answers_c q.g q.a (by omega) (by omega) qw) (sub_anA _ (ansO_nil _ _))
   have hW2:=subV2 (rAnswers_c q.g q.a (by omega) (by omega) qw) (sub_anA _ (ansO_nil _ _))
   have hb9:=duO_bd q.g q.a q.cs (by omega) q5
   obtain⟨k1,k2⟩:=ansO_bd q.g q.a
   obtain⟨R,hR⟩:∃R,duO q.g q.a q.cs=R:=⟨_,rfl⟩
   rw[hR] at hP hP2 hb9
   obtain⟨Z,hZ⟩:∃Z,ansO q.g q.a=Z:=⟨_,rfl⟩
   rw[hZ] at hW hW2 k1 k2
   have hE:=eq_c R.1 R.1 (by omega)
   rw[decide_eq_true rfl] at hE
   have hEL:=eqLists_c (Z.1.map (·.1)) (Z.1.map (·.1)) (by rw[List.length_map];omega) (fun l hl=>by
    obtain⟨x,hx,rfl⟩:=List.mem_map.1 hl
    have:=k2 x hx;omega)
   rw[decide_eq_true rfl] at hEL
   have hE1:=eq_c (Z.1.map (·.2)) (Z.1.map (·.2)) (by rw[List.length_map];omega)
   rw[decide_eq_true rfl] at hE1
   have hE2:=eq_c q.cs q.cs (by omega)
   rw[decide_eq_true rfl] at hE2
   have hEG:=eqGames_c q.g q.g (by omega) (by omega)
   rw[decide_eq_true ⟨rfl,rfl⟩] at hEG
   repeat' (first
    | with_reducible refine Rd.p ?_
    | (first|refine w_ixP (f:=fun q:Duq=>[AV.slc 2 (wR q.g.ws) .non,.slc 5 (dlR q.g.ds) .non]) hl rfl rfl ?_|refine w_ixP (f:=fun q:Duq=>[AV.int .i64 q.a.kind,.int .i64 q.a.wood]) hl rfl rfl ?_|refine w_ixP (f:=fun q:Duq=>[AV.slc 1 (iR q.cs) .non]) hl rfl rfl ?_)
    | with_reducible (first|refine zL ?_|refine zS ?_|refine zV ?_|refine zC ?_)
    | ((with_reducible refine aC ?_);first|(refine ACall.val hOw rfl rfl ?_)|(refine ACall.val hI2 rfl rfl ?_)|(refine ACall.val hP rfl rfl ?_)|(refine ACall.val hP2 rfl rfl ?_)|(refine ACall.val hW rfl rfl ?_)|(refine ACall.val hW2 rfl rfl ?_)|(refine ACall.val hE rfl rfl ?_)|(refine ACall.val hEL rfl rfl ?_)|(refine ACall.val hE1 rfl rfl ?_)|(refine ACall.val hE2 rfl rfl ?_)|(refine ACall.val hEG rfl rfl ?_))
    | refine aX ?_|with_reducible intro _
    | refine aP ?_ ?_)
   all_goals first
    | (exfalso;omega)
    | exact q_loop (pre++[q],post) (by show qs=_;rw[hl];simp) (Nat.lt_succ_self _) ⟨by rw[len_snoc];rfl,rfl,rfl,rfl,trivial⟩ aS aK aK
end Go.Abs
