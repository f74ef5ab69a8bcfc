/- A part of the proofs: contracts of functions. -/
import Derived.Test.YtioggblimkgioaaGreatProg
import Derived.Test.YtioggblimkgioaaGreatSnd3
import Derived.Test.YtioggblimkgioaaGreatA0
import Derived.Test.YtioggblimkgioaaGreatQ1a
import Derived.Test.YtioggblimkgioaaGreatQ1b
import Derived.Test.YtioggblimkgioaaGreatQ1c
import Derived.Test.YtioggblimkgioaaGreatQ1d
import Derived.Test.YtioggblimkgioaaGreatQ1e
set_option linter.unusedVariables false
set_option linter.unusedSimpArgs false
set_option maxRecDepth 20000
set_option maxHeartbeats 4000000
namespace Go.Abs
open Go.Proofs
def ir33:IFn:= ⟨26,[(4,none)],(sO [oo 3 (.box 2 1),oM 4 (.k .nsl)] (sO [oo 8 (.ld 2 true 3),oC 9 85 [8],oM 5 9] (sO [oo 6 (.nil 1 6)] (.seq (sO [oM 7 (kI 0)] (.blk 0 (.loop (.seq (sO [oM 10 7,oM 11 5,oN 12 11,oB 13 .lss 10 12] (.cnd 13 .skip (.exit 0))) (.seq (.blk 1 (.ops [oM 16 6,oM 17 0,oM 18 5,oM 19 7,oA 20 1 18 19,oL 21 20,oC 22 38 [17,21],oo 23 (.bsl 1 [[z0]] [(0,22)]),oo 24 (.app 1 8 16 23 6),oM 6 24])) (.ops [oM 14 7,oB 15 .add 14 (kI 1),oM 7 15])))))) (sO [oM 25 6,oM 4 25] .ret)))))⟩
def hint33(P:Program):Hint:={site:=[(24,6)],nils:=[(6,1)],frz:=[],mve:=[],wr:=[] }
def ir96:IFn:= ⟨32,[(6,none),(7,none)],(sO [oo 3 (.box 2 0),oo 4 (.box 2 1),oM 6 (.k .nsl),oM 7 (kI 0)] (.seq (sO [oo 11 (.ld 2 true 3),oC 12 112 [11],oM 8 12] (sO [oM 13 8,oB 14 .neq 13 (kI 0)] (.cnd 14 (sO [oM 15 8,oM 6 (.k .nsl),oM 7 15] .ret) .skip))) (.seq (sO [oo 16 (.ld 2 true 3),oo 17 (.ld 2 true 4),oC 18 116 [16,17],oM 9 18] (sO [oM 19 9,oB 20 .neq 19 (kI 0)] (.cnd 20 (sO [oM 21 9,oM 6 (.k .nsl),oM 7 21] .ret) .skip))) (.seq (sO [oo 22 (.ld 2 true 3),oM 23 2,oC 24 152 [22,23],oM 10 24] (sO [oM 25 10,oB 26 .neq 25 (kI 0)] (.cnd 26 (sO [oM 27 10,oM 6 (.k .nsl),oM 7 27] .ret) .skip))) (sO [oo 28 (.ld 2 true 3),oo 29 (.ld 2 true 4),oM 30 2,oC 31 117 [28,29,30],oM 6 31,oM 7 (kI 0)] .ret)))))⟩
def ir31:IFn:= ⟨255,[(8,some (2,true))],(sO [oo 8 (.new [.nsl,.nsl])] (sO [oM 23 0,oM 24 1,oC 25 86 [23,24],oo 26 (.bld [.nsl,.nsl] [(0,1,25)]),oo 9 (.new [.nsl,.nsl]),oS 2 9 26] (.seq (sO [oM 10 (kI 0)] (.blk 0 (.loop (.seq (sO [oM 27 10,oF 28 0 9,oL 29 28,oN 30 29,oB 31 .lss 27 30] (.cnd 31 .skip (.exit 0))) (.seq (.blk 1 (sO [oM 34 0,oC 35 36 [34,(kI 3)],oo 36 (.not 35)] (.cnd 36 (.ops [oF 37 1 9,oL 38 37,oM 39 10,oo 40 (.bld [z0,z0,z0,z0,z0] [(0,1,(kI 1)),(3,1,39)]),oo 41 (.bsl 5 [[z0,z0,z0,z0,z0]] [(0,40)]),oo 42 (.app 5 40 38 41 42),oF 43 1 9,oS 1 43 42]) .skip))) (.ops [oM 32 10,oB 33 .add 32 (kI 1),oM 10 33])))))) (sO [oM 44 0,oC 45 38 [44,(kI 2)],oB 46 .add (kI 1) 45,oM 11 46] (sO [oo 12 (.new [z0,z0,z0,z0])] (sO [oM 13 (kI 0),oM 14 (kI 0),oM 15 (kI 0)] (.seq (sO [oM 16 (kI 0)] (.blk 2 (.loop (.seq (sO [oM 47 16,oB 48 .lss 47 (kI 10),oM 49 48,⟨(some 50),(some (49,true)),(.flA 1 9)⟩,⟨(some 51),(some (49,true)),(.ld 1 false 50)⟩,⟨(some 52),(some (49,true)),(.len false 51)⟩,⟨(some 53),(some (49,true)),(.bin .lss 52 (kI 22))⟩,oo 54 (.pick 49 53 (kB false))] (.cnd 54 .skip (.exit 2))) (.seq (.blk 3 (sO [oM 57 0,oM 58 11,oC 59 38 [57,58],oM 17 59] (sO [oM 60 0,oC 61 38 [60,(kI 7)]] (.blk 4 (.seq (sO [oB 83 .eql 61 (kI 0),oM 82 83] (.cnd 82 .skip (sO [oB 84 .eql 61 (kI 1),oM 82 84] (.cnd 82 .skip (.ops [oB 85 .eql 61 (kI 2),oM 82 85]))))) (.cnd 82 (sO [oM 86 0,oC 87 37 [86,(kI 1),(kI 3)],oM 18 87] (sO [oM 88 13,oM 89 18,oB 90 .add 88 89,oB 91 .leq 90 (kI 12)] (.cnd 91 (sO [oF 92 1 9,oL 93 92,oM 94 17,oM 95 0,oF 96 0 9,oL 97 96,oN 98 97,oM 100 18,oC 99 38 [95,98],oK 92 93,oo 101 (.bld [z0,z0,z0,z0,z0] [(0,1,(kI 2)),(1,1,94),(3,1,99),(4,1,100)]),oo 102 (.bsl 5 [[z0,z0,z0,z0,z0]] [(0,101)]),oo 103 (.app 5 40 93 102 42),oF 104 1 9,oS 1 104 103] (.ops [oM 105 17,oM 106 13,oM 107 18,oB 108 .add 106 107,oM 109 17,oo 110 (.ixAr 4 1 12 109),oL 111 110,oM 112 18,oB 113 .add 111 112,oM 13 108,oo 114 (.ixAr 4 1 12 105),oS 1 114 113])) .skip))) (sO [oB 116 .eql 61 (kI 3),oM 115 116] (.cnd 115 (sO [oM 117 0,oM 118 11,oC 119 38 [117,118],oM 19 119] (sO [oM 120 19,oM 121 17,oB 122 .neq 120 121] (.cnd 122 (sO [oF 123 1 9,oL 124 123,oM 125 17,oM 126 19,oo 127 (.bld [z0,z0,z0,z0,z0] [(0,1,(kI 3)),(1,1,125),(2,1,126)]),oo 128 (.bsl 5 [[z0,z0,z0,z0,z0]] [(0,127)]),oo 129 (.app 5 40 124 128 42),oF 130 1 9,oS 1 130 129] (.ops [oM 131 19,oM 132 17,oM 133 19,oo 134 (.ixAr 4 1 12 133),oL 135 134,oM 136 17,oo 137 (.ixAr 4 1 12 136),oL 138 137,oB 139 .add 135 138,oo 140 (.ixAr 4 1 12 131),oS 1 140 139,oo 141 (.ixAr 4 1 12 132),oS 1 141 (kI 0)])) .skip))) (sO [oB 143 .eql 61 (kI 4),oM 142 143] (.cnd 142 (sO [oM 144 0,oC 145 37 [144,(kI 1),(kI 2)],oM 20 145] (sO [oM 146 20,oM 147 17,oo 148 (.ixAr 4 1 12 147),oL 149 148,oB 150 .leq 146 149,oM 151 150,⟨(some 152),(some (151,true)),(.mov 14)⟩,⟨(some 153),(some (151,true)),(.mov 20)⟩,⟨(some 154),(some (151,true)),(.bin .add 152 153)⟩,⟨(some 155),(some (151,true)),(.mov 2)⟩,⟨(some 156),(some (151,true)),(.bin .leq 154 155)⟩,oo 157 (.pick 151 156 (kB false))] (.cnd 157 (sO [oF 158 1 9,oL 159 158,oM 160 17,oM 161 20,oo 162 (.bld [z0,z0,z0,z0,z0] [(0,1,(kI 4)),(1,1,160),(4,1,161)]),oo 163 (.bsl 5 [[z0,z0,z0,z0,z0]] [(0,162)]),oo 164 (.app 5 40 159 163 42),oF 165 1 9,oS 1 165 164] (.ops [oM 166 17,oM 167 14,oM 168 20,oB 169 .add 167 168,oM 170 17,oo 171 (.ixAr 4 1 12 170),oL 172 171,oM 173 20,oB 174 .sub 172 173,oM 14 169,oo 175 (.ixAr 4 1 12 166),oS 1 175 174])) .skip))) (sO [oB 177 .eql 61 (kI 5),oM 176 177] (.cnd 176 (sO [oM 178 0,oC 179 37 [178,(kI 1),(kI 3)],oM 21 179] (sO [oM 180 21,oM 181 17,oo 182 (.ixAr 4 1 12 181),oL 183 182,oB 184 .leq 180 183,oM 185 184,⟨(some 186),(some (185,true)),(.mov 14)⟩,⟨(some 187),(some (185,true)),(.mov 21)⟩,⟨(some 188),(some (185,true)),(.bin .add 186 187)⟩,⟨(some 189),(some (185,true)),(.mov 2)⟩,⟨(some 190),(some (185,true)),(.bin .leq 188 189)⟩,oo 191 (.pick 185 190 (kB false)),oM 192 191,⟨(some 193),(some (192,true)),(.mov 15)⟩,⟨(some 194),(some (192,true)),(.mov 21)⟩,⟨(some 195),(some (192,true)),(.bin .add 193 194)⟩,⟨(some 196),(some (192,true)),(.mov 3)⟩,⟨(some 197),(some (192,true)),(.bin .leq 195 196)⟩,oo 198 (.pick 192 197 (kB false))] (.cnd 198 (sO [oF 199 1 9,oL 200 199,oM 201 17,oM 202 21,oo 203 (.bld [z0,z0,z0,z0,z0] [(0,1,(kI 5)),(1,1,201),(4,1,202)]),oo 204 (.bsl 5 [[z0,z0,z0,z0,z0]] [(0,203)]),oo 205 (.app 5 40 200 204 42),oF 206 1 9,oS 1 206 205] (.ops [oM 207 17,oM 208 14,oM 209 21,oB 210 .add 208 209,oM 211 15,oM 212 21,oB 213 .add 211 212,oM 214 17,oo 215 (.ixAr 4 1 12 214),oL 216 215,oM 217 21,oB 218 .sub 216 217,oM 14 210,oM 15 213,oo 219 (.ixAr 4 1 12 207),oS 1 219 218])) .skip))) (sO [oM 62 15,oM 63 3,oB 64 .lss 62 63,oM 65 64,⟨(some 66),(some (65,true)),(.mov 0)⟩,⟨(some 67),(some (65,true)),(.callF 36 [66,(kI 3)])⟩,oo 68 (.pick 65 67 (kB false))] (.cnd 68 (sO [oF 69 1 9,oL 70 69,oM 71 0,oF 72 0 9,oL 73 72,oN 74 73,oC 75 38 [71,74],oK 69 70,oo 76 (.bld [z0,z0,z0,z0,z0] [(0,1,(kI 6)),(3,1,75)]),oo 77 (.bsl 5 [[z0,z0,z0,z0,z0]] [(0,76)]),oo 78 (.app 5 40 70 77 42),oF 79 1 9,oS 1 79 78] (.ops [oM 80 15,oB 81 .add 80 (kI 1),oM 15 81])) .skip)))))))))))))) (.ops [oM 55 16,oB 56 .add 55 (kI 1),oM 16 56])))))) (.seq (sO [oo 220 (.ixAr 4 1 12 (kI 0)),oL 221 220,oM 222 2,oM 223 14,oB 224 .sub 222 223,oM 225 3,oM 226 15,oB 227 .sub 225 226,oo 228 (.mx3 false 221 224 227),oM 22 228] (sO [oM 229 22,oB 230 .gtr 229 (kI 0)] (.cnd 230 (sO [oF 231 1 9,oL 232 231,oM 233 22,oo 234 (.bld [z0,z0,z0,z0,z0] [(0,1,(kI 5)),(4,1,233)]),oo 235 (.bsl 5 [[z0,z0,z0,z0,z0]] [(0,234)]),oo 236 (.app 5 40 232 235 42),oF 237 1 9,oS 1 237 236] (.ops [oM 238 15,oM 239 22,oB 240 .add 238 239,oM 15 240])) .skip))) (.seq (sO [oM 241 15,oB 242 .eql 241 (kI 0)] (.cnd 242 (.ops [oF 243 1 9,oL 244 243,oM 245 0,oF 246 0 9,oL 247 246,oN 248 247,oC 249 38 [245,248],oK 243 244,oo 250 (.bld [z0,z0,z0,z0,z0] [(0,1,(kI 6)),(3,1,249)]),oo 251 (.bsl 5 [[z0,z0,z0,z0,z0]] [(0,250)]),oo 252 (.app 5 40 244 251 42),oF 253 1 9,oS 1 253 252]) .skip)) (sO [oo 254 (.ld 2 true 9),oS 2 8 254] .ret))))))))))⟩
def hint31(P:Program):Hint:={site:=[(42,42),(78,42),(103,42),(129,42),(164,42),(205,42),(236,42),(252,42)],nils:=[],frz:=[],mve:=[],wr:=[] }
def dlV(D:List Dl)(g:Nat):AV:=match D with
 | []=> .nsl
 | _::_=> .slc 5 (dlR D) (.own 42 g)
def dlX(D:List Dl)(g:Nat):Nat×Res:=match D with
 | []=>(0,.dead)
 | _::_=>(g,.row [])
theorem dlV_snoc{x:Dl}{l:List Dl}(d:Dl)(g:Nat):AV.slc 5 (dlR (x::l)++[d.row]) (.own 42 g)=dlV (x::l++[d]) g:=by
 show _=AV.slc 5 (dlR (x::l++[d])) _
 rw[show dlR (x::l++[d])=dlR (x::l)++[d.row] from List.map_append]
theorem sl9{g9:Nat}{ws:List Wd}{x:Dl}{l:List Dl}(d:Dl)(g:Nat):(g9,Res.row [AV.slc 2 (wR ws) .non,.slc 5 (dlR (x::l)++[d.row]) (.own 42 g)])=(g9,Res.row [AV.slc 2 (wR ws) .non,dlV (x::l++[d]) g]):=
 congrArg (fun z=>(g9,Res.row [AV.slc 2 (wR ws) .non,z])) (dlV_snoc d g)
theorem gm_snoc{ws:List Wd}{x:Dl}{l:List Dl}(d:Dl):AV.agg [.slc 2 (wR ws) .non,.slc 5 (dlR (x::l)++[d.row]) .non]=gmA ⟨ws,x::l++[d]⟩:=by
 show _=AV.agg [.slc 2 (wR ws) .non,.slc 5 (dlR (x::l++[d])) .non]
 rw[show dlR (x::l++[d])=dlR (x::l)++[d.row] from List.map_append]
theorem w_ldBag{P:Program}{K:(Nat→AV)→Sig→Prop}{e:Nat→AV}{σ:Sig}{x:IOpd}{r:List IStep}{T:Tb}{d i g off p:Nat}(h:tbOK T)(hx:x.ev e= .ref i g off)(ho:off=p)(hσ:σ i=(g,.row (nI T.bags)))(hp:p<4)(hk:0≤T.bags.getD p 0∧T.bags.getD p 0≤12→stepsW P r K (upd e d (.int .i64 (T.bags.getD p 0))) σ):stepsW P (⟨some d,none,.ld 1 false x⟩::r) K e σ:=
 w_ldEl hx ho hσ (by rw[h.b];exact hp) (hk (h.at (b:=(p:Int)) hp))
theorem gameOf_c(g:Nat)(w woods drawn cens:Int)(h1:1≤woods∧woods≤6)(h2:0≤drawn∧drawn≤9)(h3:1≤cens∧cens≤9):RawC Tryz.prog 31 [.ref 1000 g 0,.int .i64 woods,.int .i64 drawn,.int .i64 cens] (BoxS g w) (BoxR g fun av=>∃G,av=gmA G∧madeO G woods drawn cens):=by
 refine RawC.walk (H:=hint31 Tryz.prog) ir31 Tryz.func31 rfl rfl rfl ?_;unfold ir31
 repeat' (first
  | with_reducible (first|refine Rd.p ?_|refine w_alt ?_ ?_|refine zE ?_|refine zE0 ?_)
  | with_reducible (first|refine zI fun y hy=>?_|refine zL ?_|refine zS ?_|refine zA fun _=>?_|refine zV ?_|refine zC ?_|refine zG ?_|refine zU ?_|refine zG0 ?_|refine zU0 ?_|refine zF ?_)
  | ((with_reducible refine acall_id ?_);refine ACall.box (woodsOf_c _ _ _ h1) rfl rfl rfl ?_;rintro _ _ ⟨ws,rfl,hmw,hw1,hw2⟩)
  | with_reducible (first|refine zX ?_|refine zD fun _=>?_|refine zD0 ?_|refine zN ?_|refine zF0 ?_|refine zX0 ?_|refine z1 ?_|refine z2 ?_|refine z3 ?_|refine z4 ?_|refine z5 ?_|refine z6 ?_|refine z7 ?_|refine z8 ?_|refine y1 ?_|refine y2 ?_|refine y3 ?_|refine y4 ?_|refine y5 ?_|refine y6 ?_|refine y7 ?_|refine y8 ?_|refine Rt.p (fun _=>?_) fun _=>?_)
  | ((with_reducible apply w_ixM);(focus exact rfl);(focus exact rfl);case' hk=>intro y hy)|((with_reducible (first | apply w_val | apply q_ends));(focus exact rfl)))
 rename_i g8 w0 g9;have hwl:(wR ws).length=ws.length:=List.length_map _
 refine w_loopK [0,2,3,8,9,50,51,52,53,66,67,152,153,154,155,156,186,187,188,189,190,193,194,195,196,197] [8] (fun x:List Dl×List Bool×Int×Nat×Nat=>mkG ws.length x.1 {tb0 with tried:=x.2.1 } 0∧x.2.2.2.2≤ws.length∧x.1.length≤x.2.2.2.2∧ ∀i:Nat,x.2.2.2.2≤i→x.2.1.getD i false=false)
  (fun x=>ws.length-x.2.2.2.2) (fun x=>[(10,.int .i64 (x.2.2.2.2:Int))]) (fun x=>[(1000,(g,.row [.int .u64 x.2.2.1])),(9,(g9,.row [.slc 2 (wR ws) .non,dlV x.1 x.2.2.2.1])),(42,dlX x.1 x.2.2.2.1)]) ([],tb0.tried,w0,0,0) ⟨mkG.nil _,Nat.zero_le _,Nat.le_refl _,fun i _=>by
    show ([false,false,false,false,false,false]:List Bool).getD i false=false
    rcases i with _ | _ | _ | _ | _ | _ | i<;>rfl⟩ ⟨rfl,trivial⟩ ⟨rfl,rfl,rfl,trivial⟩ ?_
 rintro⟨D,tr,w,gd,j⟩ ⟨hmk,hj,hDl,htr⟩ e σ;dsimp only at hmk hj hDl htr ⊢;by_cases hjn:j=ws.length
 rotate_left
 · have hmk2:=hmk.trial (w:=(j:Int)) (by omega) (htr j (Nat.le_refl _));have htr2:∀i:Nat,j+1≤i→(tr.set j true).getD i false=false:=fun i hi=>by rw[List.getD_eq_getElem?_getD,List.getElem?_set,if_neg (by omega),←List.getD_eq_getElem?_getD];exact htr i (by omega)
   cases D with
   | nil=>
     repeat' (first
      | with_reducible (first|refine Rd.p ?_|refine w_alt ?_ ?_|refine zE ?_|refine zE0 ?_)
      | with_reducible (first|refine zI fun y hy=>?_|refine zL ?_|refine zS ?_|refine zA fun _=>?_|refine zV ?_|refine zC ?_|refine zG ?_|refine zU ?_|refine zG0 ?_|refine zU0 ?_|refine zF ?_)
      | ((with_reducible refine acall_id ?_);refine ACall.box (one_c _ _ _ (by omega)) rfl rfl rfl ?_;rintro _ _ ⟨b,rfl⟩)
      | with_reducible (first|refine zX ?_|refine zD fun _=>?_|refine zD0 ?_|refine zN ?_|refine zF0 ?_|refine zX0 ?_|refine z1 ?_|refine z2 ?_|refine z3 ?_|refine z4 ?_|refine z5 ?_|refine z6 ?_|refine z7 ?_|refine z8 ?_|refine y1 ?_|refine y2 ?_|refine y3 ?_|refine y4 ?_|refine y5 ?_|refine y6 ?_|refine y7 ?_|refine y8 ?_|refine Rt.p (fun _=>?_) fun _=>?_)
      | ((with_reducible apply w_ixM);(focus exact rfl);(focus exact rfl);case' hk=>intro y hy)|((with_reducible (first | apply w_val | apply q_ends));(focus exact rfl)))
     all_goals first|(exfalso;omega)|exact q_loop ([⟨1,0,0,(j:Int),0⟩],tr.set j true,_,_,j+1) ⟨hmk2,by show j+1≤_;omega,Nat.le_add_left _ _,htr2⟩ (by show _-(j+1)<_-j;omega) ⟨int_eq (by simp),trivial⟩ aS aK aK|exact q_loop ([],tr,_,gd,j+1) ⟨hmk,by show j+1≤_;omega,Nat.zero_le _,fun i hi=>htr i (by dsimp only at hi;omega)⟩ (by show _-(j+1)<_-j;omega) ⟨int_eq (by simp),trivial⟩ aS aK aK
   | cons x l=>
     have hxl:(dlR (x::l)).length=(x::l).length:=List.length_map _
     repeat' (first
      | with_reducible (first|refine Rd.p ?_|refine w_alt ?_ ?_|refine zE ?_|refine zE0 ?_)
      | with_reducible (first|refine zI fun y hy=>?_|refine zL ?_|refine zS ?_|refine zA fun _=>?_|refine zV ?_|refine zC ?_|refine zG ?_|refine zU ?_|refine zG0 ?_|refine zU0 ?_|refine zF ?_)
      | ((with_reducible refine acall_id ?_);refine ACall.box (one_c _ _ _ (by omega)) rfl rfl rfl ?_;rintro _ _ ⟨b,rfl⟩)
      | with_reducible (first|refine zX ?_|refine zD fun _=>?_|refine zD0 ?_|refine zN ?_|refine zF0 ?_|refine zX0 ?_|refine z1 ?_|refine z2 ?_|refine z3 ?_|refine z4 ?_|refine z5 ?_|refine z6 ?_|refine z7 ?_|refine z8 ?_|refine y1 ?_|refine y2 ?_|refine y3 ?_|refine y4 ?_|refine y5 ?_|refine y6 ?_|refine y7 ?_|refine y8 ?_|refine Rt.p (fun _=>?_) fun _=>?_)
      | ((with_reducible apply w_ixM);(focus exact rfl);(focus exact rfl);case' hk=>intro y hy)|((with_reducible (first | apply w_val | apply q_ends));(focus exact rfl)))
     all_goals first|(exfalso;omega)|exact q_loop (x::l++[⟨1,0,0,(j:Int),0⟩],tr.set j true,_,_,j+1) ⟨hmk2,by show j+1≤_;omega,by show (x::l++[_]).length≤j+1;rw[len_snoc];omega,htr2⟩ (by show _-(j+1)<_-j;omega) ⟨int_eq (by simp),trivial⟩ ⟨rfl,sl9 ⟨1,0,0,(j:Int),0⟩ _,rfl,trivial⟩ aK aK|exact q_loop (x::l,tr,_,gd,j+1) ⟨hmk,by show j+1≤_;omega,by show (x::l).length≤j+1;omega,fun i hi=>htr i (by dsimp only at hi;omega)⟩ (by show _-(j+1)<_-j;omega) ⟨int_eq (by simp),trivial⟩ aS aK aK
 subst hjn;clear htr hj
 repeat' (first
  | with_reducible (first|refine Rd.p ?_|refine w_alt ?_ ?_|refine zE ?_|refine zE0 ?_)
  | with_reducible (first|refine zI fun y hy=>?_|refine zL ?_|refine zS ?_|refine zA fun _=>?_|refine zV ?_|refine zC ?_|refine zG ?_|refine zU ?_|refine zG0 ?_|refine zU0 ?_|refine zF ?_)
  | ((with_reducible refine acall_id ?_);refine ACall.box (upp_c _ _ 2 (by omega) (by omega)) rfl rfl rfl ?_;rintro _ _ ⟨bg,rfl,hbg1,hbg2⟩)
  | with_reducible (first|refine zX ?_|refine zD fun _=>?_|refine zD0 ?_|refine zN ?_|refine zF0 ?_|refine zX0 ?_|refine z1 ?_|refine z2 ?_|refine z3 ?_|refine z4 ?_|refine z5 ?_|refine z6 ?_|refine z7 ?_|refine z8 ?_|refine y1 ?_|refine y2 ?_|refine y3 ?_|refine y4 ?_|refine y5 ?_|refine y6 ?_|refine y7 ?_|refine y8 ?_|refine Rt.p (fun _=>?_) fun _=>?_)
  | ((with_reducible apply w_ixM);(focus exact rfl);(focus exact rfl);case' hk=>intro y hy)|((with_reducible (first | apply w_val | apply q_ends));(focus exact rfl)))
 rename_i w1 g12
 refine w_loopK [0,2,3,8,9,11,12] [8] (fun x:List Dl×Tb×Int×Nat×Int×Nat=>mkG ws.length x.1 x.2.1 x.2.2.1∧x.2.2.2.1≤10∧x.1.length≤22∧0≤x.2.2.1∧x.2.2.1≤drawn∧x.2.1.cens≤cens)
  (fun x=>10-x.2.2.2.1) (fun x=>[(13,.int .i64 x.2.1.mixed),(14,.int .i64 x.2.2.1),(15,.int .i64 x.2.1.cens),(16,.int .i64 (x.2.2.2.1:Int))]) (fun x=>[(1000,(g,.row [.int .u64 x.2.2.2.2.1])),(9,(g9,.row [.slc 2 (wR ws) .non,dlV x.1 x.2.2.2.2.2])),(42,dlX x.1 x.2.2.2.2.2),(12,(g12,.row (nI x.2.1.bags)))]) (D,{tb0 with tried:=tr },0,0,w1,gd) ⟨hmk,Nat.zero_le _,by dsimp only;omega,Int.le_refl _,by dsimp only;omega,by show (0:Int)≤cens;omega⟩ ⟨rfl,rfl,rfl,rfl,trivial⟩ ⟨rfl,rfl,rfl,rfl,trivial⟩ ?_
 clear hmk hDl;rintro⟨D,T,had,turn,w,gd⟩ ⟨hmk,hturn,hDl,hh0,hhd,hcn⟩ e σ;dsimp only at hmk hturn hDl hh0 hhd hcn ⊢;have hok:=hmk.ok;have hb4:=hok.b;have hm:=hok.m;have hcc:=hok.c;by_cases hgo:turn<10∧D.length<22
 · cases D with
   | nil=>
     repeat' (first
      | with_reducible (first|refine Rd.p ?_|refine w_alt ?_ ?_|refine zE ?_|refine zE0 ?_)
      | with_reducible (first|refine zI fun y hy=>?_|refine zL ?_|refine zS ?_|refine zA fun _=>?_|refine zV ?_|refine zC ?_|refine zG ?_|refine zU ?_|refine zG0 ?_|refine zU0 ?_|refine zF ?_)
      | ((with_reducible refine acall_id ?_);refine ACall.box (upp_c _ _ (1+bg) (by omega) (by omega)) rfl rfl rfl ?_;rintro _ _ ⟨bag,rfl,hbag1,hbag2⟩)
      | with_reducible (first|refine zX ?_|refine zD fun _=>?_|refine zD0 ?_|refine zN ?_|refine zF0 ?_|refine zX0 ?_|refine z1 ?_|refine z2 ?_|refine z3 ?_|refine z4 ?_|refine z5 ?_|refine z6 ?_|refine z7 ?_|refine z8 ?_|refine y1 ?_|refine y2 ?_|refine y3 ?_|refine y4 ?_|refine y5 ?_|refine y6 ?_|refine y7 ?_|refine y8 ?_|refine Rt.p (fun _=>?_) fun _=>?_)
      | ((with_reducible apply w_ixM);(focus exact rfl);(focus exact rfl);case' hk=>intro y hy)|((with_reducible (first | apply w_val | apply q_ends));(focus exact rfl)))
     repeat' (first
      | with_reducible (first|refine Rd.p ?_|refine w_alt ?_ ?_|refine zE ?_|refine zE0 ?_)
      | (first|(refine w_ldBag (p:=bag.toNat) hok rfl (by omega) rfl (by omega) ?_;intro hbdB)|(refine w_ldBag (p:=oth.toNat) hok rfl (by omega) rfl (by omega) ?_;intro hbdO)|refine w_stEl (p:=bag.toNat) rfl (by omega) rfl (by first | omega|(rw[List.length_set];omega)) rfl ?_|refine w_stEl (p:=oth.toNat) rfl (by omega) rfl (by omega) rfl ?_)
      | with_reducible (first|refine zI fun y hy=>?_|refine zL ?_|refine zS ?_|refine zA fun _=>?_|refine zV ?_|refine zC ?_|refine zG ?_|refine zU ?_|refine zG0 ?_|refine zU0 ?_|refine zF ?_)
      | ((with_reducible refine acall_id ?_);refine ACall.box (upp_c _ _ 7 (by omega) (by omega)) rfl rfl rfl ?_;rintro _ _ ⟨kd,rfl,hkd1,hkd2⟩)
      | ((with_reducible refine acall_id ?_);refine ACall.box (upp_c _ _ (1+bg) (by omega) (by omega)) rfl rfl rfl ?_;rintro _ _ ⟨oth,rfl,ho1,ho2⟩)
      | ((with_reducible refine acall_id ?_);refine ACall.box (any_c _ _ _ _ (by omega) (by omega) (by omega) (by omega)) rfl rfl rfl ?_;rintro _ _ ⟨c,rfl,hc1,hc2⟩)
      | ((with_reducible refine acall_id ?_);refine ACall.box (upp_c _ _ _ (by omega) (by omega)) rfl rfl rfl ?_;rintro _ _ ⟨wd,rfl,hw1,hw2⟩)
      | ((with_reducible refine acall_id ?_);refine ACall.box (one_c _ _ _ (by omega)) rfl rfl rfl ?_;rintro _ _ ⟨b,rfl⟩)
      | with_reducible (first|refine zX ?_|refine zD fun _=>?_|refine zD0 ?_|refine zN ?_|refine zF0 ?_|refine zX0 ?_|refine z1 ?_|refine z2 ?_|refine z3 ?_|refine z4 ?_|refine z5 ?_|refine z6 ?_|refine z7 ?_|refine z8 ?_|refine y1 ?_|refine y2 ?_|refine y3 ?_|refine y4 ?_|refine y5 ?_|refine y6 ?_|refine y7 ?_|refine y8 ?_|refine Rt.p (fun _=>?_) fun _=>?_)
      | ((with_reducible apply w_ixM);(focus exact rfl);(focus exact rfl);case' hk=>intro y hy)|((with_reducible (first | apply w_val | apply q_ends));(focus exact rfl)))
     all_goals first
      | (exfalso;omega)
      | (have hq:kd≤2∧T.mixed+c≤12:=by omega
         exact q_loop ([⟨2,bag,0,wd,c⟩],{T with mixed:=T.mixed+c,bags:=setI T.bags bag (atI T.bags bag+c) },had,turn+1,_,_) ⟨hmk.mix (by omega) (by omega) (by omega) (by omega),by show turn+1≤10;omega,by show (1:Nat)≤22;decide,by dsimp only;omega,by dsimp only;omega,by dsimp only;omega⟩ (by show 10-(turn+1)<10-turn;omega) ⟨rfl,rfl,rfl,int_eq (by simp),trivial⟩ ⟨rfl,rfl,rfl,rfl,trivial⟩ aK aK)
      | (have hq:kd=3∧bag≠oth:=by omega
         exact q_loop ([⟨3,bag,oth,0,0⟩],{T with bags:=setI (setI T.bags oth (atI T.bags oth+atI T.bags bag)) bag 0 },had,turn+1,_,_) ⟨hmk.pour (by omega) (by omega) (by omega),by show turn+1≤10;omega,by show (1:Nat)≤22;decide,by dsimp only;omega,by dsimp only;omega,by dsimp only;omega⟩ (by show 10-(turn+1)<10-turn;omega) ⟨rfl,rfl,rfl,int_eq (by simp),trivial⟩ ⟨rfl,rfl,rfl,rfl,trivial⟩ aK aK)
      | (have hq:kd=4∧c≤T.bags.getD bag.toNat 0∧had+c≤drawn:=by omega
         exact q_loop ([⟨4,bag,0,0,c⟩],{T with bags:=setI T.bags bag (atI T.bags bag-c) },had+c,turn+1,_,_) ⟨hmk.aside (by omega) (by unfold atI;omega),by show turn+1≤10;omega,by show (1:Nat)≤22;decide,by dsimp only;omega,by dsimp only;omega,by dsimp only;omega⟩ (by show 10-(turn+1)<10-turn;omega) ⟨rfl,rfl,rfl,int_eq (by simp),trivial⟩ ⟨rfl,rfl,rfl,rfl,trivial⟩ aK aK)
      | (have hq:kd=5∧c≤T.bags.getD bag.toNat 0∧had+c≤drawn∧T.cens+c≤cens:=by omega
         exact q_loop ([⟨5,bag,0,0,c⟩],{T with bags:=setI T.bags bag (atI T.bags bag-c),cens:=T.cens+c },had+c,turn+1,_,_) ⟨hmk.pass (by omega) (by unfold atI;omega) (by omega),by show turn+1≤10;omega,by show (1:Nat)≤22;decide,by dsimp only;omega,by dsimp only;omega,by dsimp only;omega⟩ (by show 10-(turn+1)<10-turn;omega) ⟨rfl,rfl,rfl,int_eq (by simp),trivial⟩ ⟨rfl,rfl,rfl,rfl,trivial⟩ aK aK)
      | (have hq:kd=6∧T.cens<cens:=by omega
         exact q_loop ([⟨6,0,0,wd,0⟩],{T with cens:=T.cens+1 },had,turn+1,_,_) ⟨hmk.place (by omega) (by omega),by show turn+1≤10;omega,by show (1:Nat)≤22;decide,by dsimp only;omega,by dsimp only;omega,by dsimp only;omega⟩ (by show 10-(turn+1)<10-turn;omega) ⟨rfl,rfl,rfl,int_eq (by simp),trivial⟩ ⟨rfl,rfl,rfl,rfl,trivial⟩ aK aK)
      | exact q_loop ([],T,had,turn+1,_,gd) ⟨hmk,by show turn+1≤10;omega,by show (([]:List Dl)).length≤22;decide,by dsimp only;omega,by dsimp only;omega,by dsimp only;omega⟩ (by show 10-(turn+1)<10-turn;omega) ⟨rfl,rfl,rfl,int_eq (by simp),trivial⟩ aS aK aK
   | cons x l=>
     have hxl:(dlR (x::l)).length=(x::l).length:=List.length_map _
     repeat' (first
      | with_reducible (first|refine Rd.p ?_|refine w_alt ?_ ?_|refine zE ?_|refine zE0 ?_)
      | with_reducible (first|refine zI fun y hy=>?_|refine zL ?_|refine zS ?_|refine zA fun _=>?_|refine zV ?_|refine zC ?_|refine zG ?_|refine zU ?_|refine zG0 ?_|refine zU0 ?_|refine zF ?_)
      | ((with_reducible refine acall_id ?_);refine ACall.box (upp_c _ _ (1+bg) (by omega) (by omega)) rfl rfl rfl ?_;rintro _ _ ⟨bag,rfl,hbag1,hbag2⟩)
      | with_reducible (first|refine zX ?_|refine zD fun _=>?_|refine zD0 ?_|refine zN ?_|refine zF0 ?_|refine zX0 ?_|refine z1 ?_|refine z2 ?_|refine z3 ?_|refine z4 ?_|refine z5 ?_|refine z6 ?_|refine z7 ?_|refine z8 ?_|refine y1 ?_|refine y2 ?_|refine y3 ?_|refine y4 ?_|refine y5 ?_|refine y6 ?_|refine y7 ?_|refine y8 ?_|refine Rt.p (fun _=>?_) fun _=>?_)
      | ((with_reducible apply w_ixM);(focus exact rfl);(focus exact rfl);case' hk=>intro y hy)|((with_reducible (first | apply w_val | apply q_ends));(focus exact rfl)))
     repeat' (first
      | with_reducible (first|refine Rd.p ?_|refine w_alt ?_ ?_|refine zE ?_|refine zE0 ?_)
      | (first|(refine w_ldBag (p:=bag.toNat) hok rfl (by omega) rfl (by omega) ?_;intro hbdB)|(refine w_ldBag (p:=oth.toNat) hok rfl (by omega) rfl (by omega) ?_;intro hbdO)|refine w_stEl (p:=bag.toNat) rfl (by omega) rfl (by first | omega|(rw[List.length_set];omega)) rfl ?_|refine w_stEl (p:=oth.toNat) rfl (by omega) rfl (by omega) rfl ?_)
      | with_reducible (first|refine zI fun y hy=>?_|refine zL ?_|refine zS ?_|refine zA fun _=>?_|refine zV ?_|refine zC ?_|refine zG ?_|refine zU ?_|refine zG0 ?_|refine zU0 ?_|refine zF ?_)
      | ((with_reducible refine acall_id ?_);refine ACall.box (upp_c _ _ 7 (by omega) (by omega)) rfl rfl rfl ?_;rintro _ _ ⟨kd,rfl,hkd1,hkd2⟩)
      | ((with_reducible refine acall_id ?_);refine ACall.box (upp_c _ _ (1+bg) (by omega) (by omega)) rfl rfl rfl ?_;rintro _ _ ⟨oth,rfl,ho1,ho2⟩)
      | ((with_reducible refine acall_id ?_);refine ACall.box (any_c _ _ _ _ (by omega) (by omega) (by omega) (by omega)) rfl rfl rfl ?_;rintro _ _ ⟨c,rfl,hc1,hc2⟩)
      | ((with_reducible refine acall_id ?_);refine ACall.box (upp_c _ _ _ (by omega) (by omega)) rfl rfl rfl ?_;rintro _ _ ⟨wd,rfl,hw1,hw2⟩)
      | ((with_reducible refine acall_id ?_);refine ACall.box (one_c _ _ _ (by omega)) rfl rfl rfl ?_;rintro _ _ ⟨b,rfl⟩)
      | with_reducible (first|refine zX ?_|refine zD fun _=>?_|refine zD0 ?_|refine zN ?_|refine zF0 ?_|refine zX0 ?_|refine z1 ?_|refine z2 ?_|refine z3 ?_|refine z4 ?_|refine z5 ?_|refine z6 ?_|refine z7 ?_|refine z8 ?_|refine y1 ?_|refine y2 ?_|refine y3 ?_|refine y4 ?_|refine y5 ?_|refine y6 ?_|refine y7 ?_|refine y8 ?_|refine Rt.p (fun _=>?_) fun _=>?_)
      | ((with_reducible apply w_ixM);(focus exact rfl);(focus exact rfl);case' hk=>intro y hy)|((with_reducible (first | apply w_val | apply q_ends));(focus exact rfl)))
     all_goals first
      | (exfalso;omega)
      | (have hq:kd≤2∧T.mixed+c≤12:=by omega
         exact q_loop (x::l++[⟨2,bag,0,wd,c⟩],{T with mixed:=T.mixed+c,bags:=setI T.bags bag (atI T.bags bag+c) },had,turn+1,_,_) ⟨hmk.mix (by omega) (by omega) (by omega) (by omega),by show turn+1≤10;omega,by show (x::l++[_]).length≤22;rw[len_snoc];omega,by dsimp only;omega,by dsimp only;omega,by dsimp only;omega⟩ (by show 10-(turn+1)<10-turn;omega) ⟨rfl,rfl,rfl,int_eq (by simp),trivial⟩ ⟨rfl,sl9 ⟨2,bag,0,wd,c⟩ _,rfl,rfl,trivial⟩ aK aK)
      | (have hq:kd=3∧bag≠oth:=by omega
         exact q_loop (x::l++[⟨3,bag,oth,0,0⟩],{T with bags:=setI (setI T.bags oth (atI T.bags oth+atI T.bags bag)) bag 0 },had,turn+1,_,_) ⟨hmk.pour (by omega) (by omega) (by omega),by show turn+1≤10;omega,by show (x::l++[_]).length≤22;rw[len_snoc];omega,by dsimp only;omega,by dsimp only;omega,by dsimp only;omega⟩ (by show 10-(turn+1)<10-turn;omega) ⟨rfl,rfl,rfl,int_eq (by simp),trivial⟩ ⟨rfl,sl9 ⟨3,bag,oth,0,0⟩ _,rfl,rfl,trivial⟩ aK aK)
      | (have hq:kd=4∧c≤T.bags.getD bag.toNat 0∧had+c≤drawn:=by omega
         exact q_loop (x::l++[⟨4,bag,0,0,c⟩],{T with bags:=setI T.bags bag (atI T.bags bag-c) },had+c,turn+1,_,_) ⟨hmk.aside (by omega) (by unfold atI;omega),by show turn+1≤10;omega,by show (x::l++[_]).length≤22;rw[len_snoc];omega,by dsimp only;omega,by dsimp only;omega,by dsimp only;omega⟩ (by show 10-(turn+1)<10-turn;omega) ⟨rfl,rfl,rfl,int_eq (by simp),trivial⟩ ⟨rfl,sl9 ⟨4,bag,0,0,c⟩ _,rfl,rfl,trivial⟩ aK aK)
      | (have hq:kd=5∧c≤T.bags.getD bag.toNat 0∧had+c≤drawn∧T.cens+c≤cens:=by omega
         exact q_loop (x::l++[⟨5,bag,0,0,c⟩],{T with bags:=setI T.bags bag (atI T.bags bag-c),cens:=T.cens+c },had+c,turn+1,_,_) ⟨hmk.pass (by omega) (by unfold atI;omega) (by omega),by show turn+1≤10;omega,by show (x::l++[_]).length≤22;rw[len_snoc];omega,by dsimp only;omega,by dsimp only;omega,by dsimp only;omega⟩ (by show 10-(turn+1)<10-turn;omega) ⟨rfl,rfl,rfl,int_eq (by simp),trivial⟩ ⟨rfl,sl9 ⟨5,bag,0,0,c⟩ _,rfl,rfl,trivial⟩ aK aK)
      | (have hq:kd=6∧T.cens<cens:=by omega
         exact q_loop (x::l++[⟨6,0,0,wd,0⟩],{T with cens:=T.cens+1 },had,turn+1,_,_) ⟨hmk.place (by omega) (by omega),by show turn+1≤10;omega,by show (x::l++[_]).length≤22;rw[len_snoc];omega,by dsimp only;omega,by dsimp only;omega,by dsimp only;omega⟩ (by show 10-(turn+1)<10-turn;omega) ⟨rfl,rfl,rfl,int_eq (by simp),trivial⟩ ⟨rfl,sl9 ⟨6,0,0,wd,0⟩ _,rfl,rfl,trivial⟩ aK aK)
      | exact q_loop (x::l,T,had,turn+1,_,gd) ⟨hmk,by show turn+1≤10;omega,by show (x::l).length≤22;omega,by dsimp only;omega,by dsimp only;omega,by dsimp only;omega⟩ (by show 10-(turn+1)<10-turn;omega) ⟨rfl,rfl,rfl,int_eq (by simp),trivial⟩ aS aK aK
 · have hstop:¬(turn:Int)<10∨(turn:Int)<10∧ ¬(D.length:Int)<22:=by omega
   cases D with
   | nil=>
     have hT:tb0=T:=hmk.t;subst hT;have hz:([]:List Dl).length=0:=rfl;have hb0:tb0.bags.getD 0 0=0:=rfl;have hc0:tb0.cens=0:=rfl
     repeat' (first
      | with_reducible (first|refine Rd.p ?_|refine w_alt ?_ ?_|refine zE ?_|refine zE0 ?_)
      | (first|refine w_ldEl (p:=0) rfl rfl rfl (by decide) ?_)
      | with_reducible (first|refine zI fun y hy=>?_|refine zL ?_|refine zS ?_|refine zA fun _=>?_|refine zV ?_|refine zC ?_|refine zG ?_|refine zU ?_|refine zG0 ?_|refine zU0 ?_|refine zF ?_)
      | ((with_reducible refine acall_id ?_);refine ACall.box (upp_c _ _ _ (by omega) (by omega)) rfl rfl rfl ?_;rintro _ _ ⟨wd,rfl,hwd1,hwd2⟩)
      | with_reducible (first|refine zX ?_|refine zD fun _=>?_|refine zD0 ?_|refine zN ?_|refine zF0 ?_|refine zX0 ?_|refine z1 ?_|refine z2 ?_|refine z3 ?_|refine z4 ?_|refine z5 ?_|refine z6 ?_|refine z7 ?_|refine z8 ?_|refine y1 ?_|refine y2 ?_|refine y3 ?_|refine y4 ?_|refine y5 ?_|refine y6 ?_|refine y7 ?_|refine y8 ?_|refine Rt.p (fun _=>?_) fun _=>?_)
      | ((with_reducible apply w_ixM);(focus exact rfl);(focus exact rfl);case' hk=>intro y hy)|((with_reducible (first | apply w_val | apply q_ends));(focus exact rfl)))
     all_goals first|(exfalso;omega)|exact⟨_,⟨⟨ws,[⟨6,0,0,wd,0⟩]⟩,rfl,mkG.made (G:=⟨ws,[⟨6,0,0,wd,0⟩]⟩) (hmk.place (by omega) (by omega)) hmw hw1 hw2 h1.2 (by show (1:Nat)≤24;decide) hhd ⟨by show (1:Int)≤tb0.cens+1;omega,by show tb0.cens+1≤cens;omega⟩⟩,rfl⟩
   | cons x l=>
     have hxl:(dlR (x::l)).length=(x::l).length:=List.length_map _;rcases hstop with hstop | ⟨hstop,hstop2⟩
     all_goals
      repeat' (first
       | with_reducible (first|refine Rd.p ?_|refine w_alt ?_ ?_|refine zE ?_|refine zE0 ?_)
       | (first|(refine w_ldBag (p:=0) hok rfl rfl rfl (by decide) ?_;intro hbd0))
       | with_reducible (first|refine zI fun y hy=>?_|refine zL ?_|refine zS ?_|refine zA fun _=>?_|refine zV ?_|refine zC ?_|refine zG ?_|refine zU ?_|refine zG0 ?_|refine zU0 ?_|refine zF ?_)
       | ((with_reducible refine acall_id ?_);refine ACall.box (upp_c _ _ _ (by omega) (by omega)) rfl rfl rfl ?_;rintro _ _ ⟨wd,rfl,hwd1,hwd2⟩)
       | with_reducible (first|refine zX ?_|refine zD fun _=>?_|refine zD0 ?_|refine zN ?_|refine zF0 ?_|refine zX0 ?_|refine z1 ?_|refine z2 ?_|refine z3 ?_|refine z4 ?_|refine z5 ?_|refine z6 ?_|refine z7 ?_|refine z8 ?_|refine y1 ?_|refine y2 ?_|refine y3 ?_|refine y4 ?_|refine y5 ?_|refine y6 ?_|refine y7 ?_|refine y8 ?_|refine Rt.p (fun _=>?_) fun _=>?_)
       | ((with_reducible apply w_ixM);(focus exact rfl);(focus exact rfl);case' hk=>intro y hy)|((with_reducible (first | apply w_val | apply q_ends));(focus exact rfl)))
      all_goals first
       | (exfalso;omega)
       | (have hq:0<min (min (T.bags.getD 0 0) (drawn-had)) (cens-T.cens):=by omega
          exact⟨_,⟨⟨ws,x::l++[⟨5,0,0,0,min (min (T.bags.getD 0 0) (drawn-had)) (cens-T.cens)⟩]⟩,by
           show AV.agg [AV.slc 2 (wR ws) .non,AV.slc 5 _ .non]=_
           exact gm_snoc (ws:=ws) (x:=x) (l:=l) ⟨5,0,0,0,min (min (T.bags.getD 0 0) (drawn-had)) (cens-T.cens)⟩,mkG.made (G:=⟨ws,x::l++[⟨5,0,0,0,min (min (T.bags.getD 0 0) (drawn-had)) (cens-T.cens)⟩]⟩) (hmk.pass (b:=0) (by omega) (by unfold atI;rw[show (0:Int).toNat=0 from rfl];omega) (by omega)) hmw hw1 hw2 h1.2 (by show (x::l++[_]).length≤24;rw[len_snoc];omega) (by omega) ⟨by dsimp only;omega,by dsimp only;omega⟩⟩,rfl⟩)
       | (have hq:T.cens=0:=by omega
          exact⟨_,⟨⟨ws,x::l++[⟨6,0,0,wd,0⟩]⟩,by
           show AV.agg [AV.slc 2 (wR ws) .non,AV.slc 5 _ .non]=_
           exact gm_snoc (ws:=ws) (x:=x) (l:=l) ⟨6,0,0,wd,0⟩,mkG.made (G:=⟨ws,x::l++[⟨6,0,0,wd,0⟩]⟩) (hmk.place (by omega) (by omega)) hmw hw1 hw2 h1.2 (by show (x::l++[_]).length≤24;rw[len_snoc];omega) hhd ⟨by dsimp only;omega,by dsimp only;omega⟩⟩,rfl⟩)
       | exact⟨_,⟨⟨ws,x::l⟩,rfl,mkG.made (G:=⟨ws,x::l⟩) hmk hmw hw1 hw2 h1.2 (by show (x::l).length≤24;omega) hhd ⟨by omega,hcn⟩⟩,rfl⟩
section
variable {P:Program} {α:Type} {row:α→List AV} {sz:Nat}
theorem setL_get2{β:Type}:∀(xs pre ys post:List β),xs.length=ys.length→setL (pre++ys++post) pre.length xs=pre++xs++post
 | [],pre,[],post,_=>rfl
 | [],pre,y::ys,post,h=>by simp at h
 | x::xs,pre,[],post,h=>by simp at h
 | x::xs,pre,y::ys,post,h=>by
   have e:(pre++(y::ys)++post).set pre.length x=(pre++[x])++ys++post:=by simp
   rw[setL,e,show pre.length+1=(pre++[x]).length by simp,setL_get2 xs (pre++[x]) ys post (by simpa using h)];simp
theorem FlatR.setRow(h:FlatR row sz){pre post:List α}{y y':α}:setL ((pre++y::post).map row).flatten (pre.length*sz) (row y')=((pre++y'::post).map row).flatten:=by
 have e:∀z,((pre++z::post).map row).flatten=(pre.map row).flatten++row z++(post.map row).flatten:=fun z=>by simp
 rw[e,e,←h.flat_len pre];exact setL_get2 _ _ _ _ (by rw[h.len,h.len])
end
def goV(s:Nat)(l:List (List Int×Int))(h:Nat):AV:=match l with
 | []=> .nsl
 | _::_=> .slc 1 (llR (l.map (·.1))) (.own s h)
def goW(s:Nat)(l:List (List Int×Int))(h:Nat):AV:=match l with
 | []=> .nsl
 | _::_=> .slc 1 (iR (l.map (·.2))) (.own s h)
def goX(l:List (List Int×Int))(h:Nat):Nat×Res:=match l with
 | []=>(0,.dead)
 | _::_=>(h,.row [])
abbrev soR(G:Gm)(A:List Dl)(m:Int)(x y:AV):List AV:=[.slc 2 (wR G.ws) .non,.slc 5 (dlR G.ds) .non,.slc 5 (dlR A) .non,.int .i64 m,x,y]
abbrev soS(s g:Nat)(G:Gm)(A:List Dl)(m:Int)(l:List (List Int×Int))(h1 h2:Nat):List (Nat×(Nat×Res)):=[(1000,(g,.row (soR G A m (goV s l h1) (goW (s+1) l h2)))),(s,goX l h1),(s+1,goX l h2)]
theorem ren_goV{ρ:List (Nat×Nat)}{s q:Nat}(h:lk ρ s=some q)(l:List (List Int×Int))(g:Nat):ren ρ (goV s l g)=goV q l g:=by
 cases l with
 | nil=>rfl
 | cons x r=>
   show AV.slc 1 (llR ((x::r).map (·.1))) (renT ρ (.own s g))=_
   simp only[renT,h];rfl
theorem ren_goW{ρ:List (Nat×Nat)}{s q:Nat}(h:lk ρ s=some q)(l:List (List Int×Int))(g:Nat):ren ρ (goW s l g)=goW q l g:=by
 cases l with
 | nil=>rfl
 | cons x r=>
   show AV.slc 1 (iR ((x::r).map (·.2))) (renT ρ (.own s g))=_
   simp only[renT,h];rfl
theorem goX_ren{ρ:List (Nat×Nat)}(l:List (List Int×Int))(h:Nat):((goX l h).1,renR ρ (goX l h).2)=goX l h:=by cases l<;>rfl
theorem ACall.so{P:Program}{f:Nat}{args0 args:List AV}{s0 p g h1 h2 d:Nat}{G:Gm}{A:List Dl}{m:Int}{l:List (List Int×Int)}{C:List (List Int×Int)→Prop}{σ:Sig}{Q:AV→Sig→Prop}(h:RawC P f args0 (sg (soS s0 g G A m l h1 h2)) (SR (fun (x:List (List Int×Int)×Nat×Nat) _=>C x.1) (fun x=>soS s0 g G A m x.1 x.2.1 x.2.2)))(hp1:p≠2001)(hp2:p≠2002)(hr1:renOK [(s0,2001),(s0+1,2002),(1000,p)]=true)(hr2:renOK [(1000,p),(s0,2001),(s0+1,2002)]=true)(l1:lk [(s0,2001),(s0+1,2002),(1000,p)] s0=some 2001)(l2:lk [(s0,2001),(s0+1,2002),(1000,p)] (s0+1)=some 2002)(l3:lk [(1000,p),(s0,2001),(s0+1,2002)] s0=some 2001)(l4:lk [(1000,p),(s0,2001),(s0+1,2002)] (s0+1)=some 2002)(l5:lk (flipL [(1000,p),(s0,2001),(s0+1,2002)]) 2001=some s0)(l6:lk (flipL [(1000,p),(s0,2001),(s0+1,2002)]) 2002=some (s0+1))(n1:Nat.beq 1000 s0=false)(n2:Nat.beq 1000 (s0+1)=false)(n3:Nat.beq s0 (s0+1)=false)(ha1:args0=renL (flipL [(1000,p)]) args)(ha2:args0=renL (flipL [(1000,p),(s0,2001),(s0+1,2002)]) args)(hp:σ p=(g,.row (soR G A m (goV 2001 l h1) (goW 2002 l h2))))(hσ1:σ 2001=goX l h1)(hσ2:σ 2002=goX l h2)(hQ:∀(x:List (List Int×Int)) (k1 k2:Nat) av,C x→Q av (upd (upd (upd σ 2002 (goX x k2)) 2001 (goX x k1)) p (g,.row (soR G A m (goV 2001 x k1) (goW 2002 x k2))))):ACall P f args σ d Q:=by
 have y1:Nat.ble YS 2001=true:=rfl;have y2:Nat.ble YS 2002=true:=rfl;have hos:outsB d [(s0,2001),(s0+1,2002)]=true:=by simp[outsB,y1,y2]
 cases l with
 | nil=>
   have e0:sg (soS s0 g G A m [] h1 h2)=sg [(1000,(g,.row (soR G A m .nsl .nsl)))]:=by
    funext j
    show (match Nat.beq 1000 j with | true=>_ | false=>(match Nat.beq s0 j with | true=>((0,Res.dead):Nat×Res) | false=>(match Nat.beq (s0+1) j with | true=>(0,.dead) | false=>(0,.dead))))=(match Nat.beq 1000 j with | true=>_ | false=>_)
    split
    · rfl
    · split
      · rfl
      · split<;>rfl
   rw[e0] at h;refine ACall.liftN h [(1000,p)] [(s0,2001),(s0+1,2002)] hos hr1 ha1 ?_ ⟨⟨_,by rw[hp]⟩,trivial⟩ fun av σ0' hR=>?_
   · show _=[(1000,((σ p).1,renR _ (σ p).2))]
     rw[hp];rfl
   · obtain⟨⟨x,a,b⟩,hv,hsl⟩:=hR;obtain⟨k1,k2,k3,-⟩:=hsl;show Q _ (upd (upd (upd σ p ((σ0' 1000).1,renR [(s0,2001),(s0+1,2002),(1000,p)] (σ0' 1000).2)) 2002 ((σ0' (s0+1)).1,renR [(s0,2001),(s0+1,2002),(1000,p)] (σ0' (s0+1)).2)) 2001 ((σ0' s0).1,renR [(s0,2001),(s0+1,2002),(1000,p)] (σ0' s0).2))
     rw[k1,k2,k3,goX_ren,goX_ren];have e1:renR [(s0,2001),(s0+1,2002),(1000,p)] (.row (soR G A m (goV s0 x a) (goW (s0+1) x b)))= .row (soR G A m (goV 2001 x a) (goW 2002 x b)):=by
      show Res.row [_,_,_,_,ren _ (goV s0 x a),ren _ (goW (s0+1) x b)]=_
      rw[ren_goV l1,ren_goW l2];rfl
     show Q _ (upd (upd (upd σ p (g,renR [(s0,2001),(s0+1,2002),(1000,p)] (.row (soR G A m (goV s0 x a) (goW (s0+1) x b))))) 2002 (goX x b)) 2001 (goX x a))
     rw[e1,upd_comm hp2,upd_comm hp1];exact hQ x a b _ hv
 | cons c cs=>
   refine ACall.liftN h [(1000,p),(s0,2001),(s0+1,2002)] [] rfl hr2 ha2 ?_ ⟨⟨_,by rw[hp]⟩,⟨[],by rw[hσ1];rfl⟩,⟨[],by rw[hσ2];rfl⟩,trivial⟩ fun av σ0' hR=>?_
   · show _=[(1000,((σ p).1,renR (flipL [(1000,p),(s0,2001),(s0+1,2002)]) (σ p).2)),(s0,((σ 2001).1,renR (flipL [(1000,p),(s0,2001),(s0+1,2002)]) (σ 2001).2)),(s0+1,((σ 2002).1,renR (flipL [(1000,p),(s0,2001),(s0+1,2002)]) (σ 2002).2))]
     rw[hp,hσ1,hσ2,goX_ren,goX_ren];have e1:renR (flipL [(1000,p),(s0,2001),(s0+1,2002)]) (.row (soR G A m (goV 2001 (c::cs) h1) (goW 2002 (c::cs) h2)))= .row (soR G A m (goV s0 (c::cs) h1) (goW (s0+1) (c::cs) h2)):=by
      show Res.row [_,_,_,_,ren _ (goV 2001 (c::cs) h1),ren _ (goW 2002 (c::cs) h2)]=_
      rw[ren_goV l5,ren_goW l6];rfl
     rw[e1]
   · obtain⟨⟨x,a,b⟩,hv,hsl⟩:=hR;obtain⟨k1,k2,k3,-⟩:=hsl;show Q _ (upd (upd (upd σ 2002 ((σ0' (s0+1)).1,renR [(1000,p),(s0,2001),(s0+1,2002)] (σ0' (s0+1)).2)) 2001 ((σ0' s0).1,renR [(1000,p),(s0,2001),(s0+1,2002)] (σ0' s0).2)) p ((σ0' 1000).1,renR [(1000,p),(s0,2001),(s0+1,2002)] (σ0' 1000).2))
     rw[k1,k2,k3,goX_ren,goX_ren];have e1:renR [(1000,p),(s0,2001),(s0+1,2002)] (.row (soR G A m (goV s0 x a) (goW (s0+1) x b)))= .row (soR G A m (goV 2001 x a) (goW 2002 x b)):=by
      show Res.row [_,_,_,_,ren _ (goV s0 x a),ren _ (goW (s0+1) x b)]=_
      rw[ren_goV l3,ren_goW l4];rfl
     show Q _ (upd (upd (upd σ 2002 (goX x b)) 2001 (goX x a)) p (g,renR [(1000,p),(s0,2001),(s0+1,2002)] (.row (soR G A m (goV s0 x a) (goW (s0+1) x b)))))
     rw[e1];exact hQ x a b _ hv
structure goH (G:Gm) (A:List Dl) (b:List Int) (m:Int):Prop where
 n6:G.ws.length≤6
 t:tbIn b m
 r:runOK G.ws.length (A.map spOf) b m
 B:bgT G.ws.length b bg0
 a:A.length<1000
theorem goH.cnt{G:Gm}{A:List Dl}{b:List Int}{m:Int}(h:goH G A b m){a:AV}{c:List Int}(hc:CV a c)(hl:c.length<1000):FV 193 [.slc 5 (dlR A) .non,bgV bg0,a] (.int .i64 (cntP (A.map spOf) c bg0)):=
 rcount_c _ h.n6 A b m bg0 c a hc h.t h.r h.B h.a hl
theorem szL_bd{n:Nat}:∀{l:List Sp} {b:List Int} {m:Int},tbIn b m→runOK n l b m→ ∀s∈szL l b,1≤s∧s≤12
 | [],_,_,_,_,s,hs=>by cases hs
 | x::r,b,m,ht,h,s,hs=>by
   obtain⟨ht2,_⟩:=ht.step h.1;rw[szL] at hs;by_cases hd:x.2.1=true
   · rw[if_pos hd] at hs;obtain⟨hb,ha⟩:=h.1.d hd;have hle:=ht.le hb;have hsm:=ht.sm;have hm:=ht.m;rcases List.mem_cons.1 hs with rfl | hs
     · omega
     · exact szL_bd ht2 h.2 s hs
   · rw[if_neg hd] at hs;exact szL_bd ht2 h.2 s hs
theorem oneIf_nn(p:Prop)[Decidable p]:0≤oneIf p:=by unfold oneIf;split<;>decide
theorem play_crs{G:Gm}(h0:gmErr G=0){ps:List Int}(h:ps∈allP (szL (stepsG G.ds) tb0.bags)):∃c,playO G ps=(c,0)∧playT (stepsG G.ds) bg0 ps=some c∧(c,cwG G c)∈crsG G:=by
 have hG:=gm_ok h0;obtain⟨c,h1,h2,h3⟩:=play_in hG.n6 tb0_in hG.ex hG.wd (bgT0 _) h;refine⟨c,?_,h1,?_⟩
 · unfold playO;rw[if_pos h0,if_pos (by rw[(allP_mem.1 h).1,szL_len]),playS_T,h1];rfl
 · refine (crsG_mem hG).2 ⟨⟨h2,h3⟩,?_,rfl⟩;have hc:=pick_cnt hG.n6 c tb0_in hG.ex (bgT0 _) h3 h2;have:=lsum_mem (f:=fun ps=>oneIf (playT (stepsG G.ds) bg0 ps=some c)) (fun s _=>oneIf_nn _) ps h;have e:oneIf (playT (stepsG G.ds) bg0 ps=some c)=1:=by unfold oneIf;rw[if_pos h1]
   rw[e,hc] at this;show 0<cntG G.ws.length (stepsG G.ds) c bg0
   omega
structure tbMore (t u:Tb):Prop where
 tr:u.tried=t.tried
 c:u.cens=t.cens
 m:t.mixed≤u.mixed
 bl:t.bags.length=4
 ul:u.bags.length=4
 b:∀i:Int,0≤i∧i≤3→atI t.bags i≤atI u.bags i
theorem tbMore.aside{t u:Tb}(h:tbMore t u){d:Dl}(h0:asideE d t=0):asideE d u=0:=by obtain⟨h1,h2,h3⟩:=aside_0 h0;have:=h.b d.bag (by have:=inB_t.1 h2;omega);unfold asideE;rw[if_pos ⟨h2,h1⟩,if_neg (by omega)]
theorem atI_setL{b:List Int}(hb:b.length=4){i j v:Int}(hi:0≤i∧i≤3)(hj:0≤j∧j≤3):atI (setI b i v) j=if j=i then v else atI b j:=atI_set hb hi hj
theorem tbMore.set{t u:Tb}(h:tbMore t u){i v w:Int}(hi:0≤i∧i≤3)(hv:v≤w):tbMore {t with bags:=setI t.bags i v } {u with bags:=setI u.bags i w }:=by
 refine⟨h.tr,h.c,h.m,setI_len h.bl _ _,setI_len h.ul _ _,fun j hj=>?_⟩;show atI (setI t.bags i v) j≤atI (setI u.bags i w) j
 rw[atI_setL h.bl hi hj,atI_setL h.ul hi hj];split
 · exact hv
 · exact h.b j hj
theorem tbMore.deal{n:Nat}{t u:Tb}(h:tbMore t u){d:Dl}(hk:inB d.kind 1 6=true)(h0:dealE n d t=0):(dealE n d u=0∧tbMore (dealT d t) (dealT d u))∨dealE n d u=8:=by
 have hk6:=inB_t.1 hk;unfold dealE at h0 ⊢;unfold dealT;rcases (by omega:d.kind=1∨d.kind=2∨d.kind=3∨d.kind=4∨d.kind=5∨d.kind=6) with k | k | k | k | k | k
 · simp only[k,if_true] at h0 ⊢
   left
   refine⟨by rw[←h0];unfold trialE;rw[h.tr],?_⟩;exact⟨by dsimp only;rw[h.tr],h.c,h.m,h.bl,h.ul,h.b⟩
 · have e:∀{α:Type} {a b:α},(if d.kind=1 then a else b)=b:=fun {α a b}=>if_neg (by omega);simp only[e,if_pos k] at h0 ⊢;obtain⟨h1,h2,h3,h4⟩:=mix_0 h0;have hb:=inB_t.1 h1;unfold mixE;rw[if_pos h1,if_pos h2,if_pos h3];by_cases h5:12<u.mixed+d.count
   · rw[if_pos h5];exact .inr rfl
   · rw[if_neg h5];refine .inl ⟨rfl,?_⟩;have hm:=h.b d.bag (by omega);have h6:=h.set (i:=d.bag) (v:=atI t.bags d.bag+d.count) (w:=atI u.bags d.bag+d.count) (by omega) (by omega);exact⟨h6.tr,h6.c,by have:=h.m;dsimp only;omega,h6.bl,h6.ul,h6.b⟩
 · have e:∀{α:Type} {a b:α},(if d.kind=1 then a else b)=b:=fun {α a b}=>if_neg (by omega);have e2:∀{α:Type} {a b:α},(if d.kind=2 then a else b)=b:=fun {α a b}=>if_neg (by omega);simp only[e,e2,if_pos k] at h0 ⊢;obtain⟨⟨h1,h2⟩,h3⟩:=pour_0 h0;have hb:=inB_t.1 h1;have ho:=inB_t.1 h2;refine .inl ⟨h0,?_⟩;have m1:=h.b d.bag (by omega);have m2:=h.b d.other (by omega);exact (h.set (i:=d.other) (v:=atI t.bags d.other+atI t.bags d.bag) (w:=atI u.bags d.other+atI u.bags d.bag) (by omega) (by omega)).set (i:=d.bag) (v:=0) (w:=0) (by omega) (Int.le_refl _)
 · have e:∀{α:Type} {a b:α},(if d.kind=1 then a else b)=b:=fun {α a b}=>if_neg (by omega);have e2:∀{α:Type} {a b:α},(if d.kind=2 then a else b)=b:=fun {α a b}=>if_neg (by omega);have e3:∀{α:Type} {a b:α},(if d.kind=3 then a else b)=b:=fun {α a b}=>if_neg (by omega);simp only[e,e2,e3,if_pos k] at h0 ⊢;obtain⟨h1,h2,h3⟩:=aside_0 h0;have hb:=inB_t.1 h2;have m1:=h.b d.bag (by omega);exact .inl ⟨h.aside h0,h.set (by omega) (by omega)⟩
 · have e:∀{α:Type} {a b:α},(if d.kind=1 then a else b)=b:=fun {α a b}=>if_neg (by omega);have e2:∀{α:Type} {a b:α},(if d.kind=2 then a else b)=b:=fun {α a b}=>if_neg (by omega);have e3:∀{α:Type} {a b:α},(if d.kind=3 then a else b)=b:=fun {α a b}=>if_neg (by omega);have e4:∀{α:Type} {a b:α},(if d.kind=4 then a else b)=b:=fun {α a b}=>if_neg (by omega);simp only[e,e2,e3,e4,if_pos k] at h0 ⊢;obtain⟨h1,h2,h3⟩:=aside_0 (pass_0 h0);have hb:=inB_t.1 h2;have m1:=h.b d.bag (by omega);have h6:=h.set (i:=d.bag) (v:=atI t.bags d.bag-d.count) (w:=atI u.bags d.bag-d.count) (by omega) (by omega);refine .inl ⟨?_,h6.tr,by dsimp only;rw[h.c],h6.m,h6.bl,h6.ul,h6.b⟩;rw[←h0];unfold passE;rw[if_pos (h.aside (pass_0 h0)),if_pos (pass_0 h0),h.c]
 · have e:∀{α:Type} {a b:α},(if d.kind=1 then a else b)=b:=fun {α a b}=>if_neg (by omega);have e2:∀{α:Type} {a b:α},(if d.kind=2 then a else b)=b:=fun {α a b}=>if_neg (by omega);have e3:∀{α:Type} {a b:α},(if d.kind=3 then a else b)=b:=fun {α a b}=>if_neg (by omega);have e4:∀{α:Type} {a b:α},(if d.kind=4 then a else b)=b:=fun {α a b}=>if_neg (by omega);have e5:∀{α:Type} {a b:α},(if d.kind=5 then a else b)=b:=fun {α a b}=>if_neg (by omega);simp only[e,e2,e3,e4,e5] at h0 ⊢;refine .inl ⟨by rw[←h0];unfold placeE;rw[h.c],h.tr,by dsimp only;rw[h.c],h.m,h.bl,h.ul,h.b⟩
theorem tbMore.deals{n:Nat}:∀{l:List Dl} {t u:Tb},tbMore t u→dsErr n t l=0→(dsErr n u l=0∧tbMore (dsTab t l) (dsTab u l))∨dsErr n u l=8
 | [],_,_,h,_=> .inl ⟨rfl,h⟩
 | d::r,t,u,h,h0=>by
   obtain⟨h1,h2⟩:=ds_cons h0;obtain⟨k1,k2,k3⟩:=dl_of h1;have e:dlErr n d u=dealE n d u:=by unfold dlErr;rw[if_pos k1,if_pos k2]
   rcases h.deal k1 k3 with⟨h3,h4⟩ | h3
   · have:=h4.deals h2;rw[dsErr,e,h3,if_pos rfl];exact this
   · right
     rw[dsErr,e,h3];rfl
theorem made_crs{G:Gm}{woods drawn cens:Int}{a b:Nat}(hm:madeO G woods drawn cens)(ha:woods≤a)(hb:cens≤b)(h:a^b≤5000):crsO G=(crsG G,0):=by have hr:=(deals_run G.ds tb0 tb0_ok (gm_ok hm.e).ds).2.2;have e:tb0.cens=0:=rfl;have h1:=hm.c;have h2:=hm.n2;exact crsO_ok hm.e (a:=a) (b:=b) (by omega) (by omega) h
theorem picksOf_c(g:Nat)(w:Int)(G:Gm)(h0:gmErr G=0):RawC Tryz.prog 33 [.ref 1000 g 0,gmA G] (BoxS g w) (BoxR g fun av=>∃ps,av= .slc 1 (iR ps) .non∧ps∈allP (szL (stepsG G.ds) tb0.bags)):=by
 have hG:=gm_ok h0;have hSz:=Sizes_c G hG;have hsb:=szL_bd tb0_in hG.ex;have hsl:=szL_288 hG;obtain⟨S,hS⟩:∃S,szL (stepsG G.ds) tb0.bags=S:=⟨_,rfl⟩;rw[hS] at hSz hsb hsl ⊢;have hl3:(iR S).length=S.length:=List.length_map _;refine RawC.walk (H:=hint33 Tryz.prog) ir33 Tryz.func33 rfl rfl rfl ?_;unfold ir33
 repeat' (first|refine aR ?_|with_reducible refine zI fun y hy=>?_|((with_reducible refine aC ?_);first|refine aV hSz ?_)|refine aX ?_|with_reducible intro _|with_reducible refine zJ ?_ fun y hy=>?_|refine aP ?_ ?_)
 all_goals try (exfalso;omega)
 rename_i g6;refine w_loopK [0,5] [] (fun x:List Int×List Int×List Int×Nat×Int=>S=x.1++x.2.1∧x.2.2.1.length=x.1.length∧ ∀i:Nat,i<x.1.length→0≤x.2.2.1.getD i 0∧x.2.2.1.getD i 0<x.1.getD i 0) (fun x=>x.2.1.length) (fun x=>[(6,.slc 1 (iR x.2.2.1) (.own 6 x.2.2.2.1)),(7,.int .i64 (x.1.length:Int))]) (fun x=>[(1000,(g,.row [.int .u64 x.2.2.2.2])),(6,(x.2.2.2.1,.row []))]) ([],S,[],g6,w) ⟨rfl,rfl,fun i hi=>by simp at hi⟩ ⟨rfl,rfl,trivial⟩ ⟨rfl,rfl,trivial⟩ ?_;rintro⟨pre,post,ps,gp,w⟩ ⟨hl,hpl,hpb⟩ e σ;dsimp only at hl hpl hpb ⊢;have hlen:=congrArg List.length hl;rw[List.length_append] at hlen;have hl4:(iR ps).length=ps.length:=List.length_map _;cases post with
 | nil=>
   simp only[List.length_nil] at hlen;rw[List.append_nil] at hl
   repeat' (first|refine aR ?_|with_reducible refine zI fun y hy=>?_|refine aX ?_|with_reducible intro _|with_reducible refine zJ ?_ fun y hy=>?_|refine aP ?_ ?_)
   all_goals first|(exfalso;omega)|exact⟨_,⟨ps,rfl,allP_mem.2 ⟨by omega,by rw[hl];exact hpb⟩⟩,rfl⟩
 | cons s post=>
   simp only[List.length_cons] at hlen;have hs:=hsb s (by rw[hl];simp)
   repeat' (first|refine aR ?_|(first|refine w_ixP (f:=fI) hl rfl rfl ?_)|with_reducible refine zI fun y hy=>?_|((with_reducible refine aC ?_);first|(refine ACall.box (upp_c _ _ _ (by omega) (by omega)) rfl rfl rfl ?_;rintro _ _ ⟨a,rfl,ha1,ha2⟩))|refine aX ?_|with_reducible intro _|with_reducible refine zJ ?_ fun y hy=>?_|refine aP ?_ ?_)
   all_goals try (exfalso;omega)
   all_goals
    rename_i gp2;exact q_loop (pre++[s],post,ps++[a],gp2,_) ⟨by show S=_;rw[hl];simp,by dsimp only;rw[len_snoc,len_snoc,hpl],fun i hi=>by
     dsimp only at hi ⊢;rw[len_snoc] at hi;by_cases e:i<pre.length
     · have:=hpb i e;rw[List.getD_eq_getElem?_getD,List.getD_eq_getElem?_getD,List.getElem?_append_left (by omega),List.getElem?_append_left e,←List.getD_eq_getElem?_getD,←List.getD_eq_getElem?_getD];exact this
     · have e2:i=pre.length:=by omega
       subst e2;rw[List.getD_eq_getElem?_getD,List.getD_eq_getElem?_getD,List.getElem?_append_right (by omega),List.getElem?_append_right (Nat.le_refl _),Nat.sub_self,hpl,Nat.sub_self];exact⟨ha1,ha2⟩⟩  (Nat.lt_succ_self _) ⟨rfl,by rw[len_snoc];rfl,trivial⟩ ⟨rfl,rfl,trivial⟩ aK aK
theorem stW_ne{W:Wt}{v:AV}(h:stW W v)(hn:W≠[]):v=stV W:=h.resolve_right fun h2=>hn h2.2
theorem ACall.nx{P:Program}{f:Nat}{args0 args:List AV}{R:Wt→Prop}{σ:Sig}{d:Nat}{Q:AV→Sig→Prop}(h:Fn0 P f args0 (fun v=>∃W',stW W' v∧R W'))(ha:args0=renL [] args)(hn:∀W',R W'→W'≠[])(hQ:∀W',R W'→Q (stV W') σ):ACall P f args σ d Q:=
 ACall.fn0 h ha fun av hav=>by obtain⟨W',h1,h2⟩:=hav;rw[stW_ne h1 (hn W' h2)];exact hQ W' h2
theorem courseErr_ok{G:Gm}{c:List Int}(h:courseErr G c=0):c.length=censG (stepsG G.ds)∧ ∀x∈c,0≤x∧x<(G.ws.length:Int):=by
 unfold courseErr at h;split at h
 · rename_i h1;split at h
   · exact absurd h (by decide)
   · rename_i h2;refine⟨by omega,fun x hx=>?_⟩;rw[List.any_eq_true] at h2;have h3:inB x 0 (G.ws.length-1)=true:=by
      cases h4:inB x 0 (G.ws.length-1) with
      | true=>rfl
      | false=>exact absurd ⟨x,hx,by rw[h4];rfl⟩ h2
     have:=inB_t.1 h3;omega
 · exact absurd h (by decide)
end Go.Abs
set_option linter.unusedVariables false
set_option linter.unusedSimpArgs false
set_option maxRecDepth 20000
set_option maxHeartbeats 4000000
namespace Go.Abs
open Go.Proofs
theorem allP_cons{s p:Int}{r ps:List Int}(h:p::ps∈allP (s::r)):(0≤p∧p<s)∧ps∈allP r:=by
 obtain⟨h1,h2⟩:=allP_mem.1 h;refine⟨by simpa using h2 0 (by simp),allP_mem.2 ⟨by simpa using h1,fun i hi=>?_⟩⟩
 simpa using h2 (i+1) (by simpa using hi)
theorem playS_nrm(l:List Sp)(B ps c:List Int):playS (l.map nrm) B ps c=playS l B ps c:=by rw[playS_T,playS_T,playT_nrm]
theorem playO_in{G:Gm}(h0:gmErr G=0){ps:List Int}(h:ps∈allP (szL (stepsG G.ds) tb0.bags)):∃c,playO G ps=(c,0)∧playS (stepsG G.ds) bg0 ps []=some c∧(c,cwG G c)∈crsG G:=by obtain⟨c,h1,h2,h3⟩:=play_crs h0 h;exact⟨c,h1,by rw[playS_T,h2];rfl,h3⟩
theorem playO_out{G:Gm}(h0:gmErr G=0){ps:List Int}(hl:ps.length=(szL (stepsG G.ds) tb0.bags).length)(h:¬ps∈allP (szL (stepsG G.ds) tb0.bags)):playO G ps=([],2):=by
 have hG:=gm_ok h0;rw[szL_len] at hl;unfold playO;rw[if_pos h0,if_pos hl,playS_T];cases e:playT (stepsG G.ds) bg0 ps with
 | none=>rfl
 | some c=>exact absurd (play_out hG.n6 tb0_in hG.ex (bgT0 _) hl e) h
theorem playO_len{G:Gm}(h0:gmErr G=0){ps:List Int}(hl:¬ps.length=(szL (stepsG G.ds) tb0.bags).length):playO G ps=([],3):=by rw[szL_len] at hl;unfold playO;rw[if_pos h0,if_neg hl]
end Go.Abs
set_option linter.unusedVariables false
set_option linter.unusedSimpArgs false
set_option maxRecDepth 20000
set_option maxHeartbeats 4000000
namespace Go.Abs
open Go.Proofs
def fstI(c:List Int)(w:Int):Int:=if w∈c then (c.idxOf w:Int) else-1
theorem fstI_new{pre post:List Int}{x:Int}(h:¬x∈pre):fstI (pre++x::post) x=pre.length:=by unfold fstI;rw[if_pos (by simp),List.idxOf_append,if_neg h,List.idxOf_cons_self,Nat.zero_add]
end Go.Abs
set_option linter.unusedVariables false
set_option linter.unusedSimpArgs false
set_option maxRecDepth 20000
set_option maxHeartbeats 4000000
namespace Go.Abs
open Go.Proofs
def ir103:IFn:= ⟨26,[(4,none)],(sO [oM 4 (kB false)] (.seq (sO [oM 6 0,oN 7 6,oM 8 1,oN 9 8,oB 10 .neq 7 9] (.cnd 10 (sO [oM 4 (kB false)] .ret) .skip)) (.seq (sO [oM 11 0,oN 12 11,oM 13 (kI 0)] (.blk 0 (.loop (sO [oB 14 .lss 13 12] (.seq (.cnd 14 .skip (.exit 0)) (.seq (.blk 1 (sO [oM 15 13,oM 5 15] (sO [oM 16 0,oM 17 5,oA 18 1 16 17,oL 19 18,oM 20 1,oM 21 5,oA 22 1 20 21,oL 23 22,oB 24 .neq 19 23] (.cnd 24 (sO [oM 4 (kB false)] .ret) .skip)))) (.ops [oB 25 .add 13 (kI 1),oM 13 25]))))))) (sO [oM 4 (kB true)] .ret))))⟩
def ir157:IFn:= ⟨25,[(2,none)],(sO [oM 2 (kI 0)] (.seq (sO [oM 5 0,oN 6 5,oB 7 .lss 6 (kI 1)] (.cnd 7 (.ops [⟨(some 8),none,.bad⟩,⟨none,none,.bad⟩]) .skip)) (sO [oM 9 0,oo 10 (.ixA 1 9 (kI 0)),oL 11 10,oM 3 11] (.seq (sO [oM 4 (kI 1)] (.blk 0 (.loop (.seq (sO [oM 12 4,oM 13 0,oN 14 13,oB 15 .lss 12 14] (.cnd 15 .skip (.exit 0))) (.seq (.blk 1 (.ops [oM 18 3,oM 19 0,oM 20 4,oA 21 1 19 20,oL 22 21,oo 23 (.mxi true 18 22),oM 3 23])) (.ops [oM 16 4,oB 17 .add 16 (kI 1),oM 4 17])))))) (sO [oM 24 3,oM 2 24] .ret)))))⟩
def ir109:IFn:= ⟨17,[(2,none)],(sO [oM 2 (kI 0)] (sO [oM 3 (kI 0)] (.seq (sO [oM 6 0,oN 7 6,oM 8 (kI 0)] (.blk 0 (.loop (sO [oB 9 .lss 8 7] (.seq (.cnd 9 .skip (.exit 0)) (.seq (.blk 1 (sO [oA 10 1 6 8,oL 11 10,oM 5 11] (.ops [oM 12 3,oM 13 5,oB 14 .add 12 13,oM 3 14]))) (.ops [oB 15 .add 8 (kI 1),oM 8 15]))))))) (sO [oM 16 3,oM 2 16] .ret))))⟩
def ir97:IFn:= ⟨6,[(2,none)],(sO [oM 2 (kI 0)] (.seq (sO [oM 3 0,oC 4 129 [3,(kI 1),(kI 2)],oo 5 (.not 4)] (.cnd 5 (sO [oM 2 (kI 4)] .ret) .skip)) (sO [oM 2 (kI 0)] .ret)))⟩
def ir153:IFn:= ⟨12,[(8,none)],(sO [oo 4 (.box 2 0),oM 8 (kI 0)] (.seq (sO [oM 9 1,oM 10 2,oC 11 103 [9,10]] (.cnd 11 (sO [oM 8 (kI 1)] .ret) .skip)) (sO [oM 8 (kI 0)] .ret)))⟩
def ir98:IFn:= ⟨21,[(10,none)],(sO [oo 5 (.box 2 0),oM 10 (kI 0)] (sO [oo 12 (.bld [.nfn,.nfn,.nfn] [(1,1,(.k (.clo (.func 153) [] []))),(2,1,(.k (.clo (.func 154) [] [])))]),oo 11 (.new [.nfn,.nfn,.nfn]),oS 3 11 12] (sO [oM 13 1,oo 14 (.ixAr 3 1 11 13),oL 15 14,oo 16 (.ld 2 true 5),oM 17 2,oM 18 3,oM 19 4,oo 20 (.callV 15 [16,17,18,19]),oM 10 20] .ret)))⟩
theorem eqlK_c(a b:List Int)(h:a.length<1000000):FV 103 [.slc 1 (iR a) .non,.slc 1 (iR b) .non] (.bool (decide (a=b))):=by
 have hal:(iR a).length=a.length:=List.length_map _;have hbl:(iR b).length=b.length:=List.length_map _;by_cases hl:a.length=b.length
 rotate_left
 · rw[decide_eq_false (fun e=>hl (by rw[e]))];refine wk ir103 Tryz.func103 ?_;unfold ir103
   repeat' (first|refine aR ?_|refine aX ?_|with_reducible intro _|refine aP ?_ ?_)
   all_goals exact aZ
 obtain⟨R,hR⟩:∃R,decide (a=b)=R:=⟨_,rfl⟩;rw[hR];refine wk ir103 Tryz.func103 ?_;unfold ir103
 repeat' (first|refine aR ?_|refine aX ?_|with_reducible intro _|refine aP ?_ ?_)
 all_goals try (exfalso;omega)
 refine w_loopK [0,1,12] [] (fun x:List Int×List Int×List Int×List Int=>a=x.1++x.2.1∧b=x.2.2.1++x.2.2.2∧x.1.length=x.2.2.1.length∧decide (x.2.1=x.2.2.2)=R) (fun x=>x.2.1.length) (fun x=>[(13,.int .i64 (x.1.length:Int))]) (fun _=>[]) ([],a,[],b) ⟨rfl,rfl,rfl,hR⟩ ⟨rfl,trivial⟩ trivial ?_;rintro⟨pa,ra,pb,rb⟩ ⟨h1,h2,h3,h4⟩ e σ;dsimp only at h1 h2 h3 h4 ⊢;have hn1:=congrArg List.length h1;have hn2:=congrArg List.length h2;rw[List.length_append] at hn1 hn2;cases ra with
 | nil=>
   simp only[List.length_nil] at hn1;have hrb:rb=[]:=List.eq_nil_of_length_eq_zero (by omega);subst hrb;have hR1:true=R:=by rw[←h4];rfl
   subst hR1
   repeat' (first|refine aR ?_|refine aX ?_|with_reducible intro _|refine aP ?_ ?_)
   all_goals first|(exfalso;omega)|rfl
 | cons x ra=>
   cases rb with
   | nil=>exfalso;simp only[List.length_cons,List.length_nil] at hn1 hn2;omega
   | cons y rb=>
     simp only[List.length_cons] at hn1 hn2;have h2':b=pb++y::rb:=h2;by_cases hxy:x=y
     · have h5:decide (ra=rb)=R:=by rw[←h4];simp[hxy]
       repeat' (first|refine aR ?_|(first|refine w_ixP (f:=fI) h1 rfl rfl ?_|refine w_ixP (f:=fI) h2' rfl (by rw[←h3];rfl) ?_)|refine aX ?_|with_reducible intro _|refine aP ?_ ?_)
       all_goals first|(exfalso;omega)|exact q_loop (pa++[x],ra,pb++[y],rb) ⟨by show a=_;rw[h1];simp,by show b=_;rw[h2'];simp,by dsimp only;rw[len_snoc,len_snoc,h3],h5⟩ (Nat.lt_succ_self _) ⟨by rw[len_snoc];rfl,trivial⟩ aS aK aK
     · have h5:false=R:=by rw[←h4];simp[hxy]
       subst h5
       repeat' (first|refine aR ?_|(first|refine w_ixP (f:=fI) h1 rfl rfl ?_|refine w_ixP (f:=fI) h2' rfl (by rw[←h3];rfl) ?_)|refine aX ?_|with_reducible intro _|refine aP ?_ ?_)
       all_goals exact aZ
def maxF:List Int→Int
 | []=>0
 | x::r=>r.foldl max x
theorem max_c(x:Int)(r:List Int)(h:r.length<1000000):FV 157 [.slc 1 (iR (x::r)) .non] (.int .i64 (maxF (x::r))):=by
 have hal:(iR (x::r)).length=r.length+1:=by rw[List.length_map];rfl
 have hal2:(x::r).length=r.length+1:=rfl;obtain⟨R,hR⟩:∃R,maxF (x::r)=R:=⟨_,rfl⟩;rw[hR];have hl0:x::r=[]++x::r:=rfl;refine wk ir157 Tryz.func157 ?_;unfold ir157
 repeat' (first|refine aR ?_|(first|refine w_ixP (f:=fI) hl0 rfl rfl ?_)|refine aX ?_|with_reducible intro _|refine aP ?_ ?_)
 all_goals try (exfalso;omega)
 refine w_loopK [0] [] (fun z:List Int×List Int×Int=>x::r=z.1++z.2.1∧z.2.1.foldl max z.2.2=R) (fun z=>z.2.1.length) (fun z=>[(4,.int .i64 (z.1.length:Int)),(3,.int .i64 z.2.2)]) (fun _=>[]) ([x],r,x) ⟨rfl,hR⟩ ⟨rfl,rfl,trivial⟩ trivial ?_;rintro⟨pre,post,m⟩ ⟨hl,hm⟩ e σ;dsimp only at hl hm ⊢;have hlen:=congrArg List.length hl;rw[List.length_append,hal2] at hlen;cases post with
 | nil=>
   simp only[List.length_nil] at hlen;rw[List.foldl_nil] at hm;subst hm
   repeat' (first|refine aR ?_|refine aX ?_|with_reducible intro _|refine aP ?_ ?_)
   all_goals first|(exfalso;omega)|rfl
 | cons y post=>
   simp only[List.length_cons] at hlen;rw[List.foldl_cons] at hm
   repeat' (first|refine aR ?_|(first|refine w_ixP (f:=fI) hl rfl rfl ?_)|refine aX ?_|with_reducible intro _|refine aP ?_ ?_)
   all_goals first|(exfalso;omega)|exact q_loop (pre++[y],post,max m y) ⟨by show x::r=_;rw[hl];simp,hm⟩ (Nat.lt_succ_self _) ⟨by rw[len_snoc];rfl,by first|rfl|(show AV.int .i64 _=AV.int .i64 _;exact int_eq (by omega)),trivial⟩ aS aK aK
theorem idxK_c(l:List Int)(w:Int)(hc:l.length<1000000):FV 158 [.slc 1 (iR l) .non,.int .i64 w] (.int .i64 (fstI l w)):=by
 have hcl:(iR l).length=l.length:=List.length_map _;refine wk ir158 Tryz.func158 ?_;unfold ir158
 repeat' (first|refine aR ?_|refine aX ?_|with_reducible intro _|refine aP ?_ ?_)
 refine w_loopK [0,1,7] [] (fun x:List Int×List Int=>l=x.1++x.2∧ ¬w∈x.1) (fun x=>x.2.length) (fun x=>[(8,.int .i64 (x.1.length:Int))]) (fun _=>[]) ([],l) ⟨rfl,by simp⟩ ⟨rfl,trivial⟩ trivial ?_;rintro⟨pre,post⟩ ⟨hl,hn⟩ e σ;dsimp only at hl hn ⊢;have hlen:=congrArg List.length hl;rw[List.length_append] at hlen;cases post with
 | nil=>
   simp only[List.length_nil] at hlen;have e1:fstI l w= -1:=by unfold fstI;rw[hl,List.append_nil,if_neg hn]
   rw[e1]
   repeat' (first|refine aR ?_|refine aX ?_|with_reducible intro _|refine aP ?_ ?_)
   all_goals first|(exfalso;omega)|rfl
 | cons x post=>
   simp only[List.length_cons] at hlen;by_cases hx:w=x
   · have e1:fstI l w=pre.length:=by subst hx;rw[hl];exact fstI_new hn
     rw[e1]
     repeat' (first|refine aR ?_|(first|refine w_ixP (f:=fI) hl rfl rfl ?_)|refine aX ?_|with_reducible intro _|refine aP ?_ ?_)
     all_goals exact aZ
   · repeat' (first
      | with_reducible (first|refine Rd.p ?_|refine w_alt ?_ ?_|refine zE ?_|refine zE0 ?_)
      | (first|refine w_ixP (f:=fI) hl rfl rfl ?_)
      | with_reducible (first|refine zI fun y hy=>?_|refine zL ?_|refine zS ?_|refine zA fun _=>?_|refine zV ?_|refine zC ?_|refine zG ?_|refine zU ?_|refine zG0 ?_|refine zU0 ?_|refine zF ?_)
      | with_reducible (first|refine zX ?_|refine zD fun _=>?_|refine zD0 ?_|refine zN ?_|refine zF0 ?_|refine zX0 ?_|refine z1 ?_|refine z2 ?_|refine z3 ?_|refine z4 ?_|refine z5 ?_|refine z6 ?_|refine z7 ?_|refine z8 ?_|refine y1 ?_|refine y2 ?_|refine y3 ?_|refine y4 ?_|refine y5 ?_|refine y6 ?_|refine y7 ?_|refine y8 ?_|refine Rt.p (fun _=>?_) fun _=>?_)
      | ((with_reducible apply w_ixM);(focus exact rfl);(focus exact rfl);case' hk=>intro y hy)|((with_reducible (first | apply w_val | apply q_ends));(focus exact rfl)))
     all_goals first|(exfalso;omega)|exact q_loop (pre++[x],post) ⟨by show l=_;rw[hl];simp,by show ¬w∈pre++[x];rw[List.mem_append,List.mem_singleton];rintro (h | h);exact hn h;exact hx h⟩ (Nat.lt_succ_self _) ⟨by rw[len_snoc];rfl,trivial⟩ aS aK aK
theorem total_c(l:List Int)(B:Int)(hl:l.length<1000000)(hn:∀x∈l,0≤x)(hB:l.sum≤B)(hB2:B<9000000000000000000):FV 109 [.slc 1 (iR l) .non] (.int .i64 l.sum):=by
 have hcl:(iR l).length=l.length:=List.length_map _;obtain⟨R,hR⟩:∃R,l.sum=R:=⟨_,rfl⟩;rw[hR] at hB ⊢;have hs0:∀{q:List Int},(∀x∈q,0≤x)→0≤q.sum:=fun {q} h=>by
  induction q with
  | nil=>exact Int.le_refl _
  | cons a q ih=>rw[List.sum_cons];have:=h a (by simp);have:=ih fun x hx=>h x (by simp[hx]);omega
 refine wk ir109 Tryz.func109 ?_;unfold ir109
 repeat' (first|refine aR ?_|with_reducible refine zI fun y hy=>?_|refine aX ?_|with_reducible intro _|with_reducible refine zJ ?_ fun y hy=>?_|refine aP ?_ ?_)
 refine w_loopK [6,7] [] (fun x:List Int×List Int=>l=x.1++x.2∧x.1.sum+x.2.sum=R) (fun x=>x.2.length) (fun x=>[(8,.int .i64 (x.1.length:Int)),(3,.int .i64 x.1.sum)]) (fun _=>[]) ([],l) ⟨rfl,by show (0:Int)+l.sum=R;omega⟩ ⟨rfl,rfl,trivial⟩ trivial ?_;rintro⟨pre,post⟩ ⟨hll,hb⟩ e σ;dsimp only at hll hb ⊢;have hlen:=congrArg List.length hll;rw[List.length_append] at hlen;have hp0:=hs0 (q:=pre) fun x hx=>hn x (by rw[hll];simp[hx]);cases post with
 | nil=>
   simp only[List.length_nil] at hlen;have hb2:pre.sum=R:=by rw[List.sum_nil] at hb;omega
   subst hb2
   repeat' (first|refine aR ?_|with_reducible refine zI fun y hy=>?_|refine aX ?_|with_reducible intro _|with_reducible refine zJ ?_ fun y hy=>?_|refine aP ?_ ?_)
   all_goals first|(exfalso;omega)|rfl
 | cons x post=>
   simp only[List.length_cons] at hlen;have hq0:=hs0 (q:=post) fun y hy=>hn y (by rw[hll];simp[hy]);have hx0:=hn x (by rw[hll];simp);rw[List.sum_cons] at hb;have hsn:(pre++[x]).sum=pre.sum+x:=by simp
   repeat' (first|refine aR ?_|(first|refine w_ixP (f:=fI) hll rfl rfl ?_)|with_reducible refine zI fun y hy=>?_|refine aX ?_|with_reducible intro _|with_reducible refine zJ ?_ fun y hy=>?_|refine aP ?_ ?_)
   all_goals first|(exfalso;omega)|exact q_loop (pre++[x],post) ⟨by show l=_;rw[hll];simp,by dsimp only;rw[hsn];omega⟩ (Nat.lt_succ_self _) ⟨by rw[len_snoc];rfl,by show AV.int .i64 _=AV.int .i64 _;rw[hsn],trivial⟩ aS aK aK
def ruErr(r:Int):Int:=if inB r 1 2=true then 0 else 4
theorem checkRule_k(r:Int):FV 97 [.int .i64 r] (.int .i64 (ruErr r)):=by
 have h:=kin_c r 1 2;unfold ruErr;cases hb:inB r 1 2 with
 | true=>
   rw[hb] at h;rw[if_pos rfl];refine wk ir97 Tryz.func97 ?_;unfold ir97
   repeat' (first|refine aR ?_|((with_reducible refine aC ?_);first|refine aV h ?_)|refine aX ?_|with_reducible intro _|refine aP ?_ ?_)
   all_goals first|(exfalso;omega)|rfl
 | false=>
   rw[hb] at h;rw[if_neg Bool.false_ne_true];refine wk ir97 Tryz.func97 ?_;unfold ir97
   repeat' (first|refine aR ?_|((with_reducible refine aC ?_);first|refine aV h ?_)|refine aX ?_|with_reducible intro _|refine aP ?_ ?_)
   all_goals exact aZ
theorem whole_c(q:Aq)(a b:List Int)(n:Int)(h:a.length<1000000):FV 153 [aqA q,.slc 1 (iR a) .non,.slc 1 (iR b) .non,.int .i64 n] (.int .i64 (if a=b then 1 else 0)):=by
 have he:=eqlK_c a b h;by_cases hab:a=b
 · rw[decide_eq_true hab] at he;rw[if_pos hab];refine wk ir153 Tryz.func153 ?_;unfold ir153
   repeat' (first|refine aR ?_|((with_reducible refine aC ?_);first|refine aV he ?_)|refine aX ?_|with_reducible intro _|refine aP ?_ ?_)
   all_goals exact aZ
 · rw[decide_eq_false hab] at he;rw[if_neg hab];refine wk ir153 Tryz.func153 ?_;unfold ir153
   repeat' (first|refine aR ?_|((with_reducible refine aC ?_);first|refine aV he ?_)|refine aX ?_|with_reducible intro _|refine aP ?_ ?_)
   all_goals exact aZ
theorem worth1_c(q:Aq)(a b:List Int)(n:Int)(h:a.length<1000000):FV 98 [aqA q,.int .i64 1,.slc 1 (iR a) .non,.slc 1 (iR b) .non,.int .i64 n] (.int .i64 (if a=b then 1 else 0)):=by
 have he:=whole_c q a b n h;refine wk ir98 Tryz.func98 ?_;unfold ir98
 repeat' (first|refine aR ?_|((with_reducible refine aC ?_);first|refine aV he ?_)|refine aX ?_|with_reducible intro _|refine aP ?_ ?_)
 all_goals exact aZ
theorem sub_plA(r:List Int×Int)(h:r.2=0∨r.1=[]):Sub (plA r) (.tup [.slc 1 (iR r.1) .non,.int .i64 r.2]):=by
 unfold plA;split
 · exact Sub.refl _
 · rename_i h0;rw[h.resolve_left h0];exact Sub.tupM (.cons Sub.nil (.cons (Sub.refl _) .nil))
end Go.Abs
set_option linter.unusedVariables false
set_option linter.unusedSimpArgs false
set_option maxRecDepth 20000
set_option maxHeartbeats 4000000
namespace Go.Abs
open Go.Proofs
theorem goH.of{G:Gm}(h:GOK G):goH G (actsF G.ds) tb0.bags tb0.mixed:=
 ⟨h.n6,tb0_in,run_acts h,bgT0 _,by have:=acts_len G.ds h.cnt;have:=h.d24;omega⟩
end Go.Abs
set_option linter.unusedVariables false
set_option linter.unusedSimpArgs false
set_option maxRecDepth 20000
set_option maxHeartbeats 4000000
namespace Go.Abs
open Go.Proofs
def duO(G:Gm)(a:Aq)(c:List Int):List Int×Int:=
 if gmErr G=0 then (if askErr G.ws.length a=0 then (if courseErr G c=0 then (dueF G a c,0) else ([],courseErr G c)) else ([],askErr G.ws.length a)) else ([],gmErr G)
theorem DueA_c(G:Gm)(a:Aq)(c:List Int)(hw:G.ws.length<1000)(hd:G.ds.length<1000)(hs:∀w∈G.ws,w.name.size≤1000)(hc:c.length<1000):FV 96 [gmA G,aqA a,.slc 1 (iR c) .non] (plA (duO G a c)):=by
 have hck:=gCheck_c G hw hd hs;have hca:=checkAsk_c G a hw;by_cases h0:gmErr G=0
 rotate_left
 · rw[show duO G a c=([],gmErr G) from if_neg h0];unfold plA;rw[if_neg h0];refine wk ir96 Tryz.func96 ?_;unfold ir96
   repeat' (first|refine aR ?_|((with_reducible refine aC ?_);first|refine aV hck ?_)|refine aX ?_|with_reducible intro _|refine aP ?_ ?_)
   all_goals exact aZ
 rw[h0] at hck;have hG:=gm_ok h0;have hcen:=hG.cen;have hcc:=checkCourse_c G (invW G.ws.length) (gmOK h0) c hc;by_cases h1:askErr G.ws.length a=0
 rotate_left
 · rw[show duO G a c=([],askErr G.ws.length a) by unfold duO;rw[if_pos h0,if_neg h1]];unfold plA;rw[if_neg h1];refine wk ir96 Tryz.func96 ?_;unfold ir96
   repeat' (first|refine aR ?_|((with_reducible refine aC ?_);first|refine aV hck ?_|refine aV hca ?_)|refine aX ?_|with_reducible intro _|refine aP ?_ ?_)
   all_goals exact aZ
 rw[h1] at hca;by_cases h2:courseErr G c=0
 rotate_left
 · rw[show duO G a c=([],courseErr G c) by unfold duO;rw[if_pos h0,if_pos h1,if_neg h2]];unfold plA;rw[if_neg h2];refine wk ir96 Tryz.func96 ?_;unfold ir96
   repeat' (first|refine aR ?_|((with_reducible refine aC ?_);first|refine aV hck ?_|refine aV hca ?_|refine aV hcc ?_)|refine aX ?_|with_reducible intro _|refine aP ?_ ?_)
   all_goals exact aZ
 rw[h2] at hcc;obtain⟨hl,hin⟩:=courseErr_ok h2;have hdu:=due_c G a c hG.n6 hG.d24 (by omega) (by omega) hin;rw[show duO G a c=(dueF G a c,0) by unfold duO;rw[if_pos h0,if_pos h1,if_pos h2]];refine wk ir96 Tryz.func96 ?_;unfold ir96
 repeat' (first|refine aR ?_|((with_reducible refine aC ?_);first|refine aV hck ?_|refine aV hca ?_|refine aV hcc ?_|refine aV hdu ?_)|refine aX ?_|with_reducible intro _|refine aP ?_ ?_)
 all_goals exact aZ
end Go.Abs
set_option linter.unusedVariables false
set_option linter.unusedSimpArgs false
set_option maxRecDepth 20000
set_option maxHeartbeats 4000000
namespace Go.Abs
open Go.Proofs
def ir32:IFn:= ⟨91,[(4,none),(5,none)],(sO [oo 2 (.box 2 0),oM 4 (.k .nsl),oM 5 (kI 0)] (.seq (sO [oo 15 (.ld 2 true 2),oC 16 83 [15],oM 6 16] (sO [oM 17 6,oB 18 .neq 17 (kI 0)] (.cnd 18 (sO [oM 19 6,oM 4 (.k .nsl),oM 5 19] .ret) .skip))) (sO [oo 20 (.ld 2 true 2),oC 21 85 [20],oM 7 21] (.seq (sO [oM 22 1,oN 23 22,oM 24 7,oN 25 24,oB 26 .neq 23 25] (.cnd 26 (sO [oM 4 (.k .nsl),oM 5 (kI 3)] .ret) .skip)) (.seq (sO [oM 8 (kI 0)] (.blk 0 (.loop (.seq (sO [oM 27 8,oM 28 1,oN 29 28,oB 30 .lss 27 29] (.cnd 30 .skip (.exit 0))) (.seq (.blk 1 (sO [oM 33 1,oM 34 8,oA 35 1 33 34,oL 36 35,oM 37 7,oM 38 8,oA 39 1 37 38,oL 40 39,oB 41 .sub 40 (kI 1),oC 42 87 [36,(kI 0),41],oo 43 (.not 42)] (.cnd 43 (sO [oM 4 (.k .nsl),oM 5 (kI 2)] .ret) .skip))) (.ops [oM 31 8,oB 32 .add 31 (kI 1),oM 8 32])))))) (sO [oo 9 (.nil 1 9)] (sO [oo 10 (.new [z0,z0,z0,z0,z0,z0,z0,z0,z0,z0,z0,z0,z0,z0,z0,z0,z0,z0,z0,z0,z0,z0,z0,z0])] (sO [oo 44 (.ld 2 true 2),oC 45 88 [44],oM 11 45] (.seq (sO [oM 12 (kI 0)] (.blk 2 (.loop (.seq (sO [oM 46 12,oM 47 11,oN 48 47,oB 49 .lss 46 48] (.cnd 49 .skip (.exit 2))) (.seq (.blk 3 (sO [oM 52 11,oM 53 12,oA 54 5 52 53,oo 55 (.ld 5 true 54),oo 13 (.new [z0,z0,z0,z0,z0]),oS 5 13 55] (.seq (sO [oo 56 (.ld 5 true 13),oC 57 89 [56]] (.cnd 57 (sO [oo 58 (.ld 24 true 10),oF 59 1 13,oL 60 59,oM 61 1,oo 62 (.ixA 1 61 (kI 0)),oL 63 62,oC 64 90 [58,60,63],oM 14 64] (sO [oo 65 (.ld 24 true 10),oF 66 1 13,oL 67 66,oM 68 14,oM 70 1,oo 71 (.slS 1 70 (some (kI 1)) none none),oC 69 91 [65,67,68],oS 24 10 69,oM 1 71] (.seq (sO [oF 72 0 13,oL 73 72,oB 74 .eql 73 (kI 5)] (.cnd 74 (.ops [oM 75 9,oM 76 14,oo 77 (.bsl 1 [[z0]] [(0,76)]),oo 78 (.app 1 8 75 77 9),oM 9 78]) .skip)) (.exit 3)))) .skip)) (sO [oo 79 (.ld 24 true 10),oo 80 (.ld 5 true 13),oC 81 92 [79,80],oS 24 10 81] (sO [oF 82 0 13,oL 83 82,oB 84 .eql 83 (kI 6)] (.cnd 84 (.ops [oM 85 9,oF 86 3 13,oL 87 86,oo 88 (.bsl 1 [[z0]] [(0,87)]),oo 89 (.app 1 8 85 88 9),oM 9 89]) .skip)))))) (.ops [oM 50 12,oB 51 .add 50 (kI 1),oM 12 51])))))) (sO [oM 90 9,oM 4 90,oM 5 (kI 0)] .ret))))))))))⟩
def hint32(P:Program):Hint:={site:=[(78,9),(89,9)],nils:=[(9,1)],frz:=[],mve:=[],wr:=[] }
theorem iR_snocO(c:List Int)(w:Int)(g:Nat):AV.slc 1 (iR c++[[.int .i64 w]]) (.own 9 g)=AV.slc 1 (iR (c++[w])) (.own 9 g):=
 congrArg (fun z=>AV.slc 1 z (.own 9 g)) (map_snoc (f:=fI) (x:=w)).symm
theorem rPlay_c(G:Gm)(ps:List Int)(hw:G.ws.length<1000)(hd:G.ds.length<1000)(hs:∀w∈G.ws,w.name.size≤1000)(hps:ps.length<1000000):FV 32 [gmA G,.slc 1 (iR ps) .non] (plA (playO G ps)):=by
 have hck:=gRefCheck_c G hw hd hs;have hpl0:(iR ps).length=ps.length:=List.length_map _;by_cases h0:gmErr G=0
 rotate_left
 · rw[show playO G ps=([],gmErr G) from if_neg h0];unfold plA;rw[if_neg h0];refine RawC.walk (H:=hint32 Tryz.prog) ir32 Tryz.func32 rfl rfl rfl ?_;unfold ir32
   repeat' (first|refine aR ?_|with_reducible refine zI fun y hy=>?_|((with_reducible refine aC ?_);first|refine aV hck ?_)|refine aX ?_|with_reducible intro _|with_reducible refine zJ ?_ fun y hy=>?_|refine aP ?_ ?_)
   all_goals exact aZ
 rw[h0] at hck;have hG:=gm_ok h0;have hSz:=Sizes_c G hG;have hsb:=szL_bd tb0_in hG.ex;have hsl:=szL_288 hG;have hout:=playO_out h0 (ps:=ps);have hoin:=playO_in h0 (ps:=ps);have holn:=playO_len h0 (ps:=ps);have hszA:szL ((actsF G.ds).map spOf) tb0.bags=szL (stepsG G.ds) tb0.bags:=by rw[acts_sp,szL_nrm]
 have hplA:playS ((actsF G.ds).map spOf) bg0 ps []=playS (stepsG G.ds) bg0 ps []:=by rw[acts_sp,playS_nrm]
 obtain⟨S,hS⟩:∃S,szL (stepsG G.ds) tb0.bags=S:=⟨_,rfl⟩;rw[hS] at hSz hsb hsl hout hoin holn hszA;by_cases hln:ps.length=S.length
 rotate_left
 · rw[holn hln];have hsl2:(iR S).length=S.length:=List.length_map _;refine RawC.walk (H:=hint32 Tryz.prog) ir32 Tryz.func32 rfl rfl rfl ?_;unfold ir32
   repeat' (first|refine aR ?_|with_reducible refine zI fun y hy=>?_|((with_reducible refine aC ?_);first|refine aV hck ?_|refine aV hSz ?_)|refine aX ?_|with_reducible intro _|with_reducible refine zJ ?_ fun y hy=>?_|refine aP ?_ ?_)
   all_goals exact aZ
 obtain⟨R,hR⟩:∃R,playO G ps=R:=⟨_,rfl⟩;rw[hR];have hac:=acts_c G hG.d24 hG.cnt;have hal:=acts_len G.ds hG.cnt;have hrun:=run_acts hG;have hd24:=hG.d24;obtain⟨A,hA⟩:∃A,actsF G.ds=A:=⟨_,rfl⟩;rw[hA] at hac hal hrun hszA hplA;refine RawC.walk (H:=hint32 Tryz.prog) ir32 Tryz.func32 rfl rfl rfl ?_;unfold ir32
 repeat' (first|refine aR ?_|with_reducible refine zI fun y hy=>?_|((with_reducible refine aC ?_);first|refine aV hck ?_|refine aV hSz ?_)|refine aX ?_|with_reducible intro _|with_reducible refine zJ ?_ fun y hy=>?_|refine aP ?_ ?_)
 all_goals try (exfalso;omega)
 refine w_loopK [1,2,7] [2] (fun x:List Int×List Int×List Int×List Int=>ps=x.1++x.2.1∧S=x.2.2.1++x.2.2.2∧x.1.length=x.2.2.1.length∧ ∀i:Nat,i<x.1.length→0≤ps.getD i 0∧ps.getD i 0<S.getD i 0) (fun x=>x.2.1.length) (fun x=>[(8,.int .i64 (x.1.length:Int))]) (fun _=>[]) ([],ps,[],S) ⟨rfl,rfl,rfl,fun i hi=>by simp at hi⟩ ⟨rfl,trivial⟩ trivial ?_;rintro⟨pa,ra,pb,rb⟩ ⟨h1,h2,h3,h4⟩ e σ;dsimp only at h1 h2 h3 h4 ⊢;have hn1:=congrArg List.length h1;have hn2:=congrArg List.length h2;rw[List.length_append] at hn1 hn2;cases ra with
 | cons p ra=>
   cases rb with
   | nil=>exfalso;simp only[List.length_cons,List.length_nil] at hn1 hn2;omega
   | cons s rb=>
     simp only[List.length_cons] at hn1 hn2;have h2':S=pb++s::rb:=h2;have hg1:ps.getD pa.length 0=p:=by rw[h1];exact mid_get pa p ra
     have hg2:S.getD pa.length 0=s:=by rw[h2',h3];exact mid_get pb s rb
     have hs12:=hsb s (by rw[h2'];simp);have hrin:=rin_c p 0 (s-1);by_cases hp:0≤p∧p<s
     · rw[show inB p 0 (s-1)=true from inB_t.2 (by omega)] at hrin
       repeat' (first|refine aR ?_|(first|refine w_ixP (f:=fI) h1 rfl rfl ?_|refine w_ixP (f:=fI) h2' rfl (by rw[←h3];rfl) ?_)|with_reducible refine zI fun y hy=>?_|((with_reducible refine aC ?_);first|refine aV hrin ?_)|refine aX ?_|with_reducible intro _|with_reducible refine zJ ?_ fun y hy=>?_|refine aP ?_ ?_)
       all_goals first
        | (exfalso;omega)
        | exact q_loop (pa++[p],ra,pb++[s],rb) ⟨by show ps=_;rw[h1];simp,by show S=_;rw[h2'];simp,by dsimp only;rw[len_snoc,len_snoc,h3],fun i hi=>by
          dsimp only at hi;rw[len_snoc] at hi;by_cases e:i<pa.length
          · exact h4 i e
          · have e2:i=pa.length:=by omega
            subst e2;rw[hg1,hg2];exact hp⟩ (Nat.lt_succ_self _) ⟨by rw[len_snoc];rfl,trivial⟩ aS aK aK
     · rw[show inB p 0 (s-1)=false from inB_f.2 (by omega)] at hrin;have hR2:=hout hln fun hm=>hp (by have:=(allP_mem.1 hm).2 pa.length (by omega);rw[hg1,hg2] at this;exact this);rw[hR] at hR2;subst hR2
       repeat' (first|refine aR ?_|(first|refine w_ixP (f:=fI) h1 rfl rfl ?_|refine w_ixP (f:=fI) h2' rfl (by rw[←h3];rfl) ?_)|with_reducible refine zI fun y hy=>?_|((with_reducible refine aC ?_);first|refine aV hrin ?_)|refine aX ?_|with_reducible intro _|with_reducible refine zJ ?_ fun y hy=>?_|refine aP ?_ ?_)
       all_goals first|(exfalso;omega)|rfl
 | nil=>
   simp only[List.length_nil] at hn1;have hrb:rb=[]:=List.eq_nil_of_length_eq_zero (by omega);subst hrb;have hall:ps∈allP S:=allP_mem.2 ⟨hln,fun i hi=>h4 i (by omega)⟩;obtain⟨X',hX1,hX2,hX3⟩:=hoin hall;rw[←hplA] at hX2;rw[hX1] at hR;subst hR;have hall2:ps∈allP (szL (A.map spOf) tb0.bags):=by rw[hszA];exact hall
   repeat' (first|refine aR ?_|with_reducible refine zI fun y hy=>?_|((with_reducible refine aC ?_);first|refine aV hac ?_)|refine aX ?_|with_reducible intro _|with_reducible refine zJ ?_ fun y hy=>?_|refine aP ?_ ?_)
   rename_i g9 g10
   refine w_loopK [10,11] [] (fun x:List Dl×List Dl×List Int×List Int×List Int×Nat×List Int×Int=>A=x.1++x.2.1∧playS (x.2.1.map spOf) x.2.2.1 x.2.2.2.1 x.2.2.2.2.1=some X'∧x.2.2.2.1∈allP (szL (x.2.1.map spOf) x.2.2.2.2.2.2.1)∧x.2.2.2.2.1.length≤x.1.length∧tbIn x.2.2.2.2.2.2.1 x.2.2.2.2.2.2.2∧runOK G.ws.length (x.2.1.map spOf) x.2.2.2.2.2.2.1 x.2.2.2.2.2.2.2∧bgT G.ws.length x.2.2.2.2.2.2.1 x.2.2.1) (fun x=>x.2.1.length)
    (fun x=>[(12,.int .i64 (x.1.length:Int)),(1,.slc 1 (iR x.2.2.2.1) .non),(9,.slc 1 (iR x.2.2.2.2.1) (.own 9 x.2.2.2.2.2.1))]) (fun x=>[(10,(g10,.row (nI x.2.2.1))),(9,(x.2.2.2.2.2.1,.row []))]) ([],A,bg0,ps,[],g9,tb0.bags,tb0.mixed) ⟨rfl,hX2,hall2,Nat.le_refl _,tb0_in,hrun,bgT0 _⟩ ⟨rfl,rfl,rfl,trivial⟩ ⟨rfl,rfl,trivial⟩ ?_
   rintro⟨pre,post,B,qs,c,g,b,m⟩ ⟨hl,he,hq,ho,ht,hr,hB⟩ e σ;dsimp only at hl he hq ho ht hr hB ⊢;have hlen:=congrArg List.length hl;rw[List.length_append] at hlen;have hol:(iR c).length=c.length:=List.length_map _;have hBl:=hB.l;have hin:=hB.bgin ht;cases post with
   | nil=>
     simp only[List.length_nil] at hlen;have hcX:c=X':=by rw[show playS (List.map spOf []) B qs c=some c from rfl] at he;exact Option.some.inj he
     subst hcX
     repeat' (first|refine aR ?_|with_reducible refine zI fun y hy=>?_|refine aX ?_|with_reducible intro _|with_reducible refine zJ ?_ fun y hy=>?_|refine aP ?_ ?_)
     all_goals first|(exfalso;omega)|rfl
   | cons d post=>
     simp only[List.length_cons] at hlen;have hx:=hr.1;have hds:=rdraws_c d;have hmap:(d::post).map spOf=spOf d::post.map spOf:=rfl;rw[hmap] at he hq;have hs2:(spOf d).2.2=(decide (d.kind=5) || decide (d.kind=6)):=rfl;cases hdb:drawsB d with
     | true=>
       rw[hdb] at hds;have hdp:(spOf d).2.1=true:=hdb;have hk:d.kind=4∨d.kind=5:=by simpa[drawsB] using hdb
       obtain⟨hb,ha⟩:=hx.d hdb;have hsz1:=hB.size hb;have hle:=ht.le hb;have hsm:=ht.sm;have hm:=ht.m;change 0≤d.bag∧d.bag≤3 at hb;change 1≤atI b d.bag at ha;change bgSize B d.bag=atI b d.bag at hsz1;change atI b d.bag≤sumB b at hle;rw[szL,if_pos hdp] at hq;change qs∈allP (atI b d.bag::_) at hq;cases qs with
       | nil=>have:=(allP_mem.1 hq).1;simp at this
       | cons p qs=>
         obtain⟨hp,hq2⟩:=allP_cons hq;rw[←hsz1] at hp;rw[playS_t hdp,if_pos (show 0≤p∧p<bgSize B (spOf d).1.bag from hp)] at he;change playS (post.map spOf) (drawB B d.bag (pickW B d.bag p)) qs (if (spOf d).2.2=true then c++[pickW B d.bag p] else c)=some _ at he;obtain⟨hw1,hw2⟩:=pickW_ok hp.1 hp.2;have hs3:=rwood_c B hin d.bag p hb hp (by omega);have hs4:=rwithout_c B hin d.bag (pickW B d.bag p) hb hw1;have hB2:=hB.draw ht.l hG.n6 hb hw1 hw2;have hbe:spB (spOf d) b=setI b d.bag (atI b d.bag+ -1):=by unfold spB;rw[if_pos hdp];rfl
         rw[←hbe] at hB2;have hdl:=hB2.l;have hpl1:(iR (p::qs)).length=qs.length+1:=by rw[List.length_map];rfl
         by_cases h5:d.kind=5
         · rw[if_pos (show (spOf d).2.2=true by rw[hs2];simp[h5])] at he
           repeat' (first|refine aR ?_|(first|refine w_ixP (f:=fun d:Dl=>[AV.int .i64 d.kind,.int .i64 d.bag,.int .i64 d.other,.int .i64 d.wood,.int .i64 d.count]) hl rfl rfl ?_|refine w_ldN rfl rfl hBl ?_|refine w_chkN rfl rfl hBl rfl ?_|refine w_stN rfl rfl (by rw[List.length_map];exact hBl) rfl hdl ?_|refine w_sl1 rfl ?_|refine w_ixP (f:=fI) (l:=p::qs) (pre:=[]) (y:=p) (post:=qs) rfl rfl rfl ?_)|with_reducible refine zI fun y hy=>?_|((with_reducible refine aC ?_);first|refine aV hds ?_|(refine ACall.bg2i hs3 rfl ?_)|(refine ACall.bg2b hs4 rfl ?_))|refine aX ?_|with_reducible intro _|with_reducible refine zJ ?_ fun y hy=>?_|refine aP ?_ ?_)
           all_goals try (exfalso;omega)
           all_goals
            rename_i g5;exact q_loop (pre++[d],post,drawB B d.bag (pickW B d.bag p),qs,c++[pickW B d.bag p],g5,spB (spOf d) b,spM (spOf d) m) ⟨by rw[hl];simp,he,hq2,by dsimp only;rw[len_snoc,len_snoc];omega,(ht.step hx).1,hr.2,hB2⟩ (Nat.lt_succ_self _) ⟨by rw[len_snoc];rfl,rfl,by first|rfl|exact iR_snocO _ _ _,trivial⟩ aS aK aK
         · rw[if_neg (show ¬(spOf d).2.2=true by rw[hs2];simp;omega)] at he
           repeat' (first|refine aR ?_|(first|refine w_ixP (f:=fun d:Dl=>[AV.int .i64 d.kind,.int .i64 d.bag,.int .i64 d.other,.int .i64 d.wood,.int .i64 d.count]) hl rfl rfl ?_|refine w_ldN rfl rfl hBl ?_|refine w_chkN rfl rfl hBl rfl ?_|refine w_stN rfl rfl (by rw[List.length_map];exact hBl) rfl hdl ?_|refine w_sl1 rfl ?_|refine w_ixP (f:=fI) (l:=p::qs) (pre:=[]) (y:=p) (post:=qs) rfl rfl rfl ?_)|with_reducible refine zI fun y hy=>?_|((with_reducible refine aC ?_);first|refine aV hds ?_|(refine ACall.bg2i hs3 rfl ?_)|(refine ACall.bg2b hs4 rfl ?_))|refine aX ?_|with_reducible intro _|with_reducible refine zJ ?_ fun y hy=>?_|refine aP ?_ ?_)
           all_goals first|(exfalso;omega)|exact q_loop (pre++[d],post,drawB B d.bag (pickW B d.bag p),qs,c,g,spB (spOf d) b,spM (spOf d) m) ⟨by rw[hl];simp,he,hq2,by dsimp only;rw[len_snoc];omega,(ht.step hx).1,hr.2,hB2⟩ (Nat.lt_succ_self _) ⟨by rw[len_snoc];rfl,rfl,rfl,trivial⟩ aS aK aK
     | false=>
       rw[hdb] at hds;have hdp:¬(spOf d).2.1=true:=by show ¬drawsB d=true;rw[hdb];decide
       have hk:¬(d.kind=4∨d.kind=5):=by simpa[drawsB] using hdb
       have hm:=ht.m;have hn6:=hG.n6;rw[szL,if_neg hdp] at hq;rw[playS_f hdp] at he;change playS (post.map spOf) (mixedB d B) qs (if (spOf d).2.2=true then c++[d.wood] else c)=some _ at he;have hs1:=rready_c d B hin (fun h2=>by obtain⟨q1,q2,q3,q4⟩:=hx.h2 hdb h2;change 0≤d.wood∧d.wood<_ at q2;change 1≤d.count at q3;change m+d.count≤12 at q4;exact⟨q1,by omega,by omega⟩) (fun h3=>hx.h3 hdb h3);have hB2:=hB.mix ht.l hG.n6 hx hdb;have hdl:(mixedB d B).length=24:=hB2.l;by_cases h6:d.kind=6
       · rw[if_pos (show (spOf d).2.2=true by rw[hs2];simp[h6])] at he
         repeat' (first|refine aR ?_|(first|refine w_ixP (f:=fun d:Dl=>[AV.int .i64 d.kind,.int .i64 d.bag,.int .i64 d.other,.int .i64 d.wood,.int .i64 d.count]) hl rfl rfl ?_|refine w_ldN rfl rfl hBl ?_|refine w_chkN rfl rfl hBl rfl ?_|refine w_stN rfl rfl (by rw[List.length_map];exact hBl) rfl hdl ?_)|with_reducible refine zI fun y hy=>?_|((with_reducible refine aC ?_);first|refine aV hds ?_|(refine ACall.bgbg hs1 rfl ?_))|refine aX ?_|with_reducible intro _|with_reducible refine zJ ?_ fun y hy=>?_|refine aP ?_ ?_)
         all_goals try (exfalso;omega)
         all_goals
          rename_i g5;exact q_loop (pre++[d],post,mixedB d B,qs,c++[d.wood],g5,spB (spOf d) b,spM (spOf d) m) ⟨by rw[hl];simp,he,hq,by dsimp only;rw[len_snoc,len_snoc];omega,(ht.step hx).1,hr.2,hB2⟩ (Nat.lt_succ_self _) ⟨by rw[len_snoc];rfl,rfl,by first|rfl|exact iR_snocO _ _ _,trivial⟩ aS aK aK
       · rw[if_neg (show ¬(spOf d).2.2=true by rw[hs2];simp;omega)] at he
         repeat' (first|refine aR ?_|(first|refine w_ixP (f:=fun d:Dl=>[AV.int .i64 d.kind,.int .i64 d.bag,.int .i64 d.other,.int .i64 d.wood,.int .i64 d.count]) hl rfl rfl ?_|refine w_ldN rfl rfl hBl ?_|refine w_chkN rfl rfl hBl rfl ?_|refine w_stN rfl rfl (by rw[List.length_map];exact hBl) rfl hdl ?_)|with_reducible refine zI fun y hy=>?_|((with_reducible refine aC ?_);first|refine aV hds ?_|(refine ACall.bgbg hs1 rfl ?_))|refine aX ?_|with_reducible intro _|with_reducible refine zJ ?_ fun y hy=>?_|refine aP ?_ ?_)
         all_goals first|(exfalso;omega)|exact q_loop (pre++[d],post,mixedB d B,qs,c,g,spB (spOf d) b,spM (spOf d) m) ⟨by rw[hl];simp,he,hq,by dsimp only;rw[len_snoc];omega,(ht.step hx).1,hr.2,hB2⟩ (Nat.lt_succ_self _) ⟨by rw[len_snoc];rfl,rfl,rfl,trivial⟩ aS aK aK
end Go.Abs
set_option linter.unusedVariables false
set_option linter.unusedSimpArgs false
set_option maxRecDepth 20000
set_option maxHeartbeats 4000000
namespace Go.Abs
open Go.Proofs
theorem duO_nil(G:Gm)(a:Aq)(c:List Int):(duO G a c).2=0∨(duO G a c).1=[]:=by
 unfold duO;split
 · split
   · split
     · exact .inl rfl
     · exact .inr rfl
   · exact .inr rfl
 · exact .inr rfl
theorem ansO_nil(G:Gm)(a:Aq):(ansO G a).2=0∨(ansO G a).1=[]:=by
 unfold ansO;split
 · split
   · split
     · exact .inl rfl
     · exact .inr rfl
   · exact .inr rfl
 · exact .inr rfl
theorem sub_anA(r:List (List Int×Int)×Int)(h:r.2=0∨r.1=[]):Sub (anA r) (.tup [.slc 1 (llR (r.1.map (·.1))) .non,.slc 1 (iR (r.1.map (·.2))) .non,.int .i64 r.2]):=by
 unfold anA;split
 · exact Sub.refl _
 · rename_i h0;rw[h.resolve_left h0];exact Sub.tupM (.cons Sub.nil (.cons Sub.nil (.cons (Sub.refl _) .nil)))
theorem dueF_bd(G:Gm)(a:Aq)(c:List Int)(h:c.length≤9):(dueF G a c).length≤9+G.ws.length:=by have:=dueF_len G a c;omega
theorem ansO_bd(G:Gm)(a:Aq):(ansO G a).1.length≤5000∧ ∀y∈(ansO G a).1,y.1.length≤9+G.ws.length:=by
 obtain⟨b1,b2⟩:=crsO_bd G;have hz:∀y∈([]:List (List Int×Int)),y.1.length≤9+G.ws.length:=fun y hy=>by cases hy
 unfold ansO;split
 · split
   · split
     · have key:∀(l A:List (List Int×Int)),(∀x∈l,x.1.length≤9)→(l.foldl (fun A c=>ansI (dueF G a c.1) c.2 A) A).length≤A.length+l.length∧((∀y∈A,y.1.length≤9+G.ws.length)→ ∀y∈l.foldl (fun A c=>ansI (dueF G a c.1) c.2 A) A,y.1.length≤9+G.ws.length):=by
        intro l;induction l with
        | nil=>exact fun A _=>⟨Nat.le_refl _,id⟩
        | cons c l ih=>
          intro A hl;obtain⟨h1,h2⟩:=ih (ansI (dueF G a c.1) c.2 A) fun x hx=>hl x (by simp[hx]);have h3:=(ansI_len (dueF G a c.1) c.2 A).1;refine⟨by rw[List.foldl_cons,List.length_cons];omega,fun hA=>h2 fun y hy=>?_⟩;rcases ansI_mem hy with e | h
          · rw[e];exact dueF_bd G a _ (hl c (by simp))
          · exact hA y h
       obtain⟨k1,k2⟩:=key (crsO G).1 [] b2;refine⟨?_,k2 hz⟩;show (ansL _ _).length≤5000
       have e:([]:List (List Int×Int)).length=0:=rfl;unfold ansL;omega
     · exact⟨Nat.zero_le _,hz⟩
   · exact⟨Nat.zero_le _,hz⟩
 · exact⟨Nat.zero_le _,hz⟩
end Go.Abs
set_option linter.unusedVariables false
set_option linter.unusedSimpArgs false
set_option maxRecDepth 20000
set_option maxHeartbeats 4000000
namespace Go.Abs
open Go.Proofs
def ir107:IFn:= ⟨29,[(4,none)],(sO [oo 2 (.box 4 0),oo 3 (.box 5 1),oM 4 (.k .nsl)] (sO [oo 5 (.nil 1 5)] (.seq (sO [oF 8 2 2,oL 9 8,oN 10 9,oM 11 (kI 0)] (.blk 0 (.loop (sO [oB 12 .lss 11 10] (.seq (.cnd 12 .skip (.exit 0)) (.seq (.blk 1 (sO [oM 13 11,oA 14 1 9 11,oL 15 14,oM 6 13,oM 7 15] (.ops [oM 16 5,oo 17 (.ld 5 true 3),oM 18 7,oF 19 3 2,oL 20 19,oM 21 6,oA 22 1 20 21,oL 23 22,oC 24 141 [17,18,23],oo 25 (.bsl 1 [[z0]] [(0,24)]),oo 26 (.app 1 8 16 25 5),oM 5 26]))) (.ops [oB 27 .add 11 (kI 1),oM 11 27]))))))) (sO [oM 28 5,oM 4 28] .ret))))⟩
def hint107(P:Program):Hint:={site:=[(26,5)],nils:=[(5,1)],frz:=[],mve:=[],wr:=[] }
def ir102:IFn:= ⟨18,[(6,none)],(sO [oo 3 (.box 4 0),oo 4 (.box 2 1),oM 6 (.k .nsl)] (sO [oF 10 0 3,oo 11 (.ld 2 true 10),oo 12 (.ld 2 true 4),oM 13 2,oC 14 96 [11,12,13],oM 9 14,oE 15 0 9,oE 16 1 9,oM 7 15,oM 8 16] (sO [oM 17 7,oM 6 17] .ret)))⟩
def ir101:IFn:= ⟨19,[(4,none)],(sO [oo 2 (.box 4 0),oo 3 (.box 2 1),oM 4 (kI 0)] (sO [oF 8 0 2,oo 9 (.ld 2 true 8),oo 10 (.ld 2 true 3),oF 11 2 2,oL 12 11,oo 13 (.ixA 1 12 (kI 0)),oL 14 13,oC 15 96 [9,10,14],oM 7 15,oE 16 0 7,oE 17 1 7,oM 5 16,oM 6 17] (sO [oM 18 6,oM 4 18] .ret)))⟩
def ir106:IFn:= ⟨63,[(6,some (2,true))],(sO [oo 3 (.box 4 0),oo 4 (.box 2 1),oo 6 (.new [.nsl,.nsl])] (sO [oF 18 0 3,oo 19 (.ld 2 true 18),oo 20 (.ld 2 true 4),oC 21 50 [19,20],oM 17 21,oE 22 0 17,oE 23 1 17,oE 24 2 17,oM 7 22,oM 8 23,oM 9 24] (sO [oM 25 7,oo 26 (.bld [.nsl,.nsl] [(0,1,25)]),oo 10 (.new [.nsl,.nsl]),oS 2 10 26] (.seq (sO [oF 27 2 3,oL 28 27,oN 29 28,oM 30 (kI 0)] (.blk 0 (.loop (sO [oB 31 .lss 30 29] (.seq (.cnd 31 .skip (.exit 0)) (.seq (.blk 1 (sO [oA 32 1 28 30,oL 33 32,oM 12 33] (sO [oo 13 (.nil 1 13)] (sO [oo 34 (.ld 4 true 3),oo 35 (.ld 2 true 4),oM 36 12,oC 37 102 [34,35,36],oM 14 37] (.seq (sO [oM 38 7,oN 39 38,oM 40 (kI 0)] (.blk 2 (.loop (sO [oB 41 .lss 40 39] (.seq (.cnd 41 .skip (.exit 2)) (.seq (.blk 3 (sO [oA 42 1 38 40,oL 43 42,oM 16 43] (.ops [oM 44 13,oo 45 (.ld 2 true 4),oM 46 2,oM 47 16,oM 48 14,oo 49 (.ld 4 true 3),oC 50 126 [49],⟨none,none,(.chk 2 true 4 45)⟩,oC 51 98 [45,46,47,48,50],oo 52 (.bsl 1 [[z0]] [(0,51)]),oo 53 (.app 1 8 44 52 13),oM 13 53]))) (.ops [oB 54 .add 40 (kI 1),oM 40 54]))))))) (.ops [oF 55 1 10,oL 56 55,oM 57 13,oo 58 (.bsl 1 [[.nsl]] [(0,57)]),oo 59 (.app 1 24 56 58 59),oF 60 1 10,oS 1 60 59])))))) (.ops [oB 61 .add 30 (kI 1),oM 30 61]))))))) (sO [oo 62 (.ld 2 true 10),oS 2 6 62] .ret)))))⟩
def hint106(P:Program):Hint:={site:=[(53,13)],nils:=[(13,1)],frz:=[],mve:=[],wr:=[] }
theorem weights_c(M:Md)(C:List (List Int×Int)){k:Nat}(hM:MdOK M k)(hk:k<1000)(hW:M.g.ws.length≤6)(hC:CsOK M.g k C):FV 107 [tbA M.g C,mdA M] (.slc 1 (iR (C.map fun x=>wtF M x.1 x.2)) .non):=by
 have hl1:(C.map (·.1)).length=C.length:=List.length_map _;have h5:=hC.l;obtain⟨R,hR⟩:∃R,(C.map fun x=>wtF M x.1 x.2)=R:=⟨_,rfl⟩;rw[hR];refine RawC.walk (H:=hint107 Tryz.prog) ir107 Tryz.func107 rfl rfl rfl ?_;unfold ir107
 repeat' (first|refine aR ?_|with_reducible refine zI fun y hy=>?_|refine aX ?_|with_reducible intro _|with_reducible refine zJ ?_ fun y hy=>?_|refine aP ?_ ?_)
 rename_i g5;refine w_loopK [2,3,9,10] [2,3] (fun x:List (List Int×Int)×List (List Int×Int)×List Int×Nat=>C=x.1++x.2.1∧x.2.2.1++(x.2.1.map fun x=>wtF M x.1 x.2)=R∧x.2.2.1.length=x.1.length) (fun x=>x.2.1.length) (fun x=>[(11,.int .i64 (x.1.length:Int)),(5,.slc 1 (iR x.2.2.1) (.own 5 x.2.2.2))]) (fun x=>[(5,(x.2.2.2,.row []))]) ([],C,[],g5) ⟨rfl,hR,rfl⟩ ⟨rfl,rfl,trivial⟩ ⟨rfl,trivial⟩ ?_;rintro⟨pre,post,out,g⟩ ⟨hl,hb,ho⟩ e σ;dsimp only at hl hb ho ⊢;have hlen:=congrArg List.length hl;rw[List.length_append] at hlen;have hol:(iR out).length=out.length:=List.length_map _;cases post with
 | nil=>
   simp only[List.length_nil] at hlen;rw[List.map_nil,List.append_nil] at hb;subst hb
   repeat' (first|refine aR ?_|with_reducible refine zI fun y hy=>?_|refine aX ?_|with_reducible intro _|with_reducible refine zJ ?_ fun y hy=>?_|refine aP ?_ ?_)
   all_goals first|(exfalso;omega)|rfl
 | cons c post=>
   simp only[List.length_cons] at hlen;rw[List.map_cons] at hb;obtain⟨c1,c2,c3⟩:=hC.c c (by rw[hl];simp);have hwt:=weight_c M c.1 c.2 hM c1 hk c2 hW c3;have hA:C.map (·.1)=pre.map (·.1)++c.1::post.map (·.1):=by rw[hl,List.map_append,List.map_cons]
   have hB:C.map (·.2)=pre.map (·.2)++c.2::post.map (·.2):=by rw[hl,List.map_append,List.map_cons]
   have hi1:AV.int .i64 (pre.length:Int)= .int .i64 ((pre.map (·.1)).length:Int):=by rw[List.length_map]
   have hi2:AV.int .i64 (pre.length:Int)= .int .i64 ((pre.map (·.2)).length:Int):=by rw[List.length_map]
   repeat' (first|refine aR ?_|(first|refine w_ixP hA rfl hi1 ?_|refine w_ixP (f:=fI) hB rfl hi2 ?_)|with_reducible refine zI fun y hy=>?_|((with_reducible refine aC ?_);first|refine aV hwt ?_)|refine aX ?_|with_reducible intro _|with_reducible refine zJ ?_ fun y hy=>?_|refine aP ?_ ?_)
   all_goals try (exfalso;omega)
   all_goals
    rename_i g6;exact q_loop (pre++[c],post,out++[wtF M c.1 c.2],g6) ⟨by show C=_;rw[hl];simp,by dsimp only;rw[←hb];simp,by dsimp only;rw[len_snoc,len_snoc,ho]⟩ (Nat.lt_succ_self _) ⟨by rw[len_snoc];rfl,by first|rfl|exact congrArg (fun z=>AV.slc 1 z (.own 5 g6)) (map_snoc (f:=fI) (x:=wtF M c.1 c.2)).symm,trivial⟩ aS aK aK
theorem tdue_c(G:Gm)(a:Aq)(C:List (List Int×Int))(c:List Int)(hw:G.ws.length<1000)(hd:G.ds.length<1000)(hs:∀w∈G.ws,w.name.size≤1000)(hc:c.length<1000):FV 102 [tbA G C,aqA a,.slc 1 (iR c) .non] (.slc 1 (iR (duO G a c).1) .non):=by
 have hD:=subV2 (DueA_c G a c hw hd hs hc) (sub_plA _ (duO_nil _ _ _));refine wk ir102 Tryz.func102 ?_;unfold ir102
 repeat' (first|refine aR ?_|((with_reducible refine aC ?_);first|refine aV hD ?_)|refine aX ?_|with_reducible intro _|refine aP ?_ ?_)
 all_goals exact aZ
theorem tcheckAsk_c(G:Gm)(a:Aq)(c:List Int×Int)(C:List (List Int×Int))(hw:G.ws.length<1000)(hd:G.ds.length<1000)(hs:∀w∈G.ws,w.name.size≤1000)(hc:c.1.length<1000):FV 101 [tbA G (c::C),aqA a] (.int .i64 (duO G a c.1).2):=by
 have hD:=subV2 (DueA_c G a c.1 hw hd hs hc) (sub_plA _ (duO_nil _ _ _));have hl:(c::C).map (·.1)=[]++c.1::C.map (·.1):=rfl;refine wk ir101 Tryz.func101 ?_;unfold ir101
 repeat' (first|refine aR ?_|(first|refine w_ixP hl rfl rfl ?_)|((with_reducible refine aC ?_);first|refine aV hD ?_)|refine aX ?_|with_reducible intro _|refine aP ?_ ?_)
 all_goals exact aZ
def ptV(l:List (List Int))(g:Nat):AV:=match l with
 | []=> .nsl
 | _::_=> .slc 1 (llR l) (.own 59 g)
def ptX(l:List (List Int))(g:Nat):Nat×Res:=match l with
 | []=>(0,.dead)
 | _::_=>(g,.row [])
theorem valuesOf_c(G:Gm)(a:Aq)(rule:Int)(C:List (List Int×Int)){k:Nat}(pt:List Int→List Int→Int)(hw:G.ws.length<1000)(hd:G.ds.length<1000)(hs:∀w∈G.ws,w.name.size≤1000)(hk:k<1000)(hC:CsOK G k C)(hne:C≠[])(hwo:∀x∈(ansO G a).1.map (·.1),∀c∈C,FV 98 [aqA a,.int .i64 rule,.slc 1 (iR x) .non,.slc 1 (iR (duO G a c.1).1) .non,.int .i64 (k:Nat)] (.int .i64 (pt x (duO G a c.1).1))):
  FV 106 [tbA G C,aqA a,.int .i64 rule] (.agg [.slc 1 (llR ((ansO G a).1.map (·.1))) .non,.slc 1 (llR (C.map fun c=>((ansO G a).1.map (·.1)).map fun x=>pt x (duO G a c.1).1)) .non]):=by
 have hAn:=subV2 (Answers_c G a hw hd hs) (sub_anA _ (ansO_nil _ _));have hbd:=(ansO_bd G a).1;obtain⟨c0,C',hcc⟩:=List.exists_cons_of_ne_nil hne;have hce:=tcens_c G c0 C';have hc0:=hC.c c0 (by rw[hcc];simp);rw[hc0.1,←hcc] at hce;obtain⟨L,hL⟩:∃L,(ansO G a).1.map (·.1)=L:=⟨_,rfl⟩;rw[hL] at hAn hwo ⊢;have hLl:L.length≤5000:=by rw[←hL,List.length_map];exact hbd
 have h5:=hC.l;have hl1:(C.map (·.1)).length=C.length:=List.length_map _;obtain⟨R,hR⟩:∃R,(C.map fun c=>L.map fun x=>pt x (duO G a c.1).1)=R:=⟨_,rfl⟩;rw[hR];have hRn:R≠[]:=by rw[←hR,hcc];exact List.cons_ne_nil _ _
 refine RawC.walk (H:=hint106 Tryz.prog) ir106 Tryz.func106 rfl rfl rfl ?_;unfold ir106
 repeat' (first|refine aR ?_|with_reducible refine zI fun y hy=>?_|((with_reducible refine aC ?_);first|refine aV hAn ?_)|refine aX ?_|with_reducible intro _|with_reducible refine zJ ?_ fun y hy=>?_|refine aP ?_ ?_)
 all_goals try (exfalso;omega)
 rename_i g3 g4 g6 g10;refine w_loopK [2,3,4,6,7,10,28,29] [3,4,6] (fun x:List (List Int×Int)×List (List Int×Int)×List (List Int)×Nat=>C=x.1++x.2.1∧x.2.2.1++(x.2.1.map fun c=>L.map fun x=>pt x (duO G a c.1).1)=R∧x.2.2.1.length=x.1.length) (fun x=>x.2.1.length) (fun x=>[(30,.int .i64 (x.1.length:Int))]) (fun x=>[(10,(g10,.row [.slc 1 (llR L) .non,ptV x.2.2.1 x.2.2.2])),(59,ptX x.2.2.1 x.2.2.2)]) ([],C,[],0) ⟨rfl,hR,rfl⟩ ⟨rfl,trivial⟩ ⟨rfl,rfl,trivial⟩ ?_;rintro⟨pre,post,out,g⟩ ⟨hl,hb,ho⟩ e σ;dsimp only at hl hb ho ⊢;have hlen:=congrArg List.length hl;rw[List.length_append] at hlen;cases post with
 | nil=>
   simp only[List.length_nil] at hlen;rw[List.map_nil,List.append_nil] at hb;subst hb;cases out with
   | nil=>exact absurd rfl hRn
   | cons y out=>
     repeat' (first|refine aR ?_|with_reducible refine zI fun y hy=>?_|refine aX ?_|with_reducible intro _|with_reducible refine zJ ?_ fun y hy=>?_|refine aP ?_ ?_)
     all_goals first|(exfalso;omega)|rfl
 | cons c post=>
   simp only[List.length_cons] at hlen;rw[List.map_cons] at hb;obtain⟨c1,c2,c3⟩:=hC.c c (by rw[hl];simp);have hdu:=tdue_c G a C c.1 hw hd hs (by omega);have hA:C.map (·.1)=pre.map (·.1)++c.1::post.map (·.1):=by rw[hl,List.map_append,List.map_cons]
   have hi1:AV.int .i64 (pre.length:Int)= .int .i64 ((pre.map (·.1)).length:Int):=by rw[List.length_map]
   have hwc:=fun x hx=>hwo x hx c (by rw[hl];simp);obtain⟨D,hD⟩:∃D,(duO G a c.1).1=D:=⟨_,rfl⟩;rw[hD] at hdu hwc hb
   repeat' (first|refine aR ?_|(first|refine w_ixP hA rfl hi1 ?_)|with_reducible refine zI fun y hy=>?_|((with_reducible refine aC ?_);first|refine aV hdu ?_)|refine aX ?_|with_reducible intro _|with_reducible refine zJ ?_ fun y hy=>?_|refine aP ?_ ?_)
   all_goals try (exfalso;omega)
   rename_i g13;refine w_loopK [2,3,4,6,7,10,14,28,29,30,38,39] [3,4,6,10,59] (fun x:List (List Int)×List (List Int)×Nat=>L=x.1++x.2.1) (fun x=>x.2.1.length) (fun x=>[(40,.int .i64 (x.1.length:Int)),(13,.slc 1 (iR (x.1.map fun y=>pt y D)) (.own 13 x.2.2))]) (fun x=>[(13,(x.2.2,.row []))]) ([],L,g13) rfl ⟨rfl,rfl,trivial⟩ ⟨rfl,trivial⟩ ?_;rintro⟨p,q,gr⟩ hp e2 σ2;dsimp only at hp ⊢;have hlen2:=congrArg List.length hp;rw[List.length_append] at hlen2;have hpl:(iR (p.map fun y=>pt y D)).length=p.length:=by rw[List.length_map,List.length_map]
   cases q with
   | nil=>
     simp only[List.length_nil] at hlen2;rw[List.append_nil] at hp;rw[←hp];cases out with
     | nil=>
       repeat' (first|refine aR ?_|with_reducible refine zI fun y hy=>?_|refine aX ?_|with_reducible intro _|with_reducible refine zJ ?_ fun y hy=>?_|refine aP ?_ ?_)
       all_goals try (exfalso;omega)
       all_goals
        rename_i g59;exact q_loop (pre++[c],post,[L.map fun y=>pt y D],g59) ⟨by show C=_;rw[hl];simp,hb,by dsimp only;rw[len_snoc,←ho];rfl⟩ (Nat.lt_succ_self _) ⟨by rw[len_snoc];rfl,trivial⟩ aS aK aK
     | cons y out=>
       have hyl:(llR (y::out)).length=out.length+1:=by rw[List.length_map];rfl
       have hyo:(y::out).length=out.length+1:=rfl
       repeat' (first|refine aR ?_|with_reducible refine zI fun y hy=>?_|refine aX ?_|with_reducible intro _|with_reducible refine zJ ?_ fun y hy=>?_|refine aP ?_ ?_)
       all_goals try (exfalso;omega)
       all_goals
        rename_i g59;have e1:llR (y::out)++[[.slc 1 (iR (L.map fun y=>pt y D)) .non]]=llR (y::out++[L.map fun y=>pt y D]):=(map_snoc (f:=fun l:List Int=>[AV.slc 1 (iR l) .non]) (l:=y::out)).symm;exact q_loop (pre++[c],post,y::out++[L.map fun y=>pt y D],g59) ⟨by show C=_;rw[hl];simp,by dsimp only;rw[←hb];simp,by dsimp only;rw[len_snoc,len_snoc,ho]⟩ (Nat.lt_succ_self _) ⟨by rw[len_snoc];rfl,trivial⟩ ⟨by first|rfl|exact congrArg (fun z=>(g10,Res.row [AV.slc 1 (llR L) .non,AV.slc 1 z (.own 59 g59)])) e1,rfl,trivial⟩ aK aK
   | cons y q=>
     simp only[List.length_cons] at hlen2;have hwy:=hwc y (by rw[hp];simp)
     repeat' (first|refine aR ?_|(first|refine w_ixP hp rfl rfl ?_)|with_reducible refine zI fun y hy=>?_|((with_reducible refine aC ?_);first|refine aV hce ?_|refine aV hwy ?_)|refine aX ?_|with_reducible intro _|with_reducible refine zJ ?_ fun y hy=>?_|refine aP ?_ ?_)
     all_goals try (exfalso;omega)
     all_goals
      rename_i g14;exact q_loop (p++[y],q,g14) (by show L=_;rw[hp];simp) (Nat.lt_succ_self _) ⟨by rw[len_snoc];rfl,by
       show _=AV.slc 1 (iR ((p++[y]).map fun y=>pt y D)) (.own 13 g14)
       rw[show (p++[y]).map (fun y=>pt y D)=p.map (fun y=>pt y D)++[pt y D] by simp];first|rfl|exact congrArg (fun z=>AV.slc 1 z (.own 13 g14)) (map_snoc (f:=fI) (x:=pt y D)).symm,trivial⟩ aS aK aK
end Go.Abs
set_option linter.unusedVariables false
set_option linter.unusedSimpArgs false
set_option maxRecDepth 20000
set_option maxHeartbeats 4000000
namespace Go.Abs
open Go.Proofs
def ir108:IFn:= ⟨52,[(4,none),(5,none)],(sO [oo 2 (.box 2 0),oM 4 (kI 0),oM 5 (kI 0)] (sO [oF 11 0 2,oL 12 11,oN 13 12,oo 14 (.mks 1 8 [z0] 13 13),oM 6 14] (.seq (sO [oM 15 1,oN 16 15,oM 17 (kI 0)] (.blk 0 (.loop (sO [oB 18 .lss 17 16] (.seq (.cnd 18 .skip (.exit 0)) (.seq (.blk 1 (sO [oM 19 17,oA 20 1 15 17,oL 21 20,oM 7 19,oM 8 21] (.seq (sO [oM 22 8,oB 23 .eql 22 (kI 0)] (.cnd 23 (.exit 1) .skip)) (sO [oF 24 1 2,oL 25 24,oM 26 7,oA 27 1 25 26,oL 28 27,oN 29 28,oM 30 (kI 0)] (.blk 2 (.loop (sO [oB 31 .lss 30 29] (.seq (.cnd 31 .skip (.exit 2)) (.seq (.blk 3 (sO [oM 32 30,oA 33 1 28 30,oL 34 33,oM 9 32,oM 10 34] (.ops [oM 35 6,oM 36 9,oA 37 1 35 36,oL 38 37,oM 39 8,oM 40 10,oB 41 .mul 39 40,oB 42 .add 38 41,oA 43 1 35 36,oS 1 43 42]))) (.ops [oB 44 .add 30 (kI 1),oM 30 44])))))))))) (.ops [oB 45 .add 17 (kI 1),oM 17 45]))))))) (.seq (.seq (.frz 6) (.ops [oM 46 6,oC 47 157 [46],oM 5 47])) (sO [oM 48 6,oM 49 5,oC 50 158 [48,49],oM 51 5,oM 4 50,oM 5 51] .ret)))))⟩
def hint108(P:Program):Hint:={site:=[],nils:=[],frz:=[(47,6)],mve:=[],wr:=[] }
def addK(xs:List Int)(w:Int)(r:List Int)(k:Nat):List Int:=(List.range xs.length).map fun j=>if j<k then xs.getD j 0+w*r.getD j 0 else xs.getD j 0
theorem addK_len(xs:List Int)(w:Int)(r:List Int)(k:Nat):(addK xs w r k).length=xs.length:=by simp[addK]
theorem addK_get{xs:List Int}{w:Int}{r:List Int}{k j:Nat}(h:j<xs.length):(addK xs w r k).getD j 0=if j<k then xs.getD j 0+w*r.getD j 0 else xs.getD j 0:=by unfold addK;rw[List.getD_eq_getElem?_getD,List.getElem?_map,List.getElem?_range h];rfl
theorem ext_getD{a b:List Int}(hl:a.length=b.length)(h:∀j,j<a.length→a.getD j 0=b.getD j 0):a=b:=by refine List.ext_getElem hl fun j h1 h2=>?_;have:=h j h1;rw[List.getD_eq_getElem?_getD,List.getD_eq_getElem?_getD,List.getElem?_eq_getElem h1,List.getElem?_eq_getElem h2] at this;exact this
theorem addK_zero(xs:List Int)(w:Int)(r:List Int):addK xs w r 0=xs:=ext_getD (addK_len ..) fun j hj=>by rw[addK_len] at hj;rw[addK_get hj,if_neg (Nat.not_lt_zero _)]
theorem addK_w0(xs r:List Int)(k:Nat):addK xs 0 r k=xs:=ext_getD (addK_len ..) fun j hj=>by rw[addK_len] at hj;rw[addK_get hj,Int.zero_mul,Int.add_zero,ite_self]
theorem addK_succ{xs:List Int}{w:Int}{r:List Int}{k:Nat}(h:k<xs.length):(addK xs w r k).set k ((addK xs w r k).getD k 0+w*r.getD k 0)=addK xs w r (k+1):=by
 refine ext_getD (by rw[List.length_set,addK_len,addK_len]) fun j hj=>?_;rw[List.length_set,addK_len] at hj;rw[set_getD (by rw[addK_len];exact h),addK_get hj,addK_get h,addK_get hj,if_neg (Nat.lt_irrefl k)];by_cases e:j=k
 · subst e;rw[if_pos rfl,if_pos (Nat.lt_succ_self j)]
 · rw[if_neg e];by_cases e2:j<k
   · rw[if_pos e2,if_pos (by omega)]
   · rw[if_neg e2,if_neg (by omega)]
def sumsF(n:Nat):List (Int×List Int)→List Int→List Int
 | [],xs=>xs
 | (w,r)::t,xs=>sumsF n t (addK xs w r n)
theorem vbest_c(L:List (List Int))(T:List (Int×List Int))(hn:1≤L.length)(hL:L.length≤5000)(hT:T.length≤5000)(hr:∀x∈T,x.2.length=L.length∧(∀p∈x.2,0≤p∧p≤36)∧0≤x.1)(hs:(T.map (·.1)).sum≤47900160000000000):
  FV 108 [.agg [.slc 1 (llR L) .non,.slc 1 (llR (T.map (·.2))) .non],.slc 1 (iR (T.map (·.1))) .non] (.tup [.int .i64 (fstI (sumsF L.length T (List.replicate L.length 0)) (maxF (sumsF L.length T (List.replicate L.length 0)))),.int .i64 (maxF (sumsF L.length T (List.replicate L.length 0)))]):=by
 have hll:(llR L).length=L.length:=List.length_map _;have hl1:(T.map (·.1)).length=T.length:=List.length_map _;obtain⟨R,hR⟩:∃R,sumsF L.length T (List.replicate L.length 0)=R:=⟨_,rfl⟩;rw[hR];have hsum:∀{q:List (Int×List Int)},(∀x∈q,0≤x.1)→0≤(q.map (·.1)).sum:=fun {q} h=>by
  induction q with
  | nil=>exact Int.le_refl _
  | cons a q ih=>rw[List.map_cons,List.sum_cons];have:=h a (by simp);have:=ih fun x hx=>h x (by simp[hx]);omega
 refine RawC.walk (H:=hint108 Tryz.prog) ir108 Tryz.func108 rfl rfl rfl ?_;unfold ir108
 repeat' (first|refine aR ?_|(refine w_mksI rfl (by omega) ?_;intro g14)|refine aX ?_|with_reducible intro _|refine aP ?_ ?_)
 all_goals try (exfalso;omega)
 refine w_loopK [2,6,15,16] [2] (fun x:List (Int×List Int)×List (Int×List Int)×List Int=>T=x.1++x.2.1∧sumsF L.length x.2.1 x.2.2=R∧x.2.2.length=L.length∧ ∀j,0≤x.2.2.getD j 0∧x.2.2.getD j 0≤36*(x.1.map (·.1)).sum) (fun x=>x.2.1.length) (fun x=>[(17,.int .i64 (x.1.length:Int))]) (fun x=>[(14,(g14,.row (x.2.2.map (AV.int .i64))))]) ([],T,List.replicate L.length 0) ⟨rfl,hR,List.length_replicate,fun j=>by
  have:(List.replicate L.length (0:Int)).getD j 0=0:=by rw[List.getD_eq_getElem?_getD,List.getElem?_replicate];split<;>rfl
  rw[this];exact⟨Int.le_refl _,Int.le_refl _⟩⟩ ⟨rfl,trivial⟩ ⟨rfl,trivial⟩ ?_
 rintro⟨pre,post,xs⟩ ⟨hl,hb,hx,hk⟩ e σ;dsimp only at hl hb hx hk ⊢;have hlen:=congrArg List.length hl;rw[List.length_append] at hlen;cases post with
 | nil=>
   simp only[List.length_nil] at hlen;rw[show sumsF L.length [] xs=xs from rfl] at hb;subst hb;have hfz:frzA 14 g14 (xs.map (AV.int .i64)) (.msl 14 g14 L.length 1)= .slc 1 (iR xs) .non:=by rw[←hx];simp[frzA,chunk1]
   cases xs with
   | nil=>exfalso;rw[List.length_nil] at hx;omega
   | cons y ys=>
     have hyl:(y::ys).length=ys.length+1:=rfl;have hmx:=max_c y ys (by omega);have hix:=idxK_c (y::ys) (maxF (y::ys)) (by omega)
     repeat' (first|refine aR ?_|refine aX ?_|with_reducible intro _|refine aP ?_ ?_)
     all_goals try (exfalso;omega)
     refine w_frzIG [(6,.slc 1 (iR (y::ys)) .non)] [] rfl rfl hx ⟨hfz,trivial⟩ trivial ?_;intro e2 σ2
     repeat' (first|refine aR ?_|((with_reducible refine aC ?_);first|refine aV hmx ?_|refine aV hix ?_)|refine aX ?_|with_reducible intro _|refine aP ?_ ?_)
     all_goals first|(exfalso;omega)|rfl
 | cons c post=>
   obtain⟨w,r⟩:=c;simp only[List.length_cons] at hlen;rw[sumsF] at hb;obtain⟨r1,r2,r3⟩:=hr (w,r) (by rw[hl];simp);dsimp only at r1 r2 r3;have hp0:=hsum (q:=pre) fun x hx=>(hr x (by rw[hl];simp[hx])).2.2;have hq0:=hsum (q:=post) fun x hx=>(hr x (by rw[hl];simp[hx])).2.2;have hsm:(T.map (·.1)).sum=(pre.map (·.1)).sum+(w+(post.map (·.1)).sum):=by rw[hl,List.map_append,List.sum_append,List.map_cons,List.sum_cons]
   have hsn:((pre++[(w,r)]).map (·.1)).sum=(pre.map (·.1)).sum+w:=by simp
   have hA:T.map (·.1)=pre.map (·.1)++w::post.map (·.1):=by rw[hl,List.map_append,List.map_cons]
   have hB:T.map (·.2)=pre.map (·.2)++r::post.map (·.2):=by rw[hl,List.map_append,List.map_cons]
   have hi1:AV.int .i64 (pre.length:Int)= .int .i64 ((pre.map (·.1)).length:Int):=by rw[List.length_map]
   have hi2:AV.int .i64 (pre.length:Int)= .int .i64 ((pre.map (·.2)).length:Int):=by rw[List.length_map]
   have hrl:(iR r).length=r.length:=List.length_map _;by_cases hw0:w=0
   · rw[hw0,addK_w0] at hb
     repeat' (first|refine aR ?_|(first|refine w_ixP (f:=fI) hA rfl hi1 ?_|refine w_ixP hB rfl hi2 ?_)|refine aX ?_|with_reducible intro _|refine aP ?_ ?_)
     all_goals first|(exfalso;omega)|exact q_loop (pre++[(w,r)],post,xs) ⟨by show T=_;rw[hl];simp,hb,hx,fun j=>by dsimp only;rw[hsn,hw0];have:=hk j;omega⟩ (Nat.lt_succ_self _) ⟨by rw[len_snoc];rfl,trivial⟩ aS aK aK
   repeat' (first|refine aR ?_|(first|refine w_ixP (f:=fI) hA rfl hi1 ?_|refine w_ixP hB rfl hi2 ?_)|refine aX ?_|with_reducible intro _|refine aP ?_ ?_)
   all_goals try (exfalso;omega)
   refine w_loopK [2,6,8,15,16,17,28,29] [2] (fun k:Nat=>k≤L.length) (fun k=>L.length-k) (fun k=>[(30,.int .i64 (k:Int))]) (fun k=>[(14,(g14,.row ((addK xs w r k).map (AV.int .i64))))]) 0 (Nat.zero_le _) ⟨rfl,trivial⟩ ⟨by rw[addK_zero];rfl,trivial⟩ ?_;rintro k hkn e2 σ2;try dsimp only at hkn ⊢
   have hal:=addK_len xs w r k;by_cases hke:k=L.length
   · have hb':sumsF L.length post (addK xs w r k)=R:=by rw[hke];exact hb
     have hbd:∀j,0≤(addK xs w r k).getD j 0∧(addK xs w r k).getD j 0≤36*((pre++[(w,r)]).map (·.1)).sum:=fun j=>by
      rw[hsn];by_cases hj:j<k
      · rw[addK_get (by omega),if_pos hj];have h1:=hk j;have h2:=r2 _ (getD_mem (l:=r) (i:=j) (d:=0) (by omega));have h3:=Int.mul_nonneg r3 h2.1;have h4:w*r.getD j 0≤w*36:=Int.mul_le_mul_of_nonneg_left h2.2 r3;omega
      · rw[List.getD_eq_getElem?_getD,List.getElem?_eq_none (by omega)];exact⟨Int.le_refl _,by show (0:Int)≤_;omega⟩
     repeat' (first|refine aR ?_|refine aX ?_|with_reducible intro _|refine aP ?_ ?_)
     all_goals first|(exfalso;omega)|exact q_loop (pre++[(w,r)],post,addK xs w r k) ⟨by show T=_;rw[hl];simp,hb',by dsimp only;rw[hal,hx],hbd⟩ (Nat.lt_succ_self _) ⟨by rw[len_snoc];rfl,trivial⟩ aS aK aK
   have hkl:k<xs.length:=by omega
   have hkl2:k*1<(addK xs w r k).length:=by omega
   have hk1:k*1=k:=Nat.mul_one _;obtain⟨pA,pB⟩:=at_split (l:=r) (i:=k) (d:=0) (by omega);have pI:AV.int .i64 (k:Int)= .int .i64 ((r.take k).length:Int):=by rw[pB]
   have h1:=hk k;have h2:=r2 _ (getD_mem (l:=r) (i:=k) (d:=0) (by omega));have h3:=Int.mul_nonneg r3 h2.1;have h4:w*r.getD k 0≤w*36:=Int.mul_le_mul_of_nonneg_left h2.2 r3;have hgk:(addK xs w r k).getD k 0=xs.getD k 0:=by rw[addK_get hkl,if_neg (Nat.lt_irrefl k)]
   have hsc:=addK_succ (w:=w) (r:=r) hkl;obtain⟨pv,hpv⟩:∃pv,r.getD k 0=pv:=⟨_,rfl⟩;rw[hpv] at pA h2 h3 h4 hsc
   repeat' (first|refine aR ?_|(first|refine w_ixP (f:=fI) pA rfl pI ?_|refine w_ldEl (p:=k) rfl (by omega) rfl (by omega) ?_|refine w_stEl (p:=k) rfl (by omega) rfl (by omega) rfl ?_)|refine aX ?_|with_reducible intro _|refine aP ?_ ?_)
   all_goals first|(exfalso;omega)|exact q_loop (k+1) (by show k+1≤L.length;omega) (by show L.length-(k+1)<L.length-k;omega) ⟨int_eq (by simp),trivial⟩ ⟨by rw[←hsc];rfl,trivial⟩ aK aK
end Go.Abs
set_option linter.unusedVariables false
set_option linter.unusedSimpArgs false
set_option maxRecDepth 20000
set_option maxHeartbeats 4000000
namespace Go.Abs
open Go.Proofs
def ir44:IFn:= ⟨56,[(6,none),(7,none),(8,none),(9,none)],(sO [oo 3 (.box 5 0),oo 4 (.box 2 1),oM 6 (.k .nsl),oM 7 (kI 0),oM 8 (kI 0),oM 9 (kI 0)] (sO [oo 17 (.ld 5 true 3),oC 18 72 [17],oM 16 18,oE 19 0 16,oE 20 1 16,oo 10 (.new [.nsl,.nsl,.nsl,.nsl]),oS 4 10 19,oM 9 20] (.seq (sO [oM 21 9,oB 22 .neq 21 (kI 0)] (.cnd 22 (sO [oM 23 9,oM 6 (.k .nsl),oM 7 (kI 0),oM 8 (kI 0),oM 9 23] .ret) .skip)) (.seq (sO [oo 24 (.ld 4 true 10),oo 25 (.ld 2 true 4),oC 26 101 [24,25],oM 11 26] (sO [oM 27 11,oB 28 .neq 27 (kI 0)] (.cnd 28 (sO [oM 29 11,oM 6 (.k .nsl),oM 7 (kI 0),oM 8 (kI 0),oM 9 29] .ret) .skip))) (.seq (sO [oM 30 2,oC 31 97 [30],oM 12 31] (sO [oM 32 12,oB 33 .neq 32 (kI 0)] (.cnd 33 (sO [oM 34 12,oM 6 (.k .nsl),oM 7 (kI 0),oM 8 (kI 0),oM 9 34] .ret) .skip))) (sO [⟨none,none,(.kil 13)⟩,oo 35 (.ld 4 true 10),oo 36 (.ld 2 true 4),oM 37 2,oo 39 (.ld 4 true 10),oo 40 (.ld 5 true 3),oC 38 106 [35,36,37],⟨none,none,(.chk 4 true 10 39)⟩,⟨none,none,(.chk 5 true 3 40)⟩,oC 41 107 [39,40],oo 13 (.new [.nsl,.nsl]),oS 2 13 38,oM 14 41] (sO [oo 43 (.ld 2 true 13),oM 44 14,oC 45 108 [43,44],oM 42 45,oE 46 0 42,oE 47 1 42,oM 15 46,oM 7 47] (sO [oF 48 0 13,oL 49 48,oM 50 15,oA 51 1 49 50,oL 52 51,oM 53 7,oM 54 14,oC 55 109 [54],oK 48 49,oK 51 52,oM 6 52,oM 7 53,oM 8 55,oM 9 (kI 0)] .ret))))))))⟩
theorem course_ok{G:Gm}{c:List Int}(hc:c.length=censG (stepsG G.ds))(hw:∀x∈c,0≤x∧x<(G.ws.length:Int)):courseErr G c=0:=by unfold courseErr;rw[if_pos (by rw[hc]),if_neg];rw[List.any_eq_true];rintro⟨x,hx,h⟩;have:=hw x hx;rw[show inB x 0 (G.ws.length-1)=true from inB_t.2 (by omega)] at h;exact absurd h (by decide)
theorem duO_ok{G:Gm}{a:Aq}{c:List Int}(h0:gmErr G=0)(hc:c.length=censG (stepsG G.ds))(hw:∀x∈c,0≤x∧x<(G.ws.length:Int)):(duO G a c).2=askErr G.ws.length a∧(askErr G.ws.length a=0→(duO G a c).1=dueF G a c):=by
 unfold duO;rw[if_pos h0];by_cases h1:askErr G.ws.length a=0
 · rw[if_pos h1,if_pos (course_ok hc hw)];exact⟨h1.symm,fun _=>rfl⟩
 · rw[if_neg h1];exact⟨rfl,fun h=>absurd h h1⟩
theorem maxF_mem:∀{l:List Int},l≠[]→maxF l∈l
 | [],h=>absurd rfl h
 | x::r,_=>by
   have key:∀(r:List Int) (m:Int),r.foldl max m=m∨r.foldl max m∈r:=by
    intro r;induction r with
    | nil=>exact fun m=> .inl rfl
    | cons y r ih=>
      intro m;rw[List.foldl_cons];rcases ih (max m y) with h | h
      · rw[h];by_cases hm:y≤m
        · left;omega
        · right;rw[show max m y=y by omega];simp
      · right;exact List.mem_cons_of_mem _ h
   show r.foldl max x∈x::r
   rcases key r x with h | h
   · rw[h];simp
   · exact List.mem_cons_of_mem _ h
theorem sumsF_len(n:Nat):∀(T:List (Int×List Int)) (xs:List Int),(sumsF n T xs).length=xs.length
 | [],_=>rfl
 | (w,r)::t,xs=>by rw[sumsF,sumsF_len n t,addK_len]
theorem fstI_mem{l:List Int}{w:Int}(h:w∈l):0≤fstI l w∧fstI l w<l.length:=by unfold fstI;rw[if_pos h];have:=List.idxOf_lt_length_of_mem h;omega
theorem wt_le{M:Md}{k:Nat}(hM:MdOK M k){c:List Int}{n:Int}(hc:c.length=k)(hcw:∀x∈c,0≤x∧x<(M.g.ws.length:Int))(h0:0≤n):0≤wtF M c n∧wtF M c n≤n*100000000:=by
 have hn:=Int.mul_nonneg h0 (show (0:Int)≤100000000 by decide);unfold wtF;split
 · obtain⟨k1,k2⟩:=fold_bd (f:=tkF M.no c) (l:=M.sm) (fun s hs=>tk_bd hM hc hcw (hM.sm s hs)) h0 (Int.le_refl n);have:=Int.mul_le_mul_of_nonneg_left (pow10_le hM.sl) h0;exact⟨k1,by omega⟩
 · exact⟨Int.le_refl _,hn⟩
theorem wts_sum{M:Md}{k:Nat}(hM:MdOK M k):∀{C:List (List Int×Int)},(∀x∈C,x.1.length=k∧(∀w∈x.1,0≤w∧w<(M.g.ws.length:Int))∧0≤x.2)→(C.map fun x=>wtF M x.1 x.2).sum≤sumA C*100000000
 | [],_=>by show (0:Int)≤0*100000000;decide
 | c::C,h=>by obtain⟨h1,h2,h3⟩:=h c (by simp);have h4:=wts_sum hM (C:=C) fun x hx=>h x (by simp[hx]);have h5:=(wt_le hM h1 h2 h3).2;rw[List.map_cons,List.sum_cons,sumA,Int.add_mul];omega
def kbT(M:Md)(a:Aq)(pt:List Int→List Int→Int):List (Int×List Int):=(crsG M.g).map fun c=>(wtF M c.1 c.2,((ansO M.g a).1.map (·.1)).map fun x=>pt x (duO M.g a c.1).1)
def kbS(M:Md)(a:Aq)(pt:List Int→List Int→Int):List Int:=sumsF ((ansO M.g a).1.map (·.1)).length (kbT M a pt) (List.replicate ((ansO M.g a).1.map (·.1)).length 0)
def kbO(M:Md)(a:Aq)(rule:Int)(pt:List Int→List Int→Int):List Int×Int×Int×Int:=
 if mdErr M=0 then (if askErr M.g.ws.length a=0 then (if ruErr rule=0 then
  (((ansO M.g a).1.map (·.1)).getD (fstI (kbS M a pt) (maxF (kbS M a pt))).toNat [],maxF (kbS M a pt),((crsG M.g).map fun x=>wtF M x.1 x.2).sum,0)
  else ([],0,0,ruErr rule)) else ([],0,0,    askErr M.g.ws.length a)) else ([],0,0,mdErr M)
theorem ansO_ne{G:Gm}{a:Aq}(h0:(crsO G).2=0)(ha:askErr G.ws.length a=0):(ansO G a).1≠[]:=by
 obtain⟨hG,h1,hC1,_,hC3⟩:=crsK_ok h0;unfold ansO;rw[if_pos h1,if_pos ha,if_pos h0,hC1];obtain⟨c,C,hc⟩:=List.exists_cons_of_ne_nil hC3;rw[hc];intro h;have key:∀(l A:List (List Int×Int)),A≠[]→l.foldl (fun A c=>ansI (dueF G a c.1) c.2 A) A≠[]:=by
  intro l;induction l with
  | nil=>exact fun A hA=>hA
  | cons y l ih=> intro A _;refine ih _ fun e=>?_;have:=(ansI_len (dueF G a y.1) y.2 A).2;rw[show ansI (dueF G a y.1) y.2 A=[] from e] at this;exact absurd this (by decide)
 have h2:ansL (dueF G a) (c::C)=[]:=h;unfold ansL at h2;rw[List.foldl_cons] at h2;exact key C _ (fun e=>by have:=(ansI_len (dueF G a c.1) c.2 []).2;rw[show ansI (dueF G a c.1) c.2 []=[] from e] at this;exact absurd this (by decide)) h2
theorem kBest_c(M:Md)(a:Aq)(rule:Int)(pt:List Int→List Int→Int)(hw:M.g.ws.length<1000)(hd:M.g.ds.length<1000)(hs:∀w∈M.g.ws,w.name.size≤1000)(hwo:mdErr M=0→askErr M.g.ws.length a=0→ruErr rule=0→ ∀x∈(ansO M.g a).1.map (·.1),∀c∈crsG M.g,FV 98 [aqA a,.int .i64 rule,.slc 1 (iR x) .non,.slc 1 (iR (duO M.g a c.1).1) .non,.int .i64 (censG (stepsG M.g.ds):Nat)] (.int .i64 (pt x (duO M.g a c.1).1))∧0≤pt x (duO M.g a c.1).1∧pt x (duO M.g a c.1).1≤36):
  FV 44 [mdA M,aqA a,.int .i64 rule] (.tup [.slc 1 (iR (kbO M a rule pt).1) .non,.int .i64 (kbO M a rule pt).2.1,.int .i64 (kbO M a rule pt).2.2.1,.int .i64 (kbO M a rule pt).2.2.2]):=by
 have hck:=checked_c M hw hd hs;have hru:=checkRule_k rule;have hsub:∀e:Int,Sub (.tup [.nsl,.int .i64 0,.int .i64 0,.int .i64 e]) (.tup [.slc 1 (iR []) .non,.int .i64 0,.int .i64 0,.int .i64 e]):=fun e=>Sub.tupM (.cons Sub.nil (.cons (Sub.refl _) (.cons (Sub.refl _) (.cons (Sub.refl _) .nil))));by_cases h0:mdErr M=0
 rotate_left
 · rw[show kbO M a rule pt=([],0,0,mdErr M) from if_neg h0];refine subV2 ?_ (hsub _);refine wk ir44 Tryz.func44 ?_;unfold ir44
   repeat' (first|refine aR ?_|with_reducible refine zI fun y hy=>?_|((with_reducible refine aC ?_);first|refine aV hck ?_)|refine aX ?_|with_reducible intro _|with_reducible refine zJ ?_ fun y hy=>?_|refine aP ?_ ?_)
   all_goals exact aZ
 rw[h0] at hck;obtain⟨hM,h1,hne⟩:=mdErr_ok h0;obtain⟨hG,hg0,hC1,hC2,hC3⟩:=crsK_ok h1;have hcl:=hG.cen;rw[hC1] at hck;obtain⟨c0,C',hcc⟩:=List.exists_cons_of_ne_nil hC3;have hc0:=hC2.c c0 (by rw[hcc];simp);have hca:=tcheckAsk_c M.g a c0 C' hw hd hs (by omega);rw[(duO_ok hg0 hc0.1 hc0.2.1).1,←hcc] at hca;by_cases h2:askErr M.g.ws.length a=0
 rotate_left
 · rw[show kbO M a rule pt=([],0,0,askErr M.g.ws.length a) by unfold kbO;rw[if_pos h0,if_neg h2]];refine subV2 ?_ (hsub _);refine wk ir44 Tryz.func44 ?_;unfold ir44
   repeat' (first|refine aR ?_|with_reducible refine zI fun y hy=>?_|((with_reducible refine aC ?_);first|refine aV hck ?_|refine aV hca ?_)|refine aX ?_|with_reducible intro _|with_reducible refine zJ ?_ fun y hy=>?_|refine aP ?_ ?_)
   all_goals exact aZ
 rw[h2] at hca;by_cases h3:ruErr rule=0
 rotate_left
 · rw[show kbO M a rule pt=([],0,0,ruErr rule) by unfold kbO;rw[if_pos h0,if_pos h2,if_neg h3]];refine subV2 ?_ (hsub _);refine wk ir44 Tryz.func44 ?_;unfold ir44
   repeat' (first|refine aR ?_|with_reducible refine zI fun y hy=>?_|((with_reducible refine aC ?_);first|refine aV hck ?_|refine aV hca ?_|refine aV hru ?_)|refine aX ?_|with_reducible intro _|with_reducible refine zJ ?_ fun y hy=>?_|refine aP ?_ ?_)
   all_goals exact aZ
 rw[h3] at hru;rw[show kbO M a rule pt=(((ansO M.g a).1.map (·.1)).getD (fstI (kbS M a pt) (maxF (kbS M a pt))).toNat [],maxF (kbS M a pt),((crsG M.g).map fun x=>wtF M x.1 x.2).sum,0) by unfold kbO;rw[if_pos h0,if_pos h2,if_pos h3]];have hwo':=hwo h0 h2 h3;have hva:=valuesOf_c M.g a rule (crsG M.g) pt hw hd hs (by omega) hC2 hC3 fun x hx c hc=>(hwo' x hx c hc).1;have hwt:=weights_c M (crsG M.g) hM (by omega) hG.n6 hC2;have hab:=(ansO_bd M.g a).1;have han:=ansO_ne h1 h2;have hsm:((crsG M.g).map fun x=>wtF M x.1 x.2).sum≤47900160000000000:=by have h4:=wts_sum hM (C:=crsG M.g) fun x hx=>⟨(hC2.c x hx).1,(hC2.c x hx).2.1,(hC2.c x hx).2.2.1⟩;have h5:=allW_bd hG;rw[crsG_sum hG] at h4;omega
 have hnn:∀x∈(crsG M.g).map (fun x=>wtF M x.1 x.2),0≤x:=fun x hx=>by obtain⟨c,hc,rfl⟩:=List.mem_map.1 hx;obtain⟨q1,q2,q3,_⟩:=hC2.c c hc;exact (wt_le hM q1 q2 q3).1
 have hto:=total_c ((crsG M.g).map fun x=>wtF M x.1 x.2) 47900160000000000 (by rw[List.length_map];have:=hC2.l;omega) hnn hsm (by decide);have hT1:(kbT M a pt).map (·.1)=(crsG M.g).map fun x=>wtF M x.1 x.2:=by unfold kbT;rw[List.map_map];rfl
 have hT2:(kbT M a pt).map (·.2)=(crsG M.g).map fun c=>((ansO M.g a).1.map (·.1)).map fun x=>pt x (duO M.g a c.1).1:=by unfold kbT;rw[List.map_map];rfl
 have hTl:(kbT M a pt).length=(crsG M.g).length:=by unfold kbT;rw[List.length_map]
 obtain⟨S,hS⟩:∃S,kbS M a pt=S:=⟨_,rfl⟩;have hS':=hS;unfold kbS at hS';have hbp:∀x∈kbT M a pt,x.2.length=((ansO M.g a).1.map (·.1)).length∧(∀p∈x.2,0≤p∧p≤36)∧0≤x.1:=fun x hx=>by unfold kbT at hx;obtain⟨c,hc,rfl⟩:=List.mem_map.1 hx;refine⟨by rw[List.length_map],fun p hp=>?_,hnn _ (List.mem_map.2 ⟨c,hc,rfl⟩)⟩;obtain⟨y,hy,rfl⟩:=List.mem_map.1 hp;exact (hwo' y hy c hc).2
 obtain⟨L,hL⟩:∃L,(ansO M.g a).1.map (·.1)=L:=⟨_,rfl⟩;have hLl:L.length=(ansO M.g a).1.length:=by rw[←hL,List.length_map]
 have hL1:1≤L.length:=by rw[hLl];exact List.length_pos_iff.2 han
 rw[hL] at hva hbp hT2 hS' ⊢;rw[hS];have hvb:=vbest_c L (kbT M a pt) hL1 (by omega) (by rw[hTl];exact hC2.l) hbp (by rw[hT1];exact hsm);rw[hT1,hT2,hS'] at hvb;have hSl:S.length=L.length:=by rw[←hS',sumsF_len,List.length_replicate]
 have hmm:=maxF_mem (l:=S) (by intro e;rw[e] at hSl;simp at hSl;omega);obtain⟨i0,i1⟩:=fstI_mem hmm;obtain⟨lA,lB⟩:=at_split (l:=L) (i:=(fstI S (maxF S)).toNat) (d:=[]) (by omega);have lI:AV.int .i64 (fstI S (maxF S))= .int .i64 ((L.take (fstI S (maxF S)).toNat).length:Int):=int_eq (by rw[lB];omega);obtain⟨W,hWW⟩:∃W,((crsG M.g).map fun x=>wtF M x.1 x.2)=W:=⟨_,rfl⟩;rw[hWW] at hwt hvb hto ⊢;obtain⟨an,han2⟩:∃an,L.getD (fstI S (maxF S)).toNat []=an:=⟨_,rfl⟩;rw[han2] at lA ⊢;refine wk ir44 Tryz.func44 ?_;unfold ir44
 repeat' (first|refine aR ?_|(first|refine w_ixP lA rfl lI ?_)|with_reducible refine zI fun y hy=>?_|((with_reducible refine aC ?_);first|refine aV hck ?_|refine aV hca ?_|refine aV hru ?_|refine aV hva ?_|refine aV hwt ?_|refine aV hvb ?_|refine aV hto ?_)|refine aX ?_|with_reducible intro _|with_reducible refine zJ ?_ fun y hy=>?_|refine aP ?_ ?_)
 all_goals exact aZ
end Go.Abs
set_option linter.unusedVariables false
set_option linter.unusedSimpArgs false
set_option maxRecDepth 20000
set_option maxHeartbeats 4000000
namespace Go.Abs
open Go.Proofs
def ir66:IFn:= ⟨13,[(0,some (2,true))],(sO [oo 0 (.new [.nsl,.nsl])] (sO [oo 1 (.bld [(.str ByteArray.empty),z0] [(0,1,(.k (.str ⟨#[97]⟩))),(1,1,(kI 1))]),oo 2 (.bld [(.str ByteArray.empty),z0] [(0,1,(.k (.str ⟨#[98]⟩))),(1,1,(kI 2))]),oo 3 (.bld [(.str ByteArray.empty),z0] [(0,1,(.k (.str ⟨#[99]⟩))),(1,1,(kI 3))]),oo 4 (.bsl 2 [[(.str ByteArray.empty),z0],[(.str ByteArray.empty),z0],[(.str ByteArray.empty),z0]] [(0,1),(1,2),(2,3)]),oo 5 (.bld [z0,z0,z0,z0,z0] [(0,1,(kI 1))]),oo 6 (.bld [z0,z0,z0,z0,z0] [(0,1,(kI 1)),(3,1,(kI 1))]),oo 7 (.bld [z0,z0,z0,z0,z0] [(0,1,(kI 2)),(4,1,(kI 2))]),oo 8 (.bld [z0,z0,z0,z0,z0] [(0,1,(kI 2)),(3,1,(kI 1)),(4,1,(kI 1))]),oo 9 (.bld [z0,z0,z0,z0,z0] [(0,1,(kI 2)),(3,1,(kI 2)),(4,1,(kI 1))]),oo 10 (.bld [z0,z0,z0,z0,z0] [(0,1,(kI 5)),(4,1,(kI 3))]),oo 11 (.bsl 5 [[z0,z0,z0,z0,z0],[z0,z0,z0,z0,z0],[z0,z0,z0,z0,z0],[z0,z0,z0,z0,z0],[z0,z0,z0,z0,z0],[z0,z0,z0,z0,z0]] [(0,5),(1,6),(2,7),(3,8),(4,9),(5,10)]),oo 12 (.bld [.nsl,.nsl] [(0,1,4),(1,1,11)]),oS 2 0 12] .ret))⟩
def ir67:IFn:= ⟨6,[(0,some (1,true))],(sO [oo 0 (.new [.nsl])] (sO [oo 1 (.bsl 1 [[z0],[z0],[z0]] [(0,(kI 7)),(1,(kI 3)),(2,(kI 0))]),oo 2 (.bsl 1 [[z0],[z0],[z0]] [(0,(kI 3)),(1,(kI 7)),(2,(kI 0))]),oo 3 (.bsl 1 [[z0],[z0],[z0]] [(0,(kI 0)),(1,(kI 0)),(2,(kI 10))]),oo 4 (.bsl 1 [[.nsl],[.nsl],[.nsl]] [(0,1),(1,2),(2,3)]),oo 5 (.bld [.nsl] [(0,1,4)]),oS 1 0 5] .ret))⟩
def ir64:IFn:= ⟨8,[(0,some (5,true))],(sO [oo 0 (.new [.nsl,.nsl,.nsl,.nsl,.nsl])] (sO [oC 1 66 [],oC 2 67 [],oo 3 (.bsl 1 [[.nsl]] [(0,2)]),oo 4 (.bld [z0,z0,z0] []),oo 5 (.bld [z0,z0,z0] [(1,1,(kI 1)),(2,1,(kI 2))]),oo 6 (.bsl 3 [[z0,z0,z0],[z0,z0,z0]] [(0,4),(1,5)]),oo 7 (.bld [.nsl,.nsl,.nsl,.nsl,.nsl] [(0,2,1),(2,1,3),(3,1,6)]),oS 5 0 7] .ret))⟩
def ir65:IFn:= ⟨10,[(0,some (5,true))],(sO [oo 0 (.new [.nsl,.nsl,.nsl,.nsl,.nsl])] (sO [oC 2 64 [],oo 1 (.new [.nsl,.nsl,.nsl,.nsl,.nsl]),oS 5 1 2] (sO [oF 3 3 1,oL 4 3,oo 5 (.bld [z0,z0,z0] [(1,1,(kI 2))]),oo 6 (.bsl 3 [[z0,z0,z0]] [(0,5)]),oo 7 (.app 3 24 4 6 7),oF 8 3 1,oS 1 8 7] (sO [oo 9 (.ld 5 true 1),oS 5 0 9] .ret))))⟩
def ir57:IFn:= ⟨5,[(2,some (2,true))],(sO [oo 2 (.new [z0,z0])] (sO [oM 3 0,oo 4 (.bld [z0,z0] [(0,1,3)]),oS 2 2 4] .ret))⟩
def ir22:IFn:= ⟨46,[(0,none)],(sO [oM 0 (kB false)] (sO [oC 9 65 [],oC 10 19 [9],oM 8 10,oE 11 0 8,oE 12 1 8,oE 13 2 8,oM 1 11,oM 2 12,oM 3 13] (sO [oC 15 64 [],oC 16 57 [(kI 1)],oC 17 44 [15,16,(kI 1)],oM 14 17,oE 18 0 14,oE 19 1 14,oE 20 2 14,oE 21 3 14,oM 4 18,oM 5 19,oM 6 20,oM 7 21] (sO [oM 22 3,oB 23 .eql 22 (kI 0),oM 24 23,⟨(some 25),(some (24,true)),(.mov 7)⟩,⟨(some 26),(some (24,true)),(.bin .eql 25 (kI 0))⟩,oo 27 (.pick 24 26 (kB false)),oM 28 27,⟨(some 29),(some (28,true)),(.mov 2)⟩,⟨(some 30),(some (28,true)),(.bsl 1 [[z0],[z0],[z0]] [(0,(kI 980)),(1,(kI 420)),(2,(kI 420))])⟩,⟨(some 31),(some (28,true)),(.callF 21 [29,30])⟩,oo 32 (.pick 28 31 (kB false)),oM 33 32,⟨(some 34),(some (33,true)),(.mov 4)⟩,⟨(some 35),(some (33,true)),(.bsl 1 [[z0],[z0],[z0]] [(0,(kI 0)),(1,(kI 1)),(2,(kI 2))])⟩,⟨(some 36),(some (33,true)),(.callF 21 [34,35])⟩,oo 37 (.pick 33 36 (kB false)),oM 38 37,⟨(some 39),(some (38,true)),(.mov 5)⟩,⟨(some 40),(some (38,true)),(.bin .eql 39 (kI 200))⟩,oo 41 (.pick 38 40 (kB false)),oM 42 41,⟨(some 43),(some (42,true)),(.mov 6)⟩,⟨(some 44),(some (42,true)),(.bin .eql 43 (kI 340))⟩,oo 45 (.pick 42 44 (kB false)),oM 0 45] .ret))))⟩
theorem Sub.aggM{l m:List AV}(h:SubL l m):Sub (.agg l) (.agg m):=fun G v ⟨vs,h1,h2⟩=>⟨vs,h1,SubL.rel h h2⟩
def mTwo:Md:=⟨g3,[[[7,3,0],[3,7,0],[0,0,10]]],[⟨0,0,0⟩,⟨0,1,2⟩],[]⟩
def mAll:Md:=⟨g3,[[[7,3,0],[3,7,0],[0,0,10]]],[⟨0,0,0⟩,⟨0,1,2⟩,⟨0,2,0⟩],[]⟩
theorem kthree_c:FV 66 [] (gmA g3):=by
 refine wk ir66 Tryz.func66 ?_;unfold ir66
 repeat' (first|refine aR ?_|refine aX ?_|with_reducible intro _|refine aP ?_ ?_)
 rfl
theorem knose_c:FV 67 [] (noA [[7,3,0],[3,7,0],[0,0,10]]):=by
 refine wk ir67 Tryz.func67 ?_;unfold ir67
 repeat' (first|refine aR ?_|refine aX ?_|with_reducible intro _|refine aP ?_ ?_)
 rfl
theorem kask_c(k:Int):FV 57 [.int .i64 k] (aqA ⟨k,0⟩):=by
 refine wk ir57 Tryz.func57 ?_;unfold ir57
 repeat' (first|refine aR ?_|refine aX ?_|with_reducible intro _|refine aP ?_ ?_)
 rfl
theorem mdN(M:Md)(h:M.fa=[]):Sub (.agg [.slc 2 (wR M.g.ws) .non,.slc 5 (dlR M.g.ds) .non,.slc 1 (noR M.no) .non,.slc 3 (smR M.sm) .non,.nsl]) (mdA M):=by refine Sub.aggM (.cons (Sub.refl _) (.cons (Sub.refl _) (.cons (Sub.refl _) (.cons (Sub.refl _) (.cons ?_ .nil)))));rw[h];exact Sub.nil
theorem ktwo_c:FV 64 [] (.agg [.slc 2 (wR mTwo.g.ws) .non,.slc 5 (dlR mTwo.g.ds) .non,.slc 1 (noR mTwo.no) .non,.slc 3 (smR mTwo.sm) .non,.nsl]):=by
 refine wk ir64 Tryz.func64 ?_;unfold ir64
 repeat' (first|refine aR ?_|((with_reducible refine aC ?_);first|refine aV kthree_c ?_|refine aV knose_c ?_)|refine aX ?_|with_reducible intro _|refine aP ?_ ?_)
 rfl
theorem ktwoF_c:FV 64 [] (.agg [.slc 2 (wR g3.ws) .non,.slc 5 (dlR g3.ds) .non,.slc 1 (noR [[[7,3,0],[3,7,0],[0,0,10]]]) .full,.slc 3 [[.int .i64 0,.int .i64 0,.int .i64 0],[.int .i64 0,.int .i64 1,.int .i64 2]] .full,.nsl]):=by
 refine wk ir64 Tryz.func64 ?_;unfold ir64
 repeat' (first
  | with_reducible (first|refine Rd.p ?_|refine w_alt ?_ ?_|refine zO ?_|refine zE0 ?_)
  | with_reducible (first|refine zI fun y hy=>?_|refine zL ?_|refine zS ?_|refine zA fun _=>?_|refine zV ?_|refine zC ?_|refine zG ?_|refine zU ?_|refine zG0 ?_|refine zU0 ?_|refine zF ?_)
  | ((with_reducible refine acall_id ?_);refine ACall.val kthree_c rfl rfl ?_)
  | ((with_reducible refine acall_id ?_);refine ACall.val knose_c rfl rfl ?_)
  | with_reducible (first|refine zX ?_|refine zD fun _=>?_|refine zD0 ?_|refine zN ?_|refine zF0 ?_|refine zX0 ?_|refine z1 ?_|refine z2 ?_|refine z3 ?_|refine z4 ?_|refine z5 ?_|refine z6 ?_|refine z7 ?_|refine z8 ?_|refine y1 ?_|refine y2 ?_|refine y3 ?_|refine y4 ?_|refine y5 ?_|refine y6 ?_|refine y7 ?_|refine y8 ?_|refine Rt.p (fun _=>?_) fun _=>?_)
  | ((with_reducible apply w_ixM);(focus exact rfl);(focus exact rfl);case' hk=>intro y hy)|((with_reducible (first | apply w_val | apply q_ends));(focus exact rfl)))
 all_goals first|rfl
theorem kall_c:FV 65 [] (.agg [.slc 2 (wR mAll.g.ws) .non,.slc 5 (dlR mAll.g.ds) .non,.slc 1 (noR mAll.no) .non,.slc 3 (smR mAll.sm) .non,.nsl]):=by
 refine wk ir65 Tryz.func65 ?_;unfold ir65
 repeat' (first|refine aR ?_|((with_reducible refine aC ?_);first|((refine ACall.valF ktwoF_c rfl rfl ?_)))|refine aX ?_|with_reducible intro _|refine aP ?_ ?_)
 all_goals first|rfl
abbrev ptW(x y:List Int):Int:=if x=y then 1 else 0
theorem mAll_lf:lfO mAll=([([0,2,0],980),([0,2,1],420),([1,2,0],420)],0):=by decide+kernel
theorem mTwo_bs:kbO mTwo ⟨1,0⟩ 1 ptW=([0,1,2],200,340,0):=by decide+kernel
end Go.Abs
