
import Derived.Test.YtfakoboiahbhaaaGreatJt4
import Derived.Test.YtfakoboiahbhaaaGreatJt8
import Derived.Test.YtfakoboiahbhaaaGreatJt10
import Derived.KernelRfl
set_option linter.unusedSimpArgs false
set_option linter.unusedVariables false
set_option linter.unusedSectionVars false

open List renaming any_eq_true→uh,append_of_mem→uT,getElem?_append→sb,length_map→sV,map_append→sZ,map_congr_left→ti,map_cons→sx,map_map→tr,map_nil→tM,mem_append→sN,mem_cons→sj,mem_flatten→ui,mem_map→sm,not_mem_nil→tW,perm_middle→we
open Nat renaming lt_succ_self→sf
open Option renaming bind_some→r_
namespace Go.Proofs.YtfakoboiahbhaaaGreat.Ab
open Go
set_option maxRecDepth 20000
set_option maxHeartbeats 4000000
end Go.Proofs.YtfakoboiahbhaaaGreat.Ab


namespace Go.Proofs.YtfakoboiahbhaaaGreat.Ab
open Go
section
def JS (b c:p3) (n:Nat):Prop:=∀ i:Nat,i<n→ix b.2 (i:Int)=ix c.2 (i:Int)
variable {b c:p3} {n:Nat}
theorem JS.at (h:JS b c n) {x:Int} (al:0≤x∧x<(n:Int)):ix b.2 x=ix c.2 x:=by
 obtain ⟨i,rfl⟩:∃ i:Nat,x=i:=⟨x.toNat,by omega⟩;exact h i (by omega)
theorem JS.ends (h:JS b c n) {p:Int×Int} (aC:0≤p.1∧p.1<(n:Int)):qo b p=qo c p∧fin b p=fin c p:=by
 unfold qo fin;rw [h.at aC];exact ⟨rfl,rfl⟩
theorem JS.run (h:JS b c n):∀ (l:Row) (a:Int),(∀ p∈l,0≤p.1∧p.1<(n:Int))→qm b a l=qm c a l
 | [],_,_=>rfl
 | p::l,a,ak=>by
   obtain ⟨e1,ck⟩:=h.ends (ak p (by simp));have a_:=fun a=>h.run l a fun q a3=>ak q (by simp [a3]);unfold qm;rw [e1,ck,a_]
theorem JS.rows (h:JS b c n) {S:List Int} {R:List Row} (aN:n≤c.2.length) (ag:∀ r∈R,∀ p∈r,0≤p.1∧p.1<(n:Int)) (jw:RowsOf b S R):RowsOf c S R :=
 ⟨fun r aj p aC=>⟨(jw.ok r aj p aC).1,by have:=(ag r aj p aC).2;omega,(jw.ok r aj p aC).2.2⟩,fun r aj=>by
  obtain ⟨a,e,aO⟩:=jw.go r aj
  exact ⟨a,e,by rw [←h.run r a (ag r aj)];exact aO⟩,jw.all⟩
theorem RowsOf.GO {S:List Int} {R:List Row} (h:RowsOf b S R) {r:Row} (aj:r∈R) {p:Int×Int} (aC:p∈r):p.1∈S :=
 h.all.mem_iff.1 (List.mem_map_of_mem (ui.2 ⟨r,aj,aC⟩))
theorem RowsOf.drop {S:List Int} {R:List Row} {s:Int} (h:RowsOf b (s::S) R):∃ Nl,RowsOf b S Nl∧Nl.length≤R.length+1:=by
 have ai:s∈(R.flatten).map (·.1):=h.all.mem_iff.2 (by simp);obtain ⟨p,aC,rfl⟩:=sm.1 ai;obtain ⟨r,aj,aC⟩:=ui.1 aC;obtain ⟨abg,lj,e1⟩:=uT aj;obtain ⟨dJ,kI,ck⟩:=uT aC;subst ck e1;obtain ⟨a,e,aO⟩:=h.go _ aj;rw [IA] at aO;cases ad:qm b a dJ with
 | none=>rw [ad] at aO;cases aO
 | some x =>
   rw [ad,r_] at aO;obtain ⟨_,af⟩:=Ii.1 aO;refine ⟨abg++[dJ,kI]++lj,⟨fun q a3 t ax=>?_,fun q a3=>?_,?_⟩,by simp;omega⟩
   ·simp only [sN,sj,tW,or_false] at a3;rcases a3 with (a3 | rfl | rfl) | a3
    ·exact h.ok q (by simp [a3]) t ax
    ·exact h.ok _ aj t (by simp [ax])
    ·exact h.ok _ aj t (by simp [ax])
    ·exact h.ok q (by simp [a3]) t ax
   ·simp only [sN,sj,tW,or_false] at a3;rcases a3 with (a3 | rfl | rfl) | a3
    ·exact h.go q (by simp [a3])
    ·exact ⟨_,_,ad⟩
    ·exact ⟨_,_,af⟩
    ·exact h.go q (by simp [a3])
   ·have c9:=h.all;refine (List.perm_cons p.1).1 (List.Perm.trans ?_ c9);simp only [List.flatten_append,List.flatten_cons,List.flatten_nil,sZ,sx,List.append_nil,List.append_assoc];refine we.symm.trans ?_;refine List.Perm.append_left _ ?_;exact we.symm
end
end Go.Proofs.YtfakoboiahbhaaaGreat.Ab


namespace Go.Proofs.YtfakoboiahbhaaaGreat.Ab
open Go
set_option maxRecDepth 20000
set_option maxHeartbeats 4000000
noncomputable def Q3:ey :=
 .loop (some (Ez false [0,1,2,2,23])) (.seq (Gz [Gn 8 4,F0 9 8 0 .geq] (.cond (.sl 9) .skip (.exit 0))) (.seq (.block 1 (Gt [Gp 12 3,Gn 13 0,Gn 14 4,Gh 15 13 14 2,F6 16 15 0,Gl 17 16,Gn 18 0,Gn 19 4,Gh 20 18 19 2,F6 21 20 1,Gl 22 21,gL 23 [.iA (.int .i64 1),.hJ 22] (.bin .sub),gL 24 [.hJ 17,.hJ 23] (.build [.int .i64 0,.int .i64 0] [(0,1),(1,1)]),gL 25 [.hJ 24] (.x' 1 2 [.int .i64 0,.int .i64 0] [0]),gL 26 [.hG 12,.hG 25] (.app 2 16),Gp 3 26])) (Gs [Gp 10 4,F0 11 10 1 .sub,Gp 4 11])))
noncomputable def aaP:ey :=
 Gz [gL 2 [.iA (.ay [] 0 .full)] (.nil 2)] (Gz [gL 3 [.iA (.ay [] 0 .full)] (.nil 2)] (.seq (Gz [Gn 5 0,Gk 6 5,F0 7 6 1 .sub,Gp 4 7] (.block 0 Q3)) (Gz [Gp 27 3,Gp 2 27] .ret)))
theorem afY:zf Tryz.prog Rp 54=some (aaP,28,[.tmp 2]):=by kernel_rfl
def L8 (l:p_) (p9:p_→Option p_):Nat→p_→Int→Option p_
 | 0,_,_=>none
 | m+1,s1,s2 =>
   if (decide ((0:Int)≤s2))=true then
    p5 (0≤s2∧s2<(l.length:Int)) <|
    p5 (0≤s2∧s2<(l.length:Int)) <|
    p5 ((s1.length+1)*16≤140737488355328) <|
    L8 l p9 m (s1++[((ix l s2).1,(w ((1:Int)-(ix l s2).2)))]) (w (s2-(1:Int)))
   else
    p9 s1
def OL (l:p_):Option p_ :=
 L8 l (fun xZ =>
   some xZ) p6 ([]:List (Int×Int)) (w ((l.length:Int)-(1:Int)))
theorem aky {l:p_} {p9:p_→Option p_} {s1:p_} {s2:Int} {v:p_} {Q:qY}   (q7:∀ (xZ:p_) (p4:List I),p9 xZ=some v→qI 28 [(3,(p2 xZ (.uniq 2)))] p4→Q (.exit 0) p4 []) {T:List I} (bX:eQ (Ez false [0,1,2,2,23]) T=GG 28 [(0,(p2 l .shared)),(3,(p2 s1 (.uniq 2))),(4,(hP s2))]) (h:L8 l p9 p6 s1 s2=some v) :
  dB Tryz.prog Rp 54 0 none Q3 T [] Q:=by
 unfold Q3;refine wp_loop bX ?_;refine .intro (fun m T H=>∃ (s1:p_) (s2:Int),T=GG 28 [(0,(p2 l .shared)),(3,(p2 s1 (.uniq 2))),(4,(hP s2))]∧H=[]∧L8 l p9 m s1 s2=some v) p6 ⟨s1,s2,rfl,rfl,h⟩ ?_;clear h bX;rintro m T H ⟨s1,s2,rfl,rfl,h⟩;cases m
 ·exact qT h
 rename_i m;rw [L8.eq_2] at h;conv=>whnf
 refine bs h (fun eT h=>?_) fun eT h=>?_
 ·rw [eT];conv=>whnf
  refine qj h id fun fj h=>?_;rw [qU pY 2 ql l s2 fj];conv=>whnf
  refine qj h id fun qk h=>?_;rw [qU pY 2 ql l s2 qk];conv=>whnf
  obtain ⟨qw,h⟩:=qn h;refine ⟨by first | rfl | (simp;done) | exact G0 pY _ ql _,by have:=qw;omega,rfl,qw,?_⟩
  erw [Hz pY s1 ((ix l s2).1,(w ((1:Int)-(ix l s2).2)))];conv=>whnf
  exact ⟨m,sf m,(s1++[((ix l s2).1,(w ((1:Int)-(ix l s2).2)))]),(w (s2-(1:Int))),rfl,rfl,h⟩
 ·rw [eT];conv=>whnf
  exact q7 _ _ h ⟨rfl,rfl⟩
theorem ZZ {l:p_} {v:p_} (h:OL l=some v):qp 54 [(.ay (l.flatMap pY) l.length .shared)] (.ay (v.flatMap pY) v.length .shared):=by
 refine qN dH afY rfl (qX (fun _=>(pZ rfl (pZ rfl rfl))) _ _ _) fun Q bl=>?_;have jw:qv [.tmp 2] Q (fun v=>(p2 v .shared)) v:=fun T H bI=>bl _ T H bI;unfold OL at h;unfold aaP;obtain ⟨Hd,qy⟩:∃ c,Q3=c:=⟨_,rfl⟩;rw [qy];conv=>whnf
 subst qy;refine aky ?_ (by exact rfl) h;intro xZ p4 h qf;obtain ⟨qE,rfl⟩:=qf.ex;conv=>whnf
 exact p7 h jw rfl rfl
end Go.Proofs.YtfakoboiahbhaaaGreat.Ab


namespace Go.Proofs.YtfakoboiahbhaaaGreat.Ab
open Go
set_option maxRecDepth 200000
set_option maxHeartbeats 4000000
noncomputable def QN:ey :=
 .loop (some (Ez false [1,3,3,2,251])) (.seq (Gz [Gn 53 8,gL 54 [.sl 3] (.oP 1),Gl 55 54,Gk 56 55,F1 57 53 56 .lss] (.cond (.sl 57) .skip (.exit 0))) (.seq (.block 1 (Gz [gL 60 [.sl 3] (.oP 1),Gl 61 60,Gn 62 8,Gh 63 61 62 2,gL 64 [.hJ 63] (.pT (.str 2)),gL 9 [] (.alloc [.int .i64 0,.int .i64 0]),⟨none,[.sl 9,.hG 64],none,none,.st 2⟩] (.seq (Gz [Gn 65 2,Gn 66 8,F1 67 65 66 .shr,gL 68 [.hJ 67,.iA (.int .u16 1)] (.bin .and),gL 69 [.hJ 68,.iA (.int .u16 1)] (.bin .eql)] (.cond (.sl 69) (Gs [gL 70 [.sl 9] (.oP 1),Gl 71 70,gL 72 [.sl 9] (.oP 0),Gl 73 72,gL 74 [.hJ 71,.hJ 73] (.build [.int .i64 0,.int .i64 0] [(0,1),(1,1)]),⟨none,[.sl 9,.hG 74],none,none,.st 2⟩]) .skip)) (Gs [gL 75 [.sl 7] (.oP 1),gL 76 [.hJ 75] .take,gL 77 [.hJ 9] (.pT (.str 2)),gL 78 [.hJ 77] (.x' 1 2 [.int .i64 0,.int .i64 0] [0]),gL 79 [.hG 76,.hG 78] (.app 2 16),gL 80 [.sl 7] (.oP 1),⟨none,[.hG 80,.hG 79],none,none,.st 1⟩])))) (Gs [Gp 58 8,FZ 59 58 1,Gp 8 59])))
noncomputable def Mh:ey :=
 .loop (some (Ez false [1,3,3,1,4,3,1,2,242])) (.seq (Gz [Gn 104 17,Gn 105 1,Gk 106 105,F1 107 104 106 .lss] (.cond (.sl 107) .skip (.exit 2))) (.seq (.block 3 (Gz [Gn 110 1,Gn 111 17,Gh 112 110 111 2,gL 113 [.hJ 112] (.pT (.str 2)),gL 18 [] (.alloc [.int .i64 0,.int .i64 0]),⟨none,[.sl 18,.hG 113],none,none,.st 2⟩] (.seq (Gz [Gn 114 2,gL 115 [.sl 18] (.oP 0),Gl 116 115,F1 117 114 116 .shr,gL 118 [.hJ 117,.iA (.int .u16 1)] (.bin .and),gL 119 [.hJ 118,.iA (.int .u16 1)] (.bin .eql)] (.cond (.sl 119) (Gs [gL 120 [.sl 18] (.oP 1),Gl 121 120,gL 122 [.iA (.int .i64 1),.hJ 121] (.bin .sub),gL 123 [.sl 18] (.oP 1),⟨none,[.hG 123,.hG 122],none,none,.st 1⟩]) .skip)) (Gs [Gp 124 16,gL 125 [.hJ 18] (.pT (.str 2)),gL 126 [.hJ 125] (.x' 1 2 [.int .i64 0,.int .i64 0] [0]),gL 127 [.hG 124,.hG 126] (.app 2 16),Gp 16 127])))) (Gs [Gp 108 17,FZ 109 108 1,Gp 17 109])))
noncomputable def Nb:ey :=
 .cond (.sl 103) (Gz [gL 16 [.iA (.ay [] 0 .full)] (.nil 2)] (.seq (Gz [Gm 17 0] (.block 2 Mh)) (.seq (Gt [gL 129 [.sl 3] (.pT (.str 2)),Gp 130 1,gL 131 [.iA (.func 54 [] []),.sl 130] (.call 3),gL 132 [.iA (.func 18 [] []),.sl 129,.sl 131] (.call 3),Gp 128 132,GJ 133 128 0,GJ 134 128 1,GJ 135 128 2,Gp 19 133,Gp 20 134,Gp 21 135]) (Gz [gL 137 [.sl 7] (.pT (.str 2)),Gp 138 16,gL 139 [.iA (.func 18 [] []),.sl 137,.sl 138] (.call 3),Gp 136 139,GJ 140 136 0,GJ 141 136 1,gL 142 [.hJ 136] (.ext 2),Gp 22 140,Gp 23 141,Gp 24 142] (Gz [Gp 143 21,Gn 144 12,F1 145 143 144 .neq,Gp 146 145,cP 147 [.hG 24] 146 false .iQ,cP 148 [.hG 12] 146 false .iQ,cP 149 [.hJ 147,.hJ 148] 146 false (.bin .neq),gL 150 [.hJ 146,.iA (.bool true),.hJ 149] .pick,Gp 151 150,cP 152 [.hG 19] 151 false .iQ,cP 153 [.sl 14] 151 false .iQ,cP 154 [.hJ 152,.hJ 153] 151 false (.bin .neq),gL 155 [.hJ 151,.iA (.bool true),.hJ 154] .pick,Gp 156 155,cP 157 [.hG 20] 156 false .iQ,cP 158 [.sl 13] 156 false .iQ,cP 159 [.hJ 157,.hJ 158] 156 false (.bin .neq),gL 160 [.hJ 156,.iA (.bool true),.hJ 159] .pick,Gp 161 160,cP 162 [.hG 22] 161 false .iQ,cP 163 [.hG 13] 161 false .iQ,cP 164 [.hJ 162,.hJ 163] 161 false (.bin .neq),gL 165 [.hJ 161,.iA (.bool true),.hJ 164] .pick,Gp 166 165,cP 167 [.hG 23] 166 false .iQ,cP 168 [.hG 14] 166 false .iQ,cP 169 [.hJ 167,.hJ 168] 166 false (.bin .neq),gL 170 [.hJ 166,.iA (.bool true),.hJ 169] .pick] (.cond (.sl 170) (Gz [gL 6 [.iA (.bool false)] .iQ] .ret) .skip)))))) .skip
noncomputable def Nc:ey :=
 Gz [gL 172 [.sl 3] (.pT (.str 2)),gL 173 [.iA (.func 48 [] []),.sl 172] (.call 3),Gp 171 173,GJ 174 171 0,gL 175 [.hJ 171] (.ext 1),Gp 25 174,Gp 26 175] (Gz [gL 177 [.sl 7] (.pT (.str 2)),gL 178 [.iA (.func 48 [] []),.sl 177] (.call 3),Gp 176 178,GJ 179 176 0,gL 180 [.hJ 176] (.ext 1),Gp 27 179,Gp 28 180] (Gz [gL 182 [.sl 3] (.pT (.str 2)),gL 183 [.iA (.func 27 [] []),.sl 182] (.call 3),Gp 181 183,GJ 184 181 0,gL 185 [.hJ 181] (.ext 1),Gp 29 184,Gp 30 185] (Gz [gL 187 [.sl 7] (.pT (.str 2)),gL 188 [.iA (.func 27 [] []),.sl 187] (.call 3),Gp 186 188,GJ 189 186 0,gL 190 [.hJ 186] (.ext 1),Gp 31 189,Gp 32 190] (Gz [gL 192 [.sl 3] (.pT (.str 2)),gL 193 [.iA (.func 49 [] []),.sl 192] (.call 3),Gp 191 193,GJ 194 191 0,gL 195 [.hJ 191] (.ext 1),Gp 33 194,Gp 34 195] (Gz [gL 197 [.sl 7] (.pT (.str 2)),gL 198 [.iA (.func 49 [] []),.sl 197] (.call 3),Gp 196 198,GJ 199 196 0,gL 200 [.hJ 196] (.ext 1),Gp 35 199,Gp 36 200] (Gz [gL 202 [.hJ 3] (.pT (.str 2)),gL 203 [.iA (.func 31 [] []),.sl 202] (.call 3),Gp 201 203,GJ 204 201 0,gL 205 [.hJ 201] (.ext 1),Gp 37 204,Gp 38 205] (Gz [gL 207 [.hJ 7] (.pT (.str 2)),gL 208 [.iA (.func 31 [] []),.sl 207] (.call 3),Gp 206 208,GJ 209 206 0,gL 210 [.hJ 206] (.ext 1),Gp 39 209,Gp 40 210] (Gz [Gp 211 26,Gp 212 211,cP 213 [.hG 28] 212 true .iQ,gL 214 [.hJ 212,.hJ 213,.iA (.bool false)] .pick,Gp 215 214,cP 216 [.hG 25] 215 true .iQ,cP 217 [.hG 27] 215 true .iQ,cP 218 [.hJ 216,.hJ 217] 215 true (.bin .eql),gL 219 [.hJ 215,.hJ 218,.iA (.bool false)] .pick,Gp 220 219,cP 221 [.hG 30] 220 true .iQ,cP 222 [.hJ 221,.iA (.int .i64 0)] 220 true (.bin .eql),gL 223 [.hJ 220,.hJ 222,.iA (.bool false)] .pick,Gp 224 223,cP 225 [.hG 32] 224 true .iQ,cP 226 [.hJ 225,.iA (.int .i64 0)] 224 true (.bin .eql),gL 227 [.hJ 224,.hJ 226,.iA (.bool false)] .pick,Gp 228 227,cP 229 [.hG 29] 228 true .iQ,cP 230 [.hG 31] 228 true .iQ,⟨some 231,[.iA (.func 33 [] []),.sl 229,.sl 230],some (228,true),none,.call 3⟩,gL 232 [.hJ 228,.hJ 231,.iA (.bool false)] .pick,Gp 233 232,cP 234 [.hG 34] 233 true .iQ,gL 235 [.hJ 233,.hJ 234,.iA (.bool false)] .pick,Gp 236 235,cP 237 [.hG 36] 236 true .iQ,gL 238 [.hJ 236,.hJ 237,.iA (.bool false)] .pick,Gp 239 238,cP 240 [.hG 33] 239 true .iQ,cP 241 [.hG 35] 239 true .iQ,⟨some 242,[.iA (.func 34 [] []),.sl 240,.sl 241],some (239,true),none,.call 3⟩,gL 243 [.hJ 239,.hJ 242,.iA (.bool false)] .pick,Gp 244 243,cP 245 [.hG 38] 244 true .iQ,cP 246 [.hJ 245,.iA (.int .i64 0)] 244 true (.bin .eql),gL 247 [.hJ 244,.hJ 246,.iA (.bool false)] .pick,Gp 248 247,cP 249 [.hG 40] 248 true .iQ,cP 250 [.hJ 249,.iA (.int .i64 0)] 248 true (.bin .eql),gL 251 [.hJ 248,.hJ 250,.iA (.bool false)] .pick,Gp 252 251,cP 253 [.hG 37] 252 true .iQ,cP 254 [.hG 39] 252 true .iQ,⟨some 255,[.iA (.func 33 [] []),.sl 253,.sl 254],some (252,true),none,.call 3⟩,gL 256 [.hJ 252,.hJ 255,.iA (.bool false)] .pick,Gp 257 256,⟨some 258,[.iA (.func 17 [] [])],some (257,true),none,.call 3⟩,gL 259 [.hJ 257,.hJ 258,.iA (.bool false)] .pick,Gp 6 259] .ret))))))))
noncomputable def aaw:ey :=
 Gz [gL 3 [.hG 0] .box,gL 6 [.iA (.bool false)] .iQ] (.seq (Gz [gL 41 [.sl 3] (.pT (.str 2)),gL 42 [.iA (.func 47 [] []),.sl 41] (.call 3),gL 43 [.hJ 42] (.un .not),Gp 44 43,cP 45 [.sl 1] 44 false .iQ,cP 46 [.hG 45] 44 false .pV,cP 47 [.hJ 46,.iA (.int .i64 14)] 44 false (.bin .gtr),gL 48 [.hJ 44,.iA (.bool true),.hJ 47] .pick] (.cond (.sl 48) (Gz [gL 49 [.iA (.func 17 [] [])] (.call 3),Gp 6 49] .ret) .skip)) (Gz [gL 50 [.sl 3] (.oP 0),Gl 51 50,gL 52 [.hJ 51] (.build [.int .i64 0,.ay [] 0 .full] [(0,1)]),gL 7 [] (.alloc [.int .i64 0,.ay [] 0 .full]),⟨none,[.sl 7,.hG 52],none,none,.st 2⟩] (.seq (Gz [Gm 8 0] (.block 0 QN)) (Gz [gL 82 [.sl 3] (.pT (.str 2)),Gn 83 1,gL 84 [.iA (.func 19 [] []),.sl 82,.sl 83] (.call 3),Gp 81 84,GJ 85 81 0,GJ 86 81 1,gL 87 [.hJ 81] (.ext 2),Gp 10 85,Gp 11 86,Gp 12 87] (Gz [gL 89 [.sl 3] (.pT (.str 2)),Gn 90 1,gL 91 [.iA (.func 18 [] []),.sl 89,.sl 90] (.call 3),Gp 88 91,GJ 92 88 0,GJ 93 88 1,gL 94 [.hJ 88] (.ext 2),Gp 13 92,Gp 14 93,Gp 15 94] (.seq (Gz [Gp 95 15,Gn 96 12,F1 97 95 96 .neq] (.cond (.sl 97) (Gz [gL 6 [.iA (.bool false)] .iQ] .ret) .skip)) (.seq (Gz [Gn 98 12,F0 99 98 0 .eql,Gp 100 99,cP 101 [.sl 12] 100 false .iQ,cP 102 [.hJ 101,.iA (.int .i64 27)] 100 false (.bin .eql),gL 103 [.hJ 100,.iA (.bool true),.hJ 102] .pick] Nb) Nc)))))))
theorem afF:zf Tryz.prog Jq 11=some (aaw,260,[.tmp 6]):=by kernel_rfl
def K1 (b:qb) (bits:Int) (p9:p_→Option Bool):Nat→Int→p_→Option Bool
 | 0,_,_=>none
 | m+1,s1,s2 =>
   if (decide (s1<(b.2.length:Int)))=true then
    p5 (0≤s1∧s1<(b.2.length:Int)) <|
    p5 (0≤s1) <|
    if (decide ((IntKind.wrap .u16 ((BitVec.ofInt IntKind.u16.bits (bits.fdiv (2 ^ (Nat.min s1.toNat IntKind.u16.bits))) &&& BitVec.ofInt IntKind.u16.bits (1:Int)).toNat:Int))=(1:Int)))=true then
     p5 ((s2.length+1)*16≤140737488355328) <|
     K1 b bits p9 m (w (s1+(1:Int))) (s2++[((ix b.2 s1).2,(ix b.2 s1).1)])
    else
     p5 ((s2.length+1)*16≤140737488355328) <|
     K1 b bits p9 m (w (s1+(1:Int))) (s2++[(ix b.2 s1)])
   else
    p9 s2
def IY (l:p_) (bits:Int) (q2:p_→Option Bool):Nat→p_→Int→Option Bool
 | 0,_,_=>none
 | m+1,s3,Gy =>
   if (decide (Gy<(l.length:Int)))=true then
    p5 (0≤Gy∧Gy<(l.length:Int)) <|
    p5 (0≤(ix l Gy).1) <|
    if (decide ((IntKind.wrap .u16 ((BitVec.ofInt IntKind.u16.bits (bits.fdiv (2 ^ (Nat.min ((ix l Gy).1).toNat IntKind.u16.bits))) &&& BitVec.ofInt IntKind.u16.bits (1:Int)).toNat:Int))=(1:Int)))=true then
     p5 ((s3.length+1)*16≤140737488355328) <|
     IY l bits q2 m (s3++[((ix l Gy).1,(w ((1:Int)-(ix l Gy).2)))]) (w (Gy+(1:Int)))
    else
     p5 ((s3.length+1)*16≤140737488355328) <|
     IY l bits q2 m (s3++[(ix l Gy)]) (w (Gy+(1:Int)))
   else
    q2 s3
def JI (b:qb) (l:p_) (bits:Int) (xZ:p_) (r3:(Int×Int×Int)) (r4:(Int×Int×Int)) (J9:Unit→Option Bool) (dr:Bool):Option Bool :=
 if dr=true then
  IY l bits (fun oi =>
    (OL l).bind fun q8 =>
    (Jl b q8).bind fun Hu =>
    (Jl (b.1,xZ) oi).bind fun HH =>
    if (decide (Hu.2.2≠r3.2.2))=true then
     some false
    else
     if (decide (HH.2.2≠r3.2.2))=true then
      some false
     else
      if (decide (Hu.1≠r4.2.1))=true then
       some false
      else
       if (decide (Hu.2.1≠r4.1))=true then
        some false
       else
        if (decide (HH.1≠r4.1))=true then
         some false
        else
         if (decide (HH.2.1≠r4.2.1))=true then
          some false
         else
          J9 ()) p6 ([]:List (Int×Int)) (0:Int)
 else
  J9 ()
def JJ (b:qb) (xZ:p_)  : Option Bool :=
 (K7 b).bind fun JD =>
 (K7 (b.1,xZ)).bind fun LK =>
 (K4 b).bind fun Hl =>
 (K4 (b.1,xZ)).bind fun JC =>
 (K8 b).bind fun LJ =>
 (K8 (b.1,xZ)).bind fun Og =>
 (K5 b).bind fun P0 =>
 (K5 (b.1,xZ)).bind fun P1 =>
 if JD.2=true then
  if LK.2=true then
   if (decide (JD.1=LK.1))=true then
    if (decide (Hl.2=(0:Int)))=true then
     if (decide (JC.2=(0:Int)))=true then
      (L4 Hl.1 JC.1).bind fun Tq =>
      if Tq=true then
       if LJ.2=true then
        if Og.2=true then
         (OH LJ.1 Og.1).bind fun Tr =>
         if Tr=true then
          if (decide (P0.2=(0:Int)))=true then
           if (decide (P1.2=(0:Int)))=true then
            (L4 P0.1 P1.1).bind fun Ts =>
            if Ts=true then
             (K2).bind fun XO =>
             some XO
            else
             some false
           else
            some false
          else
           some false
         else
          some false
        else
         some false
       else
        some false
      else
       some false
     else
      some false
    else
     some false
   else
    some false
  else
   some false
 else
  some false
def Qo (b:qb) (l:p_) (bits:Int):Option Bool :=
 (OK b).bind fun r1 =>
 if r1=true then
  if (decide ((14:Int)<(l.length:Int)))=true then
   (K2).bind fun r2 =>
   some r2
  else
   K1 b bits (fun xZ =>
     (K3 b l).bind fun r3 =>
     (Jl b l).bind fun r4 =>
     if (decide (r4.2.2≠r3.2.2))=true then
      some false
     else
      if (decide (r3.2.2=(0:Int)))=true then
       JI b l bits xZ r3 r4 (fun _ =>
         JJ b xZ) true
      else
       JI b l bits xZ r3 r4 (fun _ =>
         JJ b xZ) (decide (r3.2.2=(27:Int)))) p6 (0:Int) ([]:List (Int×Int))
 else
  (K2).bind fun XP =>
  some XP
theorem ajT {b:qb} {bits:Int} {p9:p_→Option Bool} {s1:Int} {s2:p_} {l:p_} {v:Bool} {Q:qY}   {GL:il} (q7:∀ (xZ:p_) (qs:List au) (p4:List I),p9 xZ=some v→qI 260 [(1,(p2 l .shared)),(2,(Ir bits)),(3,(.ptr 0 0)),(7,(.ptr 1 0))] p4→Q (.exit 0) p4 (rz b::au.cells [(hP b.1),(p2 xZ .full)]::qs)) (aeF:∀ (xZ:p_) (qs:List au) (p4:List I),p9 xZ=some v→qI 260 [(1,(p2 l .shared)),(2,(Ir bits)),(3,(.ptr 0 0)),(7,(.ptr 1 0))] p4→Q (.exit 0) p4 (rz b::au.cells [(hP b.1),(p2 xZ (.own 2))]::qs)) (IM:(GL=il.full∨GL=(.own 2))) {T:List I} (bX:eQ (Ez false [1,3,3,2,251]) T=GG 260 [(1,(p2 l .shared)),(2,(Ir bits)),(3,(.ptr 0 0)),(7,(.ptr 1 0)),(8,(hP s1))]) (h:K1 b bits p9 p6 s1 s2=some v) :
  dB Tryz.prog Jq 11 0 none QN T [rz b,au.cells [(hP b.1),(.ay (s2.flatMap pY) s2.length GL)]] Q:=by
 unfold QN;refine wp_loop bX ?_;refine .intro (fun m T H=>∃ (s1:Int) (s2:p_) (Ve:List au) (GL:il),(GL=il.full∨GL=(.own 2))∧T=GG 260 [(1,(p2 l .shared)),(2,(Ir bits)),(3,(.ptr 0 0)),(7,(.ptr 1 0)),(8,(hP s1))]∧H=(rz b::au.cells [(hP b.1),(.ay (s2.flatMap pY) s2.length GL)]::Ve)∧K1 b bits p9 m s1 s2=some v) p6 ⟨s1,s2,[],_,IM,rfl,rfl,h⟩ ?_;clear h bX;rintro m T H ⟨s1,s2,Ve,GL,IM,rfl,rfl,h⟩;cases m
 ·exact qT h
 rename_i m;rw [K1.eq_2] at h;rcases IM with rfl | rfl
 ·conv=>whnf
  refine bs h (fun qw h=>?_) fun qw h=>?_
  ·rw [qw];(conv=>whnf);refine qj h id fun qC h=>?_;rw [qU pY 2 ql b.2 s1 qC];(conv=>whnf);refine DW (x:=au.cells [(hP (0:Int)),(hP (0:Int))]) (by first | exact qh.h | rfl | (simp [sb,I.settle];done)) ?_
   (conv=>whnf);rw [q5];refine qj h id fun rk h=>?_;(conv=>whnf);refine bs h (fun qM h=>?_) fun qM h=>?_
   ·rw [qM];(conv=>whnf);refine DW (x:=au.cells [(hP (ix b.2 s1).1),(hP (ix b.2 s1).2)]) (by first | exact qh.h | rfl | (simp [sb,I.settle];done)) ?_
    (conv=>whnf);refine DW (x:=au.cells [(hP (ix b.2 s1).1),(hP (ix b.2 s1).2)]) (by first | exact qh.h | rfl | (simp [sb,I.settle];done)) ?_
    (conv=>whnf);refine DW (x:=au.cells [(hP (ix b.2 s1).1),(hP (ix b.2 s1).2)]) (by first | exact qh.h | rfl | (simp [sb,I.settle];done)) ?_
    (conv=>whnf);rw [q5];refine DW (x:=au.cells [(hP (ix b.2 s1).2),(hP (ix b.2 s1).1)]) (by first | exact qh.h | rfl | (simp [sb,I.settle];done)) ?_
    (conv=>whnf);obtain ⟨qP,h⟩:=qn h;refine ⟨by first | rfl | (simp;done) | exact G0 pY _ ql _,by have:=qP;omega,by decide,qP,by first | rfl | (simp;done) | exact G0 pY _ ql _,?_⟩
    erw [Hz pY s2 ((ix b.2 s1).2,(ix b.2 s1).1)];(conv=>whnf);exact ⟨m,sf m,(w (s1+(1:Int))),(s2++[((ix b.2 s1).2,(ix b.2 s1).1)]),_,_,(.inr rfl),rfl,rfl,h⟩
   ·rw [qM];(conv=>whnf);refine DW (x:=au.cells [(hP (ix b.2 s1).1),(hP (ix b.2 s1).2)]) (by first | exact qh.h | rfl | (simp [sb,I.settle];done)) ?_
    (conv=>whnf);obtain ⟨q3,h⟩:=qn h;refine ⟨by first | rfl | (simp;done) | exact G0 pY _ ql _,by have:=q3;omega,by decide,q3,by first | rfl | (simp;done) | exact G0 pY _ ql _,?_⟩
    erw [Hz pY s2 (ix b.2 s1)];(conv=>whnf);exact ⟨m,sf m,(w (s1+(1:Int))),(s2++[(ix b.2 s1)]),_,_,(.inr rfl),rfl,rfl,h⟩
  ·rw [qw];(conv=>whnf);exact q7 _ _ _ h ⟨rfl,rfl⟩
 ·conv=>whnf
  refine bs h (fun qw h=>?_) fun qw h=>?_
  ·rw [qw];(conv=>whnf);refine qj h id fun qC h=>?_;rw [qU pY 2 ql b.2 s1 qC];(conv=>whnf);refine DW (x:=au.cells [(hP (0:Int)),(hP (0:Int))]) (by first | exact qh.h | rfl | (simp [sb,I.settle];done)) ?_
   (conv=>whnf);rw [q5];refine qj h id fun rk h=>?_;(conv=>whnf);refine bs h (fun qM h=>?_) fun qM h=>?_
   ·rw [qM];(conv=>whnf);refine DW (x:=au.cells [(hP (ix b.2 s1).1),(hP (ix b.2 s1).2)]) (by first | exact qh.h | rfl | (simp [sb,I.settle];done)) ?_
    (conv=>whnf);refine DW (x:=au.cells [(hP (ix b.2 s1).1),(hP (ix b.2 s1).2)]) (by first | exact qh.h | rfl | (simp [sb,I.settle];done)) ?_
    (conv=>whnf);refine DW (x:=au.cells [(hP (ix b.2 s1).1),(hP (ix b.2 s1).2)]) (by first | exact qh.h | rfl | (simp [sb,I.settle];done)) ?_
    (conv=>whnf);rw [q5];refine DW (x:=au.cells [(hP (ix b.2 s1).2),(hP (ix b.2 s1).1)]) (by first | exact qh.h | rfl | (simp [sb,I.settle];done)) ?_
    (conv=>whnf);obtain ⟨qP,h⟩:=qn h;refine ⟨by first | rfl | (simp;done) | exact G0 pY _ ql _,by have:=qP;omega,rfl,qP,?_⟩
    erw [Hz pY s2 ((ix b.2 s1).2,(ix b.2 s1).1)];(conv=>whnf);exact ⟨m,sf m,(w (s1+(1:Int))),(s2++[((ix b.2 s1).2,(ix b.2 s1).1)]),_,_,(.inr rfl),rfl,rfl,h⟩
   ·rw [qM];(conv=>whnf);refine DW (x:=au.cells [(hP (ix b.2 s1).1),(hP (ix b.2 s1).2)]) (by first | exact qh.h | rfl | (simp [sb,I.settle];done)) ?_
    (conv=>whnf);obtain ⟨q3,h⟩:=qn h;refine ⟨by first | rfl | (simp;done) | exact G0 pY _ ql _,by have:=q3;omega,rfl,q3,?_⟩
    erw [Hz pY s2 (ix b.2 s1)];(conv=>whnf);exact ⟨m,sf m,(w (s1+(1:Int))),(s2++[(ix b.2 s1)]),_,_,(.inr rfl),rfl,rfl,h⟩
  ·rw [qw];(conv=>whnf);exact aeF _ _ _ h ⟨rfl,rfl⟩
theorem ajU {l:p_} {bits:Int} {q2:p_→Option Bool} {s3:p_} {Gy:Int} {b:qb} {xZ:p_} {r3:(Int×Int×Int)} {r4:(Int×Int×Int)} {v:Bool} {Q:qY}  {qs:List au} (IP:∀ (oi:p_) (qs:List au) (p4:List I),q2 oi=some v→qI 260 [(1,(p2 l .shared)),(3,(.ptr 0 0)),(7,(.ptr 1 0)),(12,(hP r3.2.2)),(13,(hP r4.1)),(14,(hP r4.2.1)),(16,(p2 oi (.uniq 2)))] p4→Q (.exit 2) p4 (rz b::au.cells [(hP b.1),(p2 xZ .full)]::qs)) {T:List I} (bX:eQ (Ez false [1,3,3,1,4,3,1,2,242]) T=GG 260 [(1,(p2 l .shared)),(2,(Ir bits)),(3,(.ptr 0 0)),(7,(.ptr 1 0)),(12,(hP r3.2.2)),(13,(hP r4.1)),(14,(hP r4.2.1)),(16,(p2 s3 (.uniq 2))),(17,(hP Gy))]) (h:IY l bits q2 p6 s3 Gy=some v) :
  dB Tryz.prog Jq 11 0 none Mh T (rz b::au.cells [(hP b.1),(p2 xZ .full)]::qs) Q:=by
 unfold Mh;refine wp_loop bX ?_;refine .intro (fun m T H=>∃ (s3:p_) (Gy:Int) (Nn:List au),T=GG 260 [(1,(p2 l .shared)),(2,(Ir bits)),(3,(.ptr 0 0)),(7,(.ptr 1 0)),(12,(hP r3.2.2)),(13,(hP r4.1)),(14,(hP r4.2.1)),(16,(p2 s3 (.uniq 2))),(17,(hP Gy))]∧H=(rz b::au.cells [(hP b.1),(p2 xZ .full)]::Nn)∧IY l bits q2 m s3 Gy=some v) p6 ⟨s3,Gy,qs,rfl,rfl,h⟩ ?_;clear h bX;rintro m T H ⟨s3,Gy,Nn,rfl,rfl,h⟩;cases m
 ·exact qT h
 rename_i m;rw [IY.eq_2] at h;conv=>whnf
 refine bs h (fun rM h=>?_) fun rM h=>?_
 ·rw [rM];conv=>whnf
  refine qj h id fun Iw h=>?_;rw [qU pY 2 ql l Gy Iw];conv=>whnf
  refine DW (x:=au.cells [(hP (0:Int)),(hP (0:Int))]) (by first | exact qh.h | rfl | (simp [sb,I.settle];done)) ?_
  conv=>whnf
  rw [q5];refine DW (x:=au.cells [(hP (ix l Gy).1),(hP (ix l Gy).2)]) (by first | exact qh.h | rfl | (simp [sb,I.settle];done)) ?_
  conv=>whnf
  refine qj h id fun Ha h=>?_;conv=>whnf
  refine bs h (fun HT h=>?_) fun HT h=>?_
  ·rw [HT];(conv=>whnf);refine DW (x:=au.cells [(hP (ix l Gy).1),(hP (ix l Gy).2)]) (by first | exact qh.h | rfl | (simp [sb,I.settle];done)) ?_
   (conv=>whnf);refine DW (x:=au.cells [(hP (ix l Gy).1),(hP (ix l Gy).2)]) (by first | exact qh.h | rfl | (simp [sb,I.settle];done)) ?_
   (conv=>whnf);rw [q5];refine DW (x:=au.cells [(hP (ix l Gy).1),(hP (w ((1:Int)-(ix l Gy).2)))]) (by first | exact qh.h | rfl | (simp [sb,I.settle];done)) ?_
   (conv=>whnf);obtain ⟨GU,h⟩:=qn h;refine ⟨by first | rfl | (simp;done) | exact G0 pY _ ql _,by have:=GU;omega,rfl,GU,?_⟩
   erw [Hz pY s3 ((ix l Gy).1,(w ((1:Int)-(ix l Gy).2)))];(conv=>whnf);exact ⟨m,sf m,(s3++[((ix l Gy).1,(w ((1:Int)-(ix l Gy).2)))]),(w (Gy+(1:Int))),_,rfl,rfl,h⟩
  ·rw [HT];(conv=>whnf);refine DW (x:=au.cells [(hP (ix l Gy).1),(hP (ix l Gy).2)]) (by first | exact qh.h | rfl | (simp [sb,I.settle];done)) ?_
   (conv=>whnf);obtain ⟨Ix,h⟩:=qn h;refine ⟨by first | rfl | (simp;done) | exact G0 pY _ ql _,by have:=Ix;omega,rfl,Ix,?_⟩
   erw [Hz pY s3 (ix l Gy)];(conv=>whnf);exact ⟨m,sf m,(s3++[(ix l Gy)]),(w (Gy+(1:Int))),_,rfl,rfl,h⟩
 ·rw [rM];conv=>whnf
  exact IP _ _ _ h ⟨rfl,rfl⟩
theorem Zu {b:qb} {l:p_} {bits:Int} {xZ:p_} {r3:(Int×Int×Int)} {r4:(Int×Int×Int)} {J9:Unit→Option Bool} {dr:Bool} {v:Bool} {Q:qY} {qs:List au} {p4:List I}  (jw:qv [.tmp 6] Q (fun v=>(B v)) v) (N4:∀ (qs:List au) (p4:List I),J9 ()=some v→qI 260 [(3,(.ptr 0 0)),(7,(.ptr 1 0))] p4→Q .normal p4 (rz b::au.cells [(hP b.1),(p2 xZ .full)]::qs)) (qf:qI 260 [(1,(p2 l .shared)),(2,(Ir bits)),(3,(.ptr 0 0)),(7,(.ptr 1 0)),(12,(hP r3.2.2)),(13,(hP r4.1)),(14,(hP r4.2.1)),(103,(B dr))] p4) (h:JI b l bits xZ r3 r4 J9 dr=some v) :
  dB Tryz.prog Jq 11 0 none Nb p4 (rz b::au.cells [(hP b.1),(p2 xZ .full)]::qs) Q:=by
 obtain ⟨qE,rfl⟩:=qf.ex;unfold JI at h;unfold Nb;obtain ⟨I3,ru⟩:∃ c,Mh=c:=⟨_,rfl⟩;rw [ru];conv=>whnf
 cases dr
 ·conv=>whnf
  replace h:=GV rfl h;exact N4 _ _ h ⟨rfl,rfl⟩
 ·conv=>whnf
  replace h:=GX rfl h;subst ru;refine ajU (r3:=r3) (r4:=r4) ?_ (by exact rfl) h;intro oi qs p4 h qf;obtain ⟨qE,rfl⟩:=qf.ex;conv=>whnf
  obtain ⟨q8,HU,h⟩:=qa h;refine ⟨qc.pl,_,ZZ HU,HM,?_⟩;conv=>whnf
  obtain ⟨Hu,Lu,h⟩:=qa h;refine ⟨qc.pl,_,LW Lu,O7 rfl,?_⟩;conv=>whnf
  obtain ⟨HH,Jt,h⟩:=qa h;refine ⟨qc.pl,_,LW Jt,?_⟩;conv=>whnf
  refine bs h (fun Ia h=>?_) fun Ia h=>?_
  ·rw [Ia];(conv=>whnf);exact p7 h jw rfl rfl
  ·rw [Ia];(conv=>whnf);refine bs h (fun I9 h=>?_) fun I9 h=>?_
   ·rw [I9];(conv=>whnf);exact p7 h jw rfl rfl
   ·rw [I9];(conv=>whnf);refine bs h (fun I_ h=>?_) fun I_ h=>?_
    ·rw [I_];(conv=>whnf);exact p7 h jw rfl rfl
    ·rw [I_];(conv=>whnf);refine bs h (fun Ib h=>?_) fun Ib h=>?_
     ·rw [Ib];(conv=>whnf);exact p7 h jw rfl rfl
     ·rw [Ib];(conv=>whnf);refine bs h (fun J5 h=>?_) fun J5 h=>?_
      ·rw [J5];(conv=>whnf);exact p7 h jw rfl rfl
      ·rw [J5];(conv=>whnf);refine bs h (fun NU h=>?_) fun NU h=>?_
       ·rw [NU];(conv=>whnf);exact p7 h jw rfl rfl
       ·rw [NU];(conv=>whnf);exact N4 _ _ h ⟨rfl,rfl⟩
theorem Zx {b:qb} {xZ:p_} {v:Bool} {Q:qY} {qs:List au} {p4:List I}  (jw:qv [.tmp 6] Q (fun v=>(B v)) v) (qf:qI 260 [(3,(.ptr 0 0)),(7,(.ptr 1 0))] p4) (h:JJ b xZ  = some v) :
  dB Tryz.prog Jq 11 0 none Nc p4 (rz b::au.cells [(hP b.1),(p2 xZ .full)]::qs) Q:=by
 obtain ⟨qE,rfl⟩:=qf.ex;unfold JJ at h;unfold Nc;conv=>whnf
 obtain ⟨JD,R7,h⟩:=qa h;refine ⟨qc.pl,_,Qz R7,?_⟩;conv=>whnf
 obtain ⟨LK,NV,h⟩:=qa h;refine ⟨qc.pl,_,Qz NV,?_⟩;conv=>whnf
 obtain ⟨Hl,R8,h⟩:=qa h;refine ⟨qc.pl,_,Qw R8,?_⟩;conv=>whnf
 obtain ⟨JC,R9,h⟩:=qa h;refine ⟨qc.pl,_,Qw R9,?_⟩;conv=>whnf
 obtain ⟨LJ,R_,h⟩:=qa h;refine ⟨qc.pl,_,QA R_,?_⟩;conv=>whnf
 obtain ⟨Og,ad8,h⟩:=qa h;refine ⟨qc.pl,_,QA ad8,?_⟩;conv=>whnf
 obtain ⟨P0,ad9,h⟩:=qa h;refine ⟨qc.pl,_,Qy ad9,?_⟩;conv=>whnf
 obtain ⟨P1,ad_,h⟩:=qa h;refine ⟨qc.pl,_,Qy ad_,?_⟩;conv=>whnf
 refine bs h (fun R' h=>?_) fun R' h=>?_
 ·rw [R'];conv=>whnf
  refine bs h (fun Sa h=>?_) fun Sa h=>?_
  ·rw [Sa];(conv=>whnf);refine bs h (fun Sb h=>?_) fun Sb h=>?_
   ·rw [Sb];(conv=>whnf);refine bs h (fun Sc h=>?_) fun Sc h=>?_
    ·rw [Sc];(conv=>whnf);refine bs h (fun Sd h=>?_) fun Sd h=>?_
     ·rw [Sd];(conv=>whnf);obtain ⟨Tq,Se,h⟩:=qa h;refine ⟨qc.pl,_,OG Se,?_⟩;(conv=>whnf);cases Tq
      ·(conv=>whnf);replace h:=GV rfl h;exact p7 h jw rfl rfl
      ·(conv=>whnf);replace h:=GX rfl h;refine bs h (fun Lv h=>?_) fun Lv h=>?_
       ·rw [Lv];(conv=>whnf);refine bs h (fun NW h=>?_) fun NW h=>?_
        ·rw [NW];(conv=>whnf);obtain ⟨Tr,Sf,h⟩:=qa h;refine ⟨qc.pl,_,ZT Sf,?_⟩;(conv=>whnf);cases Tr
         ·(conv=>whnf);replace h:=GV rfl h;exact p7 h jw rfl rfl
         ·(conv=>whnf);replace h:=GX rfl h;refine bs h (fun Mv h=>?_) fun Mv h=>?_
          ·rw [Mv];(conv=>whnf);refine bs h (fun NY h=>?_) fun NY h=>?_
           ·rw [NY];(conv=>whnf);obtain ⟨Ts,Sg,h⟩:=qa h;refine ⟨qc.pl,_,OG Sg,?_⟩;(conv=>whnf);cases Ts
            ·(conv=>whnf);replace h:=GV rfl h;exact p7 h jw rfl rfl
            ·(conv=>whnf);replace h:=GX rfl h;obtain ⟨XO,NZ,h⟩:=qa h;refine ⟨rfl,_,Qt NZ,?_⟩;(conv=>whnf);exact p7 h jw rfl rfl
           ·rw [NY];(conv=>whnf);exact p7 h jw rfl rfl
          ·rw [Mv];(conv=>whnf);exact p7 h jw rfl rfl
        ·rw [NW];(conv=>whnf);exact p7 h jw rfl rfl
       ·rw [Lv];(conv=>whnf);exact p7 h jw rfl rfl
     ·rw [Sd];(conv=>whnf);exact p7 h jw rfl rfl
    ·rw [Sc];(conv=>whnf);exact p7 h jw rfl rfl
   ·rw [Sb];(conv=>whnf);exact p7 h jw rfl rfl
  ·rw [Sa];(conv=>whnf);exact p7 h jw rfl rfl
 ·rw [R'];conv=>whnf
  exact p7 h jw rfl rfl
theorem ajV {l:p_} {bits:Int} {q2:p_→Option Bool} {qe:p_} {qi:Int} {b:qb} {xZ:p_} {r20:(Int×Int×Int)} {r21:(Int×Int×Int)} {v:Bool} {Q:qY}  {qs:List au} (IP:∀ (FW:p_) (qs:List au) (p4:List I),q2 FW=some v→qI 260 [(1,(p2 l .shared)),(3,(.ptr 0 0)),(7,(.ptr 1 0)),(12,(hP r20.2.2)),(13,(hP r21.1)),(14,(hP r21.2.1)),(16,(p2 FW (.uniq 2)))] p4→Q (.exit 2) p4 (rz b::au.cells [(hP b.1),(p2 xZ (.own 2))]::qs)) {T:List I} (bX:eQ (Ez false [1,3,3,1,4,3,1,2,242]) T=GG 260 [(1,(p2 l .shared)),(2,(Ir bits)),(3,(.ptr 0 0)),(7,(.ptr 1 0)),(12,(hP r20.2.2)),(13,(hP r21.1)),(14,(hP r21.2.1)),(16,(p2 qe (.uniq 2))),(17,(hP qi))]) (h:IY l bits q2 p6 qe qi=some v) :
  dB Tryz.prog Jq 11 0 none Mh T (rz b::au.cells [(hP b.1),(p2 xZ (.own 2))]::qs) Q:=by
 unfold Mh;refine wp_loop bX ?_;refine .intro (fun m T H=>∃ (qe:p_) (qi:Int) (Nn:List au),T=GG 260 [(1,(p2 l .shared)),(2,(Ir bits)),(3,(.ptr 0 0)),(7,(.ptr 1 0)),(12,(hP r20.2.2)),(13,(hP r21.1)),(14,(hP r21.2.1)),(16,(p2 qe (.uniq 2))),(17,(hP qi))]∧H=(rz b::au.cells [(hP b.1),(p2 xZ (.own 2))]::Nn)∧IY l bits q2 m qe qi=some v) p6 ⟨qe,qi,qs,rfl,rfl,h⟩ ?_;clear h bX;rintro m T H ⟨qe,qi,Nn,rfl,rfl,h⟩;cases m
 ·exact qT h
 rename_i m;rw [IY.eq_2] at h;conv=>whnf
 refine bs h (fun Sk h=>?_) fun Sk h=>?_
 ·rw [Sk];conv=>whnf
  refine qj h id fun aea h=>?_;rw [qU pY 2 ql l qi aea];conv=>whnf
  refine DW (x:=au.cells [(hP (0:Int)),(hP (0:Int))]) (by first | exact qh.h | rfl | (simp [sb,I.settle];done)) ?_
  conv=>whnf
  rw [q5];refine DW (x:=au.cells [(hP (ix l qi).1),(hP (ix l qi).2)]) (by first | exact qh.h | rfl | (simp [sb,I.settle];done)) ?_
  conv=>whnf
  refine qj h id fun alr h=>?_;conv=>whnf
  refine bs h (fun Sl h=>?_) fun Sl h=>?_
  ·rw [Sl];(conv=>whnf);refine DW (x:=au.cells [(hP (ix l qi).1),(hP (ix l qi).2)]) (by first | exact qh.h | rfl | (simp [sb,I.settle];done)) ?_
   (conv=>whnf);refine DW (x:=au.cells [(hP (ix l qi).1),(hP (ix l qi).2)]) (by first | exact qh.h | rfl | (simp [sb,I.settle];done)) ?_
   (conv=>whnf);rw [q5];refine DW (x:=au.cells [(hP (ix l qi).1),(hP (w ((1:Int)-(ix l qi).2)))]) (by first | exact qh.h | rfl | (simp [sb,I.settle];done)) ?_
   (conv=>whnf);obtain ⟨WQ,h⟩:=qn h;refine ⟨by first | rfl | (simp;done) | exact G0 pY _ ql _,by have:=WQ;omega,rfl,WQ,?_⟩
   erw [Hz pY qe ((ix l qi).1,(w ((1:Int)-(ix l qi).2)))];(conv=>whnf);exact ⟨m,sf m,(qe++[((ix l qi).1,(w ((1:Int)-(ix l qi).2)))]),(w (qi+(1:Int))),_,rfl,rfl,h⟩
  ·rw [Sl];(conv=>whnf);refine DW (x:=au.cells [(hP (ix l qi).1),(hP (ix l qi).2)]) (by first | exact qh.h | rfl | (simp [sb,I.settle];done)) ?_
   (conv=>whnf);obtain ⟨WR,h⟩:=qn h;refine ⟨by first | rfl | (simp;done) | exact G0 pY _ ql _,by have:=WR;omega,rfl,WR,?_⟩
   erw [Hz pY qe (ix l qi)];(conv=>whnf);exact ⟨m,sf m,(qe++[(ix l qi)]),(w (qi+(1:Int))),_,rfl,rfl,h⟩
 ·rw [Sk];conv=>whnf
  exact IP _ _ _ h ⟨rfl,rfl⟩
theorem Zv {b:qb} {l:p_} {bits:Int} {xZ:p_} {r20:(Int×Int×Int)} {r21:(Int×Int×Int)} {J9:Unit→Option Bool} {dj:Bool} {v:Bool} {Q:qY} {qs:List au} {p4:List I}  (jw:qv [.tmp 6] Q (fun v=>(B v)) v) (N4:∀ (qs:List au) (p4:List I),J9 ()=some v→qI 260 [(3,(.ptr 0 0)),(7,(.ptr 1 0))] p4→Q .normal p4 (rz b::au.cells [(hP b.1),(p2 xZ (.own 2))]::qs)) (qf:qI 260 [(1,(p2 l .shared)),(2,(Ir bits)),(3,(.ptr 0 0)),(7,(.ptr 1 0)),(12,(hP r20.2.2)),(13,(hP r21.1)),(14,(hP r21.2.1)),(103,(B dj))] p4) (h:JI b l bits xZ r20 r21 J9 dj=some v) :
  dB Tryz.prog Jq 11 0 none Nb p4 (rz b::au.cells [(hP b.1),(p2 xZ (.own 2))]::qs) Q:=by
 obtain ⟨qE,rfl⟩:=qf.ex;unfold JI at h;unfold Nb;obtain ⟨I3,ru⟩:∃ c,Mh=c:=⟨_,rfl⟩;rw [ru];conv=>whnf
 cases dj
 ·conv=>whnf
  replace h:=GV rfl h;exact N4 _ _ h ⟨rfl,rfl⟩
 ·conv=>whnf
  replace h:=GX rfl h;subst ru;refine ajV (r20:=r20) (r21:=r21) ?_ (by exact rfl) h;intro FW qs p4 h qf;obtain ⟨qE,rfl⟩:=qf.ex;conv=>whnf
  obtain ⟨alI,aeb,h⟩:=qa h;refine ⟨qc.pl,_,ZZ aeb,HM,?_⟩;conv=>whnf
  obtain ⟨alJ,aec,h⟩:=qa h;refine ⟨qc.pl,_,LW aec,O7 rfl,?_⟩;conv=>whnf
  obtain ⟨alK,aed,h⟩:=qa h;refine ⟨qc.pl,_,LW aed,?_⟩;conv=>whnf
  refine bs h (fun Sm h=>?_) fun Sm h=>?_
  ·rw [Sm];(conv=>whnf);exact p7 h jw rfl rfl
  ·rw [Sm];(conv=>whnf);refine bs h (fun Sn h=>?_) fun Sn h=>?_
   ·rw [Sn];(conv=>whnf);exact p7 h jw rfl rfl
   ·rw [Sn];(conv=>whnf);refine bs h (fun So h=>?_) fun So h=>?_
    ·rw [So];(conv=>whnf);exact p7 h jw rfl rfl
    ·rw [So];(conv=>whnf);refine bs h (fun Sp h=>?_) fun Sp h=>?_
     ·rw [Sp];(conv=>whnf);exact p7 h jw rfl rfl
     ·rw [Sp];(conv=>whnf);refine bs h (fun Sq h=>?_) fun Sq h=>?_
      ·rw [Sq];(conv=>whnf);exact p7 h jw rfl rfl
      ·rw [Sq];(conv=>whnf);refine bs h (fun Sr h=>?_) fun Sr h=>?_
       ·rw [Sr];(conv=>whnf);exact p7 h jw rfl rfl
       ·rw [Sr];(conv=>whnf);exact N4 _ _ h ⟨rfl,rfl⟩
theorem Zy {b:qb} {xZ:p_} {v:Bool} {Q:qY} {qs:List au} {p4:List I}  (jw:qv [.tmp 6] Q (fun v=>(B v)) v) (qf:qI 260 [(3,(.ptr 0 0)),(7,(.ptr 1 0))] p4) (h:JJ b xZ  = some v) :
  dB Tryz.prog Jq 11 0 none Nc p4 (rz b::au.cells [(hP b.1),(p2 xZ (.own 2))]::qs) Q:=by
 obtain ⟨qE,rfl⟩:=qf.ex;unfold JJ at h;unfold Nc;conv=>whnf
 obtain ⟨alL,aee,h⟩:=qa h;refine ⟨qc.pl,_,Qz aee,?_⟩;conv=>whnf
 obtain ⟨alM,aef,h⟩:=qa h;refine ⟨qc.pl,_,Qz aef,?_⟩;conv=>whnf
 obtain ⟨alN,aeg,h⟩:=qa h;refine ⟨qc.pl,_,Qw aeg,?_⟩;conv=>whnf
 obtain ⟨alO,aeh,h⟩:=qa h;refine ⟨qc.pl,_,Qw aeh,?_⟩;conv=>whnf
 obtain ⟨alP,aei,h⟩:=qa h;refine ⟨qc.pl,_,QA aei,?_⟩;conv=>whnf
 obtain ⟨alQ,aej,h⟩:=qa h;refine ⟨qc.pl,_,QA aej,?_⟩;conv=>whnf
 obtain ⟨alR,aek,h⟩:=qa h;refine ⟨qc.pl,_,Qy aek,?_⟩;conv=>whnf
 obtain ⟨alS,ael,h⟩:=qa h;refine ⟨qc.pl,_,Qy ael,?_⟩;conv=>whnf
 refine bs h (fun Ss h=>?_) fun Ss h=>?_
 ·rw [Ss];conv=>whnf
  refine bs h (fun St h=>?_) fun St h=>?_
  ·rw [St];(conv=>whnf);refine bs h (fun Su h=>?_) fun Su h=>?_
   ·rw [Su];(conv=>whnf);refine bs h (fun Sv h=>?_) fun Sv h=>?_
    ·rw [Sv];(conv=>whnf);refine bs h (fun Sw h=>?_) fun Sw h=>?_
     ·rw [Sw];(conv=>whnf);obtain ⟨agU,aem,h⟩:=qa h;refine ⟨qc.pl,_,OG aem,?_⟩;(conv=>whnf);cases agU
      ·(conv=>whnf);replace h:=GV rfl h;exact p7 h jw rfl rfl
      ·(conv=>whnf);replace h:=GX rfl h;refine bs h (fun Sx h=>?_) fun Sx h=>?_
       ·rw [Sx];(conv=>whnf);refine bs h (fun Sy h=>?_) fun Sy h=>?_
        ·rw [Sy];(conv=>whnf);obtain ⟨agV,aen,h⟩:=qa h;refine ⟨qc.pl,_,ZT aen,?_⟩;(conv=>whnf);cases agV
         ·(conv=>whnf);replace h:=GV rfl h;exact p7 h jw rfl rfl
         ·(conv=>whnf);replace h:=GX rfl h;refine bs h (fun Sz h=>?_) fun Sz h=>?_
          ·rw [Sz];(conv=>whnf);refine bs h (fun SA h=>?_) fun SA h=>?_
           ·rw [SA];(conv=>whnf);obtain ⟨agW,aeo,h⟩:=qa h;refine ⟨qc.pl,_,OG aeo,?_⟩;(conv=>whnf);cases agW
            ·(conv=>whnf);replace h:=GV rfl h;exact p7 h jw rfl rfl
            ·(conv=>whnf);replace h:=GX rfl h;obtain ⟨alT,aep,h⟩:=qa h;refine ⟨rfl,_,Qt aep,?_⟩;(conv=>whnf);exact p7 h jw rfl rfl
           ·rw [SA];(conv=>whnf);exact p7 h jw rfl rfl
          ·rw [Sz];(conv=>whnf);exact p7 h jw rfl rfl
        ·rw [Sy];(conv=>whnf);exact p7 h jw rfl rfl
       ·rw [Sx];(conv=>whnf);exact p7 h jw rfl rfl
     ·rw [Sw];(conv=>whnf);exact p7 h jw rfl rfl
    ·rw [Sv];(conv=>whnf);exact p7 h jw rfl rfl
   ·rw [Su];(conv=>whnf);exact p7 h jw rfl rfl
  ·rw [St];(conv=>whnf);exact p7 h jw rfl rfl
 ·rw [Ss];conv=>whnf
  exact p7 h jw rfl rfl
theorem ajW {b:qb} {l:p_} {bits:Int} {v:Bool} (h:Qo b l bits=some v):qp 11 [(.agg [(hP b.1),(.ay (b.2.flatMap pY) b.2.length .shared)]),(.ay (l.flatMap pY) l.length .shared),(Ir bits)] (B v):=by
 refine qN dH afF rfl rfl fun Q bl=>?_;have jw:qv [.tmp 6] Q (fun v=>(B v)) v:=fun T H bI=>bl _ T H bI;unfold Qo at h;unfold aaw;obtain ⟨Hd,qy⟩:∃ c,QN=c:=⟨_,rfl⟩;rw [qy];obtain ⟨Nt,G'⟩:∃ c,Nb=c:=⟨_,rfl⟩;rw [G'];obtain ⟨Rz,Hg⟩:∃ c,Nc=c:=⟨_,rfl⟩;rw [Hg];conv=>whnf
 obtain ⟨r1,eT,h⟩:=qa h;refine ⟨qc.pl,_,aku eT,?_⟩;conv=>whnf
 cases r1
 ·conv=>whnf
  replace h:=GV rfl h;obtain ⟨XP,aeq,h⟩:=qa h;refine ⟨rfl,_,Qt aeq,?_⟩;conv=>whnf
  exact p7 h jw rfl rfl
 ·conv=>whnf
  replace h:=GX rfl h;refine bs h (fun fj h=>?_) fun fj h=>?_
  ·rw [fj];(conv=>whnf);obtain ⟨r2,qk,h⟩:=qa h;refine ⟨rfl,_,Qt qk,?_⟩;(conv=>whnf);exact p7 h jw rfl rfl
  ·rw [fj];(conv=>whnf);subst qy;refine ajT ?_ ?_ (.inl rfl) (by exact rfl) h
   ·intro xZ qs p4 h qf;obtain ⟨qE,rfl⟩:=qf.ex;(conv=>whnf);obtain ⟨r3,qG,h⟩:=qa h;refine ⟨qc.pl,_,UO qG,?_⟩;(conv=>whnf);obtain ⟨r4,rE,h⟩:=qa h;refine ⟨qc.pl,_,LW rE,?_⟩;(conv=>whnf);refine bs h (fun rh h=>?_) fun rh h=>?_
    ·rw [rh];(conv=>whnf);exact p7 h jw rfl rfl
    ·rw [rh];(conv=>whnf);refine bs h (fun rm h=>?_) fun rm h=>?_
     ·rw [rm];(conv=>whnf);subst G';refine Zu ?_ ?_ (by exact ⟨rfl,rfl⟩) h
      ·exact fun T H bI=>jw T H bI
      ·intro qs p4 h qf;obtain ⟨qE,rfl⟩:=qf.ex;(conv=>whnf);subst Hg;refine Zx ?_ (by exact ⟨rfl,rfl⟩) h;exact fun T H bI=>jw T H bI
     ·rw [rm];(conv=>whnf);subst G';refine Zu ?_ ?_ (by exact ⟨rfl,rfl⟩) h
      ·exact fun T H bI=>jw T H bI
      ·intro qs p4 h qf;obtain ⟨qE,rfl⟩:=qf.ex;(conv=>whnf);subst Hg;refine Zx ?_ (by exact ⟨rfl,rfl⟩) h;exact fun T H bI=>jw T H bI
   ·intro xZ qs p4 h qf;obtain ⟨qE,rfl⟩:=qf.ex;(conv=>whnf);obtain ⟨r20,Sh,h⟩:=qa h;refine ⟨qc.pl,_,UO Sh,?_⟩;(conv=>whnf);obtain ⟨r21,Si,h⟩:=qa h;refine ⟨qc.pl,_,LW Si,?_⟩;(conv=>whnf);refine bs h (fun N0 h=>?_) fun N0 h=>?_
    ·rw [N0];(conv=>whnf);exact p7 h jw rfl rfl
    ·rw [N0];(conv=>whnf);refine bs h (fun Sj h=>?_) fun Sj h=>?_
     ·rw [Sj];(conv=>whnf);subst G';refine Zv ?_ ?_ (by exact ⟨rfl,rfl⟩) h
      ·exact fun T H bI=>jw T H bI
      ·intro qs p4 h qf;obtain ⟨qE,rfl⟩:=qf.ex;(conv=>whnf);subst Hg;refine Zy ?_ (by exact ⟨rfl,rfl⟩) h;exact fun T H bI=>jw T H bI
     ·rw [Sj];(conv=>whnf);subst G';refine Zv ?_ ?_ (by exact ⟨rfl,rfl⟩) h
      ·exact fun T H bI=>jw T H bI
      ·intro qs p4 h qf;obtain ⟨qE,rfl⟩:=qf.ex;(conv=>whnf);subst Hg;refine Zy ?_ (by exact ⟨rfl,rfl⟩) h;exact fun T H bI=>jw T H bI
end Go.Proofs.YtfakoboiahbhaaaGreat.Ab


namespace Go.Proofs.YtfakoboiahbhaaaGreat.Ab
open Go
section
def swp (q:Int→Bool) (b:p3) (i:Int):Int×Int:=if q i=true then ((ix b.2 i).2,(ix b.2 i).1) else ix b.2 i
def re (q:Int→Bool) (b:p3):p3:=(b.1,(upto b.2.length).map (swp q b))
def Hb (q:Int→Bool) (p:Int×Int):Int×Int:=if q p.1=true then (p.1,1-p.2) else p
variable {b:p3} {q:Int→Bool}
theorem IW:(re q b).2.length=b.2.length:=by unfold re;simp [GN]
theorem LP {i:Int} (h:0≤i∧i<(b.2.length:Int)):ix (re q b).2 i=swp q b i:=by
 obtain ⟨n,rfl⟩:∃ n:Nat,i=n:=⟨i.toNat,by omega⟩;rw [qW (by rw [IW];omega)];unfold re;simp [upto]
theorem Ox (p1:qu b):qu (re q b):=by
 refine G8.1 ?_;have ag:=G8.2 p1;have ad:=p1.f1;have bV:=p1.f6;have dy:=p1.len;unfold qK;rw [if_neg (by rw [IW];show ¬ (b.1<1∨6<b.1∨_);omega),if_neg];intro h;obtain ⟨s,ai,h⟩:=uh.1 h;unfold re at ai;obtain ⟨i,hi,rfl⟩:=sm.1 ai;have hi:=G3.1 hi;have ae3:=LN p1 (i:=i.toNat) (by omega);rw [show ((i.toNat:Nat):Int)=i by omega] at ae3;unfold Ik swp at h;simp only [Bool.or_eq_true,ME] at h;have e:(re q b).1=b.1:=rfl;rw [e] at h;split at h <;> (try simp only at h) <;> omega
theorem Kj {i f:Int} (h:0≤i∧i<(b.2.length:Int)):qD (re q b) i f↔qD b i f:=by
 unfold qD;rw [LP h];unfold swp;split
 ·exact Or.comm
 ·exact Iff.rfl
theorem ai0 {i v:Int} (h:0≤i∧i<(b.2.length:Int)):HC (ix (re q b).2 i) v=HC (ix b.2 i) v:=by
 rw [LP h];unfold swp HC;split
 ·exact Nat.add_comm _ _
 ·rfl
theorem aiZ {S:List Int} (cm:rr b S) (v:Int):qL (re q b) S v=qL b S v:=by
 unfold qL;exact congrArg List.sum (ti fun i hi=>ai0 (cm i hi))
theorem Y0 {S:List Int} (cm:rr b S):q' (re q b) S=q' b S:=by
 unfold q';refine List.filter_congr fun f _=>?_;rw [aiZ cm]
theorem ai5:Ig (re q b)=Ig b:=by
 unfold Ig;rw [IW,Y0 Jj]
theorem aiY {S:List Int} (cm:rr b S) {f g:Int}:q9 (re q b) S f g↔q9 b S f g:=by
 constructor
 ·intro h
  induction h with
  | refl=>exact .refl
  | step i _ hi ad af a_=>exact .step i a_ hi ((Kj (cm i hi)).1 ad) ((Kj (cm i hi)).1 af)
 ·intro h
  induction h with
  | refl=>exact .refl
  | step i _ hi ad af a_=>exact .step i a_ hi ((Kj (cm i hi)).2 ad) ((Kj (cm i hi)).2 af)
theorem ai6 {P:List (List Int)} (h:q4 (re q b) (upto b.2.length) P):q4 b (upto b.2.length) P:=by
 have gX:∀ r∈P,∀ x∈r,0≤x∧x<(b.2.length:Int):=fun r aj x al=>G3.1 ((h.mem x).2 ⟨r,aj,al⟩);refine ⟨h.ne,h.so,h.mem,h.rf,fun r aj x al y a0 f g aQ aO=>?_,fun r aj fL a3 x al y a0 f aQ aO=>?_⟩
 ·exact (aiY Jj).1 (h.HP r aj x al y a0 f g ((Kj (gX r aj x al)).2 aQ) ((Kj (gX r aj y a0)).2 aO))
 ·exact h.sep r aj fL a3 x al y a0 f ((Kj (gX r aj x al)).2 aQ) ((Kj (gX fL a3 y a0)).2 aO)
theorem Y1 (p1:qu b):parts (re q b)=parts b:=by
 have ad:=JO (Ox (q:=q) p1);have af:=JO p1;rw [IW] at ad;exact (ai6 ad.2.1).same af.2.1 ad.2.2 af.2.2
theorem ai3 (p1:qu b):Lo (re q b)=Lo b:=by
 unfold Lo;rw [Y1 p1];refine congrArg List.sum (ti fun r aj=>?_);unfold Jz;rw [Y0 (Tg p1 r aj).1]
theorem ai1 {wo f g:Int} (h:rO (re q b) wo f g):rO b wo f g:=by
 obtain ⟨i,hi,hw,h⟩:=h.rN;rw [IW] at hi;have e:=rO.of (b:=b) hi hw;rw [LP ⟨by omega,by omega⟩] at h;unfold swp at h;split at h
 ·rcases h with ⟨rfl,rfl⟩ | ⟨rfl,rfl⟩
  ·exact e.symm
  ·exact e
 ·rcases h with ⟨rfl,rfl⟩ | ⟨rfl,rfl⟩
  ·exact e
  ·exact e.symm
theorem ai2 {wo f g:Int} (h:rO b wo f g):rO (re q b) wo f g:=by
 obtain ⟨i,hi,hw,h⟩:=h.rN;have e:=rO.of (b:=re q b) (i:=i) (by rw [IW];exact hi) hw;rw [LP ⟨by omega,by omega⟩] at e;unfold swp at e;split at e
 ·rcases h with ⟨rfl,rfl⟩ | ⟨rfl,rfl⟩
  ·exact e.symm
  ·exact e
 ·rcases h with ⟨rfl,rfl⟩ | ⟨rfl,rfl⟩
  ·exact e
  ·exact e.symm
theorem rT.map {c:p3} {wo Zm:Int} (h:∀ f g,rO b wo f g→rO c Zm f g):∀ {n:Nat} {f g:Int},rT b wo n f g→rT c Zm n f g
 | 0,_,_,hw=>hw
 | n+1,f,g,⟨x,ad,af⟩=>⟨x,rT.map h ad,h _ _ af⟩
theorem aiX {wo f g:Int}:rU (re q b) wo f g↔rU b wo f g :=
 ⟨fun ⟨n,h⟩=>⟨n,h.map fun _ _=>ai1⟩,fun ⟨n,h⟩=>⟨n,h.map fun _ _=>ai2⟩⟩
theorem ai4 (p1:qu b):LC (re q b)=LC b:=by
 unfold LC;rw [IW];refine List.filter_congr fun i hi=>?_;have hi:=G3.1 hi;have ad:=(SY (Ox (q:=q) p1) (i:=i) (by rw [IW];exact hi)).2;have af:=(SY p1 hi).2
 have:(HG (re q b) i=true↔HG b i=true):=by
  rw [ad,af,aiX,LP hi];unfold swp;split
  ·exact not_congr ⟨fun h=>h.symm,fun h=>h.symm⟩
  ·exact Iff.rfl
 cases e1:HG (re q b) i <;> cases ck:HG b i <;> simp_all
theorem ai7 {p:Int×Int} (h:rP b p):qo (re q b) (Hb q p)=qo b p∧fin (re q b) (Hb q p)=fin b p:=by
 obtain ⟨ad,af,aG,a6⟩:=h;unfold Hb;by_cases a3:q p.1=true
 ·rw [if_pos a3];unfold qo fin;simp only [LP ⟨ad,af⟩,swp,a3,if_true];rcases show p.2=0∨p.2=1 by omega with e | e <;> simp [e]
 ·rw [if_neg a3];unfold qo fin;simp only [LP ⟨ad,af⟩,swp,a3];exact ⟨rfl,rfl⟩
theorem Uz:∀ (l:Row) (a:Int),(∀ p∈l,rP b p)→qm (re q b) a (l.map (Hb q))=qm b a l
 | [],_,_=>rfl
 | p::l,a,h=>by
   obtain ⟨e1,ck⟩:=ai7 (q:=q) (h p (by simp));rw [sx];unfold qm;rw [e1,ck,Uz l _ fun r aj=>h r (by simp [aj])]
theorem Y2 (p:Int×Int):(Hb q p).1=p.1:=by unfold Hb;split <;> rfl
theorem ai9 (l:Row):(l.map (Hb q)).map (·.1)=l.map (·.1):=by
 rw [tr];exact ti fun p _=>Y2 p
theorem ai8 {p:Int×Int} (h:rP b p):rP (re q b) (Hb q p):=by
 obtain ⟨ad,af,aG,a6⟩:=h;unfold rP;rw [Y2,IW];refine ⟨ad,af,?_⟩;unfold Hb;split
 ·show 0≤1-p.2∧1-p.2≤1;omega
 ·exact ⟨aG,a6⟩
theorem ac2 (p1:qu b) {l:Row} (h:(qV b l).2.2=0∨(qV b l).2.2=27):l≠[]∧(∀ p∈l,rP b p)∧(l.map (·.1)).Nodup:=by
 have ag:=G8.2 p1;unfold qV at h;rw [if_neg (by simp [ag])] at h;cases l with
 | nil=>simp at h
 | cons p r =>
   simp only at h;by_cases ad:(p::r).any (rS b)=true
   ·rw [if_pos ad] at h;simp at h
   rw [if_neg ad] at h;by_cases af:GQ [] (p::r)=true
   ·rw [if_pos af] at h;simp at h
   refine ⟨by simp,fun x al=>LO.1 ?_,?_⟩
   ·cases e:rS b x with
    | false=>rfl
    | true=>exact absurd (uh.2 ⟨x,al,e⟩) ad
   ·have:=Pk (p::r) [] (by simpa using af) (by simp);simpa using this
theorem RC (p1:qu b) {l:Row} (aS:l≠[]) (bO:∀ p∈l,rP b p) (aN:(l.map (·.1)).Nodup) (aO:∀ a,qm b a l=none):qV b l=(0,0,27):=by
 unfold qV;rw [if_neg (by simp [G8.2 p1])];cases l with
 | nil=>exact absurd rfl aS
 | cons p r =>
   simp only;have ad:¬ (p::r).any (rS b)=true:=fun h=>by
    obtain ⟨x,al,h⟩:=uh.1 h;rw [LO.2 (bO x al)] at h;cases h
   have af:GQ [] (p::r)=false:=Pl _ _ (by simpa using aN);rw [if_neg ad,if_neg (by rw [af];simp),aO]
theorem V9 (p1:qu b) {l:Row} (aS:l≠[]) (bO:∀ p∈l,rP b p) (aN:(l.map (·.1)).Nodup):(∃ a c,qm b a l=some c∧qV b l=(a,c,0))∨((∀ a,qm b a l=none)∧qV b l=(0,0,27)):=by
 by_cases h:∃ a c,qm b a l=some c
 ·obtain ⟨a,c,h⟩:=h;exact .inl ⟨a,c,h,Pf p1 aS bO aN h⟩
 ·have aO:∀ a,qm b a l=none:=fun a=>by
   cases e:qm b a l with
   | none=>rfl
   | some c=>exact absurd ⟨a,c,e⟩ h
  exact .inr ⟨aO,RC p1 aS bO aN aO⟩
theorem acD {l:Row} (h:∀ p∈l,rP b p):∀ p∈G5 l,rP b p:=fun p aC=>by
 unfold G5 at aC;rw [List.mem_reverse,sm] at aC;obtain ⟨Kb,N6,rfl⟩:=aC;obtain ⟨ad,af,aG,a6⟩:=h Kb N6;exact ⟨ad,af,by show 0≤1-Kb.2;omega,by show 1-Kb.2≤1;omega⟩
theorem acC {l:Row}:G5 (G5 l)=l:=by
 unfold G5;rw [List.map_reverse,List.reverse_reverse,tr];conv=>rhs;rw [←List.map_id l]
 refine ti fun p _=>?_;obtain ⟨x,y⟩:=p;show (x,1-(1-y))=(x,y);congr 1;omega
theorem acZ (p1:qu b) {l:Row} (aS:l≠[]) (bO:∀ p∈l,rP b p) (aN:(l.map (·.1)).Nodup):qV b (G5 l)=((qV b l).2.1,(qV b l).1,(qV b l).2.2):=by
 have SC:=acD bO;have iE:G5 l≠[]:=by unfold G5;simpa using aS
 have WS:((G5 l).map (·.1)).Nodup:=(V1 l).nodup_iff.2 aN;rcases V9 p1 aS bO aN with ⟨a,c,aO,he⟩ | ⟨aO,he⟩
 ·rw [he,Pf p1 iE SC WS (Qd l a c (fun p aC=>(bO p aC).2.2) aO)]
 ·rw [he,RC p1 iE SC WS fun a=>?_];cases e:qm b a (G5 l) with
  | none=>rfl
  | some c =>
    have:=Qd (G5 l) a c (fun p aC=>(SC p aC).2.2) e;rw [acC,aO] at this;cases this
theorem ac1 (p1:qu b) {l:Row} (aS:l≠[]) (bO:∀ p∈l,rP b p) (aN:(l.map (·.1)).Nodup):qV (re q b) (l.map (Hb q))=qV b l:=by
 have bX:=Ox (q:=q) p1;have W1:∀ p∈l.map (Hb q),rP (re q b) p:=fun p aC=>by
  obtain ⟨Kb,N6,rfl⟩:=sm.1 aC;exact ai8 (bO Kb N6)
 have NN:l.map (Hb q)≠[]:=by simpa using aS
 have pt:((l.map (Hb q)).map (·.1)).Nodup:=by rw [ai9];exact aN
 rcases V9 p1 aS bO aN with ⟨a,c,aO,he⟩ | ⟨aO,he⟩
 ·rw [he,Pf bX NN W1 pt (by rw [Uz l a bO];exact aO)]
 ·rw [he,RC bX NN W1 pt fun a=>by rw [Uz l a bO];exact aO a]
def G6 (bits x:Int):Bool:=decide ((IntKind.wrap .u16 ((BitVec.ofInt IntKind.u16.bits (bits.fdiv (2 ^ (Nat.min x.toNat IntKind.u16.bits))) &&& BitVec.ofInt IntKind.u16.bits (1:Int)).toNat:Int))=(1:Int))
theorem Zz (ag:b.2.length≤1000) {bits:Int} {k:Row→Option Bool}:∀ (m i:Nat) (z:Int),z=i→i≤b.2.length→b.2.length-i<m→K1 b bits k m z ((upto i).map (swp (G6 bits) b))=k (re (G6 bits) b).2
 | 0,_,_,_,_,h=>absurd h (by omega)
 | m+1,i,_,rfl,hi,hm=>by
   rw [K1];by_cases h:(i:Int)<(b.2.length:Int)
   ·have a_:=Zz ag (bits:=bits) (k:=k) m (i+1) _ rfl (by omega) (by omega);rw [Oy,sZ,sx,tM] at a_;(have ak:((upto i).map (swp (G6 bits) b)).length=i:=by rw [sV,GN]);rw [if_pos (decide_eq_true h),p' ⟨by omega,h⟩,p' (by omega),rj i (by omega)];show (if G6 bits (i:Int)=true then _ else _)=_;by_cases a3:G6 bits (i:Int)=true
    ·have e:swp (G6 bits) b (i:Int)=((ix b.2 (i:Int)).2,(ix b.2 (i:Int)).1):=if_pos a3;rw [if_pos a3,p' (by rw [ak];omega),←e];exact a_
    ·have e:swp (G6 bits) b (i:Int)=ix b.2 (i:Int):=if_neg a3;rw [if_neg a3,p' (by rw [ak];omega),←e];exact a_
   ·rw [if_neg (by simpa using h),show i=b.2.length by omega];rfl
theorem ZA {l:Row} (ak:l.length≤1000) (aC:∀ p∈l,0≤p.1∧0≤p.2∧p.2≤1) {bits:Int} {k:Row→Option Bool}:∀ (m i:Nat) (z:Int),z=i→i≤l.length→l.length-i<m→IY l bits k m ((l.take i).map (Hb (G6 bits))) z=k (l.map (Hb (G6 bits)))
 | 0,_,_,_,_,h=>absurd h (by omega)
 | m+1,i,_,rfl,hi,hm=>by
   rw [IY];by_cases h:(i:Int)<(l.length:Int)
   ·(have qJ:i<l.length:=by omega);have yP:=aC _ (List.getElem_mem qJ);have a_:=ZA ak aC (bits:=bits) (k:=k) m (i+1) _ rfl (by omega) (by omega);rw [List.take_succ_eq_append_getElem qJ,sZ,sx,tM] at a_;(have Gb:((l.take i).map (Hb (G6 bits))).length=i:=by rw [sV,List.length_take];omega);rw [if_pos (decide_eq_true h),p' ⟨by omega,h⟩,qW qJ,p' yP.1,rj i (by omega)];show (if G6 bits (l[i]).1=true then _ else _)=_;by_cases a3:G6 bits (l[i]).1=true
    ·(have e:Hb (G6 bits) l[i]=((l[i]).1,w (1-(l[i]).2)):=by unfold Hb;rw [if_pos a3,H2 (by omega)]);rw [if_pos a3,p' (by rw [Gb];omega),←e];exact a_
    ·have e:Hb (G6 bits) l[i]=l[i]:=if_neg a3;rw [if_neg a3,p' (by rw [Gb];omega)];rw [e] at a_;exact a_
   ·rw [if_neg (by simpa using h),show i=l.length by omega,List.take_length]
theorem ZY {l:Row} (ak:l.length≤1000) {k:Row→Option Row}:∀ (m i:Nat) (z:Int),z=(i:Int)-1→i≤l.length→i<m→L8 l k m (((l.drop i).map fun p=>(p.1,w (1-p.2))).reverse) z=k ((l.map fun p=>(p.1,w (1-p.2))).reverse)
 | 0,_,_,_,_,h=>absurd h (by omega)
 | m+1,i,_,rfl,hi,hm=>by
   rw [L8];by_cases h:0<i
   ·obtain ⟨j,rfl⟩:∃ j,i=j+1:=⟨i-1,by omega⟩;(have lV:j<l.length:=by omega);(have bm:((j+1:Nat):Int)-1=(j:Int):=by omega);(have hlen:(((l.drop (j+1)).map fun p=>(p.1,w (1-p.2))).reverse).length≤1000:=by simp;omega);rw [bm,if_pos (decide_eq_true (by omega)),p' ⟨by omega,by omega⟩,p' ⟨by omega,by omega⟩,p' (by omega),qW lV,H2 (show -9223372036854775808≤(j:Int)-1∧(j:Int)-1≤9223372036854775807 by omega)];have a_:=ZY ak (k:=k) m j ((j:Int)-1) rfl (by omega) (by omega);rw [List.drop_eq_getElem_cons lV,sx,List.reverse_cons] at a_;exact a_
   ·(obtain rfl:i=0:=by omega);rw [if_neg (by simp),List.drop_zero]
theorem akx {l:Row} (ak:l.length≤1000) (aC:∀ p∈l,0≤p.2∧p.2≤1):OL l=some (G5 l):=by
 have key:=ZY ak (k:=fun xZ=>some xZ) p6 l.length ((l.length:Int)-1) rfl (Nat.le_refl _) (ri (by omega));rw [List.drop_length,tM,List.reverse_nil] at key;rw [OL,H2 (by omega),key];unfold G5;congr 2;refine ti fun p h=>?_;have:=aC p h;rw [H2 (by omega)]
theorem Zw (p1:qu b) {q:Int→Bool}:JJ b (re q b).2=some true:=by
 have dy:=p1.len;have bX:=Ox (q:=q) p1;have adZ:=IW (q:=q) (b:=b);have aq:=Xw (b:=b);have aw:=afo (b:=b);unfold JJ;show ((K7 b).bind fun JD=>(K7 (re q b)).bind fun LK=>(K4 b).bind fun Hl=>(K4 (re q b)).bind fun JC=>(K8 b).bind fun LJ=>(K8 (re q b)).bind fun Og=>(K5 b).bind fun P0=>(K5 (re q b)).bind fun P1=>_)=_;rw [ZU p1,r_,ZU bX,r_,ZO (by omega),r_,ZO (by omega),r_,ZV p1,r_,ZV bX,r_,ZP (by omega),r_,ZP (by omega),r_,Ta p1,Ta bX,SZ p1,SZ bX,ai3 p1,ai5,Y1 p1,ai4 p1];dsimp only;rw [if_pos rfl,if_pos rfl,if_pos (decide_eq_true rfl),if_pos (decide_eq_true rfl),if_pos (decide_eq_true rfl),UR (by omega),r_,if_pos rfl,if_pos rfl,if_pos rfl,ako (by have:=agD p1;omega) (fun r aj=>by have:=(Tg p1 r aj).2;omega),r_,if_pos rfl,if_pos (decide_eq_true rfl),if_pos (decide_eq_true rfl),UR (by omega),r_,if_pos rfl];simp only [UN,r_]
theorem ajS (b:p3) (l:Row) (bits:Int):Qo b l bits=some true:=by
 rw [Qo,akt,r_];by_cases aQ:(decide (b.2.length≤14) && decide (qK b=0))=true
 case neg=>rw [if_neg aQ];simp only [UN,r_]
 rw [if_pos aQ];simp only [Bool.and_eq_true,decide_eq_true_eq] at aQ;have p1:=G8.1 aQ.2;have dy:=p1.len;by_cases WE:(14:Int)<(l.length:Int)
 ·rw [if_pos (decide_eq_true WE)];simp only [UN,r_]
 have ak:l.length≤1000:=by omega
 have bX:=Ox (q:=G6 bits) p1;have adZ:=IW (q:=G6 bits) (b:=b);rw [if_neg (by simpa using WE)];refine (Zz (b:=b) (by omega) p6 0 0 rfl (by omega) (ri (by omega))).trans ?_;rw [ZF b l (by omega) ak,r_,Qu b l (by omega) ak,r_,if_neg (by simp)];have go:(qV b l).2.2=0∨(qV b l).2.2=27→JI b l bits (re (G6 bits) b).2 (qV b l) (qV b l) (fun _=>JJ b (re (G6 bits) b).2) true=some true:=fun he=>by
  obtain ⟨aS,bO,aN⟩:=ac2 p1 he;have ag:=acZ p1 aS bO aN;have ax:=ac1 (q:=G6 bits) p1 aS bO aN;have Cc:(G5 l).length=l.length:=by unfold G5;simp
  rw [JI,if_pos rfl];refine (ZA ak (fun p aC=>⟨(bO p aC).1,(bO p aC).2.2⟩) p6 0 0 rfl (by omega) (ri (by omega))).trans ?_;rw [akx ak fun p aC=>(bO p aC).2.2,r_,Qu b _ (by omega) (by omega),r_];show ((Jl (re (G6 bits) b) (l.map (Hb (G6 bits)))).bind fun HH=>_)=_;rw [Qu _ _ (by omega) (by rw [sV];exact ak),r_,ag,ax];dsimp only;rw [if_neg (by simp),if_neg (by simp),if_neg (by simp),if_neg (by simp),if_neg (by simp),if_neg (by simp)];exact Zw p1
 by_cases SI:(qV b l).2.2=0
 ·rw [if_pos (decide_eq_true SI)];exact go (.inl SI)
 ·rw [if_neg (by simpa using SI)];by_cases he:(qV b l).2.2=27
  ·rw [decide_eq_true he];exact go (.inr he)
  ·rw [decide_eq_false he,JI,if_neg (by decide)];exact Zw p1
theorem agm {b:p3} {l:Row} {bits:Int}:qp 11 [.agg [hP b.1,.ay (b.2.flatMap pY) b.2.length .shared],.ay (l.flatMap pY) l.length .shared,Ir bits] (B true):=ajW (ajS b l bits)
end
end Go.Proofs.YtfakoboiahbhaaaGreat.Ab
