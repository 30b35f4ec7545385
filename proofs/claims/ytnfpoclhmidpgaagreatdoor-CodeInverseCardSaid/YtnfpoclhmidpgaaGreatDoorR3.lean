/- Of the proof that this claim's last text ends. -/
import Derived.Test.YtnfpoclhmidpgaaGreatDoorR2
set_option maxRecDepth 100000
set_option maxHeartbeats 8000000
set_option linter.unusedSimpArgs false
set_option linter.unusedVariables false
namespace Go.Sl
open Go Go.RowKit Go.Shelf Go.Proofs
attribute [local irreducible] Calls
def beB (n:Int) (i:Nat):Int:=(n.fdiv (2 ^ (min (8*i) 64))) % 256
def be (sz:Nat) (n:Int):Bs:=(List.range sz).map fun j=>UInt8.ofNat (beB n (sz - 1 - j)).toNat
theorem Cp (sz:Nat) (n:Int):(be sz n).length=sz:=by simp[be]
theorem beB_range (n:Int) (i:Nat):0≤beB n i∧beB n i < 256:=by unfold beB;omega
theorem be_val (n:Int) (i:Nat):((UInt8.ofNat (beB n i).toNat).toNat:Int)=beB n i:=by
 have:=beB_range n i
 rw[UInt8.toNat_ofNat'];omega
theorem be_take (sz:Nat) (n:Int) (k:Nat) (hk:k < sz):(be sz n).take (k+1)=(be sz n).take k++[UInt8.ofNat (beB n (sz - 1 - k)).toNat]:=by
 rw[List.take_succ_eq_append_getElem (by simpa [Cp] using hk)]
 simp[be]
abbrev slV (b:Option Nat) (n cap:Nat):Value:=.slice (b.map fun b=>⟨b,0,none⟩) n cap
structure RowB (b:Option Nat) (n cap sz:Nat) (xs rst:List Value):Prop where
 hl:xs.length=n*sz
 hc:xs.length+rst.length=cap*sz
 hn:b=none→cap=0
abbrev maxB:Nat:=1099511627776
section
variable {S:Nat→Prop} {w0:World} {F:List Ent}
theorem add_c {wb c1 sz:Nat} {b1:Option Nat} {bs:Bs} {r1:List Value} {p2 p3:Value} {n:Int} (hr:RowB b1 bs.length c1 1 (byv bs) r1) (hB:bs.length+sz≤maxB) (hsz:sz≤4):
 SLF Tryz.prog S w0 F 178 [pv wb 0,.int .i64 n,.int .i64 (sz:Int)] (⟨wb,true,.cells #[slV b1 bs.length c1,p2,p3] 83 (0,0)⟩::rowE b1 (byv bs) r1 5) (fun e post=>∃v,e=.returned v∧v=unitV∧∃b1' c1' r1',RowB b1' (bs++be sz n).length c1' 1 (byv (bs++be sz n)) r1'∧post=⟨wb,true,.cells #[slV b1' (bs++be sz n).length c1',p2,p3] 83 (0,0)⟩::rowE b1' (byv (bs++be sz n)) r1' 5):=by
 refine AE fun w hi=>?_
 simp only[List.append_assoc,List.cons_append,List.nil_append] at hi
 have hB':bs.length+sz≤1099511627776:=hB
 refine Ak Tryz.func178 rfl rfl (hi) ?_
 repeat' (first|refine Ag rfl ?_|refine Aj rfl ?_|refine Al ?_|refine An ?_|refine A6 ?_|refine Ab 0 ?_;try refine Zm rfl (Zv (Ca rfl rfl Y9 Y9) ?_);try refine Za rfl (Aa N36 ?_))
 refine A1 (E':=(fun q:Int×Nat×Bs×Option Nat×Nat×List Value=>[(0,pv wb 0),(1,.int .i64 n),(2,.int .i64 (sz:Int)),(6,.int .i64 q.1)]) ((sz:Int) - 1,0,bs,b1,c1,r1)) Y14 ?_
 refine Bb (fun q:Int×Nat×Bs×Option Nat×Nat×List Value=>q.2.1≤sz∧q.1=(sz:Int) - 1 - (q.2.1:Int)∧q.2.2.1=bs++(be sz n).take q.2.1∧RowB q.2.2.2.1 q.2.2.1.length q.2.2.2.2.1 1 (byv q.2.2.1) q.2.2.2.2.2) (fun q=>sz - q.2.1) (fun q:Int×Nat×Bs×Option Nat×Nat×List Value=>[(0,pv wb 0),(1,.int .i64 n),(2,.int .i64 (sz:Int)),(6,.int .i64 q.1)]) (fun q=>⟨wb,true,.cells #[slV q.2.2.2.1 q.2.2.1.length q.2.2.2.2.1,p2,p3] 83 (0,0)⟩::(rowE q.2.2.2.1 (byv q.2.2.1) q.2.2.2.2.2 5++F)) ?_ ((sz:Int) - 1,0,bs,b1,c1,r1) ⟨Nat.zero_le _,by simp,by simp,hr⟩
 rintro⟨i,k,bs2,b2,c2,r2⟩ ⟨k1,k2,k3,k4⟩ ih
 dsimp only at k1 k2 k3 k4 ih ⊢
 by_cases hk:k < sz
 · have e1:=be_take sz n k hk
   have hv:IntKind.u8.wrap (n.fdiv (2 ^ (min (8*i).toNat IntKind.i64.bits)))=(((UInt8.ofNat (beB n (sz - 1 - k)).toNat).toNat:Nat):Int):=by
    rw[be_val,wrap_u8,beB,show(8*i).toNat=8*(sz - 1 - k) by omega];rfl
   have hlen:bs2.length=bs.length+k:=by rw[k3];simp[Cp];omega
   generalize UInt8.ofNat (beB n (sz - 1 - k)).toNat=c at *
   repeat' (first|refine Ag rfl ?_|refine Aj rfl ?_|refine Al ?_|refine An ?_|refine A5 rfl ?_|refine A6 ?_|refine AH ?_|refine AB ?_|refine Ab 1 ?_;try refine Zm rfl (Zv (Bj rfl rfl Y2) ?_);try refine Aa N36 ?_|refine Cy (m:=15) 3 rfl mixed rfl ?_;try refine Zt 0 rfl (fun _=>Ai rfl) (Zt 1 rfl (fun _=>Ai rfl) (Zt 5 rfl (fun _=>Ai rfl) (Zt 6 rfl (fun _=>Ai rfl) (Zt 7 rfl (fun _=>ov_mul_i64 rfl rfl Y9 Y9) ?_))));try refine Zt 8 rfl (fun _=>ov_shr rfl rfl Y9 rfl) ?_;try refine Zt 9 rfl (fun _=>CE U3 U5 rfl hv) ?_;try refine AC 2 10 Y1 ?_ ?_<;>(first|show WI _ _ _ _ _ _ 2 _ _ _ _;try refine Ao rfl (Ah rfl) rfl rfl rfl (Zt 3 rfl (fun _=>Ad CN rfl) ?_);try refine AC 4 10 Y1 ?_ ?_<;>(first|show WI _ _ _ _ _ _ 4 _ _ _ _;try refine Ao rfl (Ac U22 rfl rfl Y0 Y4) rfl rfl rfl ?_;try refine Af 10 Y1 ?_<;>try((refine wi_bs1 rfl U22 inf5 rfl rfl rfl rfl rfl rfl rfl (fun bb_ hb_=>?_))<;>try refine Af 11 Y1 ?_<;>try((refine Bu (sz:=1) (base:=b2) (xs:=byv bs2) (rst:=r2) rfl rfl rfl U22 U22 rfl inf5 rfl Y22 rfl rfl k4.hl k4.hc (BW (A:=[_,_]) k4.hn) (.head _) (new:=byv [c]) rfl Y26 (List.all_eq_true.1 rfl) (by show(2*(_+1)+192)*1≤_;omega) Y9 Y9 rfl rfl rfl (fun b3 c3 r3 hc_ hn_=>?_))<;>try refine Af 12 Y1 ?_<;>try refine Ao rfl (Ah rfl) rfl rfl rfl (Zt 13 rfl (fun _=>Ad CN rfl) (Af 14 Y1 ?_))<;>try refine A9 rfl rfl rfl rfl Ck Y3 Y8 (.inr Y8) rfl rfl rfl ?_;try refine Ar N36 Y1 ?_))|show WI _ _ _ _ _ _ 10 _ _ _ _;try((refine wi_bs1 rfl U22 inf5 rfl rfl rfl rfl rfl rfl rfl (fun bb_ hb_=>?_))<;>try refine Af 4 Y1 ?_<;>try refine Ao rfl (Ac U22 rfl rfl Y0 Y4) rfl rfl rfl ?_;try refine Af 11 Y1 ?_<;>try((refine Bu (sz:=1) (base:=b2) (xs:=byv bs2) (rst:=r2) rfl rfl rfl U22 U22 rfl inf5 rfl Y22 rfl rfl k4.hl k4.hc (BW (A:=[_,_]) k4.hn) (.head _) (new:=byv [c]) rfl Y26 (List.all_eq_true.1 rfl) (by show(2*(_+1)+192)*1≤_;omega) Y9 Y9 rfl rfl rfl (fun b3 c3 r3 hc_ hn_=>?_))<;>try refine Af 12 Y1 ?_<;>try refine Ao rfl (Ah rfl) rfl rfl rfl (Zt 13 rfl (fun _=>Ad CN rfl) (Af 14 Y1 ?_))<;>try refine A9 rfl rfl rfl rfl Ck Y3 Y8 (.inr Y8) rfl rfl rfl ?_;try refine Ar N36 Y1 ?_)))|show WI _ _ _ _ _ _ 10 _ _ _ _;try((refine wi_bs1 rfl U22 inf5 rfl rfl rfl rfl rfl rfl rfl (fun bb_ hb_=>?_))<;>try refine Af 2 Y1 ?_<;>try refine Ao rfl (Ah rfl) rfl rfl rfl (Zt 3 rfl (fun _=>Ad CN rfl) (Af 4 Y1 ?_))<;>try refine Ao rfl (Ac U22 rfl rfl Y0 Y4) rfl rfl rfl ?_;try refine Af 11 Y1 ?_<;>try((refine Bu (sz:=1) (base:=b2) (xs:=byv bs2) (rst:=r2) rfl rfl rfl U22 U22 rfl inf5 rfl Y22 rfl rfl k4.hl k4.hc (BW (A:=[_,_]) k4.hn) (.head _) (new:=byv [c]) rfl Y26 (List.all_eq_true.1 rfl) (by show(2*(_+1)+192)*1≤_;omega) Y9 Y9 rfl rfl rfl (fun b3 c3 r3 hc_ hn_=>?_))<;>try refine Af 12 Y1 ?_<;>try refine Ao rfl (Ah rfl) rfl rfl rfl (Zt 13 rfl (fun _=>Ad CN rfl) (Af 14 Y1 ?_))<;>try refine A9 rfl rfl rfl rfl Ck Y3 Y8 (.inr Y8) rfl rfl rfl ?_;try refine Ar N36 Y1 ?_)))|refine Ab 2 ?_;try refine Zm rfl (Zv (Ca rfl rfl Y9 Y9) ?_);try refine Za rfl (Aa N36 ?_))
   all_goals
    have hl1:(bs2++[c]).length=bs2.length+1:=by simp
    have ih2:=ih (i - 1,k+1,bs2++[c],some b3,c3,r3) ⟨by simp only;omega,by simp only;omega,by simp only;rw[k3,e1,List.append_assoc],⟨by simp only;rw[byv_len];omega,by rw[byv_app];exact hc_,by simp⟩⟩ (by simp only;omega)
    have hby:byv (bs2++[c])=byv bs2++byv [c]:=byv_app _ _
    simp only[hl1,hby,rowE_some,List.cons_append,List.nil_append] at ih2
    exact A1 Y10 (w_pick (ps:=[_,_]) (F:=F) Y6 Y5 ih2)
 · have hks:k=sz:=by omega
   subst hks
   have hbe:(be k n).take k=be k n:=List.take_of_length_le (by rw[Cp];exact Nat.le_refl _)
   rw[hbe] at k3
   subst k3
   repeat' (first|refine Ag rfl ?_|refine Aj rfl ?_|refine Al ?_|refine An ?_|refine Az rfl ?_|refine Bl rfl ?_|refine Bp Tryz.func178 rfl (fun w_ hi_=>?_)|refine Ab 1 ?_;try refine Zm rfl (Zv (Bj rfl rfl Y2) ?_);try refine Aa N36 ?_)
   exact⟨_,⟨_,rfl,rfl,b2,c2,r2,k4,rfl⟩,hi_⟩
end
end Go.Sl
namespace Go.Sl
open Go Go.RowKit Go.Shelf Go.Proofs
theorem perm_row (a:Ent) (A B F:List Ent):(a::(A++(B++F))).Perm (A++(B++a::F)):=by
 rw[←List.append_assoc,←List.append_assoc]
 exact List.perm_middle.symm
theorem RowAt.tl {e:Ent} {H H':List Ent} {el cap:Nat} {xs rst:List Value} {b:Option Nat} (h:RowAt H H' el xs rst cap b):RowAt (e::H) (e::H') el xs rst cap b:=by
 cases b with
 | none=>exact⟨h.1,by rw[h.2]⟩
 | some b=>exact⟨.tail _ h.1,.tail _ h.2⟩
theorem RowAt.ap {A H H':List Ent} {el cap:Nat} {xs rst:List Value} {b:Option Nat} (h:RowAt H H' el xs rst cap b):RowAt (A++H) (A++H') el xs rst cap b:=by
 induction A with
 | nil=>exact h
 | cons a A ih=>exact ih.tl
section
variable {C:Cx} {S:Nat→Prop} {w0:World} {k:List Item} {D:List Deferred} {E:List (Nat×Value)} {H H':List Ent} {d:Option Tmp} {t t':TypeId} {p:String} {af:Array Edge} {g:Option (Nat×Bool)} {x y z:Operand} {v u:Value} {ops:Array Oper} {fuel:Nat} {listed listed':Array Bool}
def OpC (C:Cx) (D:List Deferred) (E:List (Nat×Value)) (o:Oper) (v:Value):Prop:=∀tmps w,Fits E C.n tmps→(execOp ({tmps:=tmps,defers:=D}:Act).eval o).run C.P w=.ok (.value v) w
theorem By {a:Addr} (hx:opv E x=some (.pointer (some a))):OpC C D E ⟨d,.nilCheck x,t,p,af,g⟩ (.pointer (some a)):=fun tmps w hf=>by simp[execOp,hf.opv D hx]
theorem AZ (i:Nat) {o:Oper} (hi:ops[i]?=some o) (hv:OpC C D E o v) (hs:Region.noSelect ops=true) (hf:Region.free .any ops listed i=true) (hr:(Region.ready .any ops listed).contains i=true)
 (hg:guardOk E ops o=some true) (hd:dstOk o.dst C.n=true) (hl:listed.setIfInBounds i true=listed')
 (h:WA C S w0 ops fuel listed' k D (putE o.dst v E) H):WA C S w0 ops (fuel+1) listed k D E H:=by
 unfold WA Go3 at *
 exact fun w hiv tmps hft=>by
  obtain⟨f1,f2⟩:=hft.putE (CF hd) v D
  refine wpAny_take (v:=v) hi hs hf hr qa_panic (.inl ⟨BC hft hg,fun w1=>hv tmps w1 hft⟩) ?_
  rw[hl,Da f2];exact h w hiv _ f1
theorem wi_appendS {el n cap i:Nat} {ti:TypeInfo} {zv:Value} {base:Option Nat} {xs rst:List Value} {sT xT:TypeId} {aT:Array TypeId} {l:List UInt8} (hop:ops[i]?=some ⟨d,.call {callee:=.builtin .append,args:= #[x,y],argTypes:=aT},t,p,af,g⟩)
 (hx:opv E x=some (.slice (base.map fun b=>⟨b,0,none⟩) n cap)) (hy:opv E y=some (str l)) (hu:C.P.underlying sT=some (.slice el)) (hux:C.P.underlying xT=some .string) (haT:aT= #[sT,xT]) (hti:C.P.info? el=some ti) (hsz:ti.size=1)
 (hz:ti.zero=some zv) (hzs:zv.cells.size=1) (hxs:xs.length=n) (hcap:xs.length+rst.length=cap) (hb:RowAt H H' el xs rst cap base)
 (hroom:(2*(n+l.length)+192)*ti.bytes≤281474976710656) (hmax:n+l.length≤4611686018427387904) (hk:0 < l.length) (hg:guardOk E ops ⟨d,.call {callee:=.builtin .append,args:= #[x,y],argTypes:=aT},t,p,af,g⟩=some true) (hd:dstOk d C.n=true) (hl:listed.setIfInBounds i true=listed')
 (h:∀b' cap' rst',(xs++byv l).length+rst'.length=cap'→n+l.length≤cap'→WA C S w0 ops fuel listed' k D (putE d (.slice (some ⟨b',0,none⟩) (n+l.length) cap') E) (⟨b',true,.cells (xs++byv l++rst').toArray el (0,0)⟩::H')):
 WI C S w0 ops fuel listed i k D E H:=by
 refine wi_op hop hg hd hl fun w hi tmps hft=>?_
 obtain ⟨b',cap',rst',w',r1,r2,r3,r4⟩:=run_append (t:=t) (w:=w) (kn:=l.length) (new:=byv l) (sv:=.slice (base.map fun b=>⟨b,0,none⟩) n cap) (xv:=str l) hi hu hux (.inr rfl) haT hti hsz Y9 hz hzs rfl Y9 Y9 hb (by simp[Builtin.lenOf,size_list]) (fun w' _=>by
  simp only[Builtin.firstCells,ext_list,Sem.run_pure]
  congr 1
  apply Array.ext'
  simp[byv]) (by simp[byv]) (by simp[byv,okCell]) hroom hmax hk
 have hrun:(execOp ({tmps:=tmps,defers:=D}:Act).eval (⟨d,.call {callee:=.builtin .append,args:= #[x,y],argTypes:=aT},t,p,af,g⟩:Oper)).run C.P w=.ok (.value (.slice (some ⟨b',0,none⟩) (n+l.length) cap')) w':=by
  simp[execOp,resolve,invoke,builtin,hft.opv D hx,hft.opv D hy,r1]
 rw[hrun]
 exact(h b' cap' rst' Y9 r3).go3 r4
end
end Go.Sl
namespace Go.Sl
open Go Go.RowKit Go.Shelf Go.Proofs
attribute [local irreducible] Calls
structure WS where
 bytes:Bs
 places:List (Int×Int×Bs)
 blocks:List Int
def ws0:WS:=⟨[],[],[]⟩
def plcC (p:Int×Int×Bs):List Value:=[.int .i64 p.1,.int .u8 p.2.1,str p.2.2]
theorem Cs (p:Int×Int×Bs):(plcC p).length=3:=rfl
def wKd:Kd WS where
 num n sz s:=if s.bytes.length+sz≤maxB then .ok (n,{s with bytes:=s.bytes++be sz n}) else .full
 txt t s:=if t≠[]∧s.bytes.length+1+t.length≤maxB then .ok (t,{s with bytes:=s.bytes++be 1 t.length++t}) else .full
 ref nm q s:=if s.bytes.length+2≤maxB∧s.places.length < maxB then .ok (nm,{s with bytes:=s.bytes++be 2 0,places:=s.places++[((s.bytes.length:Int),q,nm)]}) else .full
 blk s:=if s.blocks.length < maxB then .ok {s with blocks:=s.blocks++[(s.bytes.length:Int)]} else .full
abbrev WBE (wb:Nat) (v1 v2 v3:Value):Ent:=⟨wb,true,.cells #[v1,v2,v3] 83 (0,0)⟩
def wSt (wb:Nat) (s:WS) (L:List Ent):Prop:=
 ∃ b1 c1 r1 b2 c2 r2 b3 c3 r3,RowB b1 s.bytes.length c1 1 (byv s.bytes) r1∧RowB b2 s.places.length c2 3 (rowV plcC s.places) r2∧RowB b3 s.blocks.length c3 1 (intsV s.blocks) r3 ∧
  L=WBE wb (slV b1 s.bytes.length c1) (slV b2 s.places.length c2) (slV b3 s.blocks.length c3)::(rowE b1 (byv s.bytes) r1 5++(rowE b2 (rowV plcC s.places) r2 49++rowE b3 (intsV s.blocks) r3 3))
section
variable {S:Nat→Prop} {w0:World} {F:List Ent} {s:WS} {L:List Ent} {wb:Nat}
theorem set_same {c:Array Value} {o:Nat} {v:Value} (h:c[o]?=some v):c.setIfInBounds o v=c:=by
 rw[Array.getElem?_eq_some_iff] at h
 obtain⟨h1,h2⟩:=h
 rw[Array.setIfInBounds_def,dif_pos h1,←h2]
 simp
theorem Pt.same {b o:Nat} {v:Value} {Lp Lp':List Ent} {K:Prop} (h:Pt K S w0 F b o v v Lp Lp'):Lp'=Lp∧Kn S w0 (Lp++F) b o v:=by
 cases h with
 | own c el v' h=>exact⟨by rw[set_same h],Kn.of (.head _) h⟩
 | kn _ h=>exact⟨rfl,h⟩
theorem wri_number {b o sz:Nat} {n:Int} (hs:wSt wb s L) (hsz:sz=1∨sz=2∨sz=4) (hB:s.bytes.length+sz≤maxB) (kn:Kn S w0 F b o (.int .i64 n)):
 SLF Tryz.prog S w0 F 174 [pv wb 0,pv b o,.int .i64 (sz:Int)] L (fun e post=>∃v,e=.returned v∧v=unitV∧wSt wb {s with bytes:=s.bytes++be sz n} post):=by
 refine AE fun w hi=>?_
 obtain⟨b1,c1,r1,b2,c2,r2,b3,c3,r3,h1,h2,h3,rfl⟩:=hs
 simp only[List.append_assoc,List.cons_append,List.nil_append] at hi
 refine Ak Tryz.func174 rfl rfl (hi) ?_
 repeat' (first|refine Ag rfl ?_|refine Aj rfl ?_|refine Al ?_|refine Bp Tryz.func174 rfl (fun w_ hi_=>?_)|refine Bg (id:=0) 7 rfl mixed Y1 ?_;try refine A4 (Ai rfl) rfl rfl (A4 (Ah rfl) rfl rfl (A4 (Ad BX rfl) rfl rfl (A4 (Ai rfl) rfl rfl (A4 (Ah rfl) rfl rfl (A4 (A2 U3 rfl rfl (by repeat(first|exact kn|apply Kn.cons|apply Kn.app))) rfl rfl ?_)))));try refine A4 (Ai rfl) rfl rfl (Bf ?_);try((refine AQ (pre:=WBE wb (slV b1 s.bytes.length c1) (slV b2 s.places.length c2) (slV b3 s.blocks.length c3)::rowE b1 (byv s.bytes) r1 5) (.cons Y30 Y7) (CallR.val rfl en178) rfl rfl (add_c h1 hB Y9) ?_;rintro v post ⟨rfl,b1',c1',r1',k1,rfl⟩)<;>try refine Aa N3 ?_))
 exact⟨_,⟨_,rfl,rfl,b1',c1',r1',b2,c2,r2,b3,c3,r3,k1,h2,h3,rfl⟩,by simpa only[List.append_assoc,List.cons_append,List.nil_append] using hi_⟩
theorem wri_text {b o:Nat} {t:Bs} (hs:wSt wb s L) (ht:t≠[]) (hB:s.bytes.length+1+t.length≤maxB) (kn:Kn S w0 F b o (str t)):
 SLF Tryz.prog S w0 F 176 [pv wb 0,pv b o] L (fun e post=>∃v,e=.returned v∧v=unitV∧wSt wb {s with bytes:=s.bytes++be 1 t.length++t} post):=by
 refine AE fun w hi=>?_
 obtain⟨b1,c1,r1,b2,c2,r2,b3,c3,r3,h1,h2,h3,rfl⟩:=hs
 simp only[List.append_assoc,List.cons_append,List.nil_append] at hi
 have hB':s.bytes.length+1+t.length≤1099511627776:=hB
 have ht0:0 < t.length:=List.length_pos_iff.2 ht
 have hlen:(s.bytes++be 1 t.length).length=s.bytes.length+1:=by simp[Cp]
 refine Ak Tryz.func176 rfl rfl (hi) ?_
 repeat' (first|refine Ag rfl ?_|refine Aj rfl ?_|refine Al ?_|refine An ?_|refine Bg (id:=0) 7 rfl mixed Y1 ?_;try refine A4 (Ai rfl) rfl rfl (A4 (Ah rfl) rfl rfl (A4 (Ad BX rfl) rfl rfl (A4 (Ai rfl) rfl rfl (A4 (Ah rfl) rfl rfl (A4 (A2 U9 rfl rfl (by repeat(first|exact kn|apply Kn.cons|apply Kn.app))) rfl rfl ?_)))));try refine A4 (ov_lenS rfl U9 rfl) rfl rfl (Bf ?_);try((refine AQ (pre:=WBE wb (slV b1 s.bytes.length c1) (slV b2 s.places.length c2) (slV b3 s.blocks.length c3)::rowE b1 (byv s.bytes) r1 5) (.cons Y30 Y7) (CallR.val rfl en178) rfl rfl (add_c (sz:=1) (n:=(t.length:Int)) h1 (by show s.bytes.length+1≤1099511627776;omega) Y9) ?_;rintro v post ⟨rfl,b1',c1',r1',k1,rfl⟩)<;>try refine Aa [0,1] ?_))
 generalize s.bytes++be 1 t.length=bs at *
 simp only[List.append_assoc,List.cons_append,List.nil_append]
 repeat' (first|refine Ag rfl ?_|refine Aj rfl ?_|refine Al ?_|refine Cy (m:=14) 1 rfl mixed rfl ?_;try refine Zt 0 rfl (fun _=>Ai rfl) (Zt 1 rfl (fun _=>Ai rfl) (AZ 2 rfl (By rfl) Y1 Y1 Y1 rfl rfl rfl ?_));try refine Zt 3 rfl (fun _=>Ad BX rfl) (Zt 4 rfl (fun _=>Ad CN rfl) (Zt 6 rfl (fun _=>Ai rfl) (AZ 7 rfl (By rfl) Y1 Y1 Y1 rfl rfl rfl ?_)));try refine AC 5 8 Y1 ?_ ?_<;>(first|show WI _ _ _ _ _ _ 5 _ _ _ _;try refine Ao rfl (Ac U22 rfl rfl Y0 Y4) rfl rfl rfl ?_;try refine Af 8 Y1 ?_<;>try refine Ao rfl (A2 U9 rfl rfl (by repeat(first|exact kn|apply Kn.cons|apply Kn.app))) rfl rfl rfl ?_;try refine Af 9 Y1 ?_<;>try((refine wi_appendS (base:=b1') (xs:=byv bs) (rst:=r1') rfl rfl rfl U22 U9 rfl inf5 rfl rfl rfl (byv_len bs) (by have:=k1.hc;omega) (BW (A:=[_]) k1.hn) (by show(2*(_+_)+192)*1≤_;omega) Y9 ht0 rfl rfl rfl (fun b3' c3' r3' hc_ hn_=>?_))<;>try refine AZ 10 rfl (By rfl) Y1 Y1 Y1 rfl rfl rfl ?_;try refine Zt 11 rfl (fun _=>Ad BX rfl) (Zt 12 rfl (fun _=>Ad CN rfl) (Af 13 Y1 ?_))<;>try refine A9 rfl rfl rfl rfl Ck Y3 Y8 (.inr Y8) rfl rfl rfl ?_;try refine Ar [0,1] Y1 ?_)|show WI _ _ _ _ _ _ 8 _ _ _ _;try refine Ao rfl (A2 U9 rfl rfl (by repeat(first|exact kn|apply Kn.cons|apply Kn.app))) rfl rfl rfl ?_;try refine Af 5 Y1 ?_<;>try refine Ao rfl (Ac U22 rfl rfl Y0 Y4) rfl rfl rfl ?_;try refine Af 9 Y1 ?_<;>try((refine wi_appendS (base:=b1') (xs:=byv bs) (rst:=r1') rfl rfl rfl U22 U9 rfl inf5 rfl rfl rfl (byv_len bs) (by have:=k1.hc;omega) (BW (A:=[_]) k1.hn) (by show(2*(_+_)+192)*1≤_;omega) Y9 ht0 rfl rfl rfl (fun b3' c3' r3' hc_ hn_=>?_))<;>try refine AZ 10 rfl (By rfl) Y1 Y1 Y1 rfl rfl rfl ?_;try refine Zt 11 rfl (fun _=>Ad BX rfl) (Zt 12 rfl (fun _=>Ad CN rfl) (Af 13 Y1 ?_))<;>try refine A9 rfl rfl rfl rfl Ck Y3 Y8 (.inr Y8) rfl rfl rfl ?_;try refine Ar [0,1] Y1 ?_)))
 all_goals
  repeat' (refine Bp Tryz.func176 rfl (fun w_ hi_=>?_))
  have hl2:(bs++t).length=bs.length+t.length:=by simp
  have hb2:byv (bs++t)=byv bs++byv t:=byv_app _ _
  refine⟨WBE wb (slV (some b3') (bs++t).length c3') (slV b2 s.places.length c2) (slV b3 s.blocks.length c3)::(rowE (some b3') (byv (bs++t)) r3' 5++(rowE b2 (rowV plcC s.places) r2 49++rowE b3 (intsV s.blocks) r3 3)),⟨_,rfl,rfl,some b3',c3',r3',b2,c2,r2,b3,c3,r3,⟨by simp only;rw[byv_len];omega,by simp only;rw[hb2];omega,by simp⟩,h2,h3,rfl⟩,?_⟩
  rw[hb2,hl2]
  simp only[rowE_some,List.append_assoc (α:=Ent),List.cons_append,List.nil_append]
  exact hi_.pick (ps:=[_,_]) (F:=rowE b2 (rowV plcC s.places) r2 49++(rowE b3 (intsV s.blocks) r3 3++F)) Y6 Y5
theorem at_c {b1:Option Nat} {n c1:Nat} (kn:Kn S w0 F wb 0 (slV b1 n c1)):
 SLF Tryz.prog S w0 F 177 [pv wb 0] [] (fun e post=>e=.returned (.int .i64 (n:Int))∧post=[]):=by
 refine AE fun w hi=>?_
 simp only[List.nil_append] at hi
 refine Ak Tryz.func177 rfl rfl (hi) ?_
 repeat' (first|refine Ag rfl ?_|refine Aj rfl ?_|refine Al ?_|refine An ?_|refine AM Tryz.func177 rfl (fun w_ hi_=>?_)|refine Ab 0 ?_;try refine Za rfl (Aa N19 ?_)|refine Ab 1 ?_;try refine Zm rfl (Zv (Ah rfl) (Zf CN rfl (Zv (A2 U22 rfl rfl kn) (Zv (Ap rfl U22 rfl) (Za rfl (Aa N19 ?_)))))))
 exact⟨_,⟨rfl,rfl⟩,hi_⟩
theorem wri_refer {b o:Nat} {t:Bs} {q:Int} (hs:wSt wb s L) (hB:s.bytes.length+2≤maxB) (hB2:s.places.length < maxB) (kn:Kn S w0 F b o (str t)):
 SLF Tryz.prog S w0 F 175 [pv wb 0,pv b o,.int .u8 q] L (fun e post=>∃v,e=.returned v∧v=unitV∧wSt wb {s with bytes:=s.bytes++be 2 0,places:=s.places++[((s.bytes.length:Int),q,t)]} post):=by
 refine AE fun w hi=>?_
 obtain⟨b1,c1,r1,b2,c2,r2,b3,c3,r3,h1,h2,h3,rfl⟩:=hs
 simp only[List.append_assoc,List.cons_append,List.nil_append] at hi
 have hB':s.bytes.length+2≤1099511627776:=hB
 have hB2':s.places.length < 1099511627776:=hB2
 have hpl:(rowV plcC s.places).length=s.places.length*3:=h2.hl
 refine Ak Tryz.func175 rfl rfl (hi) ?_
 repeat' (first|refine Ag rfl ?_|refine Aj rfl ?_|refine Al ?_|refine An ?_|refine Cy (m:=21) 0 rfl mixed rfl ?_;try refine Zt 0 rfl (fun _=>Ai rfl) (Zt 1 rfl (fun _=>Ai rfl) (AZ 2 rfl (By rfl) Y1 Y1 Y1 rfl rfl rfl ?_));try refine Zt 3 rfl (fun _=>Ad BX rfl) (Zt 4 rfl (fun _=>Ad BS rfl) (Zt 6 rfl (fun _=>Ai rfl) (AZ 7 rfl (By rfl) Y1 Y1 Y1 rfl rfl rfl ?_)));try refine Zt 8 rfl (fun _=>Ad BX rfl) (Zt 10 rfl (fun _=>Ai rfl) (Zt 11 rfl (fun _=>Ai rfl) (AZ 12 rfl (By rfl) Y1 Y1 Y1 rfl rfl rfl ?_)));try refine Cg 5 9 13 Y1 ?_ ?_ ?_<;>(first|show WI _ _ _ _ _ _ 5 _ _ _ _;try refine Ao rfl (Ac U29 rfl rfl Y0 Y4) rfl rfl rfl ?_;try refine AC 9 13 Y1 ?_ ?_<;>(first|show WI _ _ _ _ _ _ 9 _ _ _ _;try refine Ao rfl (Aw (CallR.val rfl en177) (at_c (Kn.of (.head _) rfl))) rfl rfl rfl (Af 13 Y1 ?_)<;>try refine Ao rfl (A2 U9 rfl rfl (by repeat(first|exact kn|apply Kn.cons|apply Kn.app))) rfl rfl rfl ?_;try refine Zt 14 rfl (fun _=>CB pl49 Bn rfl rfl rfl rfl rfl rfl rfl) (Af 15 Y1 ?_)<;>try((refine CH rfl U29 Bn rfl rfl rfl rfl rfl rfl (fun bb_ hb_=>?_))<;>try refine Af 16 Y1 ?_<;>try((refine Bu (sz:=3) (base:=b2) (xs:=rowV plcC s.places) (rst:=r2) rfl rfl rfl U29 U29 rfl Bn rfl Y22 rfl rfl h2.hl h2.hc (BW (A:=_::_::rowE b1 (byv s.bytes) r1 5) h2.hn) (.head _) (new:=plcC ((s.bytes.length:Int),q,t)) rfl (by simp[plcC]) (List.all_eq_true.1 rfl) (by show(2*(_+1)+192)*32≤_;omega) Y9 Y9 rfl rfl rfl (fun b2' c2' r2' hc_ hn_=>?_))<;>try refine AZ 17 rfl (By rfl) Y1 Y1 Y1 rfl rfl rfl ?_;try refine Zt 18 rfl (fun _=>Ad BX rfl) (Zt 19 rfl (fun _=>Ad BS rfl) (Af 20 Y1 ?_))<;>try refine A9 rfl rfl rfl rfl sz29 Y3 Y8 (.inr Y8) rfl rfl rfl ?_;try refine Ar N3 Y1 ?_))|show WI _ _ _ _ _ _ 13 _ _ _ _;try refine Ao rfl (A2 U9 rfl rfl (by repeat(first|exact kn|apply Kn.cons|apply Kn.app))) rfl rfl rfl ?_;try refine Af 9 Y1 ?_<;>try refine Ao rfl (Aw (CallR.val rfl en177) (at_c (Kn.of (.head _) rfl))) rfl rfl rfl (Zt 14 rfl (fun _=>CB pl49 Bn rfl rfl rfl rfl rfl rfl rfl) (Af 15 Y1 ?_))<;>try((refine CH rfl U29 Bn rfl rfl rfl rfl rfl rfl (fun bb_ hb_=>?_))<;>try refine Af 16 Y1 ?_<;>try((refine Bu (sz:=3) (base:=b2) (xs:=rowV plcC s.places) (rst:=r2) rfl rfl rfl U29 U29 rfl Bn rfl Y22 rfl rfl h2.hl h2.hc (BW (A:=_::_::rowE b1 (byv s.bytes) r1 5) h2.hn) (.head _) (new:=plcC ((s.bytes.length:Int),q,t)) rfl (by simp[plcC]) (List.all_eq_true.1 rfl) (by show(2*(_+1)+192)*32≤_;omega) Y9 Y9 rfl rfl rfl (fun b2' c2' r2' hc_ hn_=>?_))<;>try refine AZ 17 rfl (By rfl) Y1 Y1 Y1 rfl rfl rfl ?_;try refine Zt 18 rfl (fun _=>Ad BX rfl) (Zt 19 rfl (fun _=>Ad BS rfl) (Af 20 Y1 ?_))<;>try refine A9 rfl rfl rfl rfl sz29 Y3 Y8 (.inr Y8) rfl rfl rfl ?_;try refine Ar N3 Y1 ?_)))|show WI _ _ _ _ _ _ 9 _ _ _ _;try refine Ao rfl (Aw (CallR.val rfl en177) (at_c (Kn.of (.head _) rfl))) rfl rfl rfl ?_;try refine AC 5 13 Y1 ?_ ?_<;>(first|show WI _ _ _ _ _ _ 5 _ _ _ _;try refine Ao rfl (Ac U29 rfl rfl Y0 Y4) rfl rfl rfl ?_;try refine Af 13 Y1 ?_<;>try refine Ao rfl (A2 U9 rfl rfl (by repeat(first|exact kn|apply Kn.cons|apply Kn.app))) rfl rfl rfl ?_;try refine Zt 14 rfl (fun _=>CB pl49 Bn rfl rfl rfl rfl rfl rfl rfl) (Af 15 Y1 ?_)<;>try((refine CH rfl U29 Bn rfl rfl rfl rfl rfl rfl (fun bb_ hb_=>?_))<;>try refine Af 16 Y1 ?_<;>try((refine Bu (sz:=3) (base:=b2) (xs:=rowV plcC s.places) (rst:=r2) rfl rfl rfl U29 U29 rfl Bn rfl Y22 rfl rfl h2.hl h2.hc (BW (A:=_::_::rowE b1 (byv s.bytes) r1 5) h2.hn) (.head _) (new:=plcC ((s.bytes.length:Int),q,t)) rfl (by simp[plcC]) (List.all_eq_true.1 rfl) (by show(2*(_+1)+192)*32≤_;omega) Y9 Y9 rfl rfl rfl (fun b2' c2' r2' hc_ hn_=>?_))<;>try refine AZ 17 rfl (By rfl) Y1 Y1 Y1 rfl rfl rfl ?_;try refine Zt 18 rfl (fun _=>Ad BX rfl) (Zt 19 rfl (fun _=>Ad BS rfl) (Af 20 Y1 ?_))<;>try refine A9 rfl rfl rfl rfl sz29 Y3 Y8 (.inr Y8) rfl rfl rfl ?_;try refine Ar N3 Y1 ?_))|show WI _ _ _ _ _ _ 13 _ _ _ _;try refine Ao rfl (A2 U9 rfl rfl (by repeat(first|exact kn|apply Kn.cons|apply Kn.app))) rfl rfl rfl ?_;try refine Zt 14 rfl (fun _=>CB pl49 Bn rfl rfl rfl rfl rfl rfl rfl) ?_;try refine AC 5 15 Y1 ?_ ?_<;>(first|show WI _ _ _ _ _ _ 5 _ _ _ _;try refine Ao rfl (Ac U29 rfl rfl Y0 Y4) rfl rfl rfl ?_;try refine Af 15 Y1 ?_<;>try((refine CH rfl U29 Bn rfl rfl rfl rfl rfl rfl (fun bb_ hb_=>?_))<;>try refine Af 16 Y1 ?_<;>try((refine Bu (sz:=3) (base:=b2) (xs:=rowV plcC s.places) (rst:=r2) rfl rfl rfl U29 U29 rfl Bn rfl Y22 rfl rfl h2.hl h2.hc (BW (A:=_::_::rowE b1 (byv s.bytes) r1 5) h2.hn) (.head _) (new:=plcC ((s.bytes.length:Int),q,t)) rfl (by simp[plcC]) (List.all_eq_true.1 rfl) (by show(2*(_+1)+192)*32≤_;omega) Y9 Y9 rfl rfl rfl (fun b2' c2' r2' hc_ hn_=>?_))<;>try refine AZ 17 rfl (By rfl) Y1 Y1 Y1 rfl rfl rfl ?_;try refine Zt 18 rfl (fun _=>Ad BX rfl) (Zt 19 rfl (fun _=>Ad BS rfl) (Af 20 Y1 ?_))<;>try refine A9 rfl rfl rfl rfl sz29 Y3 Y8 (.inr Y8) rfl rfl rfl ?_;try refine Ar N3 Y1 ?_))|show WI _ _ _ _ _ _ 15 _ _ _ _;try((refine CH rfl U29 Bn rfl rfl rfl rfl rfl rfl (fun bb_ hb_=>?_))<;>try refine Af 5 Y1 ?_<;>try refine Ao rfl (Ac U29 rfl rfl Y0 Y4) rfl rfl rfl ?_;try refine Af 16 Y1 ?_<;>try((refine Bu (sz:=3) (base:=b2) (xs:=rowV plcC s.places) (rst:=r2) rfl rfl rfl U29 U29 rfl Bn rfl Y22 rfl rfl h2.hl h2.hc (BW (A:=_::_::rowE b1 (byv s.bytes) r1 5) h2.hn) (.head _) (new:=plcC ((s.bytes.length:Int),q,t)) rfl (by simp[plcC]) (List.all_eq_true.1 rfl) (by show(2*(_+1)+192)*32≤_;omega) Y9 Y9 rfl rfl rfl (fun b2' c2' r2' hc_ hn_=>?_))<;>try refine AZ 17 rfl (By rfl) Y1 Y1 Y1 rfl rfl rfl ?_;try refine Zt 18 rfl (fun _=>Ad BX rfl) (Zt 19 rfl (fun _=>Ad BS rfl) (Af 20 Y1 ?_))<;>try refine A9 rfl rfl rfl rfl sz29 Y3 Y8 (.inr Y8) rfl rfl rfl ?_;try refine Ar N3 Y1 ?_))))|show WI _ _ _ _ _ _ 13 _ _ _ _;try refine Ao rfl (A2 U9 rfl rfl (by repeat(first|exact kn|apply Kn.cons|apply Kn.app))) rfl rfl rfl ?_;try refine AC 5 9 Y1 ?_ ?_<;>(first|show WI _ _ _ _ _ _ 5 _ _ _ _;try refine Ao rfl (Ac U29 rfl rfl Y0 Y4) rfl rfl rfl ?_;try refine Af 9 Y1 ?_<;>try refine Ao rfl (Aw (CallR.val rfl en177) (at_c (Kn.of (.head _) rfl))) rfl rfl rfl (Zt 14 rfl (fun _=>CB pl49 Bn rfl rfl rfl rfl rfl rfl rfl) (Af 15 Y1 ?_))<;>try((refine CH rfl U29 Bn rfl rfl rfl rfl rfl rfl (fun bb_ hb_=>?_))<;>try refine Af 16 Y1 ?_<;>try((refine Bu (sz:=3) (base:=b2) (xs:=rowV plcC s.places) (rst:=r2) rfl rfl rfl U29 U29 rfl Bn rfl Y22 rfl rfl h2.hl h2.hc (BW (A:=_::_::rowE b1 (byv s.bytes) r1 5) h2.hn) (.head _) (new:=plcC ((s.bytes.length:Int),q,t)) rfl (by simp[plcC]) (List.all_eq_true.1 rfl) (by show(2*(_+1)+192)*32≤_;omega) Y9 Y9 rfl rfl rfl (fun b2' c2' r2' hc_ hn_=>?_))<;>try refine AZ 17 rfl (By rfl) Y1 Y1 Y1 rfl rfl rfl ?_;try refine Zt 18 rfl (fun _=>Ad BX rfl) (Zt 19 rfl (fun _=>Ad BS rfl) (Af 20 Y1 ?_))<;>try refine A9 rfl rfl rfl rfl sz29 Y3 Y8 (.inr Y8) rfl rfl rfl ?_;try refine Ar N3 Y1 ?_))|show WI _ _ _ _ _ _ 9 _ _ _ _;try refine Ao rfl (Aw (CallR.val rfl en177) (at_c (Kn.of (.head _) rfl))) rfl rfl rfl (Zt 14 rfl (fun _=>CB pl49 Bn rfl rfl rfl rfl rfl rfl rfl) ?_);try refine AC 5 15 Y1 ?_ ?_<;>(first|show WI _ _ _ _ _ _ 5 _ _ _ _;try refine Ao rfl (Ac U29 rfl rfl Y0 Y4) rfl rfl rfl ?_;try refine Af 15 Y1 ?_<;>try((refine CH rfl U29 Bn rfl rfl rfl rfl rfl rfl (fun bb_ hb_=>?_))<;>try refine Af 16 Y1 ?_<;>try((refine Bu (sz:=3) (base:=b2) (xs:=rowV plcC s.places) (rst:=r2) rfl rfl rfl U29 U29 rfl Bn rfl Y22 rfl rfl h2.hl h2.hc (BW (A:=_::_::rowE b1 (byv s.bytes) r1 5) h2.hn) (.head _) (new:=plcC ((s.bytes.length:Int),q,t)) rfl (by simp[plcC]) (List.all_eq_true.1 rfl) (by show(2*(_+1)+192)*32≤_;omega) Y9 Y9 rfl rfl rfl (fun b2' c2' r2' hc_ hn_=>?_))<;>try refine AZ 17 rfl (By rfl) Y1 Y1 Y1 rfl rfl rfl ?_;try refine Zt 18 rfl (fun _=>Ad BX rfl) (Zt 19 rfl (fun _=>Ad BS rfl) (Af 20 Y1 ?_))<;>try refine A9 rfl rfl rfl rfl sz29 Y3 Y8 (.inr Y8) rfl rfl rfl ?_;try refine Ar N3 Y1 ?_))|show WI _ _ _ _ _ _ 15 _ _ _ _;try((refine CH rfl U29 Bn rfl rfl rfl rfl rfl rfl (fun bb_ hb_=>?_))<;>try refine Af 5 Y1 ?_<;>try refine Ao rfl (Ac U29 rfl rfl Y0 Y4) rfl rfl rfl ?_;try refine Af 16 Y1 ?_<;>try((refine Bu (sz:=3) (base:=b2) (xs:=rowV plcC s.places) (rst:=r2) rfl rfl rfl U29 U29 rfl Bn rfl Y22 rfl rfl h2.hl h2.hc (BW (A:=_::_::rowE b1 (byv s.bytes) r1 5) h2.hn) (.head _) (new:=plcC ((s.bytes.length:Int),q,t)) rfl (by simp[plcC]) (List.all_eq_true.1 rfl) (by show(2*(_+1)+192)*32≤_;omega) Y9 Y9 rfl rfl rfl (fun b2' c2' r2' hc_ hn_=>?_))<;>try refine AZ 17 rfl (By rfl) Y1 Y1 Y1 rfl rfl rfl ?_;try refine Zt 18 rfl (fun _=>Ad BX rfl) (Zt 19 rfl (fun _=>Ad BS rfl) (Af 20 Y1 ?_))<;>try refine A9 rfl rfl rfl rfl sz29 Y3 Y8 (.inr Y8) rfl rfl rfl ?_;try refine Ar N3 Y1 ?_))))))
 all_goals
  repeat' (first|refine Ag rfl ?_|refine Aj rfl ?_|refine Al ?_|refine Bp Tryz.func175 rfl (fun w_ hi_=>?_)|refine Ab 1 ?_;try refine Zm rfl (Zv (Ah rfl) (Zf BX rfl ?_));try((refine AQ (pre:=WBE wb (slV b1 s.bytes.length c1) (slV (some b2') (s.places.length+1) c2') (slV b3 s.blocks.length c3)::rowE b1 (byv s.bytes) r1 5) (.cons Y30 Y7) (CallR.val rfl en178) rfl rfl (add_c (sz:=2) (n:=0) h1 (by show s.bytes.length+2≤1099511627776;omega) Y9) ?_;rintro v post ⟨rfl,b1',c1',r1',k1,rfl⟩)<;>try refine Aa N3 ?_))
  have hl2:(s.places++[((s.bytes.length:Int),q,t)]).length=s.places.length+1:=by simp
  have hb2:rowV plcC (s.places++[((s.bytes.length:Int),q,t)])=rowV plcC s.places++plcC ((s.bytes.length:Int),q,t):=by simp[rowV]
  refine⟨WBE wb (slV b1' (s.bytes++be 2 0).length c1') (slV (some b2') (s.places++[((s.bytes.length:Int),q,t)]).length c2') (slV b3 s.blocks.length c3)::(rowE b1' (byv (s.bytes++be 2 0)) r1' 5++(rowE (some b2') (rowV plcC (s.places++[((s.bytes.length:Int),q,t)])) r2' 49++rowE b3 (intsV s.blocks) r3 3)),⟨_,rfl,rfl,b1',c1',r1',some b2',c2',r2',b3,c3,r3,k1,⟨by simp only;rw[hb2,hl2,List.length_append,hpl,Cs];omega,by simp only;rw[hb2];exact hc_,by simp⟩,h3,rfl⟩,?_⟩
  rw[hb2,hl2]
  simp only[rowE_some,List.append_assoc (α:=Ent),List.cons_append,List.nil_append]
  exact hi_.pick (ps:=[WBE _ _ _ _]) (F:=rowE b1' (byv (s.bytes++be 2 0)) r1' 5++(⟨b2',true,.cells (rowV plcC s.places++plcC ((s.bytes.length:Int),q,t)++r2').toArray 49 (0,0)⟩::(rowE b3 (intsV s.blocks) r3 3++F))) Y6 (by repeat(first|exact List.Sublist.refl _|apply List.Sublist.cons_cons|apply List.Sublist.cons|apply List.Sublist.append (List.Sublist.refl _)|apply List.sublist_append_of_sublist_right))
theorem wri_block (hs:wSt wb s L) (hB2:s.blocks.length < maxB):
 SLF Tryz.prog S w0 F 173 [pv wb 0] L (fun e post=>∃v,e=.returned v∧v=unitV∧wSt wb {s with blocks:=s.blocks++[(s.bytes.length:Int)]} post):=by
 refine AE fun w hi=>?_
 obtain⟨b1,c1,r1,b2,c2,r2,b3,c3,r3,h1,h2,h3,rfl⟩:=hs
 simp only[List.append_assoc,List.cons_append,List.nil_append] at hi
 have hB2':s.blocks.length < 1099511627776:=hB2
 refine Ak Tryz.func173 rfl rfl (hi) ?_
 repeat' (first|refine Ag rfl ?_|refine Aj rfl ?_|refine Al ?_|refine Bp Tryz.func173 rfl (fun w_ hi_=>?_)|refine Cy (m:=16) 0 rfl mixed rfl ?_;try refine Zt 0 rfl (fun _=>Ai rfl) (Zt 1 rfl (fun _=>Ai rfl) (AZ 2 rfl (By rfl) Y1 Y1 Y1 rfl rfl rfl ?_));try refine Zt 3 rfl (fun _=>Ad BX rfl) (Zt 4 rfl (fun _=>Ad fo81_2 rfl) (Zt 6 rfl (fun _=>Ai rfl) (AZ 7 rfl (By rfl) Y1 Y1 Y1 rfl rfl rfl ?_)));try refine Zt 8 rfl (fun _=>Ad BX rfl) ?_;try refine AC 5 9 Y1 ?_ ?_<;>(first|show WI _ _ _ _ _ _ 5 _ _ _ _;try refine Ao rfl (Ac U59 rfl rfl Y0 Y4) rfl rfl rfl ?_;try refine Af 9 Y1 ?_<;>try refine Ao rfl (Aw (CallR.val rfl en177) (at_c (Kn.of (.head _) rfl))) rfl rfl rfl (Af 10 Y1 ?_)<;>try((refine wi_bs1 rfl U59 Cl rfl rfl rfl rfl rfl rfl rfl (fun bb_ hb_=>?_))<;>try refine Af 11 Y1 ?_<;>try((refine Bu (sz:=1) (base:=b3) (xs:=intsV s.blocks) (rst:=r3) rfl rfl rfl U59 U59 rfl Cl rfl Y22 rfl rfl h3.hl h3.hc (.tl (.tl (.ap (.ap (rowAt0 h3.hn))))) (.head _) (new:=[.int .i64 (s.bytes.length:Int)]) rfl Y26 (List.all_eq_true.1 rfl) (by show(2*(_+1)+192)*8≤_;omega) Y9 Y9 rfl rfl rfl (fun b3' c3' r3' hc_ hn_=>?_))<;>try refine AZ 12 rfl (By rfl) Y1 Y1 Y1 rfl rfl rfl ?_;try refine Zt 13 rfl (fun _=>Ad BX rfl) (Zt 14 rfl (fun _=>Ad fo81_2 rfl) (Af 15 Y1 ?_))<;>try refine A9 rfl rfl rfl rfl sz59 Y3 Y8 (.inr Y8) rfl rfl rfl ?_;try refine Ar [0] Y1 ?_))|show WI _ _ _ _ _ _ 9 _ _ _ _;try refine Ao rfl (Aw (CallR.val rfl en177) (at_c (Kn.of (.head _) rfl))) rfl rfl rfl ?_;try refine AC 5 10 Y1 ?_ ?_<;>(first|show WI _ _ _ _ _ _ 5 _ _ _ _;try refine Ao rfl (Ac U59 rfl rfl Y0 Y4) rfl rfl rfl ?_;try refine Af 10 Y1 ?_<;>try((refine wi_bs1 rfl U59 Cl rfl rfl rfl rfl rfl rfl rfl (fun bb_ hb_=>?_))<;>try refine Af 11 Y1 ?_<;>try((refine Bu (sz:=1) (base:=b3) (xs:=intsV s.blocks) (rst:=r3) rfl rfl rfl U59 U59 rfl Cl rfl Y22 rfl rfl h3.hl h3.hc (.tl (.tl (.ap (.ap (rowAt0 h3.hn))))) (.head _) (new:=[.int .i64 (s.bytes.length:Int)]) rfl Y26 (List.all_eq_true.1 rfl) (by show(2*(_+1)+192)*8≤_;omega) Y9 Y9 rfl rfl rfl (fun b3' c3' r3' hc_ hn_=>?_))<;>try refine AZ 12 rfl (By rfl) Y1 Y1 Y1 rfl rfl rfl ?_;try refine Zt 13 rfl (fun _=>Ad BX rfl) (Zt 14 rfl (fun _=>Ad fo81_2 rfl) (Af 15 Y1 ?_))<;>try refine A9 rfl rfl rfl rfl sz59 Y3 Y8 (.inr Y8) rfl rfl rfl ?_;try refine Ar [0] Y1 ?_))|show WI _ _ _ _ _ _ 10 _ _ _ _;try((refine wi_bs1 rfl U59 Cl rfl rfl rfl rfl rfl rfl rfl (fun bb_ hb_=>?_))<;>try refine Af 5 Y1 ?_<;>try refine Ao rfl (Ac U59 rfl rfl Y0 Y4) rfl rfl rfl ?_;try refine Af 11 Y1 ?_<;>try((refine Bu (sz:=1) (base:=b3) (xs:=intsV s.blocks) (rst:=r3) rfl rfl rfl U59 U59 rfl Cl rfl Y22 rfl rfl h3.hl h3.hc (.tl (.tl (.ap (.ap (rowAt0 h3.hn))))) (.head _) (new:=[.int .i64 (s.bytes.length:Int)]) rfl Y26 (List.all_eq_true.1 rfl) (by show(2*(_+1)+192)*8≤_;omega) Y9 Y9 rfl rfl rfl (fun b3' c3' r3' hc_ hn_=>?_))<;>try refine AZ 12 rfl (By rfl) Y1 Y1 Y1 rfl rfl rfl ?_;try refine Zt 13 rfl (fun _=>Ad BX rfl) (Zt 14 rfl (fun _=>Ad fo81_2 rfl) (Af 15 Y1 ?_))<;>try refine A9 rfl rfl rfl rfl sz59 Y3 Y8 (.inr Y8) rfl rfl rfl ?_;try refine Ar [0] Y1 ?_)))))
 all_goals
  have hl2:(s.blocks++[(s.bytes.length:Int)]).length=s.blocks.length+1:=by simp
  have hb2:intsV (s.blocks++[(s.bytes.length:Int)])=intsV s.blocks++[.int .i64 (s.bytes.length:Int)]:=by simp[intsV]
  refine⟨WBE wb (slV b1 s.bytes.length c1) (slV b2 s.places.length c2) (slV (some b3') (s.blocks++[(s.bytes.length:Int)]).length c3')::(rowE b1 (byv s.bytes) r1 5++(rowE b2 (rowV plcC s.places) r2 49++rowE (some b3') (intsV (s.blocks++[(s.bytes.length:Int)])) r3' 3)),⟨_,rfl,rfl,b1,c1,r1,b2,c2,r2,some b3',c3',r3',h1,h2,⟨by simp only;rw[hb2,hl2,List.length_append,h3.hl];simp,by simp only;rw[hb2];exact hc_,by simp⟩,rfl⟩,?_⟩
  rw[hb2,hl2]
  simp only[rowE_some,List.append_assoc (α:=Ent),List.cons_append,List.nil_append]
  refine(hi_.pick (ps:=[_,⟨b3',true,.cells (intsV s.blocks++[Value.int .i64 (s.bytes.length:Int)]++r3').toArray 3 (0,0)⟩]) (F:=rowE b1 (byv s.bytes) r1 5++(rowE b2 (rowV plcC s.places) r2 49++F)) Y6 (by repeat(first|exact List.Sublist.refl _|apply List.Sublist.cons_cons|apply List.Sublist.cons|apply List.Sublist.append (List.Sublist.refl _)|apply List.sublist_append_of_sublist_right))).perm (List.Perm.cons _ ?_)
  exact perm_row ⟨b3',true,.cells (intsV s.blocks++[Value.int .i64 (s.bytes.length:Int)]++r3').toArray 3 (0,0)⟩ (rowE b1 (byv s.bytes) r1 5) (rowE b2 (rowV plcC s.places) r2 49) F
end
end Go.Sl
namespace Go.Sl
open Go Go.RowKit Go.Shelf Go.Proofs
attribute [local irreducible] Calls
theorem SLF.mo {P:Program} {S:Nat→Prop} {w0:World} {F A:List Ent} {f:FuncId} {vs:List Value} {pre:List Ent} {α:Type} {r:Out α} {a:α} {G:α→Value→List Ent→Prop} {Q:List Ent→Prop} (hr:r=.ok a)
 (h:SLF P S w0 (A++F) f vs pre fun e post=>∃v,e=.returned v∧v=unitV∧Q post) (hg:∀post,Q post→G a unitV (post++A)):SLF P S w0 F f vs (pre++A) (MoO r G):=by
 refine h.frame.mono ?_
 rintro e post ⟨p,⟨v,rfl,rfl,hq⟩,rfl⟩
 exact Bo hr (hg p hq)
theorem metWN:metTo Tryz.prog 78 "trestle/code.number" = some 174:=by kernel_rfl
theorem metWT:metTo Tryz.prog 78 "trestle/code.text" = some 176:=by kernel_rfl
theorem metWR:metTo Tryz.prog 78 "trestle/code.refer" = some 175:=by kernel_rfl
theorem metWB:metTo Tryz.prog 78 "trestle/code.block" = some 173:=by kernel_rfl
theorem wKd_num {n:Int} {sz:Nat} {s:WS} (h:wKd.num n sz s≠.full):s.bytes.length+sz≤maxB∧wKd.num n sz s=.ok (n,{s with bytes:=s.bytes++be sz n}):=by
 simp only[wKd] at h ⊢
 split at h
 · rename_i h1;exact⟨h1,by rw[if_pos h1]⟩
 · exact absurd rfl h
theorem wKd_txt {t:Bs} {s:WS} (h:wKd.txt t s≠.full):t≠[]∧s.bytes.length+1+t.length≤maxB∧wKd.txt t s=.ok (t,{s with bytes:=s.bytes++be 1 t.length++t}):=by
 simp only[wKd] at h ⊢
 split at h
 · rename_i h1;exact⟨h1.1,h1.2,by rw[if_pos h1]⟩
 · exact absurd rfl h
theorem wKd_ref {t:Bs} {q:Int} {s:WS} (h:wKd.ref t q s≠.full):s.bytes.length+2≤maxB∧s.places.length < maxB∧wKd.ref t q s=.ok (t,{s with bytes:=s.bytes++be 2 0,places:=s.places++[((s.bytes.length:Int),q,t)]}):=by
 simp only[wKd] at h ⊢
 split at h
 · rename_i h1;exact⟨h1.1,h1.2,by rw[if_pos h1]⟩
 · exact absurd rfl h
theorem wKd_blk {s:WS} (h:wKd.blk s≠.full):s.blocks.length < maxB∧wKd.blk s=.ok {s with blocks:=s.blocks++[(s.bytes.length:Int)]}:=by
 simp only[wKd] at h ⊢
 split at h
 · rename_i h1;exact⟨h1,by rw[if_pos h1]⟩
 · exact absurd rfl h
def wCod (S:Nat→Prop) (w0:World) (wb:Nat):Cod S w0 WS where
 κ:=wKd
 K:=True
 it:=78
 iv:=pv wb 0
 env:=fun _=>True
 envU:=fun _ _ _ h=>h
 St:=wSt wb
 fN:=174
 fT:=176
 fR:=175
 fB:=173
 mN:=metWN
 mT:=metWT
 mR:=metWR
 mB:=metWB
 eN:=en174
 eT:=en176
 eR:=en175
 eB:=en173
 num :=by
  intro F s L b o n sz Lp Lp' _ hs hsz hf hp
  obtain⟨h1,h2⟩:=wKd_num hf
  obtain⟨h3,h4⟩:=(hp _ _ h2).same
  exact SLF.mo h2 (wri_number hs hsz h1 h4) fun post hq=>⟨rfl,post,hq,by rw[h3]⟩
 txt :=by
  intro F s L b o n Lp Lp' _ hs hf hp
  obtain⟨h0,h1,h2⟩:=wKd_txt hf
  obtain⟨h3,h4⟩:=(hp _ _ h2).same
  exact SLF.mo h2 (wri_text hs h0 h1 h4) fun post hq=>⟨rfl,post,hq,by rw[h3]⟩
 ref :=by
  intro F s L b o n q Lp Lp' _ hs hf hp
  obtain⟨h0,h1,h2⟩:=wKd_ref hf
  obtain⟨h3,h4⟩:=(hp _ _ h2).same
  exact SLF.mo h2 (wri_refer hs h0 h1 h4) fun post hq=>⟨rfl,post,hq,by rw[h3]⟩
 blk :=by
  intro F s L _ hs hf
  obtain⟨h1,h2⟩:=wKd_blk hf
  have:=SLF.mo (S:=S) (w0:=w0) (F:=F) (A:=[]) (G:=fun a v post=>v=unitV∧wSt wb a post) h2 (wri_block hs h1) fun post hq=>⟨rfl,by rwa [List.append_nil]⟩
  rwa [List.append_nil] at this
theorem wCod_keep (S:Nat→Prop) (w0:World) (wb:Nat):(wCod S w0 wb).Keep where
 k:=trivial
 num :=fun n sz s n' s' h=>by
  have:=(wKd_num (show wKd.num n sz s≠.full from fun h2=>by rw[show wKd.num n sz s=.ok (n',s') from h] at h2;cases h2)).2
  rw[show wKd.num n sz s=.ok (n',s') from h] at this
  exact congrArg Prod.fst (Out.ok.inj this)
 txt :=fun t s n' s' h=>by
  have:=(wKd_txt (show wKd.txt t s≠.full from fun h2=>by rw[show wKd.txt t s=.ok (n',s') from h] at h2;cases h2)).2.2
  rw[show wKd.txt t s=.ok (n',s') from h] at this
  exact congrArg Prod.fst (Out.ok.inj this)
theorem wCod_small (S:Nat→Prop) (w0:World) (wb:Nat):(wCod S w0 wb).Small:=fun m sz s n' s' _ hm h=>by
 have:=(wCod_keep S w0 wb).num _ _ _ _ _ h
 subst this
 omega
end Go.Sl
namespace Go.Sl
open Go Go.RowKit Go.Shelf Go.Proofs
attribute [local irreducible] Calls
section
variable {C:Cx} {S:Nat→Prop} {w0:World} {k:List Item} {D:List Deferred} {E:List (Nat×Value)} {H H':List Ent} {d:Option Tmp} {t t' xt yt:TypeId} {p:String} {af:Array Edge} {g:Option (Nat×Bool)} {x y z:Operand} {v u:Value} {ops:Array Oper} {rest:List Oper}
theorem cell_kept {w w':World} {b j:Nat} {v:Value} (hw:∀(b:Nat) (c:Array Value) (e:TypeId) (f:Nat×Nat),w.heap[b]?=some (Obj.cells c e f)→w'.heap[b]?=some (Obj.cells c e f)) (h:w.cell? ⟨b,j,none⟩=some v):w'.cell? ⟨b,j,none⟩=some v:=by
 unfold World.cell? at h ⊢
 simp only at h ⊢
 split at h
 · rename_i c e f h1
   rw[hw _ _ _ _ h1];exact h
 · cases h
theorem BQ {el n cap:Nat} {a:Option Addr} (hu:C.P.underlying xt=some (.slice el)) (hx:opv E x=some (.slice a n cap)):
 OpV C S w0 H D E ⟨d,.binOp .eql xt x (.const (.slice none 0 0)) yt,t,p,af,g⟩ (.bool a.isNone):=
 ov_binE hx rfl (fun w=>by simp[eqGuard]) fun w=>by
  have:∀n',(Op.equalIn (n'+1) xt (.slice a n cap) (.slice none 0 0)).run C.P w=.ok a.isNone w:=fun n'=>by cases a<;>simp[Op.equalIn,underlying,program,Sem.run,hu]
  have h2:(Op.equal xt (.slice a n cap) (.slice none 0 0)).run C.P w=.ok a.isNone w:=this 9999
  simp[binOp,h2]
theorem ov_append0 {el n cap c2:Nat} {ti:TypeInfo} {a a2:Option Addr} {sT xT e2:TypeId} {aT:Array TypeId} (hx:opv E x=some (.slice a n cap)) (hy:opv E y=some (.slice a2 0 c2)) (hu:C.P.underlying sT=some (.slice el)) (hux:C.P.underlying xT=some (.slice e2)) (haT:aT= #[sT,xT]) (hti:C.P.info? el=some ti) (hc:n≤cap):
 OpV C S w0 H D E ⟨d,.call {callee:=.builtin .append,args:= #[x,y],argTypes:=aT},t,p,af,g⟩ (.slice a n cap):=B6 fun tmps w hf hi=>by
 subst haT
 have hs0:∀w,(sizeOf el).run C.P w=.ok ti.size w:=fun w=>BA (by rw[hti];rfl)
 have h1:∀w,(Builtin.firstCells ti.size 0 (.slice a2 0 c2)).run C.P w=.ok #[] w:=fun w=>by cases a2<;>simp[Builtin.firstCells,loadCells,loadCellsFrom]
 have h2:(Builtin.append_ #[sT,xT] t #[.slice a n cap,.slice a2 0 c2]).run C.P w=.ok (.slice a n cap) w:=by
  simp only[Builtin.append_,Sem.run_bind,AA hu,AA hux,Result.andThen_ok,hs0,List.getElem?_toArray,List.getElem?_cons_zero,List.getElem?_cons_succ,Sem.run_pure]
  simp only[Bool.false_eq_true,if_false,Builtin.lenOf,Sem.run_pure,Result.andThen_ok,Sem.run_bind,Nat.add_zero]
  rw[if_pos hc]
  cases a<;>simp[h1,Sem.run_bind,Sem.run_pure,Result.andThen_ok,storeCells]
 simp[execOp,resolve,invoke,builtin,hf.opv D hx,hf.opv D hy,h2]
theorem wo_appendK {el sz n cap kn:Nat} {ti:TypeInfo} {zv:Value} {base:Option Nat} {xs rst new:List Value} {sT xT:TypeId} {aT:Array TypeId} {e2:TypeId} {b2 o2 c2:Nat}
 (hx:opv E x=some (.slice (base.map fun b=>⟨b,0,none⟩) n cap)) (hy:opv E y=some (.slice (some ⟨b2,o2,none⟩) kn c2)) (hu:C.P.underlying sT=some (.slice el)) (hux:C.P.underlying xT=some (.slice e2)) (haT:aT= #[sT,xT]) (hti:C.P.info? el=some ti) (hsz:ti.size=sz) (hpos:0 < sz)
 (hz:ti.zero=some zv) (hzs:zv.cells.size=sz) (hxs:xs.length=n*sz) (hcap:xs.length+rst.length=cap*sz) (hb:RowAt H H' el xs rst cap base)
 (hkn:∀i (h:i < new.length),Kn S w0 H b2 (o2+i) new[i]) (hnl:new.length=kn*sz) (hok:∀v∈new,okCell v=true)
 (hroom:(2*(n+kn)+192)*ti.bytes≤281474976710656) (hmax:n+kn≤4611686018427387904) (hk:0 < kn) (hg:guardOk E ops ⟨d,.call {callee:=.builtin .append,args:= #[x,y],argTypes:=aT},t,p,af,g⟩=some true) (hd:dstOk d C.n=true)
 (h:∀b' cap' rst',(xs++new).length+rst'.length=cap'*sz→n+kn≤cap'→WO C S w0 ops rest k D (putE d (.slice (some ⟨b',0,none⟩) (n+kn) cap') E) (⟨b',true,.cells (xs++new++rst').toArray el (0,0)⟩::H')):
 WO C S w0 ops (⟨d,.call {callee:=.builtin .append,args:= #[x,y],argTypes:=aT},t,p,af,g⟩::rest) k D E H:=by
 refine De hg hd fun w hi tmps hft=>?_
 rw[BV _ _ _ (nd_of rfl)]
 obtain ⟨b',cap',rst',w',r1,r2,r3,r4⟩:=run_append (t:=t) (w:=w) (new:=new) (sv:=.slice (base.map fun b=>⟨b,0,none⟩) n cap) (xv:=.slice (some ⟨b2,o2,none⟩) kn c2) hi hu hux (.inl ⟨e2,rfl⟩) haT hti hsz hpos hz hzs rfl hxs hcap hb (by simp[Builtin.lenOf]) (fun w' hw'=>by
  have h1:=BG (P:=C.P) (w:=w') (b:=b2) (off:=o2) (c:=new.toArray) (fun j h1 h2=>by
   have h3:j - o2 < new.length:=by simp at h2;omega
   have h4:=cell_kept hw' ((hkn (j - o2) h3).cell hi)
   rw[show o2+(j - o2)=j by omega] at h4
   rw[h4,List.getElem?_toArray,List.getElem?_eq_getElem h3]) (kn*sz) 0 #[] (by simp;omega)
  simp only[Builtin.firstCells,loadCells]
  rw[h1]
  congr 1
  apply Array.ext'
  simp[←hnl]) hnl hok hroom hmax hk
 have hrun:(execOp ({tmps:=tmps,defers:=D}:Act).eval (⟨d,.call {callee:=.builtin .append,args:= #[x,y],argTypes:=aT},t,p,af,g⟩:Oper)).run C.P w=.ok (.value (.slice (some ⟨b',0,none⟩) (n+kn) cap')) w':=by
  simp[execOp,resolve,invoke,builtin,hft.opv D hx,hft.opv D hy,r1]
 rw[hrun]
 exact(h b' cap' rst' r2 r3).go2 r4
theorem B9 {el:Nat} {ti:TypeInfo} (hu:C.P.underlying t'=some (.slice el)) (hti:C.P.info? el=some ti) (hg:guardOk E ops ⟨d,.buildSlice t' 0 #[],t,p,af,g⟩=some true) (hd:dstOk d C.n=true)
 (h:∀bb,w0.heap.size≤bb→WO C S w0 ops rest k D (putE d (.slice (some ⟨bb,0,none⟩) 0 0) E) (⟨bb,true,.cells #[] el (0,0)⟩::H)):WO C S w0 ops (⟨d,.buildSlice t' 0 #[],t,p,af,g⟩::rest) k D E H:=by
 refine De hg hd fun w hi tmps hft=>?_
 rw[BV _ _ _ (nd_of rfl)]
 have hrun:(execOp ({tmps:=tmps,defers:=D}:Act).eval (⟨d,.buildSlice t' 0 #[],t,p,af,g⟩:Oper)).run C.P w=.ok (.value (.slice (some ⟨w.heap.size,0,none⟩) 0 0)) {w with heap:=w.heap.push (.cells #[] el (0,0))}:=by
  have hs0:=BA (t':=el) (P:=C.P) (w:=w) (n:=ti.size) (by rw[hti];rfl)
  have e1:¬(0*ti.size > 2 ^ 24):=by rw[Nat.zero_mul];omega
  simp only[execOp,Instr.buildSlice,Sem.run_bind,AA hu,Result.andThen_ok,hs0]
  rw[if_neg e1]
  simp[Sem.run_bind,Sem.run_pure,Result.andThen_ok,newRow,newObj,Sem.run,Instr.fill,show Array.range 0= #[] from rfl]
 rw[hrun]
 exact(h _ hi.fr.size).go2 (hi.new _)
end
def Cloned (cells:List Value) (n:Nat) (el:TypeId) (e:Ending) (post:List Ent):Prop:=
 ∃a cap,e=.returned (.slice a n cap)∧n≤cap∧((n=0∧post=[])∨∃bb rst,a=some ⟨bb,0,none⟩∧post=[⟨bb,true,.cells (cells++rst).toArray el (0,0)⟩])
end Go.Sl
namespace Go.Sl
open Go Go.RowKit Go.Shelf Go.Proofs
attribute [local irreducible] Calls
section
variable {S:Nat→Prop} {w0:World} {F:List Ent}
theorem CG {cells:List Value} {n:Nat} {v:Value} (hs:SlK S w0 F cells n v) (hl:cells.length=n*1) (hok:∀v∈cells,okCell v=true) (hroom:n≤65535):
 SLF Tryz.prog S w0 F 51 [v] [] (Cloned cells n 5):=by
 refine AE fun w hi=>?_
 simp only[List.nil_append] at hi
 obtain⟨a,cap,rfl,hc,hk⟩:=hs
 refine Ak Tryz.func51 rfl rfl (hi) ?_
 cases a with
 | none=>
   have hn:n=0:=by
    rcases hk with h|⟨b,off,h,_⟩
    · subst h;simp at hl;omega
    · cases h
   subst hn
   repeat' (first|refine Ag rfl ?_|refine Aj rfl ?_|refine Al ?_|refine An ?_|refine A5 rfl ?_|refine AM Tryz.func51 rfl (fun w_ hi_=>?_)|refine Ab 0 ?_;try refine Za rfl (Aa N5 ?_)|refine Ab 1 ?_;try refine Zm rfl (Zv (BQ U22 rfl) (Aa N5 ?_))|refine Ab 2 ?_;try refine Za rfl (Aa N5 ?_))
   exact⟨[],⟨none,0,rfl,Nat.le_refl _,.inl ⟨rfl,rfl⟩⟩,hi_⟩
 | some ad=>
   by_cases hn:n=0
   · subst hn
     repeat' (first|refine Ag rfl ?_|refine Aj rfl ?_|refine Al ?_|refine An ?_|refine Az rfl ?_|refine AB ?_|refine AM Tryz.func51 rfl (fun w_ hi_=>?_)|refine Ab 0 ?_;try refine Za rfl (Aa N5 ?_)|refine Ab 1 ?_;try refine Zm rfl (Zv (BQ U22 rfl) (Aa N5 ?_))|refine Ab 3 ?_;try((refine B9 U22 inf5 rfl rfl (fun bb_ hb_=>?_))<;>try refine Zm rfl (Zv (ov_append0 rfl rfl U22 U22 rfl inf5 (Nat.le_refl _)) (Za rfl (Aa N5 ?_)))))
     exact⟨[],⟨some ⟨bb_,0,none⟩,0,rfl,Nat.le_refl _,.inl ⟨rfl,rfl⟩⟩,hi_.subset (List.sublist_cons_self _ _)⟩
   · have hne:cells≠[]:=by rintro rfl;simp at hl;omega
     obtain⟨b,off,hb,hkn⟩:=hk.resolve_left hne
     cases hb
     repeat' (first|refine Ag rfl ?_|refine Aj rfl ?_|refine Al ?_|refine An ?_|refine Az rfl ?_|refine AB ?_|refine AM Tryz.func51 rfl (fun w_ hi_=>?_)|refine Ab 0 ?_;try refine Za rfl (Aa N5 ?_)|refine Ab 1 ?_;try refine Zm rfl (Zv (BQ U22 rfl) (Aa N5 ?_))|refine Ab 3 ?_;try((refine B9 U22 inf5 rfl rfl (fun bb_ hb_=>?_))<;>try refine Zm rfl ?_;try((refine wo_appendK (n:=0) (sz:=1) (base:=some bb_) (xs:=[]) (rst:=[]) (new:=cells) rfl rfl U22 U22 rfl inf5 rfl Y22 rfl rfl Y26 Y26 ⟨.head _,.head _ _⟩ (fun i h=>(hkn i h).cons) hl hok (by show(2*(_+n)+192)*1≤_;omega) Y9 Y9 rfl rfl (fun b' cap' rst' hc_ hn_=>?_))<;>try refine Za rfl (Aa N5 ?_))))
     exact⟨[⟨b',true,.cells (cells++rst').toArray 5 (0,0)⟩],⟨some ⟨b',0,none⟩,cap',by rw[Nat.zero_add];rfl,by omega,.inr ⟨b',rst',rfl,rfl⟩⟩,hi_⟩
theorem Ce {cells:List Value} {n:Nat} {v:Value} (hs:SlK S w0 F cells n v) (hl:cells.length=n*1) (hok:∀v∈cells,okCell v=true) (hroom:n≤65535):
 SLF Tryz.prog S w0 F 59 [v] [] (Cloned cells n 9):=by
 refine AE fun w hi=>?_
 simp only[List.nil_append] at hi
 obtain⟨a,cap,rfl,hc,hk⟩:=hs
 refine Ak Tryz.func59 rfl rfl (hi) ?_
 cases a with
 | none=>
   have hn:n=0:=by
    rcases hk with h|⟨b,off,h,_⟩
    · subst h;simp at hl;omega
    · cases h
   subst hn
   repeat' (first|refine Ag rfl ?_|refine Aj rfl ?_|refine Al ?_|refine An ?_|refine A5 rfl ?_|refine AM Tryz.func59 rfl (fun w_ hi_=>?_)|refine Ab 0 ?_;try refine Za rfl (Aa N5 ?_)|refine Ab 1 ?_;try refine Zm rfl (Zv (BQ U23 rfl) (Aa N5 ?_))|refine Ab 2 ?_;try refine Za rfl (Aa N5 ?_))
   exact⟨[],⟨none,0,rfl,Nat.le_refl _,.inl ⟨rfl,rfl⟩⟩,hi_⟩
 | some ad=>
   by_cases hn:n=0
   · subst hn
     repeat' (first|refine Ag rfl ?_|refine Aj rfl ?_|refine Al ?_|refine An ?_|refine Az rfl ?_|refine AB ?_|refine AM Tryz.func59 rfl (fun w_ hi_=>?_)|refine Ab 0 ?_;try refine Za rfl (Aa N5 ?_)|refine Ab 1 ?_;try refine Zm rfl (Zv (BQ U23 rfl) (Aa N5 ?_))|refine Ab 3 ?_;try((refine B9 U23 inf9 rfl rfl (fun bb_ hb_=>?_))<;>try refine Zm rfl (Zv (ov_append0 rfl rfl U23 U23 rfl inf9 (Nat.le_refl _)) (Za rfl (Aa N5 ?_)))))
     exact⟨[],⟨some ⟨bb_,0,none⟩,0,rfl,Nat.le_refl _,.inl ⟨rfl,rfl⟩⟩,hi_.subset (List.sublist_cons_self _ _)⟩
   · have hne:cells≠[]:=by rintro rfl;simp at hl;omega
     obtain⟨b,off,hb,hkn⟩:=hk.resolve_left hne
     cases hb
     repeat' (first|refine Ag rfl ?_|refine Aj rfl ?_|refine Al ?_|refine An ?_|refine Az rfl ?_|refine AB ?_|refine AM Tryz.func59 rfl (fun w_ hi_=>?_)|refine Ab 0 ?_;try refine Za rfl (Aa N5 ?_)|refine Ab 1 ?_;try refine Zm rfl (Zv (BQ U23 rfl) (Aa N5 ?_))|refine Ab 3 ?_;try((refine B9 U23 inf9 rfl rfl (fun bb_ hb_=>?_))<;>try refine Zm rfl ?_;try((refine wo_appendK (n:=0) (sz:=1) (base:=some bb_) (xs:=[]) (rst:=[]) (new:=cells) rfl rfl U23 U23 rfl inf9 rfl Y22 rfl rfl Y26 Y26 ⟨.head _,.head _ _⟩ (fun i h=>(hkn i h).cons) hl hok (by show(2*(_+n)+192)*16≤_;omega) Y9 Y9 rfl rfl (fun b' cap' rst' hc_ hn_=>?_))<;>try refine Za rfl (Aa N5 ?_))))
     exact⟨[⟨b',true,.cells (cells++rst').toArray 9 (0,0)⟩],⟨some ⟨b',0,none⟩,cap',by rw[Nat.zero_add];rfl,by omega,.inr ⟨b',rst',rfl,rfl⟩⟩,hi_⟩
theorem Cf {cells:List Value} {n:Nat} {v:Value} (hs:SlK S w0 F cells n v) (hl:cells.length=n*10) (hok:∀v∈cells,okCell v=true) (hroom:n≤65535):
 SLF Tryz.prog S w0 F 60 [v] [] (Cloned cells n 70):=by
 refine AE fun w hi=>?_
 simp only[List.nil_append] at hi
 obtain⟨a,cap,rfl,hc,hk⟩:=hs
 refine Ak Tryz.func60 rfl rfl (hi) ?_
 cases a with
 | none=>
   have hn:n=0:=by
    rcases hk with h|⟨b,off,h,_⟩
    · subst h;simp at hl;omega
    · cases h
   subst hn
   repeat' (first|refine Ag rfl ?_|refine Aj rfl ?_|refine Al ?_|refine An ?_|refine A5 rfl ?_|refine AM Tryz.func60 rfl (fun w_ hi_=>?_)|refine Ab 0 ?_;try refine Za rfl (Aa N5 ?_)|refine Ab 1 ?_;try refine Zm rfl (Zv (BQ U24 rfl) (Aa N5 ?_))|refine Ab 2 ?_;try refine Za rfl (Aa N5 ?_))
   exact⟨[],⟨none,0,rfl,Nat.le_refl _,.inl ⟨rfl,rfl⟩⟩,hi_⟩
 | some ad=>
   by_cases hn:n=0
   · subst hn
     repeat' (first|refine Ag rfl ?_|refine Aj rfl ?_|refine Al ?_|refine An ?_|refine Az rfl ?_|refine AB ?_|refine AM Tryz.func60 rfl (fun w_ hi_=>?_)|refine Ab 0 ?_;try refine Za rfl (Aa N5 ?_)|refine Ab 1 ?_;try refine Zm rfl (Zv (BQ U24 rfl) (Aa N5 ?_))|refine Ab 3 ?_;try((refine B9 U24 inf70 rfl rfl (fun bb_ hb_=>?_))<;>try refine Zm rfl (Zv (ov_append0 rfl rfl U24 U24 rfl inf70 (Nat.le_refl _)) (Za rfl (Aa N5 ?_)))))
     exact⟨[],⟨some ⟨bb_,0,none⟩,0,rfl,Nat.le_refl _,.inl ⟨rfl,rfl⟩⟩,hi_.subset (List.sublist_cons_self _ _)⟩
   · have hne:cells≠[]:=by rintro rfl;simp at hl;omega
     obtain⟨b,off,hb,hkn⟩:=hk.resolve_left hne
     cases hb
     repeat' (first|refine Ag rfl ?_|refine Aj rfl ?_|refine Al ?_|refine An ?_|refine Az rfl ?_|refine AB ?_|refine AM Tryz.func60 rfl (fun w_ hi_=>?_)|refine Ab 0 ?_;try refine Za rfl (Aa N5 ?_)|refine Ab 1 ?_;try refine Zm rfl (Zv (BQ U24 rfl) (Aa N5 ?_))|refine Ab 3 ?_;try((refine B9 U24 inf70 rfl rfl (fun bb_ hb_=>?_))<;>try refine Zm rfl ?_;try((refine wo_appendK (n:=0) (sz:=10) (base:=some bb_) (xs:=[]) (rst:=[]) (new:=cells) rfl rfl U24 U24 rfl inf70 rfl Y22 rfl rfl Y26 Y26 ⟨.head _,.head _ _⟩ (fun i h=>(hkn i h).cons) hl hok (by show(2*(_+n)+192)*136≤_;omega) Y9 Y9 rfl rfl (fun b' cap' rst' hc_ hn_=>?_))<;>try refine Za rfl (Aa N5 ?_))))
     exact⟨[⟨b',true,.cells (cells++rst').toArray 70 (0,0)⟩],⟨some ⟨b',0,none⟩,cap',by rw[Nat.zero_add];rfl,by omega,.inr ⟨b',rst',rfl,rfl⟩⟩,hi_⟩
theorem clone_ins {cells:List Value} {n:Nat} {v:Value} (hs:SlK S w0 F cells n v) (hl:cells.length=n*8) (hok:∀v∈cells,okCell v=true) (hroom:n≤65535):
 SLF Tryz.prog S w0 F 61 [v] [] (Cloned cells n 73):=by
 refine AE fun w hi=>?_
 simp only[List.nil_append] at hi
 obtain⟨a,cap,rfl,hc,hk⟩:=hs
 refine Ak Tryz.func61 rfl rfl (hi) ?_
 cases a with
 | none=>
   have hn:n=0:=by
    rcases hk with h|⟨b,off,h,_⟩
    · subst h;simp at hl;omega
    · cases h
   subst hn
   repeat' (first|refine Ag rfl ?_|refine Aj rfl ?_|refine Al ?_|refine An ?_|refine A5 rfl ?_|refine AM Tryz.func61 rfl (fun w_ hi_=>?_)|refine Ab 0 ?_;try refine Za rfl (Aa N5 ?_)|refine Ab 1 ?_;try refine Zm rfl (Zv (BQ U65 rfl) (Aa N5 ?_))|refine Ab 2 ?_;try refine Za rfl (Aa N5 ?_))
   exact⟨[],⟨none,0,rfl,Nat.le_refl _,.inl ⟨rfl,rfl⟩⟩,hi_⟩
 | some ad=>
   by_cases hn:n=0
   · subst hn
     repeat' (first|refine Ag rfl ?_|refine Aj rfl ?_|refine Al ?_|refine An ?_|refine Az rfl ?_|refine AB ?_|refine AM Tryz.func61 rfl (fun w_ hi_=>?_)|refine Ab 0 ?_;try refine Za rfl (Aa N5 ?_)|refine Ab 1 ?_;try refine Zm rfl (Zv (BQ U65 rfl) (Aa N5 ?_))|refine Ab 3 ?_;try((refine B9 U65 inf73 rfl rfl (fun bb_ hb_=>?_))<;>try refine Zm rfl (Zv (ov_append0 rfl rfl U65 U65 rfl inf73 (Nat.le_refl _)) (Za rfl (Aa N5 ?_)))))
     exact⟨[],⟨some ⟨bb_,0,none⟩,0,rfl,Nat.le_refl _,.inl ⟨rfl,rfl⟩⟩,hi_.subset (List.sublist_cons_self _ _)⟩
   · have hne:cells≠[]:=by rintro rfl;simp at hl;omega
     obtain⟨b,off,hb,hkn⟩:=hk.resolve_left hne
     cases hb
     repeat' (first|refine Ag rfl ?_|refine Aj rfl ?_|refine Al ?_|refine An ?_|refine Az rfl ?_|refine AB ?_|refine AM Tryz.func61 rfl (fun w_ hi_=>?_)|refine Ab 0 ?_;try refine Za rfl (Aa N5 ?_)|refine Ab 1 ?_;try refine Zm rfl (Zv (BQ U65 rfl) (Aa N5 ?_))|refine Ab 3 ?_;try((refine B9 U65 inf73 rfl rfl (fun bb_ hb_=>?_))<;>try refine Zm rfl ?_;try((refine wo_appendK (n:=0) (sz:=8) (base:=some bb_) (xs:=[]) (rst:=[]) (new:=cells) rfl rfl U65 U65 rfl inf73 rfl Y22 rfl rfl Y26 Y26 ⟨.head _,.head _ _⟩ (fun i h=>(hkn i h).cons) hl hok (by show(2*(_+n)+192)*88≤_;omega) Y9 Y9 rfl rfl (fun b' cap' rst' hc_ hn_=>?_))<;>try refine Za rfl (Aa N5 ?_))))
     exact⟨[⟨b',true,.cells (cells++rst').toArray 73 (0,0)⟩],⟨some ⟨b',0,none⟩,cap',by rw[Nat.zero_add];rfl,by omega,.inr ⟨b',rst',rfl,rfl⟩⟩,hi_⟩
end
end Go.Sl
namespace Go.Sl
open Go Go.RowKit Go.Shelf Go.Proofs
attribute [local irreducible] Calls
theorem w_cutG {C:Cx} {S:Nat→Prop} {w0:World} {k:List Item} {D:List Deferred} {E:List (Nat×Value)} {H:List Ent} {c:Code} {β:Type} (EJ:β→List (Nat×Value)) (HJ:β→List Ent) (rest:∀q,WF C S w0 k D (EJ q) (HJ q)) (body:∀k',(∀q,WF C S w0 k' D (EJ q) (HJ q))→WF C S w0 (.code c::k') D E H):WF C S w0 (.code c::k) D E H:=body k rest
theorem perm_three {a:Ent} {R X1 X2 Z Z':List Ent} (h:Z.Perm Z'):(Z++(X2++(X1++(a::R)))).Perm (a::(X1++(X2++(Z'++R)))):=by
 have h1:(Z++(X2++(X1++(a::R))))=(Z++X2++X1)++a::R:=by simp
 have h2:(Z++X2++X1).Perm (X1++(X2++Z')):=List.perm_append_comm.trans (List.Perm.append_left X1 (List.perm_append_comm.trans (List.Perm.append_left X2 h)))
 rw[h1]
 refine List.perm_middle.trans (List.Perm.cons _ ?_)
 have:=h2.append_right R
 simpa only[List.append_assoc] using this
def FlowK (S:Nat→Prop) (w0:World) (F:List Ent) (x:FlowM) (v:Value):Prop:=
 ∃rv sv bv,v=.agg (flowC x rv sv bv)∧SlK S w0 F (regV x.regs) x.regs.length rv∧SlK S w0 F (strsV x.raises) x.raises.length sv∧BlksLK S w0 F x.blks bv
theorem FlowK.up {S:Nat→Prop} {w0:World} {F F':List Ent} {x:FlowM} {v:Value} (h:FlowK S w0 F x v) (hu:∀e∈F,e∈F'):FlowK S w0 F' x v:=by
 obtain⟨rv,sv,bv,h0,h1,h2,h3⟩:=h
 exact⟨rv,sv,bv,h0,h1.up hu,h2.up hu,h3.up hu⟩
structure BlkR (b:BlkM):Prop where
 ops:∀i∈b.ins,0≤i.op∧i.op≤255
 len:b.ins.length≤65535∧b.en.args.length≤65535∧b.en.ws.length≤65535
 kd:0≤b.en.kd∧b.en.kd≤255
structure FlowR (x:FlowM):Prop where
 res:0≤x.res∧x.res≤255
 regs:∀r∈x.regs,0≤r∧r≤255
 len:x.regs.length≤65535∧x.raises.length≤65535∧x.blks.length≤65535
 blks:∀b∈x.blks,BlkR b
def ClonedV (cells:List Value) (n:Nat) (el:TypeId) (v:Value) (post:List Ent):Prop:=
 ∃a cap,v=.slice a n cap∧n≤cap∧((n=0∧post=[])∨∃bb rst,a=some ⟨bb,0,none⟩∧post=[⟨bb,true,.cells (cells++rst).toArray el (0,0)⟩])
section
variable {S:Nat→Prop} {w0:World} {F:List Ent}
theorem SLF.cl {P:Program} {f:FuncId} {vs:List Value} {pre:List Ent} {cells:List Value} {n:Nat} {el:TypeId} (h:SLF P S w0 F f vs pre (Cloned cells n el)):SLF P S w0 F f vs pre fun e post=>∃v,e=.returned v∧ClonedV cells n el v post:=
 h.mono fun e post ⟨a,cap,h1,h2⟩=>⟨_,h1,a,cap,rfl,h2⟩
theorem C3 (l:List Int):(regV l).length=l.length*1:=by simp[regV]
theorem Bv (l:List Bs):(strsV l).length=l.length*1:=by simp[strsV]
theorem regV_ok (l:List Int):∀v∈regV l,okCell v=true:=by simp[regV,okCell]
theorem Cr (l:List Bs):∀v∈strsV l,okCell v=true:=by simp[strsV,okCell]
theorem SlK.okv {cells:List Value} {n:Nat} {v:Value} (h:SlK S w0 F cells n v):okCell v=true:=by
 obtain⟨a,cap,rfl,_⟩:=h;rfl
theorem insP_ok {G:List Ent} {ps:List (InsM×Value)} (h:∀p∈ps,ArgsK S w0 G p.1.args p.2):∀v∈rowV insP ps,okCell v=true:=by
 intro v hv
 obtain⟨p,hp,hv⟩:=List.mem_flatMap.1 hv
 have:=SlK.okv (h p hp)
 simp only[insP,insC,List.mem_cons,List.not_mem_nil,or_false] at hv
 rcases hv with rfl|rfl|rfl|rfl|rfl|rfl|rfl|rfl<;>first|rfl|assumption
theorem CL {G:List Ent} {ps:List PB} (h:∀p∈ps,PBkn S w0 G p):∀v∈rowV pbC ps,okCell v=true:=by
 intro v hv
 obtain⟨p,hp,hv⟩:=List.mem_flatMap.1 hv
 obtain⟨⟨_,_,h1,_⟩,h2,h3⟩:=h p hp
 have h1:=h1.okv
 have h2:=SlK.okv h2
 have h3:=SlK.okv h3
 simp only[pbC,endC,List.mem_cons,List.not_mem_nil,or_false] at hv
 rcases hv with rfl|rfl|rfl|rfl|rfl|rfl|rfl|rfl|rfl|rfl<;>first|rfl|assumption
theorem ownT_of {σ:Type} {cd:Cod S w0 σ} {α:Type} {V:List α→List Value} {ok:α→Prop} {el:TypeId} {l:List α} {a:Option Addr} {c:Nat} {X L':List Ent} {s':σ} (hs:cd.St s' L') (h:ClonedV (V l) l.length el (.slice a l.length c) X) (hok:∀x∈l,ok x):OwnT cd V ok el (.slice a l.length c) [] l s' (L'++X):=by
 obtain⟨_,_,e,hc,h⟩:=h
 cases e
 rcases h with⟨hn,rfl⟩|⟨bb,rst,rfl,rfl⟩
 · have:l=[]:=List.length_eq_zero_iff.1 hn
   subst this
   exact⟨L',hs,.inl ⟨rfl,rfl,by simp,a,c,rfl⟩⟩
 · exact⟨L',hs,.inr ⟨bb,c,rst,rfl,by simp,by simpa using hc,hok⟩⟩
end
end Go.Sl
namespace Go.Sl
open Go Go.RowKit Go.Shelf Go.Proofs
attribute [local irreducible] Calls
structure Cl3 (x:FlowM) (ps:List PB) where
 a1:Option Addr
 c1:Nat
 a2:Option Addr
 c2:Nat
 a3:Option Addr
 c3:Nat
 X1:List Ent
 X2:List Ent
 X3:List Ent
 h1:ClonedV (regV x.regs) x.regs.length 5 (.slice a1 x.regs.length c1) X1
 h2:ClonedV (strsV x.raises) x.raises.length 9 (.slice a2 x.raises.length c2) X2
 h3:ClonedV (rowV pbC ps) x.blks.length 70 (.slice a3 x.blks.length c3) X3
section
variable {S:Nat→Prop} {w0:World} {F:List Ent}
theorem pbok_new {wb:Nat} {p:PB} {is:List (InsM×Value)} {X4:List Ent} {a4:Option Addr} {c4:Nat} (hp:PBkn S w0 F p) (hR:BlkR p.blk) (i1:is.map Prod.fst=p.blk.ins) (i3:∀p∈is,ArgsK S w0 F p.1.args p.2)
 (hx:ClonedV (rowV insP is) p.blk.ins.length 73 (.slice a4 p.blk.ins.length c4) X4):PBok (wCod S w0 wb) F {p with iv:=.slice a4 p.blk.ins.length c4,row:=X4}:=by
 refine⟨⟨a4,c4,rfl⟩,fun s' L' hs'=>?_,hp.args,hp.whens,.inl (wCod_keep _ _ _),hR.len,hR.kd⟩
 obtain⟨_,_,e,hc,h⟩:=hx
 cases e
 rcases h with⟨hn,rfl⟩|⟨bb,rst,rfl,rfl⟩
 · have hn:p.blk.ins=[]:=List.length_eq_zero_iff.1 hn
   exact⟨L',[],hs',.inl ⟨rfl,hn,by simp,rfl,a4,c4,by rw[hn];rfl,Nat.zero_le _⟩⟩
 · refine⟨L',[],hs',.inr ⟨bb,c4,rst,[],is,by simp,by simp,by simpa using hc,rfl,i1,by simp,fun q hq=>⟨i3 q hq,hR.ops _ (by rw[←i1];exact List.mem_map_of_mem hq),.inl (wCod_keep _ _ _)⟩⟩⟩
theorem written_c {x:FlowM} {v:Value} {s1:WS} {x1:FlowM} (hK:FlowK S w0 F x v) (hR:FlowR x) (hC:codeFlow wKd x ws0=.ok (x1,s1)):
 SLF Tryz.prog S w0 F 38 [v] [] (fun e post=>∃wb,e=.returned (pv wb 0)∧wSt wb s1 post):=by
 refine AE fun w hi=>?_
 simp only[List.nil_append] at hi
 obtain⟨rv,sv,bv,rfl,hk1,hk2,⟨ps,hps,hk3,hk4⟩⟩:=hK
 refine Ak Tryz.func38 rfl rfl (hi) ?_
 repeat' (first|refine Ag rfl ?_|refine Al ?_|refine An ?_|refine Ab 0 ?_;try refine AL rfl rfl rfl rfl (fun bt hbt=>?_);try refine Za rfl (Aa N11 ?_))
 repeat' (first|refine Ag rfl ?_|refine Aj rfl ?_|refine Al ?_|refine Ab 1 ?_;try refine Zv (Cw pl83 inf83 rfl) ?_;try refine AL rfl rfl rfl rfl (fun wb hwb=>?_);try refine Za rfl (Aa N11 ?_))
 have n1:=hR.len.1
 have n2:=hR.len.2.1
 have n3:=hR.len.2.2
 have n4:ps.length=x.blks.length:=by rw[←hps];simp
 refine An ?_
 refine w_cutK (β:=Cl3 x ps) (fun _=>[(3,pv wb 0),(0,.agg (flowC x rv sv bv)),(1,pv bt 0),(2,.pointer none)]) (fun q=>q.X3++(q.X2++(q.X1++(WBE wb (.slice none 0 0) (.slice none 0 0) (.slice none 0 0)::⟨bt,true,.cells (flowC x (.slice q.a1 x.regs.length q.c1) (.slice q.a2 x.raises.length q.c2) (.slice q.a3 x.blks.length q.c3)) 26 (0,0)⟩::F)))) ?_ ?_
 · rintro ⟨a1,c1,a2,c2,a3,c3,X1,X2,X3,h1,h2,h3⟩
   obtain⟨_,_,e3,hc3,h3⟩:=h3
   cases e3
   dsimp only
   refine An ?_
   refine w_cutG (β:={Lb:List Ent // ∀s' L',(wCod S w0 wb).St s' L'→BlkT (wCod S w0 wb) F (.slice a3 x.blks.length c3) [] x.blks s' (L'++Lb)}) (fun _=>[(3,pv wb 0),(1,pv bt 0),(2,.pointer none)]) (fun q=>WBE wb (.slice none 0 0) (.slice none 0 0) (.slice none 0 0)::(X1++(X2++(q.1++(⟨bt,true,.cells (flowC x (.slice a1 x.regs.length c1) (.slice a2 x.raises.length c2) (.slice a3 x.blks.length c3)) 26 (0,0)⟩::F))))) ?_ ?_
   · rintro ⟨Lb,hLb⟩
     dsimp only
     have hws:(wCod S w0 wb).St ws0 [WBE wb (.slice none 0 0) (.slice none 0 0) (.slice none 0 0)]:=⟨none,0,[],none,0,[],none,0,[],⟨rfl,rfl,fun _=>rfl⟩,⟨rfl,rfl,fun _=>rfl⟩,⟨rfl,rfl,fun _=>rfl⟩,rfl⟩
     have hfl:∀mp mq,SLF Tryz.prog S w0 (⟨mp,true,mapBO partTab⟩::⟨mq,true,mapBO pieceTab⟩::F) 63 [.agg #[.iface 78 (pv wb 0),.map (some mp),.map (some mq)],pv bt 0] ([WBE wb (.slice none 0 0) (.slice none 0 0) (.slice none 0 0)]++(X1++(X2++(Lb++[⟨bt,true,.cells (flowC x (.slice a1 x.regs.length c1) (.slice a2 x.raises.length c2) (.slice a3 x.blks.length c3)) 26 (0,0)⟩])))) fun e post=>∃v,e=.returned v∧v=unitV∧∃L' X,wSt wb s1 L'∧post=L'++X:=by
      intro mp mq
      refine(flow_c (wCod S w0 wb) (F:=⟨mp,true,mapBO partTab⟩::⟨mq,true,mapBO pieceTab⟩::F) (G:=F) trivial hws (fun e h=>.tail _ (.tail _ h)) (.head _) (.tail _ (.head _)) rfl ?_ rfl ?_ rfl hLb (.inl (wCod_keep _ _ _)) (wCod_small _ _ _) hR.len hR.res ?_).mono ?_
      · exact fun s' L' hs'=>ownT_of hs' h1 hR.regs
      · exact fun s' L' hs'=>ownT_of hs' h2 (fun _ _=>trivial)
      · rw[show(wCod S w0 wb).κ=wKd from rfl,hC];simp
      · intro e post hm
        rw[show(wCod S w0 wb).κ=wKd from rfl,hC] at hm
        obtain⟨v,rfl,rfl,L',X,rv',sv',bv',hL,rfl,_⟩:=hm
        exact⟨_,rfl,rfl,L',_,hL,rfl⟩
     have hTk:∀(e1 e2:Ent),Take (e1::e2::(WBE wb (.slice none 0 0) (.slice none 0 0) (.slice none 0 0)::(X1++(X2++(Lb++(⟨bt,true,.cells (flowC x (.slice a1 x.regs.length c1) (.slice a2 x.raises.length c2) (.slice a3 x.blks.length c3)) 26 (0,0)⟩::F)))))) ([WBE wb (.slice none 0 0) (.slice none 0 0) (.slice none 0 0)]++(X1++(X2++(Lb++[⟨bt,true,.cells (flowC x (.slice a1 x.regs.length c1) (.slice a2 x.raises.length c2) (.slice a3 x.blks.length c3)) 26 (0,0)⟩])))) (e1::e2::F):=fun e1 e2=>by
      have:=Take.tail e1 (Take.tail e2 (Take.mid ([WBE wb (.slice none 0 0) (.slice none 0 0) (.slice none 0 0)]++(X1++(X2++(Lb++[⟨bt,true,.cells (flowC x (.slice a1 x.regs.length c1) (.slice a2 x.raises.length c2) (.slice a3 x.blks.length c3)) 26 (0,0)⟩])))) F))
      simpa only[List.append_assoc,List.cons_append,List.nil_append] using this
     repeat' (first|refine Ag rfl ?_|refine Aj rfl ?_|refine Al ?_|refine An ?_|refine AM Tryz.func38 rfl (fun w_ hi_=>?_)|refine Ab 8 ?_;try refine Zm rfl (Zv (CD U78 rfl rfl) ?_);try((refine AQ (pre:=[]) (Take.nil _) (CallR.val rfl en62) rfl rfl with_c ?_;rintro v post ⟨mp,mq,rfl,rfl⟩)<;>try((refine AQ (hTk _ _) (CallR.val rfl en63) rfl rfl (hfl mp mq) ?_;rintro v post ⟨rfl,L',X,hL',rfl⟩)<;>try refine Aa N11 ?_))|refine Ab 9 ?_;try refine Zm rfl (Za rfl (Aa N11 ?_)))
     refine⟨L',⟨wb,rfl,hL'⟩,hi_.subset ?_⟩
     rw[List.append_assoc]
     exact List.Sublist.append (List.Sublist.refl _) (List.sublist_append_of_sublist_right (List.Sublist.cons _ (List.Sublist.cons _ (List.Sublist.refl _))))
   intro k' rest2
   rcases h3 with⟨hn,rfl⟩|⟨bb,rst,rfl,rfl⟩
   · have hx:x.blks=[]:=List.length_eq_zero_iff.1 hn
     rw[hn] at rest2 ⊢
     simp only[List.nil_append]
     repeat' (first|refine Ag rfl ?_|refine Aj rfl ?_|refine Al ?_|refine An ?_|refine A6 ?_|refine Ab 3 ?_;try refine Zf Bz rfl (Zv (Ac U24 rfl rfl Y0 Y4) ?_);try refine Zv (Ap rfl U24 rfl) (Zm rfl (Aa N11 ?_)))
     refine A1 (E':=(fun q:Unit=>[(3,pv wb 0),(1,pv bt 0),(2,.pointer none),(21,.int .i64 0),(22,.int .i64 0)]) ()) Y14 ?_
     refine Bb (fun q:Unit=>True) (fun q=>0) (fun q:Unit=>[(3,pv wb 0),(1,pv bt 0),(2,.pointer none),(21,.int .i64 0),(22,.int .i64 0)]) (fun q=>X2++(X1++(WBE wb (.slice none 0 0) (.slice none 0 0) (.slice none 0 0)::⟨bt,true,.cells (flowC x (.slice a1 x.regs.length c1) (.slice a2 x.raises.length c2) (.slice a3 0 c3)) 26 (0,0)⟩::F))) ?_ () trivial
     rintro _ _ ih
     try dsimp only
     repeat' (first|refine Ag rfl ?_|refine Al ?_|refine An ?_|refine Az rfl ?_|refine Bl rfl ?_|refine Ab 4 ?_;try refine Zv (A7 rfl rfl Y2) ?_;try refine Aa N11 ?_)
     have r:=rest2 ⟨[],fun s' L' hs'=>⟨L',[],hs',.inl ⟨rfl,hx,by simp,rfl,a3,c3,rfl⟩⟩⟩
     exact A1 Y10 (w_perm (perm_three (Z:=[]) (Z':=[]) (List.Perm.refl _)) r)
   · have hn0:(0:Nat)+0=0:=rfl
     repeat' (first|refine Ag rfl ?_|refine Aj rfl ?_|refine Al ?_|refine An ?_|refine A6 ?_|refine Ab 3 ?_;try refine Zf Bz rfl (Zv (Ac U24 rfl rfl Y0 Y4) ?_);try refine Zv (Ap rfl U24 rfl) (Zm rfl (Aa N11 ?_)))
     refine A1 (E':=(fun q:Nat×List PB×List PB×List Ent=>[(3,pv wb 0),(1,pv bt 0),(2,.pointer none),(21,.int .i64 (x.blks.length:Int)),(22,.int .i64 (q.1:Int))]) (0,[],ps,[])) Y14 ?_
     refine Bb (fun q:Nat×List PB×List PB×List Ent=>q.2.1.length=q.1∧(q.2.1++q.2.2.1).map PB.blk=x.blks∧(∀p∈q.2.1,PBok (wCod S w0 wb) F p)∧(∀p∈q.2.2.1,PBkn S w0 F p)∧q.2.2.2.Perm (q.2.1.flatMap PB.row)) (fun q=>q.2.2.1.length) (fun q:Nat×List PB×List PB×List Ent=>[(3,pv wb 0),(1,pv bt 0),(2,.pointer none),(21,.int .i64 (x.blks.length:Int)),(22,.int .i64 (q.1:Int))]) (fun q=>⟨bb,true,.cells (rowV pbC (q.2.1++q.2.2.1)++rst).toArray 70 (0,0)⟩::(q.2.2.2++(X2++(X1++(WBE wb (.slice none 0 0) (.slice none 0 0) (.slice none 0 0)::⟨bt,true,.cells (flowC x (.slice a1 x.regs.length c1) (.slice a2 x.raises.length c2) (.slice (some ⟨bb,0,none⟩) x.blks.length c3)) 26 (0,0)⟩::F))))) ?_ (0,[],ps,[]) ⟨rfl,by simpa using hps,by simp,hk4,List.Perm.refl _⟩
     rintro⟨i,dp,rp,acc⟩ ⟨k1,k2,k3,k4,k5⟩ ih
     dsimp only at k1 k2 k3 k4 k5 ih ⊢
     have hlen:dp.length+rp.length=x.blks.length:=by rw[←k2];simp
     cases rp with
     | nil=>
       have hin:i=x.blks.length:=by simp at hlen;omega
       simp only[List.append_nil] at k2 ⊢
       repeat' (first|refine Ag rfl ?_|refine Al ?_|refine An ?_|refine Az rfl ?_|refine Bl rfl ?_|refine Ab 4 ?_;try refine Zv (A7 rfl rfl Y2) ?_;try refine Aa N11 ?_)
       have r:=rest2 ⟨⟨bb,true,.cells (rowV pbC ([]++dp)++rst).toArray 70 (0,0)⟩::dp.flatMap PB.row,fun s' L' hs'=>⟨L',[],hs',.inr ⟨bb,c3,rst,[],dp,rfl,by simp,by simp;exact hc3,rfl,k2,by simp,k3⟩⟩⟩
       exact A1 Y10 (w_perm (perm_three (Z:=_::acc) (Z':=_::dp.flatMap PB.row) (List.Perm.cons _ k5)) r)
     | cons p rp=>
       have hi:i < x.blks.length:=by simp at hlen;omega
       repeat' (first|refine Ag rfl ?_|refine Aj rfl ?_|refine Al ?_|refine An ?_|refine A5 rfl ?_|refine A6 ?_|refine AB ?_|refine Ab 4 ?_;try refine Zv (A7 rfl rfl Y2) ?_;try refine Aa N11 ?_|refine Ab 5 ?_;try refine Zm rfl (Za rfl (Aa N11 ?_)))
       have hrow:rowV pbC (dp++p::rp)++rst=rowV pbC dp++(pbC p++(rowV pbC rp++rst)):=by simp[rowV]
       have hoff:0+((i:Nat):Int).toNat*10+0=(rowV pbC dp).length+0:=by rw[Ba pbC BE,k1];simp
       have hcell:(rowV pbC (dp++p::rp)++rst).toArray[0+((i:Nat):Int).toNat*10+0]?=some p.iv:=by rw[hrow,hoff];exact BD (by rw[BE];omega) rfl
       have hBR:=hR.blks p.blk (by rw[←k2];simp)
       obtain⟨is,i1,i2,i3⟩:=(k4 p (.head _)).ins
       have hil:is.length=p.blk.ins.length:=by rw[←i1];simp
       have hlt:=(Array.getElem?_eq_some_iff.1 hcell).1
       repeat' (first|refine Ag rfl ?_|refine Aj rfl ?_|refine Al ?_|refine Cy (m:=13) 6 rfl mixed rfl ?_;try refine Zt 0 rfl (fun _=>Ad Bz rfl) (Zt 2 rfl (fun _=>Ai rfl) (Zt 3 rfl (fun _=>Ad Bz rfl) (Zt 5 rfl (fun _=>Ai rfl) ?_)));try refine AC 1 4 Y1 ?_ ?_<;>(first|show WI _ _ _ _ _ _ 1 _ _ _ _;try refine Ao rfl (Ac U24 rfl rfl Y0 Y4) rfl rfl rfl ?_;try refine Af 4 Y1 ?_<;>try refine Ao rfl (Ac U24 rfl rfl Y0 Y4) rfl rfl rfl ?_;try refine Zt 6 rfl (fun _=>Am U24 sz70 rfl rfl Y9 Y9) ?_;try refine Zt 7 rfl (fun _=>Ad Cv rfl) (Af 8 Y1 ?_)<;>try refine Ao rfl (Ac U65 rfl rfl (.head _) hcell) rfl rfl rfl (Af 9 Y1 ?_)<;>try((refine AG (pre:=[]) rfl (Take.nil _) (CallR.val rfl en61) rfl rfl rfl (clone_ins (by repeat(first|exact i2|apply SlK.cons|apply SlK.app)) (by rw[Ba insP C7,hil]) (insP_ok i3) hBR.len.1).cl ?_;rintro _ X4 ⟨a4,c4,rfl,hx4⟩)<;>try refine Zt 10 rfl (fun _=>Am U24 sz70 rfl rfl Y9 Y9) ?_;try refine Zt 11 rfl (fun _=>Ad Cv rfl) (Af 12 Y1 ?_)<;>try refine A9 rfl rfl rfl rfl sz65 Y3 hlt (.inr (Nat.zero_le _)) rfl rfl rfl ?_;try refine Ar N11 Y1 ?_)|show WI _ _ _ _ _ _ 4 _ _ _ _;try refine Ao rfl (Ac U24 rfl rfl Y0 Y4) rfl rfl rfl ?_;try refine Zt 6 rfl (fun _=>Am U24 sz70 rfl rfl Y9 Y9) ?_;try refine Zt 7 rfl (fun _=>Ad Cv rfl) ?_;try refine AC 1 8 Y1 ?_ ?_<;>(first|show WI _ _ _ _ _ _ 1 _ _ _ _;try refine Ao rfl (Ac U24 rfl rfl Y0 Y4) rfl rfl rfl ?_;try refine Af 8 Y1 ?_<;>try refine Ao rfl (Ac U65 rfl rfl (.head _) hcell) rfl rfl rfl (Af 9 Y1 ?_)<;>try((refine AG (pre:=[]) rfl (Take.nil _) (CallR.val rfl en61) rfl rfl rfl (clone_ins (by repeat(first|exact i2|apply SlK.cons|apply SlK.app)) (by rw[Ba insP C7,hil]) (insP_ok i3) hBR.len.1).cl ?_;rintro _ X4 ⟨a4,c4,rfl,hx4⟩)<;>try refine Zt 10 rfl (fun _=>Am U24 sz70 rfl rfl Y9 Y9) ?_;try refine Zt 11 rfl (fun _=>Ad Cv rfl) (Af 12 Y1 ?_)<;>try refine A9 rfl rfl rfl rfl sz65 Y3 hlt (.inr (Nat.zero_le _)) rfl rfl rfl ?_;try refine Ar N11 Y1 ?_)|show WI _ _ _ _ _ _ 8 _ _ _ _;try refine Ao rfl (Ac U65 rfl rfl (.head _) hcell) rfl rfl rfl ?_;try refine AC 1 9 Y1 ?_ ?_<;>(first|show WI _ _ _ _ _ _ 1 _ _ _ _;try refine Ao rfl (Ac U24 rfl rfl Y0 Y4) rfl rfl rfl ?_;try refine Af 9 Y1 ?_<;>try((refine AG (pre:=[]) rfl (Take.nil _) (CallR.val rfl en61) rfl rfl rfl (clone_ins (by repeat(first|exact i2|apply SlK.cons|apply SlK.app)) (by rw[Ba insP C7,hil]) (insP_ok i3) hBR.len.1).cl ?_;rintro _ X4 ⟨a4,c4,rfl,hx4⟩)<;>try refine Zt 10 rfl (fun _=>Am U24 sz70 rfl rfl Y9 Y9) ?_;try refine Zt 11 rfl (fun _=>Ad Cv rfl) (Af 12 Y1 ?_)<;>try refine A9 rfl rfl rfl rfl sz65 Y3 hlt (.inr (Nat.zero_le _)) rfl rfl rfl ?_;try refine Ar N11 Y1 ?_)|show WI _ _ _ _ _ _ 9 _ _ _ _;try((refine AG (pre:=[]) rfl (Take.nil _) (CallR.val rfl en61) rfl rfl rfl (clone_ins (by repeat(first|exact i2|apply SlK.cons|apply SlK.app)) (by rw[Ba insP C7,hil]) (insP_ok i3) hBR.len.1).cl ?_;rintro _ X4 ⟨a4,c4,rfl,hx4⟩)<;>try refine Af 1 Y1 ?_<;>try refine Ao rfl (Ac U24 rfl rfl Y0 Y4) rfl rfl rfl ?_;try refine Zt 10 rfl (fun _=>Am U24 sz70 rfl rfl Y9 Y9) ?_;try refine Zt 11 rfl (fun _=>Ad Cv rfl) (Af 12 Y1 ?_)<;>try refine A9 rfl rfl rfl rfl sz65 Y3 hlt (.inr (Nat.zero_le _)) rfl rfl rfl ?_;try refine Ar N11 Y1 ?_)))))
       all_goals
        have hset:∀v,(rowV pbC (dp++p::rp)++rst).toArray.setIfInBounds (0+((i:Nat):Int).toNat*10+0) v=(rowV pbC ((dp++[{p with iv:=v,row:=X4}])++rp)++rst).toArray:=by
         intro v
         rw[hrow,hoff,BH (by rw[BE];omega)]
         simp[rowV,pbC]
        rw[hset]
        have hnew:PBok (wCod S w0 wb) F {p with iv:=.slice a4 p.blk.ins.length c4,row:=X4}:=pbok_new (k4 p (.head _)) hBR i1 i3 ⟨_,_,rfl,hx4⟩
        generalize hp':({blk:=p.blk,iv:=Value.slice a4 p.blk.ins.length c4,av:=p.av,wv:=p.wv,row:=X4}:PB)=p' at *
        have hblk:p'.blk=p.blk:=by rw[←hp']
        have hrow':p'.row=X4:=by rw[←hp']
        repeat' (first|refine Ag rfl ?_|refine Aj rfl ?_|refine Al ?_|refine AH ?_|refine Ab 7 ?_;try refine Zv (AD rfl rfl Y9 Y9) ?_;try refine Zm rfl (Aa N11 ?_))
        have r:=ih (i+1,dp++[p'],rp,X4++acc) ⟨by simp[k1],by simp[hblk,←k2],fun q hq=>by(rcases List.mem_append.1 hq with hq|hq;exact k3 q hq;simp at hq;subst hq;exact hnew),fun q hq=>k4 q (.tail _ hq),by rw[List.flatMap_append,List.flatMap_cons,List.flatMap_nil,List.append_nil,hrow'];exact List.perm_append_comm.trans (List.Perm.append_right _ k5)⟩ Y26
        refine A1 Y10 (w_perm ?_ r)
        dsimp only
        rw[List.append_assoc X4 acc]
        exact List.perm_middle
 intro rest
 repeat' (first|refine Ag rfl ?_|refine Aj rfl ?_|refine Al ?_|refine Cy (m:=15) 2 rfl mixed rfl ?_;try refine Zt 0 rfl (fun _=>Ad BZ rfl) (Zt 3 rfl (fun _=>Ad Cd rfl) (Zt 6 rfl (fun _=>Ad Bz rfl) ?_));try refine Cg 1 4 7 Y1 ?_ ?_ ?_<;>(first|show WI _ _ _ _ _ _ 1 _ _ _ _;try refine Ao rfl (Ac U22 rfl rfl Y0 Y4) rfl rfl rfl ?_;try refine Cg 2 4 7 Y1 ?_ ?_ ?_<;>(first|show WI _ _ _ _ _ _ 2 _ _ _ _;try((refine AG (pre:=[]) rfl (Take.nil _) (CallR.val rfl en51) rfl rfl rfl (CG (by repeat(first|exact hk1|exact hk2|exact hk3|apply SlK.cons|apply SlK.app)) (C3 _) (regV_ok _) n1).cl ?_;rintro _ X1 ⟨a1,c1,rfl,hx1⟩)<;>try refine AC 4 7 Y1 ?_ ?_<;>(first|show WI _ _ _ _ _ _ 4 _ _ _ _;try refine Ao rfl (Ac U23 rfl rfl Y0 Y4) rfl rfl rfl ?_;try refine AC 5 7 Y1 ?_ ?_<;>(first|show WI _ _ _ _ _ _ 5 _ _ _ _;try((refine AG (pre:=[]) rfl (Take.nil _) (CallR.val rfl en59) rfl rfl rfl (Ce (by repeat(first|exact hk1|exact hk2|exact hk3|apply SlK.cons|apply SlK.app)) (Bv _) (Cr _) n2).cl ?_;rintro _ X2 ⟨a2,c2,rfl,hx2⟩)<;>try refine Af 7 Y1 ?_<;>try refine Ao rfl (Ac U24 rfl rfl Y0 Y4) rfl rfl rfl ?_;try refine Af 8 Y1 ?_<;>try((refine AG (pre:=[]) rfl (Take.nil _) (CallR.val rfl en60) rfl rfl rfl (Cf (by repeat(first|exact hk1|exact hk2|exact hk3|apply SlK.cons|apply SlK.app)) (by rw[Ba pbC BE,n4]) (CL hk4) n3).cl ?_;rintro _ X3 ⟨a3,c3,rfl,hx3⟩)<;>try refine Zt 9 rfl (fun _=>Ad BZ rfl) (Af 10 Y1 ?_)<;>try refine A9 rfl rfl rfl rfl Ck Y3 Y25 (.inr (Nat.zero_le _)) rfl rfl rfl ?_;try refine Zt 11 rfl (fun _=>Ad Cd rfl) (Af 12 Y1 ?_)<;>try refine A9 rfl rfl rfl rfl Ck Y3 Y25 (.inr (Nat.zero_le _)) rfl rfl rfl ?_;try refine Zt 13 rfl (fun _=>Ad Bz rfl) (Af 14 Y1 ?_)<;>try refine A9 rfl rfl rfl rfl Ck Y3 Y25 (.inr (Nat.zero_le _)) rfl rfl rfl ?_;try refine Ar N11 Y1 ?_))|show WI _ _ _ _ _ _ 7 _ _ _ _;try refine Ao rfl (Ac U24 rfl rfl Y0 Y4) rfl rfl rfl ?_;try refine Af 5 Y1 ?_<;>try((refine AG (pre:=[]) rfl (Take.nil _) (CallR.val rfl en59) rfl rfl rfl (Ce (by repeat(first|exact hk1|exact hk2|exact hk3|apply SlK.cons|apply SlK.app)) (Bv _) (Cr _) n2).cl ?_;rintro _ X2 ⟨a2,c2,rfl,hx2⟩)<;>try refine Af 8 Y1 ?_<;>try((refine AG (pre:=[]) rfl (Take.nil _) (CallR.val rfl en60) rfl rfl rfl (Cf (by repeat(first|exact hk1|exact hk2|exact hk3|apply SlK.cons|apply SlK.app)) (by rw[Ba pbC BE,n4]) (CL hk4) n3).cl ?_;rintro _ X3 ⟨a3,c3,rfl,hx3⟩)<;>try refine Zt 9 rfl (fun _=>Ad BZ rfl) (Af 10 Y1 ?_)<;>try refine A9 rfl rfl rfl rfl Ck Y3 Y25 (.inr (Nat.zero_le _)) rfl rfl rfl ?_;try refine Zt 11 rfl (fun _=>Ad Cd rfl) (Af 12 Y1 ?_)<;>try refine A9 rfl rfl rfl rfl Ck Y3 Y25 (.inr (Nat.zero_le _)) rfl rfl rfl ?_;try refine Zt 13 rfl (fun _=>Ad Bz rfl) (Af 14 Y1 ?_)<;>try refine A9 rfl rfl rfl rfl Ck Y3 Y25 (.inr (Nat.zero_le _)) rfl rfl rfl ?_;try refine Ar N11 Y1 ?_)))|show WI _ _ _ _ _ _ 7 _ _ _ _;try refine Ao rfl (Ac U24 rfl rfl Y0 Y4) rfl rfl rfl ?_;try refine Af 4 Y1 ?_<;>try refine Ao rfl (Ac U23 rfl rfl Y0 Y4) rfl rfl rfl ?_;try refine Af 5 Y1 ?_<;>try((refine AG (pre:=[]) rfl (Take.nil _) (CallR.val rfl en59) rfl rfl rfl (Ce (by repeat(first|exact hk1|exact hk2|exact hk3|apply SlK.cons|apply SlK.app)) (Bv _) (Cr _) n2).cl ?_;rintro _ X2 ⟨a2,c2,rfl,hx2⟩)<;>try refine Af 8 Y1 ?_<;>try((refine AG (pre:=[]) rfl (Take.nil _) (CallR.val rfl en60) rfl rfl rfl (Cf (by repeat(first|exact hk1|exact hk2|exact hk3|apply SlK.cons|apply SlK.app)) (by rw[Ba pbC BE,n4]) (CL hk4) n3).cl ?_;rintro _ X3 ⟨a3,c3,rfl,hx3⟩)<;>try refine Zt 9 rfl (fun _=>Ad BZ rfl) (Af 10 Y1 ?_)<;>try refine A9 rfl rfl rfl rfl Ck Y3 Y25 (.inr (Nat.zero_le _)) rfl rfl rfl ?_;try refine Zt 11 rfl (fun _=>Ad Cd rfl) (Af 12 Y1 ?_)<;>try refine A9 rfl rfl rfl rfl Ck Y3 Y25 (.inr (Nat.zero_le _)) rfl rfl rfl ?_;try refine Zt 13 rfl (fun _=>Ad Bz rfl) (Af 14 Y1 ?_)<;>try refine A9 rfl rfl rfl rfl Ck Y3 Y25 (.inr (Nat.zero_le _)) rfl rfl rfl ?_;try refine Ar N11 Y1 ?_))))|show WI _ _ _ _ _ _ 4 _ _ _ _;try refine Ao rfl (Ac U23 rfl rfl Y0 Y4) rfl rfl rfl ?_;try refine AC 2 7 Y1 ?_ ?_<;>(first|show WI _ _ _ _ _ _ 2 _ _ _ _;try((refine AG (pre:=[]) rfl (Take.nil _) (CallR.val rfl en51) rfl rfl rfl (CG (by repeat(first|exact hk1|exact hk2|exact hk3|apply SlK.cons|apply SlK.app)) (C3 _) (regV_ok _) n1).cl ?_;rintro _ X1 ⟨a1,c1,rfl,hx1⟩)<;>try refine AC 5 7 Y1 ?_ ?_<;>(first|show WI _ _ _ _ _ _ 5 _ _ _ _;try((refine AG (pre:=[]) rfl (Take.nil _) (CallR.val rfl en59) rfl rfl rfl (Ce (by repeat(first|exact hk1|exact hk2|exact hk3|apply SlK.cons|apply SlK.app)) (Bv _) (Cr _) n2).cl ?_;rintro _ X2 ⟨a2,c2,rfl,hx2⟩)<;>try refine Af 7 Y1 ?_<;>try refine Ao rfl (Ac U24 rfl rfl Y0 Y4) rfl rfl rfl ?_;try refine Af 8 Y1 ?_<;>try((refine AG (pre:=[]) rfl (Take.nil _) (CallR.val rfl en60) rfl rfl rfl (Cf (by repeat(first|exact hk1|exact hk2|exact hk3|apply SlK.cons|apply SlK.app)) (by rw[Ba pbC BE,n4]) (CL hk4) n3).cl ?_;rintro _ X3 ⟨a3,c3,rfl,hx3⟩)<;>try refine Zt 9 rfl (fun _=>Ad BZ rfl) (Af 10 Y1 ?_)<;>try refine A9 rfl rfl rfl rfl Ck Y3 Y25 (.inr (Nat.zero_le _)) rfl rfl rfl ?_;try refine Zt 11 rfl (fun _=>Ad Cd rfl) (Af 12 Y1 ?_)<;>try refine A9 rfl rfl rfl rfl Ck Y3 Y25 (.inr (Nat.zero_le _)) rfl rfl rfl ?_;try refine Zt 13 rfl (fun _=>Ad Bz rfl) (Af 14 Y1 ?_)<;>try refine A9 rfl rfl rfl rfl Ck Y3 Y25 (.inr (Nat.zero_le _)) rfl rfl rfl ?_;try refine Ar N11 Y1 ?_))|show WI _ _ _ _ _ _ 7 _ _ _ _;try refine Ao rfl (Ac U24 rfl rfl Y0 Y4) rfl rfl rfl ?_;try refine Af 5 Y1 ?_<;>try((refine AG (pre:=[]) rfl (Take.nil _) (CallR.val rfl en59) rfl rfl rfl (Ce (by repeat(first|exact hk1|exact hk2|exact hk3|apply SlK.cons|apply SlK.app)) (Bv _) (Cr _) n2).cl ?_;rintro _ X2 ⟨a2,c2,rfl,hx2⟩)<;>try refine Af 8 Y1 ?_<;>try((refine AG (pre:=[]) rfl (Take.nil _) (CallR.val rfl en60) rfl rfl rfl (Cf (by repeat(first|exact hk1|exact hk2|exact hk3|apply SlK.cons|apply SlK.app)) (by rw[Ba pbC BE,n4]) (CL hk4) n3).cl ?_;rintro _ X3 ⟨a3,c3,rfl,hx3⟩)<;>try refine Zt 9 rfl (fun _=>Ad BZ rfl) (Af 10 Y1 ?_)<;>try refine A9 rfl rfl rfl rfl Ck Y3 Y25 (.inr (Nat.zero_le _)) rfl rfl rfl ?_;try refine Zt 11 rfl (fun _=>Ad Cd rfl) (Af 12 Y1 ?_)<;>try refine A9 rfl rfl rfl rfl Ck Y3 Y25 (.inr (Nat.zero_le _)) rfl rfl rfl ?_;try refine Zt 13 rfl (fun _=>Ad Bz rfl) (Af 14 Y1 ?_)<;>try refine A9 rfl rfl rfl rfl Ck Y3 Y25 (.inr (Nat.zero_le _)) rfl rfl rfl ?_;try refine Ar N11 Y1 ?_))))|show WI _ _ _ _ _ _ 7 _ _ _ _;try refine Ao rfl (Ac U24 rfl rfl Y0 Y4) rfl rfl rfl ?_;try refine Af 2 Y1 ?_<;>try((refine AG (pre:=[]) rfl (Take.nil _) (CallR.val rfl en51) rfl rfl rfl (CG (by repeat(first|exact hk1|exact hk2|exact hk3|apply SlK.cons|apply SlK.app)) (C3 _) (regV_ok _) n1).cl ?_;rintro _ X1 ⟨a1,c1,rfl,hx1⟩)<;>try refine Af 5 Y1 ?_<;>try((refine AG (pre:=[]) rfl (Take.nil _) (CallR.val rfl en59) rfl rfl rfl (Ce (by repeat(first|exact hk1|exact hk2|exact hk3|apply SlK.cons|apply SlK.app)) (Bv _) (Cr _) n2).cl ?_;rintro _ X2 ⟨a2,c2,rfl,hx2⟩)<;>try refine Af 8 Y1 ?_<;>try((refine AG (pre:=[]) rfl (Take.nil _) (CallR.val rfl en60) rfl rfl rfl (Cf (by repeat(first|exact hk1|exact hk2|exact hk3|apply SlK.cons|apply SlK.app)) (by rw[Ba pbC BE,n4]) (CL hk4) n3).cl ?_;rintro _ X3 ⟨a3,c3,rfl,hx3⟩)<;>try refine Zt 9 rfl (fun _=>Ad BZ rfl) (Af 10 Y1 ?_)<;>try refine A9 rfl rfl rfl rfl Ck Y3 Y25 (.inr (Nat.zero_le _)) rfl rfl rfl ?_;try refine Zt 11 rfl (fun _=>Ad Cd rfl) (Af 12 Y1 ?_)<;>try refine A9 rfl rfl rfl rfl Ck Y3 Y25 (.inr (Nat.zero_le _)) rfl rfl rfl ?_;try refine Zt 13 rfl (fun _=>Ad Bz rfl) (Af 14 Y1 ?_)<;>try refine A9 rfl rfl rfl rfl Ck Y3 Y25 (.inr (Nat.zero_le _)) rfl rfl rfl ?_;try refine Ar N11 Y1 ?_))))|show WI _ _ _ _ _ _ 7 _ _ _ _;try refine Ao rfl (Ac U24 rfl rfl Y0 Y4) rfl rfl rfl ?_;try refine AC 2 4 Y1 ?_ ?_<;>(first|show WI _ _ _ _ _ _ 2 _ _ _ _;try((refine AG (pre:=[]) rfl (Take.nil _) (CallR.val rfl en51) rfl rfl rfl (CG (by repeat(first|exact hk1|exact hk2|exact hk3|apply SlK.cons|apply SlK.app)) (C3 _) (regV_ok _) n1).cl ?_;rintro _ X1 ⟨a1,c1,rfl,hx1⟩)<;>try refine Af 4 Y1 ?_<;>try refine Ao rfl (Ac U23 rfl rfl Y0 Y4) rfl rfl rfl ?_;try refine Af 5 Y1 ?_<;>try((refine AG (pre:=[]) rfl (Take.nil _) (CallR.val rfl en59) rfl rfl rfl (Ce (by repeat(first|exact hk1|exact hk2|exact hk3|apply SlK.cons|apply SlK.app)) (Bv _) (Cr _) n2).cl ?_;rintro _ X2 ⟨a2,c2,rfl,hx2⟩)<;>try refine Af 8 Y1 ?_<;>try((refine AG (pre:=[]) rfl (Take.nil _) (CallR.val rfl en60) rfl rfl rfl (Cf (by repeat(first|exact hk1|exact hk2|exact hk3|apply SlK.cons|apply SlK.app)) (by rw[Ba pbC BE,n4]) (CL hk4) n3).cl ?_;rintro _ X3 ⟨a3,c3,rfl,hx3⟩)<;>try refine Zt 9 rfl (fun _=>Ad BZ rfl) (Af 10 Y1 ?_)<;>try refine A9 rfl rfl rfl rfl Ck Y3 Y25 (.inr (Nat.zero_le _)) rfl rfl rfl ?_;try refine Zt 11 rfl (fun _=>Ad Cd rfl) (Af 12 Y1 ?_)<;>try refine A9 rfl rfl rfl rfl Ck Y3 Y25 (.inr (Nat.zero_le _)) rfl rfl rfl ?_;try refine Zt 13 rfl (fun _=>Ad Bz rfl) (Af 14 Y1 ?_)<;>try refine A9 rfl rfl rfl rfl Ck Y3 Y25 (.inr (Nat.zero_le _)) rfl rfl rfl ?_;try refine Ar N11 Y1 ?_)))|show WI _ _ _ _ _ _ 4 _ _ _ _;try refine Ao rfl (Ac U23 rfl rfl Y0 Y4) rfl rfl rfl ?_;try refine Af 2 Y1 ?_<;>try((refine AG (pre:=[]) rfl (Take.nil _) (CallR.val rfl en51) rfl rfl rfl (CG (by repeat(first|exact hk1|exact hk2|exact hk3|apply SlK.cons|apply SlK.app)) (C3 _) (regV_ok _) n1).cl ?_;rintro _ X1 ⟨a1,c1,rfl,hx1⟩)<;>try refine Af 5 Y1 ?_<;>try((refine AG (pre:=[]) rfl (Take.nil _) (CallR.val rfl en59) rfl rfl rfl (Ce (by repeat(first|exact hk1|exact hk2|exact hk3|apply SlK.cons|apply SlK.app)) (Bv _) (Cr _) n2).cl ?_;rintro _ X2 ⟨a2,c2,rfl,hx2⟩)<;>try refine Af 8 Y1 ?_<;>try((refine AG (pre:=[]) rfl (Take.nil _) (CallR.val rfl en60) rfl rfl rfl (Cf (by repeat(first|exact hk1|exact hk2|exact hk3|apply SlK.cons|apply SlK.app)) (by rw[Ba pbC BE,n4]) (CL hk4) n3).cl ?_;rintro _ X3 ⟨a3,c3,rfl,hx3⟩)<;>try refine Zt 9 rfl (fun _=>Ad BZ rfl) (Af 10 Y1 ?_)<;>try refine A9 rfl rfl rfl rfl Ck Y3 Y25 (.inr (Nat.zero_le _)) rfl rfl rfl ?_;try refine Zt 11 rfl (fun _=>Ad Cd rfl) (Af 12 Y1 ?_)<;>try refine A9 rfl rfl rfl rfl Ck Y3 Y25 (.inr (Nat.zero_le _)) rfl rfl rfl ?_;try refine Zt 13 rfl (fun _=>Ad Bz rfl) (Af 14 Y1 ?_)<;>try refine A9 rfl rfl rfl rfl Ck Y3 Y25 (.inr (Nat.zero_le _)) rfl rfl rfl ?_;try refine Ar N11 Y1 ?_)))))|show WI _ _ _ _ _ _ 4 _ _ _ _;try refine Ao rfl (Ac U23 rfl rfl Y0 Y4) rfl rfl rfl ?_;try refine AC 1 7 Y1 ?_ ?_<;>(first|show WI _ _ _ _ _ _ 1 _ _ _ _;try refine Ao rfl (Ac U22 rfl rfl Y0 Y4) rfl rfl rfl ?_;try refine AC 2 7 Y1 ?_ ?_<;>(first|show WI _ _ _ _ _ _ 2 _ _ _ _;try((refine AG (pre:=[]) rfl (Take.nil _) (CallR.val rfl en51) rfl rfl rfl (CG (by repeat(first|exact hk1|exact hk2|exact hk3|apply SlK.cons|apply SlK.app)) (C3 _) (regV_ok _) n1).cl ?_;rintro _ X1 ⟨a1,c1,rfl,hx1⟩)<;>try refine AC 5 7 Y1 ?_ ?_<;>(first|show WI _ _ _ _ _ _ 5 _ _ _ _;try((refine AG (pre:=[]) rfl (Take.nil _) (CallR.val rfl en59) rfl rfl rfl (Ce (by repeat(first|exact hk1|exact hk2|exact hk3|apply SlK.cons|apply SlK.app)) (Bv _) (Cr _) n2).cl ?_;rintro _ X2 ⟨a2,c2,rfl,hx2⟩)<;>try refine Af 7 Y1 ?_<;>try refine Ao rfl (Ac U24 rfl rfl Y0 Y4) rfl rfl rfl ?_;try refine Af 8 Y1 ?_<;>try((refine AG (pre:=[]) rfl (Take.nil _) (CallR.val rfl en60) rfl rfl rfl (Cf (by repeat(first|exact hk1|exact hk2|exact hk3|apply SlK.cons|apply SlK.app)) (by rw[Ba pbC BE,n4]) (CL hk4) n3).cl ?_;rintro _ X3 ⟨a3,c3,rfl,hx3⟩)<;>try refine Zt 9 rfl (fun _=>Ad BZ rfl) (Af 10 Y1 ?_)<;>try refine A9 rfl rfl rfl rfl Ck Y3 Y25 (.inr (Nat.zero_le _)) rfl rfl rfl ?_;try refine Zt 11 rfl (fun _=>Ad Cd rfl) (Af 12 Y1 ?_)<;>try refine A9 rfl rfl rfl rfl Ck Y3 Y25 (.inr (Nat.zero_le _)) rfl rfl rfl ?_;try refine Zt 13 rfl (fun _=>Ad Bz rfl) (Af 14 Y1 ?_)<;>try refine A9 rfl rfl rfl rfl Ck Y3 Y25 (.inr (Nat.zero_le _)) rfl rfl rfl ?_;try refine Ar N11 Y1 ?_))|show WI _ _ _ _ _ _ 7 _ _ _ _;try refine Ao rfl (Ac U24 rfl rfl Y0 Y4) rfl rfl rfl ?_;try refine Af 5 Y1 ?_<;>try((refine AG (pre:=[]) rfl (Take.nil _) (CallR.val rfl en59) rfl rfl rfl (Ce (by repeat(first|exact hk1|exact hk2|exact hk3|apply SlK.cons|apply SlK.app)) (Bv _) (Cr _) n2).cl ?_;rintro _ X2 ⟨a2,c2,rfl,hx2⟩)<;>try refine Af 8 Y1 ?_<;>try((refine AG (pre:=[]) rfl (Take.nil _) (CallR.val rfl en60) rfl rfl rfl (Cf (by repeat(first|exact hk1|exact hk2|exact hk3|apply SlK.cons|apply SlK.app)) (by rw[Ba pbC BE,n4]) (CL hk4) n3).cl ?_;rintro _ X3 ⟨a3,c3,rfl,hx3⟩)<;>try refine Zt 9 rfl (fun _=>Ad BZ rfl) (Af 10 Y1 ?_)<;>try refine A9 rfl rfl rfl rfl Ck Y3 Y25 (.inr (Nat.zero_le _)) rfl rfl rfl ?_;try refine Zt 11 rfl (fun _=>Ad Cd rfl) (Af 12 Y1 ?_)<;>try refine A9 rfl rfl rfl rfl Ck Y3 Y25 (.inr (Nat.zero_le _)) rfl rfl rfl ?_;try refine Zt 13 rfl (fun _=>Ad Bz rfl) (Af 14 Y1 ?_)<;>try refine A9 rfl rfl rfl rfl Ck Y3 Y25 (.inr (Nat.zero_le _)) rfl rfl rfl ?_;try refine Ar N11 Y1 ?_))))|show WI _ _ _ _ _ _ 7 _ _ _ _;try refine Ao rfl (Ac U24 rfl rfl Y0 Y4) rfl rfl rfl ?_;try refine Af 2 Y1 ?_<;>try((refine AG (pre:=[]) rfl (Take.nil _) (CallR.val rfl en51) rfl rfl rfl (CG (by repeat(first|exact hk1|exact hk2|exact hk3|apply SlK.cons|apply SlK.app)) (C3 _) (regV_ok _) n1).cl ?_;rintro _ X1 ⟨a1,c1,rfl,hx1⟩)<;>try refine Af 5 Y1 ?_<;>try((refine AG (pre:=[]) rfl (Take.nil _) (CallR.val rfl en59) rfl rfl rfl (Ce (by repeat(first|exact hk1|exact hk2|exact hk3|apply SlK.cons|apply SlK.app)) (Bv _) (Cr _) n2).cl ?_;rintro _ X2 ⟨a2,c2,rfl,hx2⟩)<;>try refine Af 8 Y1 ?_<;>try((refine AG (pre:=[]) rfl (Take.nil _) (CallR.val rfl en60) rfl rfl rfl (Cf (by repeat(first|exact hk1|exact hk2|exact hk3|apply SlK.cons|apply SlK.app)) (by rw[Ba pbC BE,n4]) (CL hk4) n3).cl ?_;rintro _ X3 ⟨a3,c3,rfl,hx3⟩)<;>try refine Zt 9 rfl (fun _=>Ad BZ rfl) (Af 10 Y1 ?_)<;>try refine A9 rfl rfl rfl rfl Ck Y3 Y25 (.inr (Nat.zero_le _)) rfl rfl rfl ?_;try refine Zt 11 rfl (fun _=>Ad Cd rfl) (Af 12 Y1 ?_)<;>try refine A9 rfl rfl rfl rfl Ck Y3 Y25 (.inr (Nat.zero_le _)) rfl rfl rfl ?_;try refine Zt 13 rfl (fun _=>Ad Bz rfl) (Af 14 Y1 ?_)<;>try refine A9 rfl rfl rfl rfl Ck Y3 Y25 (.inr (Nat.zero_le _)) rfl rfl rfl ?_;try refine Ar N11 Y1 ?_))))|show WI _ _ _ _ _ _ 7 _ _ _ _;try refine Ao rfl (Ac U24 rfl rfl Y0 Y4) rfl rfl rfl ?_;try refine Af 1 Y1 ?_<;>try refine Ao rfl (Ac U22 rfl rfl Y0 Y4) rfl rfl rfl ?_;try refine Af 2 Y1 ?_<;>try((refine AG (pre:=[]) rfl (Take.nil _) (CallR.val rfl en51) rfl rfl rfl (CG (by repeat(first|exact hk1|exact hk2|exact hk3|apply SlK.cons|apply SlK.app)) (C3 _) (regV_ok _) n1).cl ?_;rintro _ X1 ⟨a1,c1,rfl,hx1⟩)<;>try refine Af 5 Y1 ?_<;>try((refine AG (pre:=[]) rfl (Take.nil _) (CallR.val rfl en59) rfl rfl rfl (Ce (by repeat(first|exact hk1|exact hk2|exact hk3|apply SlK.cons|apply SlK.app)) (Bv _) (Cr _) n2).cl ?_;rintro _ X2 ⟨a2,c2,rfl,hx2⟩)<;>try refine Af 8 Y1 ?_<;>try((refine AG (pre:=[]) rfl (Take.nil _) (CallR.val rfl en60) rfl rfl rfl (Cf (by repeat(first|exact hk1|exact hk2|exact hk3|apply SlK.cons|apply SlK.app)) (by rw[Ba pbC BE,n4]) (CL hk4) n3).cl ?_;rintro _ X3 ⟨a3,c3,rfl,hx3⟩)<;>try refine Zt 9 rfl (fun _=>Ad BZ rfl) (Af 10 Y1 ?_)<;>try refine A9 rfl rfl rfl rfl Ck Y3 Y25 (.inr (Nat.zero_le _)) rfl rfl rfl ?_;try refine Zt 11 rfl (fun _=>Ad Cd rfl) (Af 12 Y1 ?_)<;>try refine A9 rfl rfl rfl rfl Ck Y3 Y25 (.inr (Nat.zero_le _)) rfl rfl rfl ?_;try refine Zt 13 rfl (fun _=>Ad Bz rfl) (Af 14 Y1 ?_)<;>try refine A9 rfl rfl rfl rfl Ck Y3 Y25 (.inr (Nat.zero_le _)) rfl rfl rfl ?_;try refine Ar N11 Y1 ?_))))|show WI _ _ _ _ _ _ 7 _ _ _ _;try refine Ao rfl (Ac U24 rfl rfl Y0 Y4) rfl rfl rfl ?_;try refine AC 1 4 Y1 ?_ ?_<;>(first|show WI _ _ _ _ _ _ 1 _ _ _ _;try refine Ao rfl (Ac U22 rfl rfl Y0 Y4) rfl rfl rfl ?_;try refine AC 2 4 Y1 ?_ ?_<;>(first|show WI _ _ _ _ _ _ 2 _ _ _ _;try((refine AG (pre:=[]) rfl (Take.nil _) (CallR.val rfl en51) rfl rfl rfl (CG (by repeat(first|exact hk1|exact hk2|exact hk3|apply SlK.cons|apply SlK.app)) (C3 _) (regV_ok _) n1).cl ?_;rintro _ X1 ⟨a1,c1,rfl,hx1⟩)<;>try refine Af 4 Y1 ?_<;>try refine Ao rfl (Ac U23 rfl rfl Y0 Y4) rfl rfl rfl ?_;try refine Af 5 Y1 ?_<;>try((refine AG (pre:=[]) rfl (Take.nil _) (CallR.val rfl en59) rfl rfl rfl (Ce (by repeat(first|exact hk1|exact hk2|exact hk3|apply SlK.cons|apply SlK.app)) (Bv _) (Cr _) n2).cl ?_;rintro _ X2 ⟨a2,c2,rfl,hx2⟩)<;>try refine Af 8 Y1 ?_<;>try((refine AG (pre:=[]) rfl (Take.nil _) (CallR.val rfl en60) rfl rfl rfl (Cf (by repeat(first|exact hk1|exact hk2|exact hk3|apply SlK.cons|apply SlK.app)) (by rw[Ba pbC BE,n4]) (CL hk4) n3).cl ?_;rintro _ X3 ⟨a3,c3,rfl,hx3⟩)<;>try refine Zt 9 rfl (fun _=>Ad BZ rfl) (Af 10 Y1 ?_)<;>try refine A9 rfl rfl rfl rfl Ck Y3 Y25 (.inr (Nat.zero_le _)) rfl rfl rfl ?_;try refine Zt 11 rfl (fun _=>Ad Cd rfl) (Af 12 Y1 ?_)<;>try refine A9 rfl rfl rfl rfl Ck Y3 Y25 (.inr (Nat.zero_le _)) rfl rfl rfl ?_;try refine Zt 13 rfl (fun _=>Ad Bz rfl) (Af 14 Y1 ?_)<;>try refine A9 rfl rfl rfl rfl Ck Y3 Y25 (.inr (Nat.zero_le _)) rfl rfl rfl ?_;try refine Ar N11 Y1 ?_)))|show WI _ _ _ _ _ _ 4 _ _ _ _;try refine Ao rfl (Ac U23 rfl rfl Y0 Y4) rfl rfl rfl ?_;try refine Af 2 Y1 ?_<;>try((refine AG (pre:=[]) rfl (Take.nil _) (CallR.val rfl en51) rfl rfl rfl (CG (by repeat(first|exact hk1|exact hk2|exact hk3|apply SlK.cons|apply SlK.app)) (C3 _) (regV_ok _) n1).cl ?_;rintro _ X1 ⟨a1,c1,rfl,hx1⟩)<;>try refine Af 5 Y1 ?_<;>try((refine AG (pre:=[]) rfl (Take.nil _) (CallR.val rfl en59) rfl rfl rfl (Ce (by repeat(first|exact hk1|exact hk2|exact hk3|apply SlK.cons|apply SlK.app)) (Bv _) (Cr _) n2).cl ?_;rintro _ X2 ⟨a2,c2,rfl,hx2⟩)<;>try refine Af 8 Y1 ?_<;>try((refine AG (pre:=[]) rfl (Take.nil _) (CallR.val rfl en60) rfl rfl rfl (Cf (by repeat(first|exact hk1|exact hk2|exact hk3|apply SlK.cons|apply SlK.app)) (by rw[Ba pbC BE,n4]) (CL hk4) n3).cl ?_;rintro _ X3 ⟨a3,c3,rfl,hx3⟩)<;>try refine Zt 9 rfl (fun _=>Ad BZ rfl) (Af 10 Y1 ?_)<;>try refine A9 rfl rfl rfl rfl Ck Y3 Y25 (.inr (Nat.zero_le _)) rfl rfl rfl ?_;try refine Zt 11 rfl (fun _=>Ad Cd rfl) (Af 12 Y1 ?_)<;>try refine A9 rfl rfl rfl rfl Ck Y3 Y25 (.inr (Nat.zero_le _)) rfl rfl rfl ?_;try refine Zt 13 rfl (fun _=>Ad Bz rfl) (Af 14 Y1 ?_)<;>try refine A9 rfl rfl rfl rfl Ck Y3 Y25 (.inr (Nat.zero_le _)) rfl rfl rfl ?_;try refine Ar N11 Y1 ?_))))|show WI _ _ _ _ _ _ 4 _ _ _ _;try refine Ao rfl (Ac U23 rfl rfl Y0 Y4) rfl rfl rfl ?_;try refine Af 1 Y1 ?_<;>try refine Ao rfl (Ac U22 rfl rfl Y0 Y4) rfl rfl rfl ?_;try refine Af 2 Y1 ?_<;>try((refine AG (pre:=[]) rfl (Take.nil _) (CallR.val rfl en51) rfl rfl rfl (CG (by repeat(first|exact hk1|exact hk2|exact hk3|apply SlK.cons|apply SlK.app)) (C3 _) (regV_ok _) n1).cl ?_;rintro _ X1 ⟨a1,c1,rfl,hx1⟩)<;>try refine Af 5 Y1 ?_<;>try((refine AG (pre:=[]) rfl (Take.nil _) (CallR.val rfl en59) rfl rfl rfl (Ce (by repeat(first|exact hk1|exact hk2|exact hk3|apply SlK.cons|apply SlK.app)) (Bv _) (Cr _) n2).cl ?_;rintro _ X2 ⟨a2,c2,rfl,hx2⟩)<;>try refine Af 8 Y1 ?_<;>try((refine AG (pre:=[]) rfl (Take.nil _) (CallR.val rfl en60) rfl rfl rfl (Cf (by repeat(first|exact hk1|exact hk2|exact hk3|apply SlK.cons|apply SlK.app)) (by rw[Ba pbC BE,n4]) (CL hk4) n3).cl ?_;rintro _ X3 ⟨a3,c3,rfl,hx3⟩)<;>try refine Zt 9 rfl (fun _=>Ad BZ rfl) (Af 10 Y1 ?_)<;>try refine A9 rfl rfl rfl rfl Ck Y3 Y25 (.inr (Nat.zero_le _)) rfl rfl rfl ?_;try refine Zt 11 rfl (fun _=>Ad Cd rfl) (Af 12 Y1 ?_)<;>try refine A9 rfl rfl rfl rfl Ck Y3 Y25 (.inr (Nat.zero_le _)) rfl rfl rfl ?_;try refine Zt 13 rfl (fun _=>Ad Bz rfl) (Af 14 Y1 ?_)<;>try refine A9 rfl rfl rfl rfl Ck Y3 Y25 (.inr (Nat.zero_le _)) rfl rfl rfl ?_;try refine Ar N11 Y1 ?_))))))
 all_goals exact rest ⟨a1,c1,a2,c2,a3,c3,X1,X2,X3,⟨_,_,rfl,hx1⟩,⟨_,_,rfl,hx2⟩,⟨_,_,rfl,hx3⟩⟩
end
end Go.Sl
namespace Go.Sl
open Go Go.RowKit Go.Shelf Go.Proofs
attribute [local irreducible] Calls
def idxOf {α:Type} (p:α→Bool) (l:List α):Int:=match l.findIdx? p with
 | some i=>(i:Int)
 | none=> -1
theorem idx_any {α:Type} (p:α→Bool) (l:List α):l.any p=decide (0≤idxOf p l):=by
 unfold idxOf
 cases h:l.findIdx? p with
 | none=>
   rw[List.findIdx?_eq_none_iff] at h
   simp only[show ¬(0:Int) ≤ -1 by omega,decide_false]
   rw[List.any_eq_false]
   exact fun x hx=>by rw[h x hx];simp
 | some i=>
   obtain⟨h1,h2,_⟩:=List.findIdx?_eq_some_iff_getElem.1 h
   simp only[show(0:Int)≤(i:Int) by omega,decide_true]
   exact List.any_eq_true.2 ⟨_,List.getElem_mem h1,h2⟩
theorem idx_at {α:Type} {p:α→Bool} {l:List α} {k:Nat} (hk:k < l.length) (h1:∀j (hj:j < k),p (l[j]'Y9)=false) (h2:p l[k]=true):idxOf p l=(k:Int):=by
 unfold idxOf
 rw[List.findIdx?_eq_some_iff_getElem.2 ⟨hk,h2,fun j hj=>by simp[h1 j hj]⟩]
theorem idx_none {α:Type} {p:α→Bool} {l:List α} (h1:∀j (hj:j < l.length),p l[j]=false):idxOf p l= -1:=by
 unfold idxOf
 rw[List.findIdx?_eq_none_iff.2 fun x hx=>by obtain⟨j,hj,rfl⟩:=List.getElem_of_mem hx;exact h1 j hj]
def Tells (S:Nat→Prop) (w0:World) (F:List Ent) (fv v:Value) (q:Bool):Prop:=∃f vs,GoesTo Tryz.prog fv [v] f vs∧Enters Tryz.prog f∧SLF Tryz.prog S w0 F f vs [] fun e post=>e=.returned (.bool q)∧post=[]
section
variable {S:Nat→Prop} {w0:World} {F:List Ent}
theorem index_u8 {l:List (Int)} {v fv:Value} {p:(Int)→Bool} (hs:SlK S w0 F (regV l) l.length v) (hl:l.length≤65535) (hp:∀x∈l,Tells S w0 F fv (.int .u8 x) (p x)):
 SLF Tryz.prog S w0 F 102 [v,fv] [] fun e post=>e=.returned (.int .i64 (idxOf p l))∧post=[]:=by
 refine AE fun w hi=>?_
 simp only[List.nil_append] at hi
 obtain⟨a,cap,rfl,hc,hk⟩:=hs
 have hlen:(regV l).length=l.length*1:=by rw[C3]
 refine Ak Tryz.func102 rfl rfl (hi) ?_
 repeat' (first|refine Ag rfl ?_|refine Aj rfl ?_|refine Al ?_|refine An ?_|refine A6 ?_|refine Ab 0 ?_;try refine Za rfl (Aa N6 ?_)|refine Ab 1 ?_;try refine Zm rfl (Zv (Ap rfl U22 rfl) (Zm rfl (Aa N6 ?_))))
 refine A1 (E':=(fun k:Nat=>[(0,.slice a l.length cap),(1,fv),(7,.int .i64 (l.length:Int)),(8,.int .i64 (k:Int))]) 0) Y14 ?_
 refine Bb (fun k:Nat=>k≤l.length∧∀j (hj:j < k) (hj2:j < l.length),p l[j]=false) (fun k=>l.length - k) (fun k:Nat=>[(0,.slice a l.length cap),(1,fv),(7,.int .i64 (l.length:Int)),(8,.int .i64 (k:Int))]) (fun _=>F) ?_ 0 ⟨by omega,fun j hj=>by omega⟩
 rintro k ⟨k1,k2⟩ ih
 try dsimp only at k1 k2 ih ⊢
 by_cases hlt:k < l.length
 · rcases hk with h|⟨b,off,rfl,hkn⟩
   · rw[h] at hlen;simp only[List.length_nil] at hlen;omega
   · have hcell:Kn S w0 F b (off+((k:Nat):Int).toNat*1) (.int .u8 l[k]):=by have:=hkn k (by rw[hlen];omega);simpa [regV] using this
     obtain⟨f,vs,hg,he,hq⟩:=hp l[k] (List.getElem_mem hlt)
     cases hpk:p l[k] with
     | true=>
       rw[hpk] at hq
       repeat' (first|refine Ag rfl ?_|refine Aj rfl ?_|refine Al ?_|refine An ?_|refine A5 rfl ?_|refine A6 ?_|refine AB ?_|refine AM Tryz.func102 rfl (fun w_ hi_=>?_)|refine Ab 2 ?_;try refine Zv (A7 rfl rfl Y2) ?_;try refine Aa N6 ?_|refine Ab 3 ?_;try refine Zm rfl (Za rfl (Aa N6 ?_))|refine Ab 4 ?_;try refine Zm rfl (Zm rfl (Zm rfl (Zv (Am U22 sz5 rfl rfl Y9 Y9) ?_)));try refine Zv (A2 U5 rfl rfl hcell) (Zv (Aw (CallR.fv rfl rfl hg he) hq) (Aa N6 ?_))|refine Ab 5 ?_;try refine Zm rfl (Za rfl (Aa N6 ?_)))
       rw[idx_at hlt (fun j hj=>k2 j hj _) hpk]
       exact⟨[],⟨rfl,rfl⟩,hi_⟩
     | false=>
       rw[hpk] at hq
       repeat' (first|refine Ag rfl ?_|refine Aj rfl ?_|refine Al ?_|refine An ?_|refine A5 rfl ?_|refine Az rfl ?_|refine A6 ?_|refine AH ?_|refine AB ?_|refine Ab 2 ?_;try refine Zv (A7 rfl rfl Y2) ?_;try refine Aa N6 ?_|refine Ab 3 ?_;try refine Zm rfl (Za rfl (Aa N6 ?_))|refine Ab 4 ?_;try refine Zm rfl (Zm rfl (Zm rfl (Zv (Am U22 sz5 rfl rfl Y9 Y9) ?_)));try refine Zv (A2 U5 rfl rfl hcell) (Zv (Aw (CallR.fv rfl rfl hg he) hq) (Aa N6 ?_))|refine Ab 6 ?_;try refine Zv (AD rfl rfl Y9 Y9) ?_;try refine Zm rfl (Aa N6 ?_))
       refine A1 Y10 (ih (k+1) ⟨by omega,fun j hj hj2=>by(by_cases e:j=k;subst e;exact hpk;exact k2 j Y9 hj2)⟩ Y9)
 · repeat' (first|refine Ag rfl ?_|refine Al ?_|refine An ?_|refine Az rfl ?_|refine Bl rfl ?_|refine AM Tryz.func102 rfl (fun w_ hi_=>?_)|refine Ab 2 ?_;try refine Zv (A7 rfl rfl Y2) ?_;try refine Aa N6 ?_|refine Ab 7 ?_;try refine Za rfl (Aa N6 ?_))
   rw[idx_none fun j hj=>k2 j Y9 hj]
   exact⟨[],⟨rfl,rfl⟩,hi_⟩
theorem has_u8 {l:List (Int)} {v fv:Value} {p:(Int)→Bool} (hs:SlK S w0 F (regV l) l.length v) (hl:l.length≤65535) (hp:∀x∈l,Tells S w0 F fv (.int .u8 x) (p x)):
 SLF Tryz.prog S w0 F 70 [v,fv] [] fun e post=>e=.returned (.bool (l.any p))∧post=[]:=by
 refine AE fun w hi=>?_
 simp only[List.nil_append] at hi
 have hq:=index_u8 hs hl hp
 rw[idx_any]
 generalize idxOf p l=i at *
 refine Ak Tryz.func70 rfl rfl (hi) ?_
 by_cases h0:0≤i
 · rw [decide_eq_true h0]
   repeat' (first|refine Ag rfl ?_|refine Aj rfl ?_|refine Al ?_|refine An ?_|refine AM Tryz.func70 rfl (fun w_ hi_=>?_)|refine Ab 0 ?_;try refine Za rfl (Aa N15 ?_)|refine Ab 1 ?_;try refine Zm rfl (Zm rfl (Zv (Aw (CallR.val rfl en102) hq) (Zv (Bj rfl rfl Y2) ?_)));try refine Za rfl (Aa N15 ?_))
   exact⟨[],⟨rfl,rfl⟩,hi_⟩
 · rw [decide_eq_false h0]
   repeat' (first|refine Ag rfl ?_|refine Aj rfl ?_|refine Al ?_|refine An ?_|refine AM Tryz.func70 rfl (fun w_ hi_=>?_)|refine Ab 0 ?_;try refine Za rfl (Aa N15 ?_)|refine Ab 1 ?_;try refine Zm rfl (Zm rfl (Zv (Aw (CallR.val rfl en102) hq) (Zv (Bj rfl rfl Y2) ?_)));try refine Za rfl (Aa N15 ?_))
   exact⟨[],⟨rfl,rfl⟩,hi_⟩
theorem index_int {l:List (Int)} {v fv:Value} {p:(Int)→Bool} (hs:SlK S w0 F (intsV l) l.length v) (hl:l.length≤65535) (hp:∀x∈l,Tells S w0 F fv (.int .i64 x) (p x)):
 SLF Tryz.prog S w0 F 141 [v,fv] [] fun e post=>e=.returned (.int .i64 (idxOf p l))∧post=[]:=by
 refine AE fun w hi=>?_
 simp only[List.nil_append] at hi
 obtain⟨a,cap,rfl,hc,hk⟩:=hs
 have hlen:(intsV l).length=l.length*1:=by rw[intsV_len];omega
 refine Ak Tryz.func141 rfl rfl (hi) ?_
 repeat' (first|refine Ag rfl ?_|refine Aj rfl ?_|refine Al ?_|refine An ?_|refine A6 ?_|refine Ab 0 ?_;try refine Za rfl (Aa N6 ?_)|refine Ab 1 ?_;try refine Zm rfl (Zv (Ap rfl U59 rfl) (Zm rfl (Aa N6 ?_))))
 refine A1 (E':=(fun k:Nat=>[(0,.slice a l.length cap),(1,fv),(7,.int .i64 (l.length:Int)),(8,.int .i64 (k:Int))]) 0) Y14 ?_
 refine Bb (fun k:Nat=>k≤l.length∧∀j (hj:j < k) (hj2:j < l.length),p l[j]=false) (fun k=>l.length - k) (fun k:Nat=>[(0,.slice a l.length cap),(1,fv),(7,.int .i64 (l.length:Int)),(8,.int .i64 (k:Int))]) (fun _=>F) ?_ 0 ⟨by omega,fun j hj=>by omega⟩
 rintro k ⟨k1,k2⟩ ih
 try dsimp only at k1 k2 ih ⊢
 by_cases hlt:k < l.length
 · rcases hk with h|⟨b,off,rfl,hkn⟩
   · rw[h] at hlen;simp only[List.length_nil] at hlen;omega
   · have hcell:Kn S w0 F b (off+((k:Nat):Int).toNat*1) (.int .i64 l[k]):=by have:=hkn k (by rw[hlen];omega);simpa [intsV] using this
     obtain⟨f,vs,hg,he,hq⟩:=hp l[k] (List.getElem_mem hlt)
     cases hpk:p l[k] with
     | true=>
       rw[hpk] at hq
       repeat' (first|refine Ag rfl ?_|refine Aj rfl ?_|refine Al ?_|refine An ?_|refine A5 rfl ?_|refine A6 ?_|refine AB ?_|refine AM Tryz.func141 rfl (fun w_ hi_=>?_)|refine Ab 2 ?_;try refine Zv (A7 rfl rfl Y2) ?_;try refine Aa N6 ?_|refine Ab 3 ?_;try refine Zm rfl (Za rfl (Aa N6 ?_))|refine Ab 4 ?_;try refine Zm rfl (Zm rfl (Zm rfl (Zv (Am U59 sz3 rfl rfl Y9 Y9) ?_)));try refine Zv (A2 U3 rfl rfl hcell) (Zv (Aw (CallR.fv rfl rfl hg he) hq) (Aa N6 ?_))|refine Ab 5 ?_;try refine Zm rfl (Za rfl (Aa N6 ?_)))
       rw[idx_at hlt (fun j hj=>k2 j hj _) hpk]
       exact⟨[],⟨rfl,rfl⟩,hi_⟩
     | false=>
       rw[hpk] at hq
       repeat' (first|refine Ag rfl ?_|refine Aj rfl ?_|refine Al ?_|refine An ?_|refine A5 rfl ?_|refine Az rfl ?_|refine A6 ?_|refine AH ?_|refine AB ?_|refine Ab 2 ?_;try refine Zv (A7 rfl rfl Y2) ?_;try refine Aa N6 ?_|refine Ab 3 ?_;try refine Zm rfl (Za rfl (Aa N6 ?_))|refine Ab 4 ?_;try refine Zm rfl (Zm rfl (Zm rfl (Zv (Am U59 sz3 rfl rfl Y9 Y9) ?_)));try refine Zv (A2 U3 rfl rfl hcell) (Zv (Aw (CallR.fv rfl rfl hg he) hq) (Aa N6 ?_))|refine Ab 6 ?_;try refine Zv (AD rfl rfl Y9 Y9) ?_;try refine Zm rfl (Aa N6 ?_))
       refine A1 Y10 (ih (k+1) ⟨by omega,fun j hj hj2=>by(by_cases e:j=k;subst e;exact hpk;exact k2 j Y9 hj2)⟩ Y9)
 · repeat' (first|refine Ag rfl ?_|refine Al ?_|refine An ?_|refine Az rfl ?_|refine Bl rfl ?_|refine AM Tryz.func141 rfl (fun w_ hi_=>?_)|refine Ab 2 ?_;try refine Zv (A7 rfl rfl Y2) ?_;try refine Aa N6 ?_|refine Ab 7 ?_;try refine Za rfl (Aa N6 ?_))
   rw[idx_none fun j hj=>k2 j Y9 hj]
   exact⟨[],⟨rfl,rfl⟩,hi_⟩
theorem has_int {l:List (Int)} {v fv:Value} {p:(Int)→Bool} (hs:SlK S w0 F (intsV l) l.length v) (hl:l.length≤65535) (hp:∀x∈l,Tells S w0 F fv (.int .i64 x) (p x)):
 SLF Tryz.prog S w0 F 109 [v,fv] [] fun e post=>e=.returned (.bool (l.any p))∧post=[]:=by
 refine AE fun w hi=>?_
 simp only[List.nil_append] at hi
 have hq:=index_int hs hl hp
 rw[idx_any]
 generalize idxOf p l=i at *
 refine Ak Tryz.func109 rfl rfl (hi) ?_
 by_cases h0:0≤i
 · rw [decide_eq_true h0]
   repeat' (first|refine Ag rfl ?_|refine Aj rfl ?_|refine Al ?_|refine An ?_|refine AM Tryz.func109 rfl (fun w_ hi_=>?_)|refine Ab 0 ?_;try refine Za rfl (Aa N15 ?_)|refine Ab 1 ?_;try refine Zm rfl (Zm rfl (Zv (Aw (CallR.val rfl en141) hq) (Zv (Bj rfl rfl Y2) ?_)));try refine Za rfl (Aa N15 ?_))
   exact⟨[],⟨rfl,rfl⟩,hi_⟩
 · rw [decide_eq_false h0]
   repeat' (first|refine Ag rfl ?_|refine Aj rfl ?_|refine Al ?_|refine An ?_|refine AM Tryz.func109 rfl (fun w_ hi_=>?_)|refine Ab 0 ?_;try refine Za rfl (Aa N15 ?_)|refine Ab 1 ?_;try refine Zm rfl (Zm rfl (Zv (Aw (CallR.val rfl en141) hq) (Zv (Bj rfl rfl Y2) ?_)));try refine Za rfl (Aa N15 ?_))
   exact⟨[],⟨rfl,rfl⟩,hi_⟩
theorem index_when {l:List (Bs×Int)} {v fv:Value} {p:(Bs×Int)→Bool} (hs:SlK S w0 F (whensV l) l.length v) (hl:l.length≤65535) (hp:∀x∈l,Tells S w0 F fv (.agg #[str x.1,.int .i64 x.2]) (p x)):
 SLF Tryz.prog S w0 F 142 [v,fv] [] fun e post=>e=.returned (.int .i64 (idxOf p l))∧post=[]:=by
 refine AE fun w hi=>?_
 simp only[List.nil_append] at hi
 obtain⟨a,cap,rfl,hc,hk⟩:=hs
 have hlen:(whensV l).length=l.length*2:=by rw[Db]
 refine Ak Tryz.func142 rfl rfl (hi) ?_
 repeat' (first|refine Ag rfl ?_|refine Aj rfl ?_|refine Al ?_|refine An ?_|refine A6 ?_|refine Ab 0 ?_;try refine Za rfl (Aa N6 ?_)|refine Ab 1 ?_;try refine Zm rfl (Zv (Ap rfl U66 rfl) (Zm rfl (Aa N6 ?_))))
 refine A1 (E':=(fun k:Nat=>[(0,.slice a l.length cap),(1,fv),(7,.int .i64 (l.length:Int)),(8,.int .i64 (k:Int))]) 0) Y14 ?_
 refine Bb (fun k:Nat=>k≤l.length∧∀j (hj:j < k) (hj2:j < l.length),p l[j]=false) (fun k=>l.length - k) (fun k:Nat=>[(0,.slice a l.length cap),(1,fv),(7,.int .i64 (l.length:Int)),(8,.int .i64 (k:Int))]) (fun _=>F) ?_ 0 ⟨by omega,fun j hj=>by omega⟩
 rintro k ⟨k1,k2⟩ ih
 try dsimp only at k1 k2 ih ⊢
 by_cases hlt:k < l.length
 · rcases hk with h|⟨b,off,rfl,hkn⟩
   · rw[h] at hlen;simp only[List.length_nil] at hlen;omega
   · have hcell:∀j (h:j < (#[str l[k].1,.int .i64 l[k].2]).size),Kn S w0 F b (off+((k:Nat):Int).toNat*2+j) (#[str l[k].1,.int .i64 l[k].2])[j]:=by
      intro j h
      have h2:j < 2:=h
      have:=C9 (fun p:Bs×Int=>[str p.1,Value.int .i64 p.2]) (fun _=>rfl) l k j Y9 h2
      obtain⟨h3,h4⟩:=List.getElem?_eq_some_iff.1 (this.trans (List.getElem?_eq_getElem (show j < [str l[k].1,Value.int .i64 l[k].2].length from h2)))
      have h5:Kn S w0 F b (off+(k*2+j)) ((rowV (fun p:Bs×Int=>[str p.1,Value.int .i64 p.2]) l)[k*2+j]'h3):=hkn (k*2+j) h3
      rw[h4] at h5
      rw[show off+((k:Nat):Int).toNat*2+j=off+(k*2+j) by simp;omega]
      simpa using h5
     obtain⟨f,vs,hg,he,hq⟩:=hp l[k] (List.getElem_mem hlt)
     cases hpk:p l[k] with
     | true=>
       rw[hpk] at hq
       repeat' (first|refine Ag rfl ?_|refine Aj rfl ?_|refine Al ?_|refine An ?_|refine A5 rfl ?_|refine A6 ?_|refine AB ?_|refine AM Tryz.func142 rfl (fun w_ hi_=>?_)|refine Ab 2 ?_;try refine Zv (A7 rfl rfl Y2) ?_;try refine Aa N6 ?_|refine Ab 3 ?_;try refine Zm rfl (Za rfl (Aa N6 ?_))|refine Ab 4 ?_;try refine Zm rfl (Zm rfl (Zm rfl (Zv (Am U66 sz75 rfl rfl Y9 Y9) ?_)));try refine Zv (AJ (cs:= #[str l[k].1,.int .i64 l[k].2]) U75 rfl inf75 rfl hcell rfl) (Zv (Aw (CallR.fv rfl rfl hg he) hq) (Aa N6 ?_))|refine Ab 5 ?_;try refine Zm rfl (Za rfl (Aa N6 ?_)))
       rw[idx_at hlt (fun j hj=>k2 j hj _) hpk]
       exact⟨[],⟨rfl,rfl⟩,hi_⟩
     | false=>
       rw[hpk] at hq
       repeat' (first|refine Ag rfl ?_|refine Aj rfl ?_|refine Al ?_|refine An ?_|refine A5 rfl ?_|refine Az rfl ?_|refine A6 ?_|refine AH ?_|refine AB ?_|refine Ab 2 ?_;try refine Zv (A7 rfl rfl Y2) ?_;try refine Aa N6 ?_|refine Ab 3 ?_;try refine Zm rfl (Za rfl (Aa N6 ?_))|refine Ab 4 ?_;try refine Zm rfl (Zm rfl (Zm rfl (Zv (Am U66 sz75 rfl rfl Y9 Y9) ?_)));try refine Zv (AJ (cs:= #[str l[k].1,.int .i64 l[k].2]) U75 rfl inf75 rfl hcell rfl) (Zv (Aw (CallR.fv rfl rfl hg he) hq) (Aa N6 ?_))|refine Ab 6 ?_;try refine Zv (AD rfl rfl Y9 Y9) ?_;try refine Zm rfl (Aa N6 ?_))
       refine A1 Y10 (ih (k+1) ⟨by omega,fun j hj hj2=>by(by_cases e:j=k;subst e;exact hpk;exact k2 j Y9 hj2)⟩ Y9)
 · repeat' (first|refine Ag rfl ?_|refine Al ?_|refine An ?_|refine Az rfl ?_|refine Bl rfl ?_|refine AM Tryz.func142 rfl (fun w_ hi_=>?_)|refine Ab 2 ?_;try refine Zv (A7 rfl rfl Y2) ?_;try refine Aa N6 ?_|refine Ab 7 ?_;try refine Za rfl (Aa N6 ?_))
   rw[idx_none fun j hj=>k2 j Y9 hj]
   exact⟨[],⟨rfl,rfl⟩,hi_⟩
theorem has_when {l:List (Bs×Int)} {v fv:Value} {p:(Bs×Int)→Bool} (hs:SlK S w0 F (whensV l) l.length v) (hl:l.length≤65535) (hp:∀x∈l,Tells S w0 F fv (.agg #[str x.1,.int .i64 x.2]) (p x)):
 SLF Tryz.prog S w0 F 111 [v,fv] [] fun e post=>e=.returned (.bool (l.any p))∧post=[]:=by
 refine AE fun w hi=>?_
 simp only[List.nil_append] at hi
 have hq:=index_when hs hl hp
 rw[idx_any]
 generalize idxOf p l=i at *
 refine Ak Tryz.func111 rfl rfl (hi) ?_
 by_cases h0:0≤i
 · rw [decide_eq_true h0]
   repeat' (first|refine Ag rfl ?_|refine Aj rfl ?_|refine Al ?_|refine An ?_|refine AM Tryz.func111 rfl (fun w_ hi_=>?_)|refine Ab 0 ?_;try refine Za rfl (Aa N15 ?_)|refine Ab 1 ?_;try refine Zm rfl (Zm rfl (Zv (Aw (CallR.val rfl en142) hq) (Zv (Bj rfl rfl Y2) ?_)));try refine Za rfl (Aa N15 ?_))
   exact⟨[],⟨rfl,rfl⟩,hi_⟩
 · rw [decide_eq_false h0]
   repeat' (first|refine Ag rfl ?_|refine Aj rfl ?_|refine Al ?_|refine An ?_|refine AM Tryz.func111 rfl (fun w_ hi_=>?_)|refine Ab 0 ?_;try refine Za rfl (Aa N15 ?_)|refine Ab 1 ?_;try refine Zm rfl (Zm rfl (Zv (Aw (CallR.val rfl en142) hq) (Zv (Bj rfl rfl Y2) ?_)));try refine Za rfl (Aa N15 ?_))
   exact⟨[],⟨rfl,rfl⟩,hi_⟩
theorem index_ins {l:List (InsM×Value)} {v fv:Value} {p:(InsM×Value)→Bool} (hs:SlK S w0 F (rowV insP l) l.length v) (hl:l.length≤65535) (hp:∀x∈l,Tells S w0 F fv (.agg (insP x).toArray) (p x)):
 SLF Tryz.prog S w0 F 103 [v,fv] [] fun e post=>e=.returned (.int .i64 (idxOf p l))∧post=[]:=by
 refine AE fun w hi=>?_
 simp only[List.nil_append] at hi
 obtain⟨a,cap,rfl,hc,hk⟩:=hs
 have hlen:(rowV insP l).length=l.length*8:=by rw[Ba insP C7]
 refine Ak Tryz.func103 rfl rfl (hi) ?_
 repeat' (first|refine Ag rfl ?_|refine Aj rfl ?_|refine Al ?_|refine An ?_|refine A6 ?_|refine Ab 0 ?_;try refine Za rfl (Aa N6 ?_)|refine Ab 1 ?_;try refine Zm rfl (Zv (Ap rfl U65 rfl) (Zm rfl (Aa N6 ?_))))
 refine A1 (E':=(fun k:Nat=>[(0,.slice a l.length cap),(1,fv),(7,.int .i64 (l.length:Int)),(8,.int .i64 (k:Int))]) 0) Y14 ?_
 refine Bb (fun k:Nat=>k≤l.length∧∀j (hj:j < k) (hj2:j < l.length),p l[j]=false) (fun k=>l.length - k) (fun k:Nat=>[(0,.slice a l.length cap),(1,fv),(7,.int .i64 (l.length:Int)),(8,.int .i64 (k:Int))]) (fun _=>F) ?_ 0 ⟨by omega,fun j hj=>by omega⟩
 rintro k ⟨k1,k2⟩ ih
 try dsimp only at k1 k2 ih ⊢
 by_cases hlt:k < l.length
 · rcases hk with h|⟨b,off,rfl,hkn⟩
   · rw[h] at hlen;simp only[List.length_nil] at hlen;omega
   · have hcell:∀j (h:j < ((insP l[k]).toArray).size),Kn S w0 F b (off+((k:Nat):Int).toNat*8+j) ((insP l[k]).toArray)[j]:=by
      intro j h
      have h2:j < 8:=h
      have:=C9 insP C7 l k j Y9 h2
      obtain⟨h3,h4⟩:=List.getElem?_eq_some_iff.1 (this.trans (List.getElem?_eq_getElem (show j < (insP l[k]).length from h2)))
      have h5:=hkn (k*8+j) h3
      rw[h4] at h5
      rw[show off+((k:Nat):Int).toNat*8+j=off+(k*8+j) by simp;omega]
      simpa using h5
     obtain⟨f,vs,hg,he,hq⟩:=hp l[k] (List.getElem_mem hlt)
     cases hpk:p l[k] with
     | true=>
       rw[hpk] at hq
       repeat' (first|refine Ag rfl ?_|refine Aj rfl ?_|refine Al ?_|refine An ?_|refine A5 rfl ?_|refine A6 ?_|refine AB ?_|refine AM Tryz.func103 rfl (fun w_ hi_=>?_)|refine Ab 2 ?_;try refine Zv (A7 rfl rfl Y2) ?_;try refine Aa N6 ?_|refine Ab 3 ?_;try refine Zm rfl (Za rfl (Aa N6 ?_))|refine Ab 4 ?_;try refine Zm rfl (Zm rfl (Zm rfl (Zv (Am U65 sz73 rfl rfl Y9 Y9) ?_)));try refine Zv (AJ (cs:=(insP l[k]).toArray) U73 rfl inf73 rfl hcell rfl) (Zv (Aw (CallR.fv rfl rfl hg he) hq) (Aa N6 ?_))|refine Ab 5 ?_;try refine Zm rfl (Za rfl (Aa N6 ?_)))
       rw[idx_at hlt (fun j hj=>k2 j hj _) hpk]
       exact⟨[],⟨rfl,rfl⟩,hi_⟩
     | false=>
       rw[hpk] at hq
       repeat' (first|refine Ag rfl ?_|refine Aj rfl ?_|refine Al ?_|refine An ?_|refine A5 rfl ?_|refine Az rfl ?_|refine A6 ?_|refine AH ?_|refine AB ?_|refine Ab 2 ?_;try refine Zv (A7 rfl rfl Y2) ?_;try refine Aa N6 ?_|refine Ab 3 ?_;try refine Zm rfl (Za rfl (Aa N6 ?_))|refine Ab 4 ?_;try refine Zm rfl (Zm rfl (Zm rfl (Zv (Am U65 sz73 rfl rfl Y9 Y9) ?_)));try refine Zv (AJ (cs:=(insP l[k]).toArray) U73 rfl inf73 rfl hcell rfl) (Zv (Aw (CallR.fv rfl rfl hg he) hq) (Aa N6 ?_))|refine Ab 6 ?_;try refine Zv (AD rfl rfl Y9 Y9) ?_;try refine Zm rfl (Aa N6 ?_))
       refine A1 Y10 (ih (k+1) ⟨by omega,fun j hj hj2=>by(by_cases e:j=k;subst e;exact hpk;exact k2 j Y9 hj2)⟩ Y9)
 · repeat' (first|refine Ag rfl ?_|refine Al ?_|refine An ?_|refine Az rfl ?_|refine Bl rfl ?_|refine AM Tryz.func103 rfl (fun w_ hi_=>?_)|refine Ab 2 ?_;try refine Zv (A7 rfl rfl Y2) ?_;try refine Aa N6 ?_|refine Ab 7 ?_;try refine Za rfl (Aa N6 ?_))
   rw[idx_none fun j hj=>k2 j Y9 hj]
   exact⟨[],⟨rfl,rfl⟩,hi_⟩
theorem has_ins {l:List (InsM×Value)} {v fv:Value} {p:(InsM×Value)→Bool} (hs:SlK S w0 F (rowV insP l) l.length v) (hl:l.length≤65535) (hp:∀x∈l,Tells S w0 F fv (.agg (insP x).toArray) (p x)):
 SLF Tryz.prog S w0 F 72 [v,fv] [] fun e post=>e=.returned (.bool (l.any p))∧post=[]:=by
 refine AE fun w hi=>?_
 simp only[List.nil_append] at hi
 have hq:=index_ins hs hl hp
 rw[idx_any]
 generalize idxOf p l=i at *
 refine Ak Tryz.func72 rfl rfl (hi) ?_
 by_cases h0:0≤i
 · rw [decide_eq_true h0]
   repeat' (first|refine Ag rfl ?_|refine Aj rfl ?_|refine Al ?_|refine An ?_|refine AM Tryz.func72 rfl (fun w_ hi_=>?_)|refine Ab 0 ?_;try refine Za rfl (Aa N15 ?_)|refine Ab 1 ?_;try refine Zm rfl (Zm rfl (Zv (Aw (CallR.val rfl en103) hq) (Zv (Bj rfl rfl Y2) ?_)));try refine Za rfl (Aa N15 ?_))
   exact⟨[],⟨rfl,rfl⟩,hi_⟩
 · rw [decide_eq_false h0]
   repeat' (first|refine Ag rfl ?_|refine Aj rfl ?_|refine Al ?_|refine An ?_|refine AM Tryz.func72 rfl (fun w_ hi_=>?_)|refine Ab 0 ?_;try refine Za rfl (Aa N15 ?_)|refine Ab 1 ?_;try refine Zm rfl (Zm rfl (Zv (Aw (CallR.val rfl en103) hq) (Zv (Bj rfl rfl Y2) ?_)));try refine Za rfl (Aa N15 ?_))
   exact⟨[],⟨rfl,rfl⟩,hi_⟩
end
end Go.Sl
namespace Go.Sl
def symOk (s:Bs):Bool:=decide (1≤s.length) && decide (s.length≤60) && decide (s≠[45]) && s.all fun c=>decide (33≤c.toNat) && decide (c.toNat≤126)
def formR (op:Int):Bs:=
 if op=1 then [116,108] else if op=2∨op=11∨op=36 then [116,97]
 else if op=3∨op=4∨op=5∨op=6∨op=7∨op=8∨op=9∨op=10∨op=34 then [116,97,98]
 else if op=12 then [116] else if op=20 then [97,108,104] else if op=21∨op=22∨op=40∨op=50∨op=51∨op=52∨op=53∨op=54 then [97]
 else if op=23 then [97,98] else if op=24∨op=38 then [97,110] else if op=30∨op=37 then [116,110]
 else if op=31∨op=32∨op=39∨op=55 then [116,97,110] else if op=33 then [97,98,110] else if op=35 then [97,98,103] else []
def has (f:Bs) (c:Int):Bool:=f.any fun x=>decide ((x.toNat:Int)=c)
def inR (n b:Int):Bool:=decide (0≤n) && decide (n < b)
def insR (n:Int) (x:InsM):Bool:=
 let f:=formR x.op
 if f=[] then false
 else if has f 116 && !inR x.to n || !has f 116 && decide (x.to≠0)|| has f 97 && !inR x.a n || !has f 97 && decide (x.a≠0)|| has f 98 && !inR x.b n || !has f 98 && decide (x.b≠0) then false
 else if !has f 108 && decide (x.lo≠0)|| !has f 104 && decide (x.hi≠0)|| decide (x.lo < -1000000000)|| decide (1000000000 < x.lo)|| decide (x.hi < -1000000000)|| decide (1000000000 < x.hi)|| has f 104 && decide (x.hi < x.lo) then false
 else if has f 110 && !symOk x.nm || !has f 110 && decide (x.nm≠[]) then false
 else if has f 103 then decide (x.args.length=1) && inR (arg1 x.args) n else decide (x.args.length=0)
def inP (n a b:Int):Bool:=decide (a≤n) && decide (n≤b)
def wantP (n:Int):LI→InsM→Bool×InsM
 | .to,x=>(inP x.to 0 (n - 1),{x with to:=0})
 | .a,x=>(inP x.a 0 (n - 1),{x with a:=0})
 | .b,x=>(inP x.b 0 (n - 1),{x with b:=0})
 | .lo,x=>(inP x.lo (-1000000000) 1000000000,if x.op≠20 then {x with lo:=0} else x)
 | .hi,x=>(inP x.hi x.lo 1000000000,{x with lo:=0,hi:=0})
 | .one,x=>(decide (x.args.length=1) && inP (arg1 x.args) 0 (n - 1),{x with args:=[]})
 | .sh,x=>(symOk x.nm,{x with nm:=[]})
 | .fi,x=>(symOk x.nm,{x with nm:=[]})
 | .me,x=>(symOk x.nm,{x with nm:=[]})
 | .gl,x=>(symOk x.nm,{x with nm:=[]})
def restP (x:InsM):Bool:=decide (x.to=0) && decide (x.a=0) && decide (x.b=0) && decide (x.lo=0) && decide (x.hi=0) && decide (x.nm=[]) && decide (x.args.length=0)
def wantsP (n:Int):List LI→InsM→Bool
 | [],x=>restP x
 | l::r,x=>if (wantP n l x).1 then wantsP n r (wantP n l x).2 else false
def insPr (n:Int) (x:InsM):Bool:=match formI x.op with
 | some ls=>wantsP n ls x
 | none=>false
theorem inP_eq (n b:Int):inP n 0 (b - 1)=inR n b:=by
 unfold inP inR
 congr 1
 exact decide_eq_decide.2 Y9
def opsL:List Int:=[1,12,20,23,24,30,37,31,32,39,55,33,35,38,2,11,36,3,4,5,6,7,8,9,10,34,21,22,40,50,51,52,53,54]
theorem formI_some {op:Int} {ls:List LI} (h:formI op=some ls):op∈opsL:=by
 unfold formI at h
 cases hf:formTab.find? (fun p=>p.1 == op) with
 | none=>rw[hf] at h;cases h
 | some p=>
   have h1:=List.find?_some hf
   have h2:=List.mem_of_find?_eq_some hf
   have e:p.1=op:=by simpa using h1
   have:p.1∈formTab.map (·.1):=List.mem_map_of_mem h2
   rw[e] at this
   exact this
theorem formR_nil {op:Int} (h:op∉opsL):formR op=[]:=by
 simp only[opsL,List.mem_cons,List.not_mem_nil,or_false,not_or] at h
 unfold formR
 repeat rw[if_neg Y9]
set_option maxHeartbeats 4000000 in
theorem insPr_R (n:Int) (x:InsM):insPr n x=insR n x:=by
 by_cases h:x.op∈opsL
 · obtain ⟨op,to,a,b,lo,hi,nm,args⟩:=x
   simp only[opsL,List.mem_cons,List.not_mem_nil,or_false] at h
   rcases h with rfl|rfl|rfl|rfl|rfl|rfl|rfl|rfl|rfl|rfl|rfl|rfl|rfl|rfl|rfl|rfl|rfl|rfl|rfl|rfl|rfl|rfl|rfl|rfl|rfl|rfl|rfl|rfl|rfl|rfl|rfl|rfl|rfl|rfl
   all_goals
    first
     | rw[show insPr n _=wantsP n [.to,.lo] _ from rfl]|rw[show insPr n _=wantsP n [.to] _ from rfl]|rw[show insPr n _=wantsP n [.a,.lo,.hi] _ from rfl]|rw[show insPr n _=wantsP n [.a,.b] _ from rfl]
     | rw[show insPr n _=wantsP n [.a,.sh] _ from rfl]|rw[show insPr n _=wantsP n [.to,.sh] _ from rfl]|rw[show insPr n _=wantsP n [.to,.gl] _ from rfl]|rw[show insPr n _=wantsP n [.to,.a,.sh] _ from rfl]
     | rw[show insPr n _=wantsP n [.to,.a,.fi] _ from rfl]|rw[show insPr n _=wantsP n [.to,.a,.me] _ from rfl]|rw[show insPr n _=wantsP n [.a,.b,.fi] _ from rfl]|rw[show insPr n _=wantsP n [.a,.b,.one] _ from rfl]
     | rw[show insPr n _=wantsP n [.a,.gl] _ from rfl]|rw[show insPr n _=wantsP n [.to,.a] _ from rfl]|rw[show insPr n _=wantsP n [.to,.a,.b] _ from rfl]|rw[show insPr n _=wantsP n [.a] _ from rfl]
    rw[Bool.eq_iff_iff]
    simp[wantsP,wantP,restP,inR,insR,formR,has,inP]
    grind
 · unfold insPr insR
   rw[formR_nil h]
   cases hf:formI x.op with
   | none=>rfl
   | some ls=>exact absurd (formI_some hf) h
def formEnd (k:Int):Bs:=
 if k=1 then [116] else if k=2 then [97,116,101] else if k=3 then [97] else if k=4 then [120] else if k=5∨k=6 then [114,103,97,116,119]
 else if k=7 then [97,98,116,119] else if k=8 then [97,116,119] else if k=9 then [99] else []
def whensOk (nb:Int):List Bs→List (Bs×Int)→Bool
 | _,[]=>true
 | seen,w::r=>symOk w.1 && inR w.2 nb && !(seen.contains w.1) && whensOk nb (seen++[w.1]) r
def handlersR (nb:Int) (x:EndM):Bool:=decide (x.ws.length≤7) && (decide (x.ot= -1)|| inR x.ot nb) && whensOk nb [] x.ws
def endR (n nb:Int) (x:EndM):Bool:=
 let f:=formEnd x.kd
 if f=[] then false
 else
  let none:=(decide (x.kd=3)|| decide (x.kd=5)|| decide (x.kd=6)) && decide (x.a= -1)
  if has f 97 && !none && !inR x.a n || has f 99 && (decide (x.a < 1)|| decide (9 < x.a))|| !has f 97 && !has f 99 && decide (x.a≠0) then false
  else if has f 98 && !inR x.b n || !has f 98 && decide (x.b≠0)|| has f 116 && !inR x.to nb || !has f 116 && decide (x.to≠0)|| has f 101 && !inR x.el nb || !has f 101 && decide (x.el≠0) then false
  else if (has f 120 || has f 114) && !symOk x.nm || !(has f 120 || has f 114) && decide (x.nm≠[])|| !has f 103 && decide (0 < x.args.length)|| decide (7 < x.args.length) then false
  else if x.args.all fun a=>inR a n then if has f 119 then handlersR nb x else decide (x.ws.length=0) && decide (x.ot= -1)
  else false
structure EndS where
 ok:Bool
 args:Bool
 whens:Bool
 rest:EndM
def endLook (n nb:Int) (x:EndM):EndS:=
 let r:={x with kd:=0,ws:=[],args:=[]}
 if x.kd=1 then ⟨inR x.to nb,false,false,{r with to:=0}⟩
 else if x.kd=2 then ⟨inR x.a n && inR x.to nb && inR x.el nb,false,false,{r with a:=0,to:=0,el:=0}⟩
 else if x.kd=3 then ⟨decide (x.a= -1)|| inR x.a n,false,false,{r with a:=0}⟩
 else if x.kd=4 then ⟨symOk x.nm,false,false,{r with nm:=[]}⟩
 else if x.kd=5∨x.kd=6 then ⟨symOk x.nm && (decide (x.a= -1)|| inR x.a n) && inR x.to nb,true,true,{r with nm:=[],a:=0,to:=0}⟩
 else if x.kd=7 then ⟨inR x.a n && inR x.b n && inR x.to nb,false,true,{r with a:=0,b:=0,to:=0}⟩
 else if x.kd=8 then ⟨inR x.a n && inR x.to nb,false,true,{r with a:=0,to:=0}⟩
 else if x.kd=9 then ⟨inP x.a 1 9,false,false,{r with a:=0}⟩
 else ⟨false,false,false,r⟩
def endPr (n nb:Int) (x:EndM):Bool:=
 let q:=endLook n nb x
 if !q.ok || !q.args && decide (0 < x.args.length)|| decide (7 < x.args.length)|| x.args.any (fun a=> !inR a n) then false
 else if q.whens && decide (x.ot ≠ -1) && !inR x.ot nb then false
 else
  let ot:=if q.whens then -1 else q.rest.ot
  if !q.whens && decide (0 < x.ws.length) then false
  else if decide (x.ws.length≤7) && whensOk nb [] x.ws then decide (q.rest.a=0) && decide (q.rest.b=0) && decide (q.rest.to=0) && decide (q.rest.el=0) && decide (q.rest.nm=[]) && decide (ot= -1)
  else false
theorem any_not {α:Type} (l:List α) (p:α→Bool):l.any (fun a=> !p a)= !l.all p:=by
 induction l with
 | nil=>rfl
 | cons a l ih=>simp[ih]
set_option maxHeartbeats 4000000 in
theorem endPr_R (n nb:Int) (x:EndM):endPr n nb x=endR n nb x:=by
 obtain⟨kd,a,b,to,el,nm,args,ws,ot⟩:=x
 unfold endPr endR
 rw[any_not]
 by_cases h:kd=1∨kd=2∨kd=3∨kd=4∨kd=5∨kd=6∨kd=7∨kd=8∨kd=9
 · rcases h with rfl|rfl|rfl|rfl|rfl|rfl|rfl|rfl|rfl
   all_goals
    rw[Bool.eq_iff_iff]
    simp[endLook,formEnd,has,handlersR,inP]
    generalize args.all (fun a=>inR a n)=q
    generalize hw:whensOk nb [] ws=q2
    cases ws with
    | nil=>
      simp[whensOk] at hw
      subst hw
      grind
    | cons w ws=>grind
 · rw [not_or,not_or,not_or,not_or,not_or,not_or,not_or,not_or] at h
   simp[endLook,formEnd,h]
def bsLt (a b:Bs):Bool:=Go.Op.bytesLess a b
def raisesOk:List Bs→Bool
 | []=>true
 | [a]=>symOk a
 | a::b::r=>symOk a && bsLt a b && raisesOk (b::r)
def blkOk (n nb:Int) (b:BlkM):Bool:=decide (b.ins.length≤200) && endR n nb b.en && b.ins.all fun x=>insR n x
def sndOk (f:FlowM):Bool:=decide (f.regs.length≤400) && decide (0≤f.ac) && decide (f.ac≤7) && decide (f.ac≤(f.regs.length:Int)) && decide (f.res≤2) && decide (f.raises.length≤6) && decide (1≤f.blks.length) && decide (f.blks.length≤600) &&
 f.regs.all (fun r=>decide (r=1)|| decide (r=2)) && raisesOk f.raises && f.blks.all (blkOk f.regs.length f.blks.length)
def chkOk (f:FlowM):Bool:=symOk f.nm && sndOk f
end Go.Sl
namespace Go.Sl
open Go Go.RowKit Go.Shelf Go.Proofs
attribute [local irreducible] Calls
section
variable {S:Nat→Prop} {w0:World} {F:List Ent}
abbrev Yields (S:Nat→Prop) (w0:World) (F:List Ent) (f:FuncId) (vs:List Value) (v:Value):Prop:=SLF Tryz.prog S w0 F f vs [] fun e post=>e=.returned v∧post=[]
theorem in_c (n a b:Int):Yields S w0 F 69 [.int .i64 n,.int .i64 a,.int .i64 b] (.bool (inP n a b)):=by
 refine AE fun w hi=>?_
 simp only[List.nil_append] at hi
 refine Ak Tryz.func69 rfl rfl (hi) ?_
 by_cases h1:a≤n
 · by_cases h2:n≤b
   · rw [show inP n a b=true by simp[inP,h1,h2]]
     repeat' (first|refine Ag rfl ?_|refine Aj rfl ?_|refine Al ?_|refine An ?_|refine AM Tryz.func69 rfl (fun w_ hi_=>?_)|refine Ab 0 ?_;try refine Za rfl (Aa N40 ?_)|refine Ab 1 ?_;try refine Zm rfl (Zm rfl (Zv (Bj rfl rfl Y2) ?_));try refine Zm rfl (Zm rfl (Zm rfl (Zv (CQ rfl rfl Y2) ?_)));try refine Zv (Av rfl rfl) (Za rfl (Aa N40 ?_)))
     exact⟨[],⟨rfl,rfl⟩,hi_⟩
   · rw [show inP n a b=false by simp[inP,h1,h2]]
     repeat' (first|refine Ag rfl ?_|refine Aj rfl ?_|refine Al ?_|refine An ?_|refine AM Tryz.func69 rfl (fun w_ hi_=>?_)|refine Ab 0 ?_;try refine Za rfl (Aa N40 ?_)|refine Ab 1 ?_;try refine Zm rfl (Zm rfl (Zv (Bj rfl rfl Y2) ?_));try refine Zm rfl (Zm rfl (Zm rfl (Zv (CQ rfl rfl Y2) ?_)));try refine Zv (Av rfl rfl) (Za rfl (Aa N40 ?_)))
     exact⟨[],⟨rfl,rfl⟩,hi_⟩
 · rw [show inP n a b=false by simp[inP,h1]]
   repeat' (first|refine Ag rfl ?_|refine Aj rfl ?_|refine Al ?_|refine An ?_|refine AM Tryz.func69 rfl (fun w_ hi_=>?_)|refine Ab 0 ?_;try refine Za rfl (Aa N40 ?_)|refine Ab 1 ?_;try refine Zm rfl (Zm rfl (Zv (Bj rfl rfl Y2) ?_));try refine Zm rfl (Zk (Zk (Zk (Zv (A0 rfl rfl) (Za rfl (Aa N40 ?_)))))))
   exact⟨[],⟨rfl,rfl⟩,hi_⟩
theorem symc_c (c:Int):Yields S w0 F 101 [.int .u8 c] (.bool (decide (c < 33)|| decide (126 < c))):=by
 refine AE fun w hi=>?_
 simp only[List.nil_append] at hi
 refine Ak Tryz.func101 rfl rfl (hi) ?_
 by_cases h1:c < 33
 · rw [show(decide (c < 33)|| decide (126 < c))=true by simp[h1]]
   repeat' (first|refine Ag rfl ?_|refine Aj rfl ?_|refine Al ?_|refine An ?_|refine AM Tryz.func101 rfl (fun w_ hi_=>?_)|refine Ab 0 ?_;try refine Za rfl (Aa N19 ?_)|refine Ab 1 ?_;try refine Zm rfl (Zv (A7 rfl rfl Y2) ?_);try refine Zm rfl (Zk (Zk (Zv (Av rfl rfl) (Za rfl (Aa N19 ?_))))))
   exact⟨[],⟨rfl,rfl⟩,hi_⟩
 · by_cases h2:126 < c
   · rw [show(decide (c < 33)|| decide (126 < c))=true by simp[h2]]
     repeat' (first|refine Ag rfl ?_|refine Aj rfl ?_|refine Al ?_|refine An ?_|refine AM Tryz.func101 rfl (fun w_ hi_=>?_)|refine Ab 0 ?_;try refine Za rfl (Aa N19 ?_)|refine Ab 1 ?_;try refine Zm rfl (Zv (A7 rfl rfl Y2) ?_);try refine Zm rfl (Zm rfl (Zv (Be rfl rfl Y2) ?_));try refine Zv (A0 rfl rfl) (Za rfl (Aa N19 ?_)))
     exact⟨[],⟨rfl,rfl⟩,hi_⟩
   · rw [show(decide (c < 33)|| decide (126 < c))=false by simp[h1,h2]]
     repeat' (first|refine Ag rfl ?_|refine Aj rfl ?_|refine Al ?_|refine An ?_|refine AM Tryz.func101 rfl (fun w_ hi_=>?_)|refine Ab 0 ?_;try refine Za rfl (Aa N19 ?_)|refine Ab 1 ?_;try refine Zm rfl (Zv (A7 rfl rfl Y2) ?_);try refine Zm rfl (Zm rfl (Zv (Be rfl rfl Y2) ?_));try refine Zv (A0 rfl rfl) (Za rfl (Aa N19 ?_)))
     exact⟨[],⟨rfl,rfl⟩,hi_⟩
theorem tells_fn {f:FuncId} {fs:Array Value} {v:Value} {q:Bool} (he:Enters Tryz.prog f) (h:Yields S w0 F f (v::fs.toList) (.bool q)):Tells S w0 F (.func (.func f) #[] fs) v q:=
 ⟨f,v::fs.toList,.fn _ _ _ _ _ Y26,he,h⟩
theorem slk_bytes {bb cap:Nat} {s:Bs} {rst:List Value} {el:TypeId} {fz:Nat×Nat} {rw_:Bool} (hc:s.length≤cap):SlK S w0 (⟨bb,rw_,.cells (byv s++rst).toArray el fz⟩::F) (regV (s.map fun c=>(c.toNat:Int))) (s.map fun c=>(c.toNat:Int)).length (.slice (some ⟨bb,0,none⟩) s.length cap):=by
 refine⟨_,cap,by rw[List.length_map],by rw[List.length_map];exact hc,.inr ⟨bb,0,rfl,fun i h=>Kn.of (.head _) ?_⟩⟩
 have e:regV (s.map fun c=>(c.toNat:Int))=byv s:=by simp[regV,byv]
 simp only[e] at h ⊢
 rw[List.getElem?_toArray,List.getElem?_append_left Y9,Nat.zero_add,List.getElem?_eq_getElem h]
theorem sym_any (s:Bs):(s.map fun c=>(c.toNat:Int)).any (fun c=>decide (c < 33)|| decide (126 < c))= !s.all fun c=>decide (33≤c.toNat) && decide (c.toNat≤126):=by
 rw[List.any_map,←any_not]
 congr 1
 funext c
 simp only[Function.comp,Bool.not_and]
 congr 1
 · rw[←decide_not];exact decide_eq_decide.2 Y9
 · rw[←decide_not];exact decide_eq_decide.2 Y9
theorem sym_c (s:Bs):Yields S w0 F 68 [str s] (.bool (symOk s)):=by
 refine AE fun w hi=>?_
 simp only[List.nil_append] at hi
 refine Ak Tryz.func68 rfl rfl (hi) ?_
 by_cases h1:1≤s.length∧s.length≤60
 · have hin:∀ {F},Yields S w0 F 69 [.int .i64 (s.length:Int),.int .i64 1,.int .i64 60] (.bool true):=by
    intro F
    have:=in_c (S:=S) (w0:=w0) (F:=F) (s.length:Int) 1 60
    rwa [show inP (s.length:Int) 1 60=true by simp[inP];omega] at this
   by_cases h2:s=[45]
   · rw [show symOk s=false by simp[symOk,h2]]
     have h2':s=[45]:=h2
     repeat' (first|refine Ag rfl ?_|refine Aj rfl ?_|refine Al ?_|refine An ?_|refine AM Tryz.func68 rfl (fun w_ hi_=>?_)|refine Ab 0 ?_;try refine Za rfl (Aa N19 ?_)|refine Ab 1 ?_;try refine Zm rfl (Zv (ov_lenS rfl U9 rfl) (Zv (Aw (CallR.val rfl en69) hin) (Zm rfl (Zm rfl (Zv (ov_neqS3 rfl rfl Y24) ?_)))));try refine Zv (Av rfl rfl) (Zm rfl (Zk (Zk (Zk (Zk (Zv (A0 rfl rfl) (Za rfl (Aa N19 ?_)))))))))
     exact⟨[],⟨rfl,rfl⟩,hi_⟩
   · have hc:∀ {rst:List Value} {bb cap:Nat} {fz:Nat×Nat},s.length≤cap→Yields S w0 (⟨bb,true,.cells (byv s++rst).toArray 5 fz⟩::F) 70 [.slice (some ⟨bb,0,none⟩) s.length cap,.func (.func 101) #[] #[]] (.bool (!s.all fun c=>decide (33≤c.toNat) && decide (c.toNat≤126))):=by
      intro rst bb cap fz hc
      rw[←sym_any]
      exact has_u8 (slk_bytes hc) (by simp;omega) (fun x _=>tells_fn en101 (symc_c x))
     rw[show symOk s=(s.all fun c=>decide (33≤c.toNat) && decide (c.toNat≤126)) by simp[symOk,h1,h2]]
     generalize (s.all fun c=>decide (33≤c.toNat) && decide (c.toNat≤126))=q at *
     cases q
     · repeat' (first|refine Ag rfl ?_|refine Aj rfl ?_|refine Al ?_|refine An ?_|refine AM Tryz.func68 rfl (fun w_ hi_=>?_)|refine Ab 0 ?_;try refine Za rfl (Aa N19 ?_)|refine Ab 1 ?_;try refine Zm rfl (Zv (ov_lenS rfl U9 rfl) (Zv (Aw (CallR.val rfl en69) hin) (Zm rfl (Zm rfl (Zv (ov_neqS3 rfl rfl Y24) ?_)))));try refine Zv (Av rfl rfl) (Zm rfl (Zm rfl ?_));try((refine wo_bytes U9 U22 U5 rfl rfl rfl (fun bb cap_ hbb hcap=>?_))<;>try refine Zv (Aw (CallR.val rfl en70) (hc hcap)) (Zv (BN rfl) (Zv (Av rfl rfl) (Za rfl (Aa N19 ?_))))))
       exact⟨[],⟨rfl,rfl⟩,hi_.subset (List.sublist_cons_self _ _)⟩
     · repeat' (first|refine Ag rfl ?_|refine Aj rfl ?_|refine Al ?_|refine An ?_|refine AM Tryz.func68 rfl (fun w_ hi_=>?_)|refine Ab 0 ?_;try refine Za rfl (Aa N19 ?_)|refine Ab 1 ?_;try refine Zm rfl (Zv (ov_lenS rfl U9 rfl) (Zv (Aw (CallR.val rfl en69) hin) (Zm rfl (Zm rfl (Zv (ov_neqS3 rfl rfl Y24) ?_)))));try refine Zv (Av rfl rfl) (Zm rfl (Zm rfl ?_));try((refine wo_bytes U9 U22 U5 rfl rfl rfl (fun bb cap_ hbb hcap=>?_))<;>try refine Zv (Aw (CallR.val rfl en70) (hc hcap)) (Zv (Ci rfl) (Zv (Av rfl rfl) (Za rfl (Aa N19 ?_))))))
       exact⟨[],⟨rfl,rfl⟩,hi_.subset (List.sublist_cons_self _ _)⟩
 · have hin:∀ {F},Yields S w0 F 69 [.int .i64 (s.length:Int),.int .i64 1,.int .i64 60] (.bool false):=by
    intro F
    have:=in_c (S:=S) (w0:=w0) (F:=F) (s.length:Int) 1 60
    rwa [show inP (s.length:Int) 1 60=false by simp[inP];omega] at this
   rw[show symOk s=false by simp[symOk];intro h2 h3;omega]
   repeat' (first|refine Ag rfl ?_|refine Aj rfl ?_|refine Al ?_|refine An ?_|refine AM Tryz.func68 rfl (fun w_ hi_=>?_)|refine Ab 0 ?_;try refine Za rfl (Aa N19 ?_)|refine Ab 1 ?_;try refine Zm rfl (Zv (ov_lenS rfl U9 rfl) (Zv (Aw (CallR.val rfl en69) hin) (Zm rfl (Zk (Zk (Zv (A0 rfl rfl) (Zm rfl (Zk (Zk (Zk (Zk (Zv (A0 rfl rfl) (Za rfl (Aa N19 ?_)))))))))))))))
   exact⟨[],⟨rfl,rfl⟩,hi_⟩
structure FlowAt (S:Nat→Prop) (w0:World) (F:List Ent) (bf:Nat) (nr nb:Nat):Prop where
 regs:∃a c,Kn S w0 F bf 3 (.slice a nr c)
 blks:∃a c,Kn S w0 F bf 5 (.slice a nb c)
theorem FlowAt.up {F':List Ent} {bf nr nb:Nat} (h:FlowAt S w0 F bf nr nb) (hu:∀e∈F,e∈F'):FlowAt S w0 F' bf nr nb:=by
 obtain⟨⟨a,c,h1⟩,⟨a2,c2,h2⟩⟩:=h
 exact⟨⟨a,c,h1.mono hu⟩,⟨a2,c2,h2.mono hu⟩⟩
theorem reg1_c {bx bf nr nb:Nat} (hx:Kn S w0 F bx 0 (pv bf 0)) (hf:FlowAt S w0 F bf nr nb) (hn:nr≤65535) (r:Int):Yields S w0 F 104 [.int .i64 r,pv bx 0] (.bool (inP r 0 ((nr:Int) - 1))):=by
 refine AE fun w hi=>?_
 simp only[List.nil_append] at hi
 obtain⟨⟨a,c,h1⟩,_⟩:=hf
 refine Ak Tryz.func104 rfl rfl (hi) ?_
 repeat' (first|refine Ag rfl ?_|refine Aj rfl ?_|refine Al ?_|refine An ?_|refine AM Tryz.func104 rfl (fun w_ hi_=>?_)|refine Ab 0 ?_;try refine Za rfl (Aa N29 ?_)|refine Ab 1 ?_;try refine Zm rfl (Zv (A2 U120 rfl rfl hx) (Zv (Ah rfl) (Zf BZ rfl (Zv (A2 U22 rfl rfl h1) (Zv (Ap rfl U22 rfl) (Zv (Ca rfl rfl Y9 Y9) ?_))))));try refine Zv (Aw (CallR.val rfl en69) (in_c _ _ _)) (Za rfl (Aa N29 ?_)))
 exact⟨[],⟨rfl,rfl⟩,hi_⟩
theorem reg2_c {bx bf nr nb:Nat} (hx:Kn S w0 F bx 0 (pv bf 0)) (hf:FlowAt S w0 F bf nr nb) (hn:nr≤65535) (r:Int):Yields S w0 F 107 [.int .i64 r,pv bx 0] (.bool (inP r 0 ((nr:Int) - 1))):=by
 refine AE fun w hi=>?_
 simp only[List.nil_append] at hi
 obtain⟨⟨a,c,h1⟩,_⟩:=hf
 refine Ak Tryz.func107 rfl rfl (hi) ?_
 repeat' (first|refine Ag rfl ?_|refine Aj rfl ?_|refine Al ?_|refine An ?_|refine AM Tryz.func107 rfl (fun w_ hi_=>?_)|refine Ab 0 ?_;try refine Za rfl (Aa N29 ?_)|refine Ab 1 ?_;try refine Zm rfl (Zv (A2 U120 rfl rfl hx) (Zv (Ah rfl) (Zf BZ rfl (Zv (A2 U22 rfl rfl h1) (Zv (Ap rfl U22 rfl) (Zv (Ca rfl rfl Y9 Y9) ?_))))));try refine Zv (Aw (CallR.val rfl en69) (in_c _ _ _)) (Za rfl (Aa N29 ?_)))
 exact⟨[],⟨rfl,rfl⟩,hi_⟩
theorem blk2_c {bx bf nr nb:Nat} (hx:Kn S w0 F bx 0 (pv bf 0)) (hf:FlowAt S w0 F bf nr nb) (hn:nb≤65535) (r:Int):Yields S w0 F 108 [.int .i64 r,pv bx 0] (.bool (inP r 0 ((nb:Int) - 1))):=by
 refine AE fun w hi=>?_
 simp only[List.nil_append] at hi
 obtain⟨_,⟨a,c,h1⟩⟩:=hf
 refine Ak Tryz.func108 rfl rfl (hi) ?_
 repeat' (first|refine Ag rfl ?_|refine Aj rfl ?_|refine Al ?_|refine An ?_|refine AM Tryz.func108 rfl (fun w_ hi_=>?_)|refine Ab 0 ?_;try refine Za rfl (Aa N29 ?_)|refine Ab 1 ?_;try refine Zm rfl (Zv (A2 U120 rfl rfl hx) (Zv (Ah rfl) (Zf Bz rfl (Zv (A2 U24 rfl rfl h1) (Zv (Ap rfl U24 rfl) (Zv (Ca rfl rfl Y9 Y9) ?_))))));try refine Zv (Aw (CallR.val rfl en69) (in_c _ _ _)) (Za rfl (Aa N29 ?_)))
 exact⟨[],⟨rfl,rfl⟩,hi_⟩
theorem reg3_c {bg bx:Nat} {r:Int} {q:Bool} (hg:Kn S w0 F bg 0 (.func (.func 107) #[] #[pv bx 0])) (hq:Yields S w0 F 107 [.int .i64 r,pv bx 0] (.bool q)):Yields S w0 F 110 [.int .i64 r,pv bg 0] (.bool (!q)):=by
 refine AE fun w hi=>?_
 simp only[List.nil_append] at hi
 refine Ak Tryz.func110 rfl rfl (hi) ?_
 cases q
 · repeat' (first|refine Ag rfl ?_|refine Aj rfl ?_|refine Al ?_|refine An ?_|refine AM Tryz.func110 rfl (fun w_ hi_=>?_)|refine Ab 0 ?_;try refine Za rfl (Aa N29 ?_)|refine Ab 1 ?_;try refine Zv (A2 U176 rfl rfl hg) (Zm rfl (Zv (Aw (CallR.fv rfl rfl (.fn _ _ _ _ _ rfl) en107) hq) (Zv (Ci rfl) (Za rfl (Aa N29 ?_))))))
   exact⟨[],⟨rfl,rfl⟩,hi_⟩
 · repeat' (first|refine Ag rfl ?_|refine Aj rfl ?_|refine Al ?_|refine An ?_|refine AM Tryz.func110 rfl (fun w_ hi_=>?_)|refine Ab 0 ?_;try refine Za rfl (Aa N29 ?_)|refine Ab 1 ?_;try refine Zv (A2 U176 rfl rfl hg) (Zm rfl (Zv (Aw (CallR.fv rfl rfl (.fn _ _ _ _ _ rfl) en107) hq) (Zv (BN rfl) (Za rfl (Aa N29 ?_))))))
   exact⟨[],⟨rfl,rfl⟩,hi_⟩
theorem when4_c {bw:Nat} {h x:Bs×Int} (hw:Kn S w0 F bw 0 (str h.1)):Yields S w0 F 112 [.agg #[str x.1,.int .i64 x.2],pv bw 0] (.bool (decide (x.1=h.1))):=by
 refine AE fun w hi=>?_
 simp only[List.nil_append] at hi
 refine Ak Tryz.func112 rfl rfl (hi) ?_
 by_cases e:x.1=h.1
 · rw [decide_eq_true e]
   repeat' (first|refine Ag rfl ?_|refine Aj rfl ?_|refine Al ?_|refine An ?_|refine AM Tryz.func112 rfl (fun w_ hi_=>?_)|refine Ab 0 ?_;try refine AL rfl rfl rfl rfl (fun b_ hb_=>?_);try refine Za rfl (Aa [0,1,2,3] ?_)|refine Ab 1 ?_;try refine Zf fo75_0 rfl (Zv (Ac U9 rfl rfl Y0 Y4) ?_);try refine Zf fo75_0 rfl (Zv (A2 U9 rfl rfl hw.cons) (Zv (Ct rfl rfl Y20) ?_));try refine Za rfl (Aa [0,1,2,3] ?_))
   exact⟨[],⟨rfl,rfl⟩,hi_.subset (List.sublist_cons_self _ _)⟩
 · rw [decide_eq_false e]
   repeat' (first|refine Ag rfl ?_|refine Aj rfl ?_|refine Al ?_|refine An ?_|refine AM Tryz.func112 rfl (fun w_ hi_=>?_)|refine Ab 0 ?_;try refine AL rfl rfl rfl rfl (fun b_ hb_=>?_);try refine Za rfl (Aa [0,1,2,3] ?_)|refine Ab 1 ?_;try refine Zf fo75_0 rfl (Zv (Ac U9 rfl rfl Y0 Y4) ?_);try refine Zf fo75_0 rfl (Zv (A2 U9 rfl rfl hw.cons) (Zv (Ct rfl rfl Y20) ?_));try refine Za rfl (Aa [0,1,2,3] ?_))
   exact⟨[],⟨rfl,rfl⟩,hi_.subset (List.sublist_cons_self _ _)⟩
end
end Go.Sl
namespace Go.Sl
open Go Go.RowKit Go.Shelf Go.Proofs
attribute [local irreducible] Calls
def mKd:Kd Unit where
 num _ _ _:=.ok (77,())
 txt _ _:=.ok ([63],())
 ref _ _ _:=.ok ([63],())
 blk _:=.ok ()
theorem metMN:metTo Tryz.prog 128 "trestle/code.number" = some 186:=by kernel_rfl
theorem metMT:metTo Tryz.prog 128 "trestle/code.text" = some 188:=by kernel_rfl
theorem metMR:metTo Tryz.prog 128 "trestle/code.refer" = some 187:=by kernel_rfl
theorem metMB:metTo Tryz.prog 128 "trestle/code.block" = some 185:=by kernel_rfl
section
variable {S:Nat→Prop} {w0:World} {F:List Ent}
theorem mar_number {bm b o:Nat} {n:Int} {sz:Nat} {c:Array Value} {el:TypeId} (h:c[o]?=some (.int .i64 n)):
 SLF Tryz.prog S w0 F 186 [pv bm 0,pv b o,.int .i64 (sz:Int)] [⟨b,true,.cells c el (0,0)⟩] (fun e post=>e=.returned unitV∧post=[⟨b,true,.cells (c.setIfInBounds o (.int .i64 77)) el (0,0)⟩]):=by
 refine AE fun w hi=>?_
 simp only[List.cons_append,List.nil_append] at hi
 have hlt:=(Array.getElem?_eq_some_iff.1 h).1
 refine Ak Tryz.func186 rfl rfl (hi) ?_
 repeat' (first|refine Ag rfl ?_|refine Aj rfl ?_|refine Al ?_|refine Bp Tryz.func186 rfl (fun w_ hi_=>?_)|refine Ab 0 ?_;try refine Zm rfl (Zv (Ah rfl) ?_);try refine AK rfl rfl rfl sz3 Y3 hlt (.inr (Nat.zero_le _)) rfl rfl ?_;try refine Aa N3 ?_)
 exact⟨_,⟨rfl,rfl⟩,hi_⟩
theorem mar_text {bm b o:Nat} {n:Bs} {c:Array Value} {el:TypeId} (h:c[o]?=some (str n)):
 SLF Tryz.prog S w0 F 188 [pv bm 0,pv b o] [⟨b,true,.cells c el (0,0)⟩] (fun e post=>e=.returned unitV∧post=[⟨b,true,.cells (c.setIfInBounds o (str [63])) el (0,0)⟩]):=by
 refine AE fun w hi=>?_
 simp only[List.cons_append,List.nil_append] at hi
 have hlt:=(Array.getElem?_eq_some_iff.1 h).1
 refine Ak Tryz.func188 rfl rfl (hi) ?_
 repeat' (first|refine Ag rfl ?_|refine Aj rfl ?_|refine Al ?_|refine Bp Tryz.func188 rfl (fun w_ hi_=>?_)|refine Ab 0 ?_;try refine Zm rfl (Zv (Ah rfl) ?_);try refine AK rfl rfl rfl sz9 Y3 hlt (.inr (Nat.zero_le _)) rfl rfl ?_;try refine Aa [0,1] ?_)
 exact⟨_,⟨rfl,rfl⟩,hi_⟩
theorem mar_refer {bm b o:Nat} {n:Bs} {q:Int} {c:Array Value} {el:TypeId} (h:c[o]?=some (str n)):
 SLF Tryz.prog S w0 F 187 [pv bm 0,pv b o,.int .u8 q] [⟨b,true,.cells c el (0,0)⟩] (fun e post=>e=.returned unitV∧post=[⟨b,true,.cells (c.setIfInBounds o (str [63])) el (0,0)⟩]):=by
 refine AE fun w hi=>?_
 simp only[List.cons_append,List.nil_append] at hi
 have hlt:=(Array.getElem?_eq_some_iff.1 h).1
 refine Ak Tryz.func187 rfl rfl (hi) ?_
 repeat' (first|refine Ag rfl ?_|refine Aj rfl ?_|refine Al ?_|refine Bp Tryz.func187 rfl (fun w_ hi_=>?_)|refine Ab 0 ?_;try refine Zm rfl (Zv (Ah rfl) ?_);try refine AK rfl rfl rfl sz9 Y3 hlt (.inr (Nat.zero_le _)) rfl rfl ?_;try refine Aa N3 ?_)
 exact⟨_,⟨rfl,rfl⟩,hi_⟩
theorem mar_block {bm:Nat}:SLF Tryz.prog S w0 F 185 [pv bm 0] [] (fun e post=>e=.returned unitV∧post=[]):=by
 refine AE fun w hi=>?_
 simp only[List.nil_append] at hi
 refine Ak Tryz.func185 rfl rfl (hi) ?_
 repeat' (first|refine AB ?_|refine Bp Tryz.func185 rfl (fun w_ hi_=>?_))
 exact⟨[],⟨rfl,rfl⟩,hi_⟩
def mCod (S:Nat→Prop) (w0:World) (bm:Nat):Cod S w0 Unit where
 κ:=mKd
 K:=False
 it:=128
 iv:=pv bm 0
 env:=fun _=>True
 envU:=fun _ _ _ h=>h
 St:=fun _ L=>L=[]
 fN:=186
 fT:=188
 fR:=187
 fB:=185
 mN:=metMN
 mT:=metMT
 mR:=metMR
 mB:=metMB
 eN:=en186
 eT:=en188
 eR:=en187
 eB:=en185
 num :=by
  intro F s L b o n sz Lp Lp' _ hs hsz hf hp
  subst hs
  have h:=hp 77 () rfl
  generalize hQ:Lp' 77=Q at h
  cases h with
  | own c el v' hc=>exact(mar_number hc).mono fun e post ⟨h1,h2⟩=>⟨unitV,h1,rfl,[],rfl,by rw[h2];exact hQ.symm⟩
  | kn hk _=>exact hk.elim
 txt :=by
  intro F s L b o n Lp Lp' _ hs hf hp
  subst hs
  have h:=hp [63] () rfl
  generalize hQ:Lp' [63]=Q at h
  cases h with
  | own c el v' hc=>exact(mar_text hc).mono fun e post ⟨h1,h2⟩=>⟨unitV,h1,rfl,[],rfl,by rw[h2];exact hQ.symm⟩
  | kn hk _=>exact hk.elim
 ref :=by
  intro F s L b o n q Lp Lp' _ hs hf hp
  subst hs
  have h:=hp [63] () rfl
  generalize hQ:Lp' [63]=Q at h
  cases h with
  | own c el v' hc=>exact(mar_refer hc).mono fun e post ⟨h1,h2⟩=>⟨unitV,h1,rfl,[],rfl,by rw[h2];exact hQ.symm⟩
  | kn hk _=>exact hk.elim
 blk :=by
  intro F s L _ hs hf
  subst hs
  exact mar_block.mono fun e post ⟨h1,h2⟩=>⟨unitV,h1,rfl,h2⟩
def prb:InsM:={ins0 with args:=[0]}
theorem mone_c {bm bp br:Nat}:
 SLF Tryz.prog S w0 F 130 [wkV (mCod S w0 bm),pv bp 0] [⟨bp,true,.cells (insC prb (.slice (some ⟨br,0,none⟩) 1 1)).toArray 73 (0,0)⟩,⟨br,true,.cells #[.int .i64 0] 3 (0,0)⟩] (fun e post=>e=.returned unitV∧post=[⟨bp,true,.cells (insC prb (.slice (some ⟨br,0,none⟩) 1 1)).toArray 73 (0,0)⟩,⟨br,true,.cells #[.int .i64 77] 3 (0,0)⟩]):=by
 refine AE fun w hi=>?_
 simp only[List.cons_append,List.nil_append] at hi
 have hpl:∀ {F:List Ent},SLF Tryz.prog S w0 F 147 [wkV (mCod S w0 bm),pv br 0] ([]++[⟨br,true,.cells #[.int .i64 0] 3 (0,0)⟩]) (MoO (mKd.num 0 2 ()) fun a v post=>v=unitV∧∃L',(mCod S w0 bm).St a.2 L'∧post=L'++[⟨br,true,.cells #[.int .i64 a.1] 3 (0,0)⟩]):=fun {F}=>CA (mCod S w0 bm) (F:=F) (L:=[]) (s:=()) (b:=br) (o:=0) (n:=0) (Lp:=[⟨br,true,.cells #[.int .i64 0] 3 (0,0)⟩]) (Lp':=fun n=>[⟨br,true,.cells #[.int .i64 n] 3 (0,0)⟩]) trivial rfl (by simp[mCod,mKd]) (fun n' s' _=>.own #[.int .i64 0] _ (.int .i64 n') rfl)
 refine Ak Tryz.func130 rfl rfl (hi) ?_
 repeat' (first|refine Ag rfl ?_|refine Aj rfl ?_|refine Al ?_|refine An ?_|refine Az rfl ?_|refine AB ?_|refine Bp Tryz.func130 rfl (fun w_ hi_=>?_)|refine Ab 0 ?_;try refine AL rfl rfl rfl rfl (fun b_ hb_=>?_);try refine Aa N28 ?_|refine Ab 1 ?_;try refine Zm rfl (Zv (Ah rfl) (Zf CO rfl (Zv (Ac U59 rfl rfl Y0 Y4) ?_)));try refine Zv (Ap rfl U59 rfl) (Zv (AN rfl rfl (by first|exact Ax Y9|exact As Y9|exact rfl)) ?_);try refine Aa N28 ?_|refine Bg (id:=3) 6 rfl mixed Y1 ?_;try refine A4 (AW U113 rfl BB rfl Y0 Y15) rfl rfl ?_;try refine A4 (Ai rfl) rfl rfl (A4 (Ah rfl) rfl rfl (A4 (Ad CO rfl) rfl rfl (A4 (Ac U59 rfl rfl Y0 Y4) rfl rfl ?_)));try refine A4 (Am U59 sz3 rfl rfl Y9 Y9) rfl rfl ?_;try refine Bf ?_;try((refine AU (pre:=[⟨br,true,.cells #[.int .i64 0] 3 (0,0)⟩]) Y6 (CallR.val rfl en147) rfl rfl hpl (fun e=>by cases e) ?_;rintro⟨n',s'⟩ e1 v post ⟨rfl,L',hL,rfl⟩;cases e1;obtain rfl:L'=[]:=hL)<;>try refine Aa N28 ?_))
 refine⟨_,⟨rfl,rfl⟩,hi_.pick (ps:=[_,_]) (F:=F) Y6 Y5⟩
theorem mlet_c {l:LI} (hl:l≠.one) {bm bp:Nat} {av:Value} (hav:ArgsK S w0 F [0] av):SLF Tryz.prog S w0 F (fnI l) [wkV (mCod S w0 bm),pv bp 0] [⟨bp,true,.cells (insC prb av).toArray 73 (0,0)⟩] (MoO (ltI mKd l prb ()) fun a v post=>v=unitV∧∃X av',post=⟨bp,true,.cells (insC a.1 av').toArray 73 (0,0)⟩::X):=by
 have h:=let_c (mCod S w0 bm) (F:=F) (L:=[]) (s:=()) trivial rfl l (A:=[]) (B:=[]) (b:=bp) (x:=prb) (av:=av) (el:=73) hav (.inr fun e=>absurd e hl) (by cases l<;>simp[ltI,mCod,mKd,Out.bind])
 simp only[List.nil_append,List.append_nil] at h
 refine h.mono fun e post hq=>BI hq id ?_
 rintro a v p e1 ⟨rfl,L',X,av',hL,rfl,_⟩
 obtain rfl:L'=[]:=hL
 exact⟨a,e1,rfl,X,av',rfl⟩
end
end Go.Sl
namespace Go.Sl
open Go Go.RowKit Go.Shelf Go.Proofs
attribute [local irreducible] Calls
section
variable {S:Nat→Prop} {w0:World} {F:List Ent}
theorem mone_n {bm bp br:Nat}:
 SLF Tryz.prog S w0 F 130 [wkV (mCod S w0 bm),pv bp 0] [⟨bp,true,.cells (insC prb (.slice (some ⟨br,0,none⟩) 1 1)).toArray 73 (0,0)⟩,⟨br,true,.cells #[.int .i64 0] 3 (0,0)⟩] (fun e post=>∃v,e=.returned v∧post=[⟨bp,true,.cells (insC prb (.slice (some ⟨br,0,none⟩) 1 1)).toArray 73 (0,0)⟩,⟨br,true,.cells #[.int .i64 77] 3 (0,0)⟩]):=mone_c.mono fun e post h=>⟨_,h.1,h.2⟩
theorem want_c {l:LI} (hl:l≠.one) {b9 b4 bf bx nr nb:Nat} {x:InsM} {av:Value} (hg:Kn S w0 F b9 0 (.func (.func 104) #[] #[pv b4 0])) (hx:Kn S w0 F b4 0 (pv bf 0)) (hf:FlowAt S w0 F bf nr nb) (hn:nr≤65535):
 SLF Tryz.prog S w0 F 106 [.func (.func (fnI l)) #[] #[],pv b9 0,pv bx 0] [⟨bx,true,.cells (insC x av).toArray 73 (0,0)⟩] fun e post=>e=.returned (.bool (wantP nr l x).1)∧post=[⟨bx,true,.cells (insC (wantP nr l x).2 av).toArray 73 (0,0)⟩]:=by
 refine AE fun w hi=>?_
 simp only[List.cons_append,List.nil_append] at hi
 refine Ak Tryz.func106 rfl rfl (hi) ?_
 cases l
 case one=>exact absurd rfl hl
 all_goals
  repeat' (first|refine Ag rfl ?_|refine Aj rfl ?_|refine Al ?_|refine An ?_|refine A5 rfl ?_|refine Az rfl ?_|refine w_condN rfl (fun h=>?_) (fun h=>?_)|refine A6 ?_|refine AB ?_|refine AM Tryz.func106 rfl (fun w_ hi_=>?_)|refine Ab 0 ?_;try refine Za rfl (Aa N4 ?_)|refine Ab 1 ?_;try((refine wo_bs1 (a:=.int .i64 0) U59 Cl rfl rfl rfl rfl rfl rfl (fun br hbr=>?_))<;>try refine Zv (Bq (vs:=[(7,.slice (some ⟨br,0,none⟩) 1 1)]) (cs:=(insC prb (.slice (some ⟨br,0,none⟩) 1 1)).toArray) pl73 inf73 rfl rfl rfl) ?_;try refine A8 inf73 rfl rfl rfl rfl (fun bp hbp=>?_);try refine AI rfl rfl rfl sz73 Y3 Y15 rfl rfl ?_;try refine Aa N4 ?_)|refine Ab 2 ?_;try refine Zm rfl (Zv (Cw pl130 inf130 rfl) ?_);try refine AL rfl rfl rfl rfl (fun bm hbm=>?_);try refine Zv (CD U128 rfl rfl) (Zv (Bq (vs:=[(0,.iface 128 (pv bm 0))]) (cs:= #[.iface 128 (pv bm 0)]) pl113 BB rfl rfl rfl) ?_);try((refine AU (pre:=[⟨bp,true,.cells (insC prb (.slice (some ⟨br,0,none⟩) 1 1)).toArray 73 (0,0)⟩]) Y6 (CallR.fv rfl rfl (.fn _ _ _ _ _ rfl) (enI _)) rfl rfl (mlet_c hl (SlK.own0 (cells:=intsV [0]) (n:=1) (Nat.le_refl _)).cons) (fun e=>by cases e) ?_;rintro⟨a,s'⟩ e1 v post ⟨rfl,X,av',rfl⟩;cases e1;simp only[List.cons_append])<;>try refine Aa N4 ?_)|refine Ab 3 ?_;try refine Zf fo73_1 rfl (Zv (Ac U3 rfl rfl Y0 Y4) ?_);try refine Zv (Ay rfl rfl Y2) ?_;try refine Za rfl (Aa N4 ?_)|refine Ab 4 ?_;try refine Zv (A2 U176 rfl rfl (by repeat(first|exact hg|apply Kn.cons|apply Kn.app))) ?_;try refine Zf fo73_1 rfl (Zv (Ac U3 rfl rfl Y0 Y4) ?_);try refine Zv (Aw (CallR.fv rfl rfl (.fn _ _ _ _ _ rfl) en104) (reg1_c (by repeat(first|exact hx|apply Kn.cons|apply Kn.app)) (hf.up fun e h=>by repeat(first|exact h|apply List.Mem.tail|apply List.mem_append_right)) hn _)) ?_;try refine Za rfl (Aa N4 ?_)|refine Ab 5 ?_;try refine Zf fo73_1 rfl ?_;try((refine AK rfl rfl rfl sz3 Y3 (by show _ < 8;omega) (.inr (Nat.zero_le _)) rfl rfl ?_)<;>try refine Aa N4 ?_)|refine Ab 6 ?_;try refine Zm rfl (Za rfl (Aa N4 ?_))|refine Ab 7 ?_;try refine Zf fo73_2 rfl (Zv (Ac U3 rfl rfl Y0 Y4) ?_);try refine Zv (Ay rfl rfl Y2) ?_;try refine Za rfl (Aa N4 ?_)|refine Ab 8 ?_;try refine Zv (A2 U176 rfl rfl (by repeat(first|exact hg|apply Kn.cons|apply Kn.app))) ?_;try refine Zf fo73_2 rfl (Zv (Ac U3 rfl rfl Y0 Y4) ?_);try refine Zv (Aw (CallR.fv rfl rfl (.fn _ _ _ _ _ rfl) en104) (reg1_c (by repeat(first|exact hx|apply Kn.cons|apply Kn.app)) (hf.up fun e h=>by repeat(first|exact h|apply List.Mem.tail|apply List.mem_append_right)) hn _)) ?_;try refine Za rfl (Aa N4 ?_)|refine Ab 9 ?_;try refine Zf fo73_2 rfl ?_;try((refine AK rfl rfl rfl sz3 Y3 (by show _ < 8;omega) (.inr (Nat.zero_le _)) rfl rfl ?_)<;>try refine Aa N4 ?_)|refine Ab 10 ?_;try refine Zm rfl (Za rfl (Aa N4 ?_))|refine Ab 11 ?_;try refine Zf fo73_3 rfl (Zv (Ac U3 rfl rfl Y0 Y4) ?_);try refine Zv (Ay rfl rfl Y2) ?_;try refine Za rfl (Aa N4 ?_)|refine Ab 12 ?_;try refine Zv (A2 U176 rfl rfl (by repeat(first|exact hg|apply Kn.cons|apply Kn.app))) ?_;try refine Zf fo73_3 rfl (Zv (Ac U3 rfl rfl Y0 Y4) ?_);try refine Zv (Aw (CallR.fv rfl rfl (.fn _ _ _ _ _ rfl) en104) (reg1_c (by repeat(first|exact hx|apply Kn.cons|apply Kn.app)) (hf.up fun e h=>by repeat(first|exact h|apply List.Mem.tail|apply List.mem_append_right)) hn _)) ?_;try refine Za rfl (Aa N4 ?_)|refine Ab 13 ?_;try refine Zf fo73_3 rfl ?_;try((refine AK rfl rfl rfl sz3 Y3 (by show _ < 8;omega) (.inr (Nat.zero_le _)) rfl rfl ?_)<;>try refine Aa N4 ?_)|refine Ab 14 ?_;try refine Zm rfl (Za rfl (Aa N4 ?_))|refine Ab 15 ?_;try refine Zf fo73_4 rfl (Zv (Ac U3 rfl rfl Y0 Y4) ?_);try refine Zv (Ay rfl rfl Y2) ?_;try refine Za rfl (Aa N4 ?_)|refine Ab 16 ?_;try refine Zf fo73_4 rfl (Zv (Ac U3 rfl rfl Y0 Y4) ?_);try refine Zv (Aw (CallR.val rfl en69) (in_c _ _ _)) (Za rfl (Aa N4 ?_))|refine Ab 17 ?_;try refine Zf Cc rfl (Zv (Ac U5 rfl rfl Y0 Y4) ?_);try refine Zv (AN rfl rfl (by first|exact Ax Y9|exact As Y9|exact rfl)) ?_;try refine Aa N4 ?_|refine Ab 18 ?_;try refine Zf fo73_4 rfl ?_;try((refine AK rfl rfl rfl sz3 Y3 (by show _ < 8;omega) (.inr (Nat.zero_le _)) rfl rfl ?_)<;>try refine Aa N4 ?_)|refine Ab 19 ?_;try refine Zm rfl (Za rfl (Aa N4 ?_))|refine Ab 20 ?_;try refine Zf fo73_5 rfl (Zv (Ac U3 rfl rfl Y0 Y4) ?_);try refine Zv (Ay rfl rfl Y2) ?_;try refine Za rfl (Aa N4 ?_)|refine Ab 21 ?_;try refine Zf fo73_5 rfl (Zv (Ac U3 rfl rfl Y0 Y4) ?_);try refine Zf fo73_4 rfl (Zv (Ac U3 rfl rfl Y0 Y4) ?_);try refine Zv (Aw (CallR.val rfl en69) (in_c _ _ _)) (Za rfl (Aa N4 ?_))|refine Ab 22 ?_;try refine Zf fo73_4 rfl ?_;try((refine AK rfl rfl rfl sz3 Y3 (by show _ < 8;omega) (.inr (Nat.zero_le _)) rfl rfl ?_)<;>try refine Zf fo73_5 rfl ?_;try((refine AK rfl rfl rfl sz3 Y3 (by show _ < 8;omega) (.inr (Nat.zero_le _)) rfl rfl ?_)<;>try refine Aa N4 ?_))|refine Ab 23 ?_;try refine Zm rfl (Za rfl (Aa N4 ?_))|refine Ab 24 ?_;try refine Zf fo73_6 rfl (Zv (Ac U9 rfl rfl Y0 Y4) ?_);try refine Zv (ov_neqS3 rfl rfl Y24) ?_;try refine Za rfl (Aa N4 ?_)|refine Ab 25 ?_;try refine Zf fo73_6 rfl (Zv (Ac U9 rfl rfl Y0 Y4) ?_);try refine Zv (Aw (CallR.val rfl en68) (sym_c _)) (Za rfl (Aa N4 ?_))|refine Ab 26 ?_;try refine Zf fo73_6 rfl ?_;try((refine AK rfl rfl rfl sz3 Y3 (by show _ < 8;omega) (.inr (Nat.zero_le _)) rfl rfl ?_)<;>try refine Aa N4 ?_)|refine Ab 27 ?_;try refine Zm rfl (Za rfl (Aa N4 ?_)))
 all_goals first
  | (rw[show(wantP (nr:Int) LI.lo x).2={x with lo:=0} by simp only[wantP];rw[if_pos h]];exact⟨_,⟨rfl,rfl⟩,hi_.pick (ps:=[_]) (F:=F) Y6 Y5⟩)
  | (rw[show(wantP (nr:Int) LI.lo x).2=x by simp only[wantP];rw[if_neg (fun h2=>h2 h)]];exact⟨_,⟨rfl,rfl⟩,hi_.pick (ps:=[_]) (F:=F) Y6 Y5⟩)
  | exact⟨_,⟨rfl,rfl⟩,hi_.pick (ps:=[_]) (F:=F) Y6 Y5⟩
theorem wone_c {b9 b4 bf bx nr nb:Nat} {x:InsM} {av:Value} (hg:Kn S w0 F b9 0 (.func (.func 104) #[] #[pv b4 0])) (hx:Kn S w0 F b4 0 (pv bf 0)) (hf:FlowAt S w0 F bf nr nb) (hn:nr≤65535) (hA:ArgsK S w0 F x.args av):
 SLF Tryz.prog S w0 F 106 [.func (.func (fnI .one)) #[] #[],pv b9 0,pv bx 0] [⟨bx,true,.cells (insC x av).toArray 73 (0,0)⟩] fun e post=>e=.returned (.bool (wantP nr .one x).1)∧post=[⟨bx,true,.cells (insC (wantP nr .one x).2 (.slice none 0 0)).toArray 73 (0,0)⟩]:=by
 refine AE fun w hi=>?_
 simp only[List.cons_append,List.nil_append] at hi
 obtain⟨a,cap,rfl,hcap,hk⟩:=hA
 refine Ak Tryz.func106 rfl rfl (hi) ?_
 by_cases h1:x.args.length=1
 · obtain ⟨n,hn1⟩:∃n,x.args=[n]:=List.length_eq_one_iff.1 h1
   obtain⟨b,off,rfl,hkn⟩:=hk.resolve_left (by rw[hn1];simp[intsV])
   have hcell:Kn S w0 F b (off+0*1) (.int .i64 n):=by
    have:=hkn 0 (by rw[hn1];simp[intsV])
    simpa [hn1,intsV] using this
   rw[show(wantP (nr:Int) LI.one x).1=inP n 0 ((nr:Int) - 1) by simp[wantP,hn1,arg1]]
   rw[h1] at hi ⊢
   generalize hq:inP n 0 ((nr:Int) - 1)=q
   have hrg:∀ {F'},(∀e∈F,e∈F')→Yields S w0 F' 104 [.int .i64 n,pv b4 0] (.bool q):=fun hu=>by
    have:=reg1_c (hx.mono hu) (hf.up hu) hn n
    rwa [hq] at this
   repeat' (first|refine Ag rfl ?_|refine Aj rfl ?_|refine Al ?_|refine An ?_|refine Az rfl ?_|refine A6 ?_|refine AH ?_|refine AB ?_|refine AM Tryz.func106 rfl (fun w_ hi_=>?_)|refine Ab 0 ?_;try refine Za rfl (Aa N4 ?_)|refine Ab 1 ?_;try((refine wo_bs1 (a:=.int .i64 0) U59 Cl rfl rfl rfl rfl rfl rfl (fun br hbr=>?_))<;>try refine Zv (Bq (vs:=[(7,.slice (some ⟨br,0,none⟩) 1 1)]) (cs:=(insC prb (.slice (some ⟨br,0,none⟩) 1 1)).toArray) pl73 inf73 rfl rfl rfl) ?_;try refine A8 inf73 rfl rfl rfl rfl (fun bp hbp=>?_);try refine AI rfl rfl rfl sz73 Y3 Y15 rfl rfl ?_;try refine Aa N4 ?_)|refine Ab 2 ?_;try refine Zm rfl (Zv (Cw pl130 inf130 rfl) ?_);try refine AL rfl rfl rfl rfl (fun bm hbm=>?_);try refine Zv (CD U128 rfl rfl) (Zv (Bq (vs:=[(0,.iface 128 (pv bm 0))]) (cs:= #[.iface 128 (pv bm 0)]) pl113 BB rfl rfl rfl) ?_);try((refine AQ (pre:=[⟨bp,true,.cells (insC prb (.slice (some ⟨br,0,none⟩) 1 1)).toArray 73 (0,0)⟩,⟨br,true,.cells #[.int .i64 0] 3 (0,0)⟩]) Y6 (CallR.fv rfl rfl (.fn _ _ _ _ _ rfl) (enI _)) rfl rfl mone_n ?_;rintro v post rfl;simp only[List.cons_append,List.nil_append])<;>try refine Aa N4 ?_)|refine Ab 3 ?_;try refine Zf fo73_1 rfl (Zv (Ac U3 rfl rfl Y0 Y4) ?_);try refine Zv (Ay rfl rfl Y2) ?_;try refine Za rfl (Aa N4 ?_)|refine Ab 7 ?_;try refine Zf fo73_2 rfl (Zv (Ac U3 rfl rfl Y0 Y4) ?_);try refine Zv (Ay rfl rfl Y2) ?_;try refine Za rfl (Aa N4 ?_)|refine Ab 11 ?_;try refine Zf fo73_3 rfl (Zv (Ac U3 rfl rfl Y0 Y4) ?_);try refine Zv (Ay rfl rfl Y2) ?_;try refine Za rfl (Aa N4 ?_)|refine Ab 15 ?_;try refine Zf fo73_4 rfl (Zv (Ac U3 rfl rfl Y0 Y4) ?_);try refine Zv (Ay rfl rfl Y2) ?_;try refine Za rfl (Aa N4 ?_)|refine Ab 20 ?_;try refine Zf fo73_5 rfl (Zv (Ac U3 rfl rfl Y0 Y4) ?_);try refine Zv (Ay rfl rfl Y2) ?_;try refine Za rfl (Aa N4 ?_)|refine Ab 24 ?_;try refine Zf fo73_6 rfl (Zv (Ac U9 rfl rfl Y0 Y4) ?_);try refine Zv (ov_neqS3 rfl rfl Y24) ?_;try refine Za rfl (Aa N4 ?_)|refine BL 28 rfl mixed Y1 ?_;try refine A3 (Ad CO rfl) rfl rfl (A3 (Ac U59 rfl rfl Y0 Y4) rfl rfl ?_);try refine A3 (Ap rfl U59 rfl) rfl rfl (A3 (Ay rfl rfl Y2) rfl rfl ?_);try refine A3 (Ai rfl) rfl rfl (A3 (A2 U176 rfl rfl (by repeat(first|exact hg|apply Kn.cons|apply Kn.app))) rfl rfl ?_);try refine A3 (Ad CO rfl) rfl rfl (A3 (Ac U59 rfl rfl Y0 Y4) rfl rfl ?_);try refine A3 (Am U59 sz3 rfl rfl Y9 Y9) rfl rfl ?_;try refine A3 (A2 U3 rfl rfl (by repeat(first|exact hcell|apply Kn.cons|apply Kn.app))) rfl rfl ?_;try refine A3 (Aw (CallR.fv rfl rfl (.fn _ _ _ _ _ rfl) en104) (hrg fun e h=>by repeat(first|exact h|apply List.Mem.tail|apply List.mem_append_right))) rfl rfl (A3 (Av rfl rfl) rfl rfl (A3 (Aq rfl) rfl rfl (BJ N4 ?_)))|refine Ab 29 ?_;try refine Zf CO rfl ?_;try((refine AK rfl rfl rfl sz59 Y3 (by show _ < 8;omega) (.inr (Nat.zero_le _)) rfl rfl ?_)<;>try refine Aa N4 ?_)|refine Ab 30 ?_;try refine Zm rfl (Za rfl (Aa N4 ?_)))
   all_goals exact⟨_,⟨rfl,rfl⟩,hi_.pick (ps:=[_]) (F:=F) Y6 Y5⟩
 · rw [show(wantP (nr:Int) LI.one x).1=false by simp[wantP,h1]]
   have h1':¬((x.args.length:Nat):Int)=1:=by omega
   repeat' (first|refine Ag rfl ?_|refine Aj rfl ?_|refine Al ?_|refine An ?_|refine Az rfl ?_|refine A6 ?_|refine AH ?_|refine AB ?_|refine AM Tryz.func106 rfl (fun w_ hi_=>?_)|refine Ab 0 ?_;try refine Za rfl (Aa N4 ?_)|refine Ab 1 ?_;try((refine wo_bs1 (a:=.int .i64 0) U59 Cl rfl rfl rfl rfl rfl rfl (fun br hbr=>?_))<;>try refine Zv (Bq (vs:=[(7,.slice (some ⟨br,0,none⟩) 1 1)]) (cs:=(insC prb (.slice (some ⟨br,0,none⟩) 1 1)).toArray) pl73 inf73 rfl rfl rfl) ?_;try refine A8 inf73 rfl rfl rfl rfl (fun bp hbp=>?_);try refine AI rfl rfl rfl sz73 Y3 Y15 rfl rfl ?_;try refine Aa N4 ?_)|refine Ab 2 ?_;try refine Zm rfl (Zv (Cw pl130 inf130 rfl) ?_);try refine AL rfl rfl rfl rfl (fun bm hbm=>?_);try refine Zv (CD U128 rfl rfl) (Zv (Bq (vs:=[(0,.iface 128 (pv bm 0))]) (cs:= #[.iface 128 (pv bm 0)]) pl113 BB rfl rfl rfl) ?_);try((refine AQ (pre:=[⟨bp,true,.cells (insC prb (.slice (some ⟨br,0,none⟩) 1 1)).toArray 73 (0,0)⟩,⟨br,true,.cells #[.int .i64 0] 3 (0,0)⟩]) Y6 (CallR.fv rfl rfl (.fn _ _ _ _ _ rfl) (enI _)) rfl rfl mone_n ?_;rintro v post rfl;simp only[List.cons_append,List.nil_append])<;>try refine Aa N4 ?_)|refine Ab 3 ?_;try refine Zf fo73_1 rfl (Zv (Ac U3 rfl rfl Y0 Y4) ?_);try refine Zv (Ay rfl rfl Y2) ?_;try refine Za rfl (Aa N4 ?_)|refine Ab 7 ?_;try refine Zf fo73_2 rfl (Zv (Ac U3 rfl rfl Y0 Y4) ?_);try refine Zv (Ay rfl rfl Y2) ?_;try refine Za rfl (Aa N4 ?_)|refine Ab 11 ?_;try refine Zf fo73_3 rfl (Zv (Ac U3 rfl rfl Y0 Y4) ?_);try refine Zv (Ay rfl rfl Y2) ?_;try refine Za rfl (Aa N4 ?_)|refine Ab 15 ?_;try refine Zf fo73_4 rfl (Zv (Ac U3 rfl rfl Y0 Y4) ?_);try refine Zv (Ay rfl rfl Y2) ?_;try refine Za rfl (Aa N4 ?_)|refine Ab 20 ?_;try refine Zf fo73_5 rfl (Zv (Ac U3 rfl rfl Y0 Y4) ?_);try refine Zv (Ay rfl rfl Y2) ?_;try refine Za rfl (Aa N4 ?_)|refine Ab 24 ?_;try refine Zf fo73_6 rfl (Zv (Ac U9 rfl rfl Y0 Y4) ?_);try refine Zv (ov_neqS3 rfl rfl Y24) ?_;try refine Za rfl (Aa N4 ?_)|refine Bg (id:=28) 10 rfl mixed Y1 ?_;try refine A4 (Ad CO rfl) rfl rfl (A4 (Ac U59 rfl rfl Y0 Y4) rfl rfl ?_);try refine A4 (Ap rfl U59 rfl) rfl rfl (A4 (Ay rfl rfl Y2) rfl rfl ?_);try refine A4 (Ai rfl) rfl rfl (wt_skip rfl rfl (wt_skip rfl rfl (wt_skip rfl rfl (wt_skip rfl rfl (wt_skip rfl rfl (Bf (Zk (Zv (A0 rfl rfl) (Za rfl (Aa N4 ?_))))))))))|refine Ab 29 ?_;try refine Zf CO rfl ?_;try((refine AK rfl rfl rfl sz59 Y3 (by show _ < 8;omega) (.inr (Nat.zero_le _)) rfl rfl ?_)<;>try refine Aa N4 ?_)|refine Ab 30 ?_;try refine Zm rfl (Za rfl (Aa N4 ?_)))
   all_goals exact⟨_,⟨rfl,rfl⟩,hi_.pick (ps:=[_]) (F:=F) Y6 Y5⟩
end
end Go.Sl
namespace Go.Sl
open Go Go.RowKit Go.Shelf Go.Proofs
attribute [local irreducible] Calls
section
variable {S:Nat→Prop} {w0:World} {F:List Ent}
theorem clone_int {cells:List Value} {n:Nat} {v:Value} (hs:SlK S w0 F cells n v) (hl:cells.length=n*1) (hok:∀v∈cells,okCell v=true) (hroom:n≤65535):
 SLF Tryz.prog S w0 F 105 [v] [] (Cloned cells n 3):=by
 refine AE fun w hi=>?_
 simp only[List.nil_append] at hi
 obtain⟨a,cap,rfl,hc,hk⟩:=hs
 refine Ak Tryz.func105 rfl rfl (hi) ?_
 cases a with
 | none=>
   have hn:n=0:=by
    rcases hk with h|⟨b,off,h,_⟩
    · subst h;simp at hl;omega
    · cases h
   subst hn
   repeat' (first|refine Ag rfl ?_|refine Aj rfl ?_|refine Al ?_|refine An ?_|refine A5 rfl ?_|refine AM Tryz.func105 rfl (fun w_ hi_=>?_)|refine Ab 0 ?_;try refine Za rfl (Aa N5 ?_)|refine Ab 1 ?_;try refine Zm rfl (Zv (BQ U59 rfl) (Aa N5 ?_))|refine Ab 2 ?_;try refine Za rfl (Aa N5 ?_))
   exact⟨[],⟨none,0,rfl,Nat.le_refl _,.inl ⟨rfl,rfl⟩⟩,hi_⟩
 | some ad=>
   by_cases hn:n=0
   · subst hn
     repeat' (first|refine Ag rfl ?_|refine Aj rfl ?_|refine Al ?_|refine An ?_|refine Az rfl ?_|refine AB ?_|refine AM Tryz.func105 rfl (fun w_ hi_=>?_)|refine Ab 0 ?_;try refine Za rfl (Aa N5 ?_)|refine Ab 1 ?_;try refine Zm rfl (Zv (BQ U59 rfl) (Aa N5 ?_))|refine Ab 3 ?_;try((refine B9 U59 Cl rfl rfl (fun bb_ hb_=>?_))<;>try refine Zm rfl (Zv (ov_append0 rfl rfl U59 U59 rfl Cl (Nat.le_refl _)) (Za rfl (Aa N5 ?_)))))
     exact⟨[],⟨some ⟨bb_,0,none⟩,0,rfl,Nat.le_refl _,.inl ⟨rfl,rfl⟩⟩,hi_.subset (List.sublist_cons_self _ _)⟩
   · have hne:cells≠[]:=by rintro rfl;simp at hl;omega
     obtain⟨b,off,hb,hkn⟩:=hk.resolve_left hne
     cases hb
     repeat' (first|refine Ag rfl ?_|refine Aj rfl ?_|refine Al ?_|refine An ?_|refine Az rfl ?_|refine AB ?_|refine AM Tryz.func105 rfl (fun w_ hi_=>?_)|refine Ab 0 ?_;try refine Za rfl (Aa N5 ?_)|refine Ab 1 ?_;try refine Zm rfl (Zv (BQ U59 rfl) (Aa N5 ?_))|refine Ab 3 ?_;try((refine B9 U59 Cl rfl rfl (fun bb_ hb_=>?_))<;>try refine Zm rfl ?_;try((refine wo_appendK (n:=0) (sz:=1) (base:=some bb_) (xs:=[]) (rst:=[]) (new:=cells) rfl rfl U59 U59 rfl Cl rfl Y22 rfl rfl Y26 Y26 ⟨.head _,.head _ _⟩ (fun i h=>(hkn i h).cons) hl hok (by show(2*(_+n)+192)*8≤_;omega) Y9 Y9 rfl rfl (fun b' cap' rst' hc_ hn_=>?_))<;>try refine Za rfl (Aa N5 ?_))))
     exact⟨[⟨b',true,.cells (cells++rst').toArray 3 (0,0)⟩],⟨some ⟨b',0,none⟩,cap',by rw[Nat.zero_add];rfl,by omega,.inr ⟨b',rst',rfl,rfl⟩⟩,hi_⟩
theorem ClonedV.k {cells:List Value} {n sz cap:Nat} {a:Option Addr} {el:TypeId} {X:List Ent} (h:ClonedV cells n el (.slice a n cap) X) (hl:cells.length=n*sz):SlK S w0 (X++F) cells n (.slice a n cap):=by
 obtain⟨_,_,e,hc,h⟩:=h
 cases e
 rcases h with⟨hn,rfl⟩|⟨bb,rst,rfl,rfl⟩
 · refine ⟨a,cap,rfl,hc,.inl ?_⟩
   rw[hn,Nat.zero_mul] at hl
   exact List.length_eq_zero_iff.1 hl
 · exact SlK.own hc
theorem wantP_args {n:Int} {l:LI} (hl:l≠.one) (x:InsM):(wantP n l x).2.args=x.args:=by
 cases l with
 | lo=>simp only[wantP];split<;>rfl
 | one=>exact absurd rfl hl
 | _=>rfl
theorem want_any (l:LI) {b9 b4 bf bx nr nb:Nat} {x:InsM} {av:Value} (hg:Kn S w0 F b9 0 (.func (.func 104) #[] #[pv b4 0])) (hx:Kn S w0 F b4 0 (pv bf 0)) (hf:FlowAt S w0 F bf nr nb) (hn:nr≤65535) (hA:ArgsK S w0 F x.args av):
 SLF Tryz.prog S w0 F 106 [.func (.func (fnI l)) #[] #[],pv b9 0,pv bx 0] [⟨bx,true,.cells (insC x av).toArray 73 (0,0)⟩] fun e post=>∃v,e=.returned v∧v=.bool (wantP nr l x).1∧∃av',post=[⟨bx,true,.cells (insC (wantP nr l x).2 av').toArray 73 (0,0)⟩]∧ArgsK S w0 F (wantP nr l x).2.args av':=by
 by_cases hl:l=.one
 · subst hl
   exact(wone_c hg hx hf hn hA).mono fun e post ⟨h1,h2⟩=>⟨_,h1,rfl,_,h2,none,0,rfl,Nat.le_refl _,.inl rfl⟩
 · exact(want_c hl hg hx hf hn).mono fun e post ⟨h1,h2⟩=>⟨_,h1,rfl,_,h2,by rw[wantP_args hl];exact hA⟩
theorem tins_c {cv:Value} {bf mp mq nr nb:Nat} {rw_:Bool} {x:InsM} {av:Value} (hcv:okCell cv=true) (hmp:(⟨mp,rw_,mapBO partTab⟩:Ent)∈F) (hf:FlowAt S w0 F bf nr nb) (hn:nr≤65535) (hA:ArgsK S w0 F x.args av) (hal:x.args.length≤65535):
 Yields S w0 F 74 [.agg #[cv,.map (some mp),.map (some mq)],pv bf 0,.agg (insC x av).toArray] (.bool (insPr nr x)):=by
 refine AE fun w hi=>?_
 simp only[List.nil_append] at hi
 have hvc:=cells1 hcv
 obtain⟨a0,cap0,rfl,hcap0,hk0⟩:=id hA
 have hbc:(Value.agg (insC x (.slice a0 x.args.length cap0)).toArray).cells=(insC x (.slice a0 x.args.length cap0)).toArray:=rfl
 refine Ak Tryz.func74 rfl rfl (hi) ?_
 cases hfo:formI x.op with
 | none=>
   have hlk:=part_findN hfo
   rw[show insPr (nr:Int) x=false by simp only[insPr,hfo]]
   repeat' (first|refine Ag rfl ?_|refine Aj rfl ?_|refine Al ?_|refine An ?_|refine A5 rfl ?_|refine AM Tryz.func74 rfl (fun w_ hi_=>?_)|refine Ab 0 ?_;try refine AL (cs:= #[cv,.map (some mp),.map (some mq)]) rfl rfl rfl rfl (fun b3 hb3=>?_);try refine AL (cs:= #[pv bf 0]) rfl rfl rfl rfl (fun b4 hb4=>?_);try refine AL (cs:=(insC x (.slice a0 x.args.length cap0)).toArray) rfl rfl rfl rfl (fun b5 hb5=>?_);try refine Za rfl (Aa N17 ?_)|refine Ab 1 ?_;try refine Zf fo117_1 rfl (Zv (Ac U114 rfl rfl Y0 Y4) ?_);try refine Zf Cc rfl (Zv (Ac U5 rfl rfl Y0 Y4) ?_);try refine Zv (Br hlk rfl rfl rfl Y0) ?_;try refine Zm rfl (Zv (Ae rfl rfl) (Zv (Ae rfl rfl) ?_));try refine A8 AS rfl rfl rfl rfl (fun b_ hb_=>?_);try refine AI rfl rfl rfl B3 Y3 Y15 rfl rfl ?_;try refine Za rfl (Aa N17 ?_)|refine Ab 2 ?_;try refine Zm rfl (Zv (Ci rfl) (Aa N17 ?_))|refine Ab 3 ?_;try refine Za rfl (Aa N17 ?_))
   exact⟨[],⟨rfl,rfl⟩,hi_.subset Y5⟩
 | some ls=>
 obtain⟨hl,hnd⟩:=formI_ok hfo
 obtain⟨q0,hlk⟩:=part_find hfo
 rw[show insPr (nr:Int) x=wantsP nr ls x by simp only[insPr,hfo]]
 have hrok:=row_ok (f:=fnI) (ls:=ls) (n:=3)
 have hrsz:=row_size (f:=fnI) hl
 have hrat:=fun i (h:i < ls.length)=>row_at3 (f:=fnI) hl h
 have hrnil:=fun i (h:ls.length≤i) (hn:i < 3)=>row_nil (f:=fnI) h hn
 unfold rowOf at hlk
 generalize ((ls.map (fun l=>Value.func (.func (fnI l)) #[] #[])++List.replicate (3 - ls.length) Value.nilFunc).toArray)=cs at *
 repeat' (first|refine Ag rfl ?_|refine Aj rfl ?_|refine Al ?_|refine An ?_|refine Az rfl ?_|refine AB ?_|refine Ab 0 ?_;try refine AL (cs:= #[cv,.map (some mp),.map (some mq)]) rfl rfl rfl rfl (fun b3 hb3=>?_);try refine AL (cs:= #[pv bf 0]) rfl rfl rfl rfl (fun b4 hb4=>?_);try refine AL (cs:=(insC x (.slice a0 x.args.length cap0)).toArray) rfl rfl rfl rfl (fun b5 hb5=>?_);try refine Za rfl (Aa N17 ?_)|refine Ab 1 ?_;try refine Zf fo117_1 rfl (Zv (Ac U114 rfl rfl Y0 Y4) ?_);try refine Zf Cc rfl (Zv (Ac U5 rfl rfl Y0 Y4) ?_);try refine Zv (AP hlk U114 U5 AS rfl rfl rfl Y0) ?_;try refine Zm rfl (Zv (Ae rfl rfl) (Zv (Ae rfl rfl) ?_));try refine A8 AS rfl rfl rfl rfl (fun b7 hb7=>?_);try((refine AI rfl rfl hrok (by rw[hrsz];exact B3) Y3 (by rw[hrsz];rfl) rfl rfl ?_)<;>try refine Za rfl (Aa N17 ?_))|refine Ab 2 ?_;try refine Zm rfl (Zv (BN rfl) (Aa N17 ?_))|refine Ab 4 ?_;try refine Zv (Bm rfl rfl) ?_;try refine A8 inf176 rfl rfl rfl rfl (fun b9 hb9=>?_);try refine AT rfl rfl rfl sz176 Y3 rfl rfl ?_;try refine Aa N17 ?_|refine Ab 5 ?_;try refine Zf CO rfl (Zv (Ac U59 rfl rfl Y0 Y4) ?_);try((refine AQ (pre:=[]) (Take.nil _) (CallR.val rfl en105) rfl rfl (clone_int (hA.up fun e h=>by repeat(first|exact h|apply List.Mem.tail)) (by rw[intsV_len,Nat.mul_one]) (by simp[intsV,okCell]) hal).cl ?_;rintro _ X4 ⟨a4,c4,rfl,hx4⟩)<;>try refine Zf CO rfl ?_;try((refine AK rfl rfl rfl sz59 Y3 (by show _ < 8;omega) (.inr (Nat.zero_le _)) rfl rfl ?_)<;>try refine Aa N17 ?_))|refine Ab 6 ?_;try refine Zv (Bm rfl rfl) (Za rfl (Aa N17 ?_)))
 have hav:ArgsK S w0 (X4++F) x.args (.slice a4 x.args.length c4):=ClonedV.k ⟨_,_,rfl,hx4⟩ (by rw[intsV_len,Nat.mul_one])
 refine w_perm (Del1.perm (e:=⟨b5,true,.cells (insC x (.slice a4 x.args.length c4)).toArray 73 (0,0)⟩) Y30) ?_
 generalize hG:X4++_=G
 have hav2:ArgsK S w0 G x.args (.slice a4 x.args.length c4):=hav.up fun e h=>by rw[←hG];rcases List.mem_append.1 h with h|h;exact List.mem_append_left _ h;exact List.mem_append_right _ (.tail _ (.tail _ (.tail _ (.tail _ h))))
 have hFG:∀e∈F,e∈G:=fun e h=>by rw[←hG];exact List.mem_append_right _ (.tail _ (.tail _ (.tail _ (.tail _ h))))
 have hg9:Kn S w0 G b9 0 (.func (.func 104) #[] #[pv b4 0]):=Kn.of (c:= #[.func (.func 104) #[] #[pv b4 0]]) (by rw[←hG];exact List.mem_append_right _ (.head _)) rfl
 have hg4:Kn S w0 G b4 0 (pv bf 0):=Kn.of (c:= #[pv bf 0]) (by rw[←hG];exact List.mem_append_right _ (.tail _ (.tail _ (.head _)))) rfl
 have hm7:(⟨b7,true,.cells cs 174 (0,0)⟩:Ent)∈G:=by rw[←hG];exact List.mem_append_right _ (.tail _ (.head _))
 have hsG:F.Sublist G:=by rw[←hG];exact List.sublist_append_of_sublist_right (.cons _ (.cons _ (.cons _ (.cons _ (List.Sublist.refl _)))))
 clear hG
 repeat' (first|refine Ag rfl ?_|refine Al ?_|refine Ab 7 ?_;try((refine Zv (AW U174 rfl AS rfl (.tail _ hm7) (by rw[hrsz];rfl)) ?_)<;>try refine Zm rfl (Aa N17 ?_)))
 refine A6 ?_
 refine A1 (E':=(fun q:Nat×InsM×Value=>[(5,pv b5 0),(10,.func (.func 106) #[] #[pv b9 0,pv b5 0]),(29,.agg cs),(30,.int .i64 (q.1:Int))]) (0,x,.slice a4 x.args.length c4)) Y14 ?_
 refine Bb (fun q:Nat×InsM×Value=>q.1≤3∧wantsP nr ls x=wantsP nr (ls.drop q.1) q.2.1∧ArgsK S w0 G q.2.1.args q.2.2) (fun q=>3 - q.1) (fun q:Nat×InsM×Value=>[(5,pv b5 0),(10,.func (.func 106) #[] #[pv b9 0,pv b5 0]),(29,.agg cs),(30,.int .i64 (q.1:Int))]) (fun q=>⟨b5,true,.cells (insC q.2.1 q.2.2).toArray 73 (0,0)⟩::G) ?_ (0,x,.slice a4 x.args.length c4) ⟨by simp,by simp,hav2⟩
 rintro⟨i,xi,avi⟩ ⟨k1,k2,k3⟩ ih
 dsimp only at k1 k2 k3 ih ⊢
 by_cases hi3:i < 3
 · by_cases hil:i < ls.length
   · have hdr:ls.drop i=ls[i]::ls.drop (i+1):=List.drop_eq_getElem_cons hil
     have hcell:cs[(i:Int).toNat*1]?=some (.func (.func (fnI ls[i])) #[] #[]):=by rw[show(i:Int).toNat*1=i by omega];exact hrat i hil
     rw[hdr] at k2
     generalize ls[i]=l at *
     have hw:=want_any l (bx:=b5) hg9 hg4 (hf.up hFG) hn k3
     have hq:wantsP nr ls x=if (wantP nr l xi).1 then wantsP nr (ls.drop (i+1)) (wantP nr l xi).2 else false:=k2
     cases hb:(wantP nr l xi).1 with
     | true=>
       rw[hb] at hw hq
       repeat' (first|refine Ag rfl ?_|refine Aj rfl ?_|refine Al ?_|refine An ?_|refine A5 rfl ?_|refine Az rfl ?_|refine A6 ?_|refine AH ?_|refine AB ?_|refine Ab 8 ?_;try refine Zv (A7 rfl rfl Y2) ?_;try refine Aa N17 ?_|refine Ab 9 ?_;try refine Zv (ov_indexV U174 CT U173 rfl rfl rfl Y9 Y9 hcell) ?_;try refine Za rfl (Aa N17 ?_)|refine Ab 10 ?_;try refine Zm rfl (Zv (ov_neqFn U173 rfl rfl) (Zm rfl (Zm rfl (Zm rfl ?_))));try((refine AQ (pre:=[⟨b5,true,.cells (insC xi avi).toArray 73 (0,0)⟩]) Y6 (CallR.fv rfl rfl (.fn _ _ _ _ _ rfl) en106) rfl rfl hw ?_;rintro v post ⟨rfl,av',rfl,k4⟩)<;>try refine Zv (BN rfl) (Zv (Av rfl rfl) (Aa N17 ?_)))|refine Ab 12 ?_;try refine Zv (AD rfl rfl Y9 Y9) ?_;try refine Zm rfl (Aa N17 ?_))
       refine A1 Y10 (ih (i+1,_,av') ⟨by simp only;omega,hq,k4⟩ (by simp only;omega))
     | false=>
       rw[hb] at hw hq
       rw[show wantsP (nr:Int) ls x=false from hq]
       repeat' (first|refine Ag rfl ?_|refine Aj rfl ?_|refine Al ?_|refine An ?_|refine A5 rfl ?_|refine A6 ?_|refine AB ?_|refine AM Tryz.func74 rfl (fun w_ hi_=>?_)|refine Ab 8 ?_;try refine Zv (A7 rfl rfl Y2) ?_;try refine Aa N17 ?_|refine Ab 9 ?_;try refine Zv (ov_indexV U174 CT U173 rfl rfl rfl Y9 Y9 hcell) ?_;try refine Za rfl (Aa N17 ?_)|refine Ab 10 ?_;try refine Zm rfl (Zv (ov_neqFn U173 rfl rfl) (Zm rfl (Zm rfl (Zm rfl ?_))));try((refine AQ (pre:=[⟨b5,true,.cells (insC xi avi).toArray 73 (0,0)⟩]) Y6 (CallR.fv rfl rfl (.fn _ _ _ _ _ rfl) en106) rfl rfl hw ?_;rintro v post ⟨rfl,av',rfl,k4⟩)<;>try refine Zv (Ci rfl) (Zv (Av rfl rfl) (Aa N17 ?_)))|refine Ab 11 ?_;try refine Za rfl (Aa N17 ?_))
       exact⟨[],⟨rfl,rfl⟩,hi_.subset (.cons _ hsG)⟩
   · have hcell:cs[(i:Int).toNat*1]?=some .nilFunc:=by rw[show(i:Int).toNat*1=i by omega];exact hrnil i Y9 hi3
     have hd0:ls.drop i=[]:=List.drop_eq_nil_of_le Y9
     have hd1:ls.drop (i+1)=[]:=List.drop_eq_nil_of_le Y9
     repeat' (first|refine Ag rfl ?_|refine Aj rfl ?_|refine Al ?_|refine An ?_|refine A5 rfl ?_|refine Az rfl ?_|refine A6 ?_|refine AH ?_|refine AB ?_|refine Ab 8 ?_;try refine Zv (A7 rfl rfl Y2) ?_;try refine Aa N17 ?_|refine Ab 9 ?_;try refine Zv (ov_indexV U174 CT U173 rfl rfl rfl Y9 Y9 hcell) ?_;try refine Za rfl (Aa N17 ?_)|refine Ab 10 ?_;try refine Zm rfl (Zv (ov_neqFnN U173 rfl rfl) (Zm rfl (Zk (Zk (Zk (Zk (Zv (A0 rfl rfl) (Aa N17 ?_))))))))|refine Ab 12 ?_;try refine Zv (AD rfl rfl Y9 Y9) ?_;try refine Zm rfl (Aa N17 ?_))
     refine A1 Y10 (ih (i+1,xi,avi) ⟨by simp only;omega,by simp only;rw[k2,hd0,hd1],k3⟩ (by simp only;omega))
 · have hd0:ls.drop i=[]:=List.drop_eq_nil_of_le Y9
   rw[hd0] at k2
   rw[show wantsP (nr:Int) ls x=restP xi from k2]
   obtain⟨a5,c5,rfl,_,_⟩:=id k3
   repeat' (first|refine Ag rfl ?_|refine Aj rfl ?_|refine Al ?_|refine An ?_|refine Az rfl ?_|refine Bl rfl ?_|refine AM Tryz.func74 rfl (fun w_ hi_=>?_)|refine Ab 8 ?_;try refine Zv (A7 rfl rfl Y2) ?_;try refine Aa N17 ?_|refine Ab 13 ?_;try refine Zf fo73_1 rfl (Zv (Ac U3 rfl rfl Y0 Y4) ?_);try refine Zv (Ay rfl rfl Y2) ?_;try refine Zm rfl ?_;try(((refine Bc rfl rfl (fun h=>?_) (fun h=>?_))<;>(first|refine Zk ?_|refine Zf fo73_2 rfl ?_))<;>try((first|refine Zk ?_|refine Zv (Ac U3 rfl rfl Y0 Y4) ?_)<;>try((first|refine Zk ?_|refine Zv (Ay rfl rfl Y2) ?_)<;>try((first|refine Zv (Av rfl rfl) ?_|refine Zv (A0 rfl rfl) ?_)<;>try refine Zm rfl ?_;try((first|refine Zk ?_|((refine Bc rfl rfl (fun h=>?_) (fun h=>?_))<;>(first|refine Zk ?_|refine Zf fo73_3 rfl ?_)))<;>try((first|refine Zk ?_|refine Zv (Ac U3 rfl rfl Y0 Y4) ?_)<;>try((first|refine Zk ?_|refine Zv (Ay rfl rfl Y2) ?_)<;>try((first|refine Zv (Av rfl rfl) ?_|refine Zv (A0 rfl rfl) ?_)<;>try refine Zm rfl ?_;try((first|refine Zk ?_|((refine Bc rfl rfl (fun h=>?_) (fun h=>?_))<;>(first|refine Zk ?_|refine Zf fo73_4 rfl ?_)))<;>try((first|refine Zk ?_|refine Zv (Ac U3 rfl rfl Y0 Y4) ?_)<;>try((first|refine Zk ?_|refine Zv (Ay rfl rfl Y2) ?_)<;>try((first|refine Zv (Av rfl rfl) ?_|refine Zv (A0 rfl rfl) ?_)<;>try refine Zm rfl ?_;try((first|refine Zk ?_|((refine Bc rfl rfl (fun h=>?_) (fun h=>?_))<;>(first|refine Zk ?_|refine Zf fo73_5 rfl ?_)))<;>try((first|refine Zk ?_|refine Zv (Ac U3 rfl rfl Y0 Y4) ?_)<;>try((first|refine Zk ?_|refine Zv (Ay rfl rfl Y2) ?_)<;>try((first|refine Zv (Av rfl rfl) ?_|refine Zv (A0 rfl rfl) ?_)<;>try refine Zm rfl ?_;try((first|refine Zk ?_|((refine Bc rfl rfl (fun h=>?_) (fun h=>?_))<;>(first|refine Zk ?_|refine Zf fo73_6 rfl ?_)))<;>try((first|refine Zk ?_|refine Zv (Ac U9 rfl rfl Y0 Y4) ?_)<;>try((first|refine Zk ?_|refine Zv (Ct rfl rfl Y20) ?_)<;>try((first|refine Zv (Av rfl rfl) ?_|refine Zv (A0 rfl rfl) ?_)<;>try refine Zm rfl ?_;try((first|refine Zk ?_|((refine Bc rfl rfl (fun h=>?_) (fun h=>?_))<;>(first|refine Zk ?_|refine Zf CO rfl ?_)))<;>try((first|refine Zk ?_|refine Zv (Ac U59 rfl rfl Y0 Y4) ?_)<;>try((first|refine Zk ?_|refine Zv (Ap rfl U59 rfl) ?_)<;>try((first|refine Zk ?_|refine Zv (Ay rfl rfl Y2) ?_)<;>try((first|refine Zv (Av rfl rfl) ?_|refine Zv (A0 rfl rfl) ?_)<;>try refine Za rfl (Aa N17 ?_)))))))))))))))))))))))))))
   all_goals
    refine⟨[],⟨?_,rfl⟩,hi_.subset (.cons _ hsG)⟩
    show Ending.returned (Value.bool _)=_
    congr 2
    simp[restP, *]
end
end Go.Sl
namespace Go.Sl
open Go Go.RowKit Go.Shelf Go.Proofs
attribute [local irreducible] Calls
section
variable {S:Nat→Prop} {w0:World} {F:List Ent}
theorem Yields.dec {f:FuncId} {vs:List Value} {q:Bool} (h:Yields S w0 F f vs (.bool q)):Yields S w0 F f vs (.bool (decide (q=true))):=by rwa [Bool.decide_eq_true]
abbrev nilS:Value:=.slice none 0 0
theorem Cu (n b:Int):inP n 0 (b - 1)=inR n b:=inP_eq n b
theorem w_cut2 {C:Cx} {k:List Item} {D:List Deferred} {E:List (Nat×Value)} {H:List Ent} {a b:Item} {β:Type} (EJ:β→List (Nat×Value)) (HJ:β→List Ent) (rest:∀q,WF C S w0 k D (EJ q) (HJ q)) (body:∀k',(∀q,WF C S w0 k' D (EJ q) (HJ q))→WF C S w0 (a::b::k') D E H):WF C S w0 (a::b::k) D E H:=body k rest
theorem any_contains (a:Bs):∀(l:List (Bs×Int)),l.any (fun v=>decide (v.1=a))=(l.map (·.1)).contains a
 | []=>rfl
 | v :: l=>by
   rw[List.any_cons,any_contains a l,List.map_cons,List.contains_cons]
   congr 1
   exact Bool.eq_iff_iff.2 (by simp only[decide_eq_true_eq,beq_iff_eq];exact eq_comm)
theorem blkR_c {bx bf nr nb:Nat} (hx:Kn S w0 F bx 0 (pv bf 0)) (hf:FlowAt S w0 F bf nr nb) (hn:nb≤65535) (r:Int):Yields S w0 F 108 [.int .i64 r,pv bx 0] (.bool (decide (inR r nb=true))):=by
 have:=Yields.dec (blk2_c hx hf hn r)
 rwa [Cu] at this
theorem ends_c {bf nr nb:Nat} {x:EndM} {av wv:Value} (hf:FlowAt S w0 F bf nr nb) (hn:nr≤65535) (hnb:nb≤65535) (hA:ArgsK S w0 F x.args av) (hal:x.args.length≤65535) (hW:WhensK S w0 F x.ws wv) (hwl:x.ws.length≤65535):
 Yields S w0 F 75 [pv bf 0,.agg (endC x av wv).toArray] (.bool (endPr nr nb x)):=by
 refine AE fun w hi=>?_
 simp only[List.nil_append] at hi
 obtain⟨aa,ca,rfl,hca,hka⟩:=id hA
 obtain⟨aw,cw,rfl,hcw,hkw⟩:=id hW
 refine Ak Tryz.func75 rfl rfl (hi) ?_
 repeat' (first|refine Ag rfl ?_|refine Aj rfl ?_|refine Al ?_|refine An ?_|refine A6 ?_|refine Ab 0 ?_;try refine AL (cs:= #[pv bf 0]) rfl rfl rfl rfl (fun b2 hb2=>?_);try refine AL (cs:=(endC x (.slice aa x.args.length ca) (.slice aw x.ws.length cw)).toArray) rfl rfl rfl rfl (fun b3 hb3=>?_);try refine Za rfl (Aa N2 ?_)|refine Ab 1 ?_;try refine Zv (Bm rfl rfl) ?_;try refine A8 inf176 rfl rfl rfl rfl (fun b5 hb5=>?_);try refine AT rfl rfl rfl sz176 Y3 rfl rfl ?_;try refine Aa N2 ?_|refine Ab 2 ?_;try refine Zv (Bm rfl rfl) (Za rfl (Aa N2 ?_))|refine Ab 3 ?_;try refine Zv (AW U68 rfl inf68 rfl Y0 Y15) ?_;try refine A8 inf68 rfl rfl rfl rfl (fun b7 hb7=>?_);try refine AI rfl rfl rfl sz68 Y3 Y15 rfl rfl ?_;try refine Aa N2 ?_|refine Ab 4 ?_;try refine Zf BY rfl ?_;try refine AK rfl rfl rfl sz5 Y3 Y27 (.inr (Nat.zero_le _)) rfl rfl ?_;try refine Zf fo68_7 rfl ?_;try refine AK rfl rfl rfl sz5 Y3 Y27 (.inr (Nat.zero_le _)) rfl rfl ?_;try refine Zf fo68_6 rfl ?_;try refine AK rfl rfl rfl sz5 Y3 Y27 (.inr (Nat.zero_le _)) rfl rfl ?_;try refine Aa N2 ?_|refine Ab 5 ?_;try refine Za rfl (Za rfl (Za rfl (Aa N2 ?_)))|refine Ab 6 ?_;try refine Zf BY rfl (Zv (Ac U5 rfl rfl Y0 Y4) ?_);try refine Aa N2 ?_)
 refine w_cut2 (β:={q:EndS // q=endLook nr nb x}) (fun q=>[(2,pv b2 0),(3,pv b3 0),(5,pv b5 0),(6,.func (.func 108) #[] #[pv b2 0]),(7,pv b7 0),(8,.bool q.1.args),(9,.bool q.1.whens),(10,.bool q.1.ok)]) (fun q=>⟨b7,true,.cells (endC q.1.rest nilS nilS).toArray 68 (0,0)⟩::⟨b5,true,.cells #[.func (.func 107) #[] #[pv b2 0]] 176 (0,0)⟩::⟨b3,true,.cells (endC x (.slice aa x.args.length ca) (.slice aw x.ws.length cw)).toArray 68 (0,0)⟩::⟨b2,true,.cells #[pv bf 0] 120 (0,0)⟩::F) ?_ ?_
 rotate_left
 · intro k' rest
   by_cases h1:x.kd=1
   · repeat' (first|refine Ag rfl ?_|refine Aj rfl ?_|refine Al ?_|refine A5 rfl ?_|refine Ab 7 ?_;try refine Zv (Ay rfl rfl Y2) ?_;try refine Za rfl (Aa N2 ?_)|refine Ab 8 ?_;try refine Zm rfl (Zf Dd rfl (Zv (Ac U3 rfl rfl Y0 Y4) ?_));try refine Zv (Aw (CallR.fv rfl rfl (.fn _ _ _ _ _ rfl) en108) (Yields.dec (blk2_c (by repeat(first|exact Kn.of (c:= #[pv bf 0]) (.head _) rfl|apply Kn.cons|apply Kn.app)) (hf.up fun e h=>by repeat(first|exact h|apply List.Mem.tail|apply List.mem_append_right)) hnb _))) ?_;try refine Za rfl (Zf Dd rfl ?_);try refine AK rfl rfl rfl sz3 Y3 Y27 (.inr (Nat.zero_le _)) rfl rfl ?_;try refine Aa N2 ?_)
     all_goals (first|refine(fun (hq:(⟨decide (inP x.to 0 ((nb:Int) - 1)=true),false,false,{{x with kd:=0,ws:=[],args:=[]} with to:=0}⟩:EndS)=endLook nr nb x)=>A1 ?_ (rest ⟨_,hq⟩)) ?_;(repeat(first|exact Bw _|refine Bh rfl ?_));(try simp only[Cu] at *);(simp[endLook,h1, *];done)|refine(fun (hq:(⟨false,false,false,{{x with kd:=0,ws:=[],args:=[]} with to:=0}⟩:EndS)=endLook nr nb x)=>A1 ?_ (rest ⟨_,hq⟩)) ?_;(repeat(first|exact Bw _|refine Bh rfl ?_));(try simp only[Cu] at *);(simp[endLook,h1, *];done)|refine(fun (hq:(⟨true,false,false,{{x with kd:=0,ws:=[],args:=[]} with to:=0}⟩:EndS)=endLook nr nb x)=>A1 ?_ (rest ⟨_,hq⟩)) ?_;(repeat(first|exact Bw _|refine Bh rfl ?_));(try simp only[Cu] at *);(simp[endLook,h1, *];done))
   by_cases h2:x.kd=2
   · repeat' (first|refine Ag rfl ?_|refine Aj rfl ?_|refine Al ?_|refine An ?_|refine A5 rfl ?_|refine Az rfl ?_|refine Ab 7 ?_;try refine Zv (Ay rfl rfl Y2) ?_;try refine Za rfl (Aa N2 ?_)|refine Ab 9 ?_;try refine Zv (Ay rfl rfl Y2) ?_;try refine Za rfl (Aa N2 ?_)|refine Ab 10 ?_;try refine Zv (A2 U176 rfl rfl (by repeat(first|exact Kn.of (.head _) rfl|apply Kn.cons|apply Kn.app))) ?_;try refine Zf C6 rfl (Zv (Ac U3 rfl rfl Y0 Y4) ?_);try refine Zv (Aw (CallR.fv rfl rfl (.fn _ _ _ _ _ rfl) en107) (Yields.dec (reg2_c (by repeat(first|exact Kn.of (c:= #[pv bf 0]) (.head _) rfl|apply Kn.cons|apply Kn.app)) (hf.up fun e h=>by repeat(first|exact h|apply List.Mem.tail|apply List.mem_append_right)) hn _))) ?_;try refine Zm rfl ?_;try(((refine Bc rfl rfl (fun h=>?_) (fun h=>?_))<;>(first|refine Zk ?_|refine Zm rfl ?_))<;>try((first|refine Zk ?_|refine Zf Dd rfl ?_)<;>try((first|refine Zk ?_|refine Zv (Ac U3 rfl rfl Y0 Y4) ?_)<;>try((first|refine Zk ?_|refine Zv (Aw (CallR.fv rfl rfl (.fn _ _ _ _ _ rfl) en108) (Yields.dec (blk2_c (by repeat(first|exact Kn.of (c:= #[pv bf 0]) (.head _) rfl|apply Kn.cons|apply Kn.app)) (hf.up fun e h=>by repeat(first|exact h|apply List.Mem.tail|apply List.mem_append_right)) hnb _))) ?_)<;>try((first|refine Zv (Av rfl rfl) ?_|refine Zv (A0 rfl rfl) ?_)<;>try refine Zm rfl ?_;try((first|refine Zk ?_|((refine Bc rfl rfl (fun h=>?_) (fun h=>?_))<;>(first|refine Zk ?_|refine Zm rfl ?_)))<;>try((first|refine Zk ?_|refine Zf fo68_4 rfl ?_)<;>try((first|refine Zk ?_|refine Zv (Ac U3 rfl rfl Y0 Y4) ?_)<;>try((first|refine Zk ?_|refine Zv (Aw (CallR.fv rfl rfl (.fn _ _ _ _ _ rfl) en108) (Yields.dec (blk2_c (by repeat(first|exact Kn.of (c:= #[pv bf 0]) (.head _) rfl|apply Kn.cons|apply Kn.app)) (hf.up fun e h=>by repeat(first|exact h|apply List.Mem.tail|apply List.mem_append_right)) hnb _))) ?_)<;>try((first|refine Zv (Av rfl rfl) ?_|refine Zv (A0 rfl rfl) ?_)<;>try refine Za rfl (Zf C6 rfl ?_);try refine AK rfl rfl rfl sz3 Y3 Y27 (.inr (Nat.zero_le _)) rfl rfl ?_;try refine Zf Dd rfl ?_;try refine AK rfl rfl rfl sz3 Y3 Y27 (.inr (Nat.zero_le _)) rfl rfl ?_;try refine Zf fo68_4 rfl ?_;try refine AK rfl rfl rfl sz3 Y3 Y27 (.inr (Nat.zero_le _)) rfl rfl ?_;try refine Aa N2 ?_)))))))))))
     all_goals (first|refine(fun (hq:(⟨decide (inP x.el 0 ((nb:Int) - 1)=true),false,false,{{x with kd:=0,ws:=[],args:=[]} with a:=0,to:=0,el:=0}⟩:EndS)=endLook nr nb x)=>A1 ?_ (rest ⟨_,hq⟩)) ?_;(repeat(first|exact Bw _|refine Bh rfl ?_));(try simp only[Cu] at *);(simp[endLook,h1,h2, *];done)|refine(fun (hq:(⟨false,false,false,{{x with kd:=0,ws:=[],args:=[]} with a:=0,to:=0,el:=0}⟩:EndS)=endLook nr nb x)=>A1 ?_ (rest ⟨_,hq⟩)) ?_;(repeat(first|exact Bw _|refine Bh rfl ?_));(try simp only[Cu] at *);(simp[endLook,h1,h2, *];done)|refine(fun (hq:(⟨true,false,false,{{x with kd:=0,ws:=[],args:=[]} with a:=0,to:=0,el:=0}⟩:EndS)=endLook nr nb x)=>A1 ?_ (rest ⟨_,hq⟩)) ?_;(repeat(first|exact Bw _|refine Bh rfl ?_));(try simp only[Cu] at *);(simp[endLook,h1,h2, *];done))
   by_cases h3:x.kd=3
   · repeat' (first|refine Ag rfl ?_|refine Aj rfl ?_|refine Al ?_|refine An ?_|refine A5 rfl ?_|refine Az rfl ?_|refine Ab 7 ?_;try refine Zv (Ay rfl rfl Y2) ?_;try refine Za rfl (Aa N2 ?_)|refine Ab 9 ?_;try refine Zv (Ay rfl rfl Y2) ?_;try refine Za rfl (Aa N2 ?_)|refine Ab 11 ?_;try refine Zv (Ay rfl rfl Y2) ?_;try refine Za rfl (Aa N2 ?_)|refine Ab 12 ?_;try refine Zf C6 rfl (Zv (Ac U3 rfl rfl Y0 Y4) ?_);try refine Zv (Ay rfl rfl Y2) ?_;try refine Zm rfl ?_;try(((refine Bc rfl rfl (fun h=>?_) (fun h=>?_))<;>(first|refine Zk ?_|refine Zv (A2 U176 rfl rfl (by repeat(first|exact Kn.of (.head _) rfl|apply Kn.cons|apply Kn.app))) ?_))<;>try((first|refine Zk ?_|refine Zf C6 rfl ?_)<;>try((first|refine Zk ?_|refine Zv (Ac U3 rfl rfl Y0 Y4) ?_)<;>try((first|refine Zk ?_|refine Zv (Aw (CallR.fv rfl rfl (.fn _ _ _ _ _ rfl) en107) (Yields.dec (reg2_c (by repeat(first|exact Kn.of (c:= #[pv bf 0]) (.head _) rfl|apply Kn.cons|apply Kn.app)) (hf.up fun e h=>by repeat(first|exact h|apply List.Mem.tail|apply List.mem_append_right)) hn _))) ?_)<;>try((first|refine Zv (Av rfl rfl) ?_|refine Zv (A0 rfl rfl) ?_)<;>try refine Za rfl (Zf C6 rfl ?_);try refine AK rfl rfl rfl sz3 Y3 Y27 (.inr (Nat.zero_le _)) rfl rfl ?_;try refine Aa N2 ?_))))))
     all_goals (first|refine(fun (hq:(⟨decide (inP x.a 0 ((nr:Int) - 1)=true),false,false,{{x with kd:=0,ws:=[],args:=[]} with a:=0}⟩:EndS)=endLook nr nb x)=>A1 ?_ (rest ⟨_,hq⟩)) ?_;(repeat(first|exact Bw _|refine Bh rfl ?_));(try simp only[Cu] at *);(simp[endLook,h1,h2,h3, *];done)|refine(fun (hq:(⟨false,false,false,{{x with kd:=0,ws:=[],args:=[]} with a:=0}⟩:EndS)=endLook nr nb x)=>A1 ?_ (rest ⟨_,hq⟩)) ?_;(repeat(first|exact Bw _|refine Bh rfl ?_));(try simp only[Cu] at *);(simp[endLook,h1,h2,h3, *];done)|refine(fun (hq:(⟨true,false,false,{{x with kd:=0,ws:=[],args:=[]} with a:=0}⟩:EndS)=endLook nr nb x)=>A1 ?_ (rest ⟨_,hq⟩)) ?_;(repeat(first|exact Bw _|refine Bh rfl ?_));(try simp only[Cu] at *);(simp[endLook,h1,h2,h3, *];done))
   by_cases h4:x.kd=4
   · repeat' (first|refine Ag rfl ?_|refine Aj rfl ?_|refine Al ?_|refine An ?_|refine A5 rfl ?_|refine Az rfl ?_|refine Ab 7 ?_;try refine Zv (Ay rfl rfl Y2) ?_;try refine Za rfl (Aa N2 ?_)|refine Ab 9 ?_;try refine Zv (Ay rfl rfl Y2) ?_;try refine Za rfl (Aa N2 ?_)|refine Ab 11 ?_;try refine Zv (Ay rfl rfl Y2) ?_;try refine Za rfl (Aa N2 ?_)|refine Ab 13 ?_;try refine Zv (Ay rfl rfl Y2) ?_;try refine Za rfl (Aa N2 ?_)|refine Ab 14 ?_;try refine Zf fo68_5 rfl (Zv (Ac U9 rfl rfl Y0 Y4) ?_);try refine Zv (Aw (CallR.val rfl en68) (Yields.dec (sym_c _))) (Za rfl (Zf fo68_5 rfl ?_));try refine AK rfl rfl rfl sz3 Y3 Y27 (.inr (Nat.zero_le _)) rfl rfl ?_;try refine Aa N2 ?_)
     all_goals (first|refine(fun (hq:(⟨decide (symOk x.nm=true),false,false,{{x with kd:=0,ws:=[],args:=[]} with nm:=[]}⟩:EndS)=endLook nr nb x)=>A1 ?_ (rest ⟨_,hq⟩)) ?_;(repeat(first|exact Bw _|refine Bh rfl ?_));(try simp only[Cu] at *);(simp[endLook,h1,h2,h3,h4, *];done)|refine(fun (hq:(⟨false,false,false,{{x with kd:=0,ws:=[],args:=[]} with nm:=[]}⟩:EndS)=endLook nr nb x)=>A1 ?_ (rest ⟨_,hq⟩)) ?_;(repeat(first|exact Bw _|refine Bh rfl ?_));(try simp only[Cu] at *);(simp[endLook,h1,h2,h3,h4, *];done)|refine(fun (hq:(⟨true,false,false,{{x with kd:=0,ws:=[],args:=[]} with nm:=[]}⟩:EndS)=endLook nr nb x)=>A1 ?_ (rest ⟨_,hq⟩)) ?_;(repeat(first|exact Bw _|refine Bh rfl ?_));(try simp only[Cu] at *);(simp[endLook,h1,h2,h3,h4, *];done))
   by_cases h5:x.kd=5
   · repeat' (first|refine Ag rfl ?_|refine Aj rfl ?_|refine Al ?_|refine An ?_|refine A5 rfl ?_|refine Az rfl ?_|refine AB ?_|refine Ab 7 ?_;try refine Zv (Ay rfl rfl Y2) ?_;try refine Za rfl (Aa N2 ?_)|refine Ab 9 ?_;try refine Zv (Ay rfl rfl Y2) ?_;try refine Za rfl (Aa N2 ?_)|refine Ab 11 ?_;try refine Zv (Ay rfl rfl Y2) ?_;try refine Za rfl (Aa N2 ?_)|refine Ab 13 ?_;try refine Zv (Ay rfl rfl Y2) ?_;try refine Za rfl (Aa N2 ?_)|refine Ab 15 ?_;try refine Zv (Ay rfl rfl Y2) ?_;try refine Za rfl (Aa N2 ?_)|refine Ab 17 ?_;try refine Zf fo68_5 rfl (Zv (Ac U9 rfl rfl Y0 Y4) ?_);try refine Zv (Aw (CallR.val rfl en68) (Yields.dec (sym_c _))) (Zm rfl ?_);try(((refine Bc rfl rfl (fun h=>?_) (fun h=>?_))<;>(first|refine Zk ?_|refine Zf C6 rfl ?_))<;>try((first|refine Zk ?_|refine Zv (Ac U3 rfl rfl Y0 Y4) ?_)<;>try((first|refine Zk ?_|refine Zv (Ay rfl rfl Y2) ?_)<;>try((first|refine Zk ?_|refine Zm rfl ?_)<;>try((first|refine Zk ?_|((refine Bc rfl rfl (fun h=>?_) (fun h=>?_))<;>(first|refine Zk ?_|refine Zv (A2 U176 rfl rfl (by repeat(first|exact Kn.of (.head _) rfl|apply Kn.cons|apply Kn.app))) ?_)))<;>try((first|refine Zk ?_|refine Zf C6 rfl ?_)<;>try((first|refine Zk ?_|refine Zv (Ac U3 rfl rfl Y0 Y4) ?_)<;>try((first|refine Zk ?_|refine Zv (Aw (CallR.fv rfl rfl (.fn _ _ _ _ _ rfl) en107) (Yields.dec (reg2_c (by repeat(first|exact Kn.of (c:= #[pv bf 0]) (.head _) rfl|apply Kn.cons|apply Kn.app)) (hf.up fun e h=>by repeat(first|exact h|apply List.Mem.tail|apply List.mem_append_right)) hn _))) ?_)<;>try((first|refine Zk ?_|(first|refine Zv (Av rfl rfl) ?_|refine Zv (A0 rfl rfl) ?_))<;>try((first|refine Zv (Av rfl rfl) ?_|refine Zv (A0 rfl rfl) ?_)<;>try refine Zm rfl ?_;try((first|refine Zk ?_|refine Zm rfl ?_|((refine Bc rfl rfl (fun h=>?_) (fun h=>?_))<;>(first|refine Zk ?_|refine Zm rfl ?_)))<;>try((first|refine Zk ?_|refine Zf Dd rfl ?_)<;>try((first|refine Zk ?_|refine Zv (Ac U3 rfl rfl Y0 Y4) ?_)<;>try((first|refine Zk ?_|refine Zv (Aw (CallR.fv rfl rfl (.fn _ _ _ _ _ rfl) en108) (Yields.dec (blk2_c (by repeat(first|exact Kn.of (c:= #[pv bf 0]) (.head _) rfl|apply Kn.cons|apply Kn.app)) (hf.up fun e h=>by repeat(first|exact h|apply List.Mem.tail|apply List.mem_append_right)) hnb _))) ?_)<;>try((first|refine Zv (Av rfl rfl) ?_|refine Zv (A0 rfl rfl) ?_)<;>try refine Za rfl (Za rfl (Za rfl (Aa N2 ?_))))))))))))))))))|refine Ab 18 ?_;try refine Zf fo68_5 rfl ?_;try refine AK rfl rfl rfl sz3 Y3 Y27 (.inr (Nat.zero_le _)) rfl rfl ?_;try refine Zf C6 rfl ?_;try refine AK rfl rfl rfl sz3 Y3 Y27 (.inr (Nat.zero_le _)) rfl rfl ?_;try refine Zf Dd rfl ?_;try refine AK rfl rfl rfl sz3 Y3 Y27 (.inr (Nat.zero_le _)) rfl rfl ?_;try refine Aa N2 ?_)
     all_goals (first|refine(fun (hq:(⟨decide (inP x.to 0 ((nb:Int) - 1)=true),true,true,{{x with kd:=0,ws:=[],args:=[]} with nm:=[],a:=0,to:=0}⟩:EndS)=endLook nr nb x)=>A1 ?_ (rest ⟨_,hq⟩)) ?_;(repeat(first|exact Bw _|refine Bh rfl ?_));(try simp only[Cu] at *);(simp[endLook,h1,h2,h3,h4,h5, *];done)|refine(fun (hq:(⟨false,true,true,{{x with kd:=0,ws:=[],args:=[]} with nm:=[],a:=0,to:=0}⟩:EndS)=endLook nr nb x)=>A1 ?_ (rest ⟨_,hq⟩)) ?_;(repeat(first|exact Bw _|refine Bh rfl ?_));(try simp only[Cu] at *);(simp[endLook,h1,h2,h3,h4,h5, *];done)|refine(fun (hq:(⟨true,true,true,{{x with kd:=0,ws:=[],args:=[]} with nm:=[],a:=0,to:=0}⟩:EndS)=endLook nr nb x)=>A1 ?_ (rest ⟨_,hq⟩)) ?_;(repeat(first|exact Bw _|refine Bh rfl ?_));(try simp only[Cu] at *);(simp[endLook,h1,h2,h3,h4,h5, *];done))
   by_cases h6:x.kd=6
   · repeat' (first|refine Ag rfl ?_|refine Aj rfl ?_|refine Al ?_|refine An ?_|refine A5 rfl ?_|refine Az rfl ?_|refine Ab 7 ?_;try refine Zv (Ay rfl rfl Y2) ?_;try refine Za rfl (Aa N2 ?_)|refine Ab 9 ?_;try refine Zv (Ay rfl rfl Y2) ?_;try refine Za rfl (Aa N2 ?_)|refine Ab 11 ?_;try refine Zv (Ay rfl rfl Y2) ?_;try refine Za rfl (Aa N2 ?_)|refine Ab 13 ?_;try refine Zv (Ay rfl rfl Y2) ?_;try refine Za rfl (Aa N2 ?_)|refine Ab 15 ?_;try refine Zv (Ay rfl rfl Y2) ?_;try refine Za rfl (Aa N2 ?_)|refine Ab 16 ?_;try refine Zv (Ay rfl rfl Y2) ?_;try refine Za rfl (Aa N2 ?_)|refine Ab 17 ?_;try refine Zf fo68_5 rfl (Zv (Ac U9 rfl rfl Y0 Y4) ?_);try refine Zv (Aw (CallR.val rfl en68) (Yields.dec (sym_c _))) (Zm rfl ?_);try(((refine Bc rfl rfl (fun h=>?_) (fun h=>?_))<;>(first|refine Zk ?_|refine Zf C6 rfl ?_))<;>try((first|refine Zk ?_|refine Zv (Ac U3 rfl rfl Y0 Y4) ?_)<;>try((first|refine Zk ?_|refine Zv (Ay rfl rfl Y2) ?_)<;>try((first|refine Zk ?_|refine Zm rfl ?_)<;>try((first|refine Zk ?_|((refine Bc rfl rfl (fun h=>?_) (fun h=>?_))<;>(first|refine Zk ?_|refine Zv (A2 U176 rfl rfl (by repeat(first|exact Kn.of (.head _) rfl|apply Kn.cons|apply Kn.app))) ?_)))<;>try((first|refine Zk ?_|refine Zf C6 rfl ?_)<;>try((first|refine Zk ?_|refine Zv (Ac U3 rfl rfl Y0 Y4) ?_)<;>try((first|refine Zk ?_|refine Zv (Aw (CallR.fv rfl rfl (.fn _ _ _ _ _ rfl) en107) (Yields.dec (reg2_c (by repeat(first|exact Kn.of (c:= #[pv bf 0]) (.head _) rfl|apply Kn.cons|apply Kn.app)) (hf.up fun e h=>by repeat(first|exact h|apply List.Mem.tail|apply List.mem_append_right)) hn _))) ?_)<;>try((first|refine Zk ?_|(first|refine Zv (Av rfl rfl) ?_|refine Zv (A0 rfl rfl) ?_))<;>try((first|refine Zv (Av rfl rfl) ?_|refine Zv (A0 rfl rfl) ?_)<;>try refine Zm rfl ?_;try((first|refine Zk ?_|refine Zm rfl ?_|((refine Bc rfl rfl (fun h=>?_) (fun h=>?_))<;>(first|refine Zk ?_|refine Zm rfl ?_)))<;>try((first|refine Zk ?_|refine Zf Dd rfl ?_)<;>try((first|refine Zk ?_|refine Zv (Ac U3 rfl rfl Y0 Y4) ?_)<;>try((first|refine Zk ?_|refine Zv (Aw (CallR.fv rfl rfl (.fn _ _ _ _ _ rfl) en108) (Yields.dec (blk2_c (by repeat(first|exact Kn.of (c:= #[pv bf 0]) (.head _) rfl|apply Kn.cons|apply Kn.app)) (hf.up fun e h=>by repeat(first|exact h|apply List.Mem.tail|apply List.mem_append_right)) hnb _))) ?_)<;>try((first|refine Zv (Av rfl rfl) ?_|refine Zv (A0 rfl rfl) ?_)<;>try refine Za rfl (Za rfl (Za rfl (Aa N2 ?_))))))))))))))))))|refine Ab 18 ?_;try refine Zf fo68_5 rfl ?_;try refine AK rfl rfl rfl sz3 Y3 Y27 (.inr (Nat.zero_le _)) rfl rfl ?_;try refine Zf C6 rfl ?_;try refine AK rfl rfl rfl sz3 Y3 Y27 (.inr (Nat.zero_le _)) rfl rfl ?_;try refine Zf Dd rfl ?_;try refine AK rfl rfl rfl sz3 Y3 Y27 (.inr (Nat.zero_le _)) rfl rfl ?_;try refine Aa N2 ?_)
     all_goals (first|refine(fun (hq:(⟨decide (inP x.to 0 ((nb:Int) - 1)=true),true,true,{{x with kd:=0,ws:=[],args:=[]} with nm:=[],a:=0,to:=0}⟩:EndS)=endLook nr nb x)=>A1 ?_ (rest ⟨_,hq⟩)) ?_;(repeat(first|exact Bw _|refine Bh rfl ?_));(try simp only[Cu] at *);(simp[endLook,h1,h2,h3,h4,h5,h6, *];done)|refine(fun (hq:(⟨false,true,true,{{x with kd:=0,ws:=[],args:=[]} with nm:=[],a:=0,to:=0}⟩:EndS)=endLook nr nb x)=>A1 ?_ (rest ⟨_,hq⟩)) ?_;(repeat(first|exact Bw _|refine Bh rfl ?_));(try simp only[Cu] at *);(simp[endLook,h1,h2,h3,h4,h5,h6, *];done)|refine(fun (hq:(⟨true,true,true,{{x with kd:=0,ws:=[],args:=[]} with nm:=[],a:=0,to:=0}⟩:EndS)=endLook nr nb x)=>A1 ?_ (rest ⟨_,hq⟩)) ?_;(repeat(first|exact Bw _|refine Bh rfl ?_));(try simp only[Cu] at *);(simp[endLook,h1,h2,h3,h4,h5,h6, *];done))
   by_cases h7:x.kd=7
   · repeat' (first|refine Ag rfl ?_|refine Aj rfl ?_|refine Al ?_|refine An ?_|refine A5 rfl ?_|refine Az rfl ?_|refine Ab 7 ?_;try refine Zv (Ay rfl rfl Y2) ?_;try refine Za rfl (Aa N2 ?_)|refine Ab 9 ?_;try refine Zv (Ay rfl rfl Y2) ?_;try refine Za rfl (Aa N2 ?_)|refine Ab 11 ?_;try refine Zv (Ay rfl rfl Y2) ?_;try refine Za rfl (Aa N2 ?_)|refine Ab 13 ?_;try refine Zv (Ay rfl rfl Y2) ?_;try refine Za rfl (Aa N2 ?_)|refine Ab 15 ?_;try refine Zv (Ay rfl rfl Y2) ?_;try refine Za rfl (Aa N2 ?_)|refine Ab 16 ?_;try refine Zv (Ay rfl rfl Y2) ?_;try refine Za rfl (Aa N2 ?_)|refine Ab 19 ?_;try refine Zv (Ay rfl rfl Y2) ?_;try refine Za rfl (Aa N2 ?_)|refine Ab 20 ?_;try refine Zv (A2 U176 rfl rfl (by repeat(first|exact Kn.of (.head _) rfl|apply Kn.cons|apply Kn.app))) ?_;try refine Zf C6 rfl (Zv (Ac U3 rfl rfl Y0 Y4) ?_);try refine Zv (Aw (CallR.fv rfl rfl (.fn _ _ _ _ _ rfl) en107) (Yields.dec (reg2_c (by repeat(first|exact Kn.of (c:= #[pv bf 0]) (.head _) rfl|apply Kn.cons|apply Kn.app)) (hf.up fun e h=>by repeat(first|exact h|apply List.Mem.tail|apply List.mem_append_right)) hn _))) ?_;try refine Zm rfl ?_;try(((refine Bc rfl rfl (fun h=>?_) (fun h=>?_))<;>(first|refine Zk ?_|refine Zv (A2 U176 rfl rfl (by repeat(first|exact Kn.of (.head _) rfl|apply Kn.cons|apply Kn.app))) ?_))<;>try((first|refine Zk ?_|refine Zf fo68_2 rfl ?_)<;>try((first|refine Zk ?_|refine Zv (Ac U3 rfl rfl Y0 Y4) ?_)<;>try((first|refine Zk ?_|refine Zv (Aw (CallR.fv rfl rfl (.fn _ _ _ _ _ rfl) en107) (Yields.dec (reg2_c (by repeat(first|exact Kn.of (c:= #[pv bf 0]) (.head _) rfl|apply Kn.cons|apply Kn.app)) (hf.up fun e h=>by repeat(first|exact h|apply List.Mem.tail|apply List.mem_append_right)) hn _))) ?_)<;>try((first|refine Zv (Av rfl rfl) ?_|refine Zv (A0 rfl rfl) ?_)<;>try refine Zm rfl ?_;try((first|refine Zk ?_|((refine Bc rfl rfl (fun h=>?_) (fun h=>?_))<;>(first|refine Zk ?_|refine Zm rfl ?_)))<;>try((first|refine Zk ?_|refine Zf Dd rfl ?_)<;>try((first|refine Zk ?_|refine Zv (Ac U3 rfl rfl Y0 Y4) ?_)<;>try((first|refine Zk ?_|refine Zv (Aw (CallR.fv rfl rfl (.fn _ _ _ _ _ rfl) en108) (Yields.dec (blk2_c (by repeat(first|exact Kn.of (c:= #[pv bf 0]) (.head _) rfl|apply Kn.cons|apply Kn.app)) (hf.up fun e h=>by repeat(first|exact h|apply List.Mem.tail|apply List.mem_append_right)) hnb _))) ?_)<;>try((first|refine Zv (Av rfl rfl) ?_|refine Zv (A0 rfl rfl) ?_)<;>try refine Za rfl (Za rfl (Zf C6 rfl ?_));try refine AK rfl rfl rfl sz3 Y3 Y27 (.inr (Nat.zero_le _)) rfl rfl ?_;try refine Zf fo68_2 rfl ?_;try refine AK rfl rfl rfl sz3 Y3 Y27 (.inr (Nat.zero_le _)) rfl rfl ?_;try refine Zf Dd rfl ?_;try refine AK rfl rfl rfl sz3 Y3 Y27 (.inr (Nat.zero_le _)) rfl rfl ?_;try refine Aa N2 ?_)))))))))))
     all_goals (first|refine(fun (hq:(⟨decide (inP x.to 0 ((nb:Int) - 1)=true),false,true,{{x with kd:=0,ws:=[],args:=[]} with a:=0,b:=0,to:=0}⟩:EndS)=endLook nr nb x)=>A1 ?_ (rest ⟨_,hq⟩)) ?_;(repeat(first|exact Bw _|refine Bh rfl ?_));(try simp only[Cu] at *);(simp[endLook,h1,h2,h3,h4,h5,h6,h7, *];done)|refine(fun (hq:(⟨false,false,true,{{x with kd:=0,ws:=[],args:=[]} with a:=0,b:=0,to:=0}⟩:EndS)=endLook nr nb x)=>A1 ?_ (rest ⟨_,hq⟩)) ?_;(repeat(first|exact Bw _|refine Bh rfl ?_));(try simp only[Cu] at *);(simp[endLook,h1,h2,h3,h4,h5,h6,h7, *];done)|refine(fun (hq:(⟨true,false,true,{{x with kd:=0,ws:=[],args:=[]} with a:=0,b:=0,to:=0}⟩:EndS)=endLook nr nb x)=>A1 ?_ (rest ⟨_,hq⟩)) ?_;(repeat(first|exact Bw _|refine Bh rfl ?_));(try simp only[Cu] at *);(simp[endLook,h1,h2,h3,h4,h5,h6,h7, *];done))
   by_cases h8:x.kd=8
   · repeat' (first|refine Ag rfl ?_|refine Aj rfl ?_|refine Al ?_|refine An ?_|refine A5 rfl ?_|refine Az rfl ?_|refine Ab 7 ?_;try refine Zv (Ay rfl rfl Y2) ?_;try refine Za rfl (Aa N2 ?_)|refine Ab 9 ?_;try refine Zv (Ay rfl rfl Y2) ?_;try refine Za rfl (Aa N2 ?_)|refine Ab 11 ?_;try refine Zv (Ay rfl rfl Y2) ?_;try refine Za rfl (Aa N2 ?_)|refine Ab 13 ?_;try refine Zv (Ay rfl rfl Y2) ?_;try refine Za rfl (Aa N2 ?_)|refine Ab 15 ?_;try refine Zv (Ay rfl rfl Y2) ?_;try refine Za rfl (Aa N2 ?_)|refine Ab 16 ?_;try refine Zv (Ay rfl rfl Y2) ?_;try refine Za rfl (Aa N2 ?_)|refine Ab 19 ?_;try refine Zv (Ay rfl rfl Y2) ?_;try refine Za rfl (Aa N2 ?_)|refine Ab 21 ?_;try refine Zv (Ay rfl rfl Y2) ?_;try refine Za rfl (Aa N2 ?_)|refine Ab 22 ?_;try refine Zv (A2 U176 rfl rfl (by repeat(first|exact Kn.of (.head _) rfl|apply Kn.cons|apply Kn.app))) ?_;try refine Zf C6 rfl (Zv (Ac U3 rfl rfl Y0 Y4) ?_);try refine Zv (Aw (CallR.fv rfl rfl (.fn _ _ _ _ _ rfl) en107) (Yields.dec (reg2_c (by repeat(first|exact Kn.of (c:= #[pv bf 0]) (.head _) rfl|apply Kn.cons|apply Kn.app)) (hf.up fun e h=>by repeat(first|exact h|apply List.Mem.tail|apply List.mem_append_right)) hn _))) ?_;try refine Zm rfl ?_;try(((refine Bc rfl rfl (fun h=>?_) (fun h=>?_))<;>(first|refine Zk ?_|refine Zm rfl ?_))<;>try((first|refine Zk ?_|refine Zf Dd rfl ?_)<;>try((first|refine Zk ?_|refine Zv (Ac U3 rfl rfl Y0 Y4) ?_)<;>try((first|refine Zk ?_|refine Zv (Aw (CallR.fv rfl rfl (.fn _ _ _ _ _ rfl) en108) (Yields.dec (blk2_c (by repeat(first|exact Kn.of (c:= #[pv bf 0]) (.head _) rfl|apply Kn.cons|apply Kn.app)) (hf.up fun e h=>by repeat(first|exact h|apply List.Mem.tail|apply List.mem_append_right)) hnb _))) ?_)<;>try((first|refine Zv (Av rfl rfl) ?_|refine Zv (A0 rfl rfl) ?_)<;>try refine Za rfl (Za rfl (Zf C6 rfl ?_));try refine AK rfl rfl rfl sz3 Y3 Y27 (.inr (Nat.zero_le _)) rfl rfl ?_;try refine Zf Dd rfl ?_;try refine AK rfl rfl rfl sz3 Y3 Y27 (.inr (Nat.zero_le _)) rfl rfl ?_;try refine Aa N2 ?_))))))
     all_goals (first|refine(fun (hq:(⟨decide (inP x.to 0 ((nb:Int) - 1)=true),false,true,{{x with kd:=0,ws:=[],args:=[]} with a:=0,to:=0}⟩:EndS)=endLook nr nb x)=>A1 ?_ (rest ⟨_,hq⟩)) ?_;(repeat(first|exact Bw _|refine Bh rfl ?_));(try simp only[Cu] at *);(simp[endLook,h1,h2,h3,h4,h5,h6,h7,h8, *];done)|refine(fun (hq:(⟨false,false,true,{{x with kd:=0,ws:=[],args:=[]} with a:=0,to:=0}⟩:EndS)=endLook nr nb x)=>A1 ?_ (rest ⟨_,hq⟩)) ?_;(repeat(first|exact Bw _|refine Bh rfl ?_));(try simp only[Cu] at *);(simp[endLook,h1,h2,h3,h4,h5,h6,h7,h8, *];done)|refine(fun (hq:(⟨true,false,true,{{x with kd:=0,ws:=[],args:=[]} with a:=0,to:=0}⟩:EndS)=endLook nr nb x)=>A1 ?_ (rest ⟨_,hq⟩)) ?_;(repeat(first|exact Bw _|refine Bh rfl ?_));(try simp only[Cu] at *);(simp[endLook,h1,h2,h3,h4,h5,h6,h7,h8, *];done))
   by_cases h9:x.kd=9
   · repeat' (first|refine Ag rfl ?_|refine Aj rfl ?_|refine Al ?_|refine An ?_|refine A5 rfl ?_|refine Az rfl ?_|refine Ab 7 ?_;try refine Zv (Ay rfl rfl Y2) ?_;try refine Za rfl (Aa N2 ?_)|refine Ab 9 ?_;try refine Zv (Ay rfl rfl Y2) ?_;try refine Za rfl (Aa N2 ?_)|refine Ab 11 ?_;try refine Zv (Ay rfl rfl Y2) ?_;try refine Za rfl (Aa N2 ?_)|refine Ab 13 ?_;try refine Zv (Ay rfl rfl Y2) ?_;try refine Za rfl (Aa N2 ?_)|refine Ab 15 ?_;try refine Zv (Ay rfl rfl Y2) ?_;try refine Za rfl (Aa N2 ?_)|refine Ab 16 ?_;try refine Zv (Ay rfl rfl Y2) ?_;try refine Za rfl (Aa N2 ?_)|refine Ab 19 ?_;try refine Zv (Ay rfl rfl Y2) ?_;try refine Za rfl (Aa N2 ?_)|refine Ab 21 ?_;try refine Zv (Ay rfl rfl Y2) ?_;try refine Za rfl (Aa N2 ?_)|refine Ab 23 ?_;try refine Zv (Ay rfl rfl Y2) ?_;try refine Za rfl (Aa N2 ?_)|refine Ab 24 ?_;try refine Zf C6 rfl (Zv (Ac U3 rfl rfl Y0 Y4) ?_);try refine Zv (Aw (CallR.val rfl en69) (Yields.dec (in_c _ _ _))) (Za rfl (Zf C6 rfl ?_));try refine AK rfl rfl rfl sz3 Y3 Y27 (.inr (Nat.zero_le _)) rfl rfl ?_;try refine Aa N2 ?_)
     all_goals (first|refine(fun (hq:(⟨decide (inP x.a 1 9=true),false,false,{{x with kd:=0,ws:=[],args:=[]} with a:=0}⟩:EndS)=endLook nr nb x)=>A1 ?_ (rest ⟨_,hq⟩)) ?_;(repeat(first|exact Bw _|refine Bh rfl ?_));(try simp only[Cu] at *);(simp[endLook,h1,h2,h3,h4,h5,h6,h7,h8,h9, *];done)|refine(fun (hq:(⟨false,false,false,{{x with kd:=0,ws:=[],args:=[]} with a:=0}⟩:EndS)=endLook nr nb x)=>A1 ?_ (rest ⟨_,hq⟩)) ?_;(repeat(first|exact Bw _|refine Bh rfl ?_));(try simp only[Cu] at *);(simp[endLook,h1,h2,h3,h4,h5,h6,h7,h8,h9, *];done)|refine(fun (hq:(⟨true,false,false,{{x with kd:=0,ws:=[],args:=[]} with a:=0}⟩:EndS)=endLook nr nb x)=>A1 ?_ (rest ⟨_,hq⟩)) ?_;(repeat(first|exact Bw _|refine Bh rfl ?_));(try simp only[Cu] at *);(simp[endLook,h1,h2,h3,h4,h5,h6,h7,h8,h9, *];done))
   repeat' (first|refine Ag rfl ?_|refine Aj rfl ?_|refine Al ?_|refine An ?_|refine Az rfl ?_|refine AB ?_|refine Ab 7 ?_;try refine Zv (Ay rfl rfl Y2) ?_;try refine Za rfl (Aa N2 ?_)|refine Ab 9 ?_;try refine Zv (Ay rfl rfl Y2) ?_;try refine Za rfl (Aa N2 ?_)|refine Ab 11 ?_;try refine Zv (Ay rfl rfl Y2) ?_;try refine Za rfl (Aa N2 ?_)|refine Ab 13 ?_;try refine Zv (Ay rfl rfl Y2) ?_;try refine Za rfl (Aa N2 ?_)|refine Ab 15 ?_;try refine Zv (Ay rfl rfl Y2) ?_;try refine Za rfl (Aa N2 ?_)|refine Ab 16 ?_;try refine Zv (Ay rfl rfl Y2) ?_;try refine Za rfl (Aa N2 ?_)|refine Ab 19 ?_;try refine Zv (Ay rfl rfl Y2) ?_;try refine Za rfl (Aa N2 ?_)|refine Ab 21 ?_;try refine Zv (Ay rfl rfl Y2) ?_;try refine Za rfl (Aa N2 ?_)|refine Ab 23 ?_;try refine Zv (Ay rfl rfl Y2) ?_;try refine Za rfl (Aa N2 ?_))
   all_goals (first|refine(fun (hq:(⟨false,false,false,{x with kd:=0,ws:=[],args:=[]}⟩:EndS)=endLook nr nb x)=>A1 ?_ (rest ⟨_,hq⟩)) ?_;(repeat(first|exact Bw _|refine Bh rfl ?_));(try simp only[Cu] at *);(simp[endLook,h1,h2,h3,h4,h5,h6,h7,h8,h9, *];done)|refine(fun (hq:(⟨true,false,false,{x with kd:=0,ws:=[],args:=[]}⟩:EndS)=endLook nr nb x)=>A1 ?_ (rest ⟨_,hq⟩)) ?_;(repeat(first|exact Bw _|refine Bh rfl ?_));(try simp only[Cu] at *);(simp[endLook,h1,h2,h3,h4,h5,h6,h7,h8,h9, *];done))
 rintro⟨q,hq⟩
 dsimp only
 have hE:endPr (nr:Int) nb x=(if !q.ok || !q.args && decide (0 < x.args.length)|| decide (7 < x.args.length)|| x.args.any (fun a=> !inR a nr) then false
  else if q.whens && decide (x.ot ≠ -1) && !inR x.ot nb then false
  else if !q.whens && decide (0 < x.ws.length) then false
  else if decide (x.ws.length≤7) && whensOk nb [] x.ws then decide (q.rest.a=0) && decide (q.rest.b=0) && decide (q.rest.to=0) && decide (q.rest.el=0) && decide (q.rest.nm=[]) && decide ((if q.whens then -1 else q.rest.ot)= -1) else false):=by rw[hq];rfl
 clear hq
 generalize endPr (nr:Int) nb x=R at *
 obtain⟨ok,ar,wh,rs⟩:=q
 dsimp only at hE ⊢
 have hany:∀ {F'},(∀e∈F,e∈F')→Kn S w0 F' b5 0 (.func (.func 107) #[] #[pv b2 0])→Kn S w0 F' b2 0 (pv bf 0)→Yields S w0 F' 109 [.slice aa x.args.length ca,.func (.func 110) #[] #[pv b5 0]] (.bool (decide (x.args.any (fun a=> !inR a nr)=true))):=fun hu h5 h2=>by
  refine Yields.dec (has_int (hA.up hu) hal fun r _=>tells_fn en110 (reg3_c h5 ?_))
  have:=reg2_c h2 (hf.up hu) hn r
  rwa [Cu] at this
 generalize hgx:x.args.any (fun a=> !inR a nr)=ga at *
 generalize hgl:(decide (x.ws.length≤7) && whensOk nb [] x.ws)=gw at *
 generalize hot:(if wh then (-1:Int) else rs.ot)=ot' at *
 cases ok
 · repeat' (first|refine Ag rfl ?_|refine Aj rfl ?_|refine Al ?_|refine An ?_|refine A5 rfl ?_|refine AH ?_|refine AM Tryz.func75 rfl (fun w_ hi_=>?_)|refine Ab 25 ?_;try refine Zm rfl (Zv (Ci rfl) (Zm rfl (Zk (Zk (Zk (Zk (Zk (Zk (Zk (Zk (Zv (Av rfl rfl) (Zm rfl (Zk (Zk (Zk (Zk (Zv (Av rfl rfl) (Zm rfl (Zk (Zk (Zk (Zk (Zv (Av rfl rfl) (Aa N2 ?_))))))))))))))))))))))))|refine Ab 26 ?_;try refine Za rfl (Aa N2 ?_))
   exact⟨[],⟨by rw[hE];rfl,rfl⟩,hi_.subset Y5⟩
 cases ar<;>cases wh
 all_goals
  repeat' (first|refine Ag rfl ?_|refine Aj rfl ?_|refine Al ?_|refine An ?_|refine A5 rfl ?_|refine Az rfl ?_|refine CY rfl (fun h=>?_) (fun h=>?_)|refine w_condN rfl (fun h=>?_) (fun h=>?_)|refine AH ?_|refine AB ?_|refine AM Tryz.func75 rfl (fun w_ hi_=>?_)|refine Ab 25 ?_;try refine Zm rfl (Zv (BN rfl) (Zm rfl (Zm rfl ?_)));try((first|refine Zv (BN rfl) ?_|refine Zv (Ci rfl) ?_)<;>try refine Zm rfl ?_;try((first|refine Zk ?_|refine Zf fo68_6 rfl ?_)<;>try((first|refine Zk ?_|refine Zv (Ac U59 rfl rfl Y0 Y4) ?_)<;>try((first|refine Zk ?_|refine Zv (Ap rfl U59 rfl) ?_)<;>try((first|refine Zk ?_|refine Zv (Be rfl rfl Y2) ?_)<;>try((first|refine Zv (Av rfl rfl) ?_|refine Zv (A0 rfl rfl) ?_)<;>try refine Zv (A0 rfl rfl) (Zm rfl ?_);try((first|refine Zf fo68_6 rfl ?_|((refine Bc rfl rfl (fun h=>?_) (fun h=>?_))<;>(first|refine Zk ?_|refine Zf fo68_6 rfl ?_)))<;>try((first|refine Zk ?_|refine Zv (Ac U59 rfl rfl Y0 Y4) ?_)<;>try((first|refine Zk ?_|refine Zv (Ap rfl U59 rfl) ?_)<;>try((first|refine Zk ?_|refine Zv (Be rfl rfl Y2) ?_)<;>try((first|refine Zv (Av rfl rfl) ?_|refine Zv (A0 rfl rfl) ?_)<;>try refine Zm rfl ?_;try((first|refine Zk ?_|refine Zf fo68_6 rfl ?_|((refine Bc rfl rfl (fun h=>?_) (fun h=>?_))<;>(first|refine Zk ?_|refine Zf fo68_6 rfl ?_)))<;>try((first|refine Zk ?_|refine Zv (Ac U59 rfl rfl Y0 Y4) ?_)<;>try((first|refine Zk ?_|refine Zv (Bm rfl rfl) ?_)<;>try((first|refine Zk ?_|refine Zv (Aw (CallR.val rfl en109) (hany Y12 (by repeat(first|exact Kn.of (.head _) rfl|apply Kn.cons|apply Kn.app)) (by repeat(first|exact Kn.of (c:= #[pv bf 0]) (.head _) rfl|apply Kn.cons|apply Kn.app)))) ?_)<;>try((first|refine Zv (Av rfl rfl) ?_|refine Zv (A0 rfl rfl) ?_)<;>try refine Aa N2 ?_))))))))))))))))|refine Ab 26 ?_;try refine Za rfl (Aa N2 ?_)|refine Ab 27 ?_;try refine Zm rfl (Zm rfl ?_);try((first|refine Zk ?_|refine Zf fo68_8 rfl ?_)<;>try((first|refine Zk ?_|refine Zv (Ac U3 rfl rfl Y0 Y4) ?_)<;>try((first|refine Zk ?_|refine Zv (AN rfl rfl (by first|exact Ax Y9|exact As Y9|exact rfl)) ?_)<;>try((first|refine Zv (Av rfl rfl) ?_|refine Zv (A0 rfl rfl) ?_)<;>try refine Zm rfl ?_;try((first|refine Zk ?_|((refine B8 rfl rfl (fun h=>?_) (fun h=>?_))<;>(first|refine Zk ?_|refine Zm rfl ?_)))<;>try((first|refine Zk ?_|refine Zf fo68_8 rfl ?_)<;>try((first|refine Zk ?_|refine Zv (Ac U3 rfl rfl Y0 Y4) ?_)<;>try((first|refine Zk ?_|refine Zv (Aw (CallR.fv rfl rfl (.fn _ _ _ _ _ rfl) en108) (blkR_c (by repeat(first|exact Kn.of (c:= #[pv bf 0]) (.head _) rfl|apply Kn.cons|apply Kn.app)) (hf.up fun e h=>by repeat(first|exact h|apply List.Mem.tail|apply List.mem_append_right)) hnb _)) ?_)<;>try((first|refine Zk ?_|refine Zv (ov_not rfl) ?_)<;>try((first|refine Zv (Av rfl rfl) ?_|refine Zv (A0 rfl rfl) ?_)<;>try refine Aa N2 ?_))))))))))|refine Ab 28 ?_;try refine Za rfl (Aa N2 ?_)|refine Ab 29 ?_;try refine Zm rfl (Aa N2 ?_)|refine Ab 30 ?_;try refine Zf fo68_8 rfl ?_;try refine AK rfl rfl rfl sz3 Y3 Y27 (.inr (Nat.zero_le _)) rfl rfl ?_;try refine Aa N2 ?_|refine Ab 31 ?_;try refine Zf fo68_7 rfl (Zv (Ac U66 rfl rfl Y0 Y4) ?_);try refine Zv (Ap rfl U66 rfl) (Zv (Be rfl rfl Y2) ?_);try refine Aa N2 ?_|refine Ab 32 ?_;try refine Za rfl (Aa N2 ?_))
 all_goals (try refine⟨[],⟨?_,rfl⟩,hi_.subset Y5⟩;show Ending.returned (Value.bool _)=_;congr 2;clear hA hW hany hf hka hkw hi_;grind)
 all_goals
  have hR:R=if gw then decide (rs.a=0) && decide (rs.b=0) && decide (rs.to=0) && decide (rs.el=0) && decide (rs.nm=[]) && decide (ot'= -1) else false:=by grind
  clear hE
  repeat' (first|refine Ag rfl ?_|refine Aj rfl ?_|refine Al ?_|refine Ab 33 ?_;try refine Zf fo68_7 rfl (Zv (Ac U66 rfl rfl Y0 Y4) ?_);try refine Zv (Ap rfl U66 rfl) (Zm rfl (Aa N2 ?_)))
  refine A6 ?_
  refine A1 (E':=(fun k:Nat=>[(3,pv b3 0),(6,.func (.func 108) #[] #[pv b2 0]),(7,pv b7 0),(178,.slice aw x.ws.length cw),(179,.int .i64 (x.ws.length:Int)),(180,.int .i64 (k:Int))]) 0) Y14 ?_
  refine Bb (fun k:Nat=>k≤x.ws.length∧k≤7∧gw=(decide (x.ws.length≤7) && whensOk nb ((x.ws.take k).map (·.1)) (x.ws.drop k))) (fun k=>x.ws.length - k) (fun k:Nat=>[(3,pv b3 0),(6,.func (.func 108) #[] #[pv b2 0]),(7,pv b7 0),(178,.slice aw x.ws.length cw),(179,.int .i64 (x.ws.length:Int)),(180,.int .i64 (k:Int))]) (fun k=>_) ?_ 0 ⟨Nat.zero_le _,Nat.zero_le _,hgl.symm⟩
  rintro k ⟨k1,k2,k3⟩ ih
  try dsimp only at k1 k2 k3 ih ⊢
  by_cases hlt:k < x.ws.length
  · obtain ⟨b,off,hbw,hkn⟩:=hkw.resolve_left (fun e=>by have:=Db x.ws;rw[e] at this;simp at this;omega)
    subst hbw
    have hdr:x.ws.drop k=x.ws[k]::x.ws.drop (k+1):=List.drop_eq_getElem_cons hlt
    have hcell:∀j (h:j < (#[str x.ws[k].1,Value.int .i64 x.ws[k].2]:Array Value).size),Kn S w0 F b (off+((k:Nat):Int).toNat*2+j) (#[str x.ws[k].1,Value.int .i64 x.ws[k].2])[j]:=by
     intro j h
     have h2:j < 2:=h
     have:=C9 (fun p:Bs×Int=>[str p.1,Value.int .i64 p.2]) (fun _=>rfl) x.ws k j Y9 h2
     obtain⟨h3,h4⟩:=List.getElem?_eq_some_iff.1 (this.trans (List.getElem?_eq_getElem (show j < [str x.ws[k].1,Value.int .i64 x.ws[k].2].length from h2)))
     have h5:Kn S w0 F b (off+(k*2+j)) ((rowV (fun p:Bs×Int=>[str p.1,Value.int .i64 p.2]) x.ws)[k*2+j]'h3):=hkn (k*2+j) h3
     rw[h4] at h5
     rw[show off+((k:Nat):Int).toNat*2+j=off+(k*2+j) by simp;omega]
     simpa using h5
    have hseen:∀ {F':List Ent} {b12:Nat},(∀e∈F,e∈F')→Kn S w0 F' b12 0 (str x.ws[k].1)→Yields S w0 F' 111 [.slice (some ⟨b,off+0*2,none⟩) (k - 0) (cw - 0),.func (.func 112) #[] #[pv b12 0]] (.bool (decide (((x.ws.take k).map (·.1)).contains x.ws[k].1=true))):=fun {F'} {b12} hu h12=>by
     have hs:SlK S w0 F' (whensV (x.ws.take k)) (x.ws.take k).length (.slice (some ⟨b,off+0*2,none⟩) (k - 0) (cw - 0)):=by
      refine⟨_,cw - 0,by rw[List.length_take,Nat.min_eq_left k1];rfl,by rw[List.length_take];omega,.inr ⟨b,_,rfl,fun i hi=>?_⟩⟩
      have hl:i < (whensV x.ws).length:=by rw[Db] at hi ⊢;rw[List.length_take] at hi;omega
      have h5:=(hkn i hl).mono hu
      have h6:(whensV (x.ws.take k))[i]=(whensV x.ws)[i]:=by
       have:whensV x.ws=whensV (x.ws.take k)++whensV (x.ws.drop k):=by rw[←whensV_app,List.take_append_drop]
       simp only[this]
       rw[List.getElem_append_left]
      rw[h6,show off+0*2+i=off+i by omega]
      exact h5
     have:=has_when hs (by rw[List.length_take];omega) (p:=fun v=>decide (v.1=x.ws[k].1)) (fv:=.func (.func 112) #[] #[pv b12 0]) fun v _=>tells_fn en112 (when4_c (h:=x.ws[k]) h12)
     rw[any_contains] at this
     exact Yields.dec this
    rw[hdr] at k3
    generalize hwk:x.ws[k]=wk at *
    have hstep:gw=(decide (x.ws.length≤7) && (symOk wk.1 && inR wk.2 nb && !((x.ws.take k).map (·.1)).contains wk.1 && whensOk nb ((x.ws.take (k+1)).map (·.1)) (x.ws.drop (k+1)))):=by
     rw[k3,List.take_succ_eq_append_getElem hlt,hwk];simp[whensOk]
    clear k3
    generalize hsn:((x.ws.take k).map (·.1)).contains wk.1=sn at *
    repeat' (first|refine Ag rfl ?_|refine Aj rfl ?_|refine Al ?_|refine An ?_|refine A5 rfl ?_|refine CY rfl (fun h=>?_) (fun h=>?_)|refine A6 ?_|refine AH ?_|refine AB ?_|refine AM Tryz.func75 rfl (fun w_ hi_=>?_)|refine Ab 34 ?_;try refine Zv (A7 rfl rfl Y2) ?_;try refine Aa N2 ?_|refine Ab 35 ?_;try refine Zm rfl (Zv (Am U66 sz75 rfl rfl Y9 Y9) ?_);try refine Zv (AJ (cs:= #[str wk.1,Value.int .i64 wk.2]) U75 rfl inf75 rfl (fun j h=>(hcell j h).mono Y12) rfl) ?_;try refine A8 inf75 rfl rfl rfl rfl (fun b12 hb12=>?_);try refine Za rfl ?_;try refine AI rfl rfl rfl sz75 Y3 Y15 rfl rfl ?_;try refine Aa N2 ?_|refine Ab 36 ?_;try refine Zm rfl (Zv (Bj rfl rfl Y2) ?_);try refine Zm rfl ?_;try((first|refine Zk ?_|((refine Bc rfl rfl (fun h=>?_) (fun h=>?_))<;>(first|refine Zk ?_|refine Zf fo75_0 rfl ?_)))<;>try((first|refine Zk ?_|refine Zv (Ac U9 rfl rfl Y0 Y4) ?_)<;>try((first|refine Zk ?_|refine Zv (Aw (CallR.val rfl en68) (Yields.dec (sym_c _))) ?_)<;>try((first|refine Zk ?_|refine Zv (ov_not rfl) ?_)<;>try((first|refine Zv (Av rfl rfl) ?_|refine Zv (A0 rfl rfl) ?_)<;>try refine Zm rfl ?_;try((first|refine Zk ?_|((refine B8 rfl rfl (fun h=>?_) (fun h=>?_))<;>(first|refine Zk ?_|refine Zm rfl ?_)))<;>try((first|refine Zk ?_|refine Zf fo75_1 rfl ?_)<;>try((first|refine Zk ?_|refine Zv (Ac U3 rfl rfl Y0 Y4) ?_)<;>try((first|refine Zk ?_|refine Zv (Aw (CallR.fv rfl rfl (.fn _ _ _ _ _ rfl) en108) (blkR_c (by repeat(first|exact Kn.of (c:= #[pv bf 0]) (.head _) rfl|apply Kn.cons|apply Kn.app)) (hf.up fun e h=>by repeat(first|exact h|apply List.Mem.tail|apply List.mem_append_right)) hnb _)) ?_)<;>try((first|refine Zk ?_|refine Zv (ov_not rfl) ?_)<;>try((first|refine Zv (Av rfl rfl) ?_|refine Zv (A0 rfl rfl) ?_)<;>try refine Zm rfl ?_;try((first|refine Zk ?_|((refine B8 rfl rfl (fun h=>?_) (fun h=>?_))<;>(first|refine Zk ?_|refine Zf fo68_7 rfl ?_)))<;>try((first|refine Zk ?_|refine Zv (Ac U66 rfl rfl Y0 Y4) ?_)<;>try((first|refine Zk ?_|refine Zm rfl ?_)<;>try((first|refine Zk ?_|refine Zv (ov_sliceLlt (a:=0) (b:=k) U66 sz75 rfl rfl ⟨_,_,rfl,by omega,Int.toNat_natCast k⟩ (Nat.zero_le _) Y9 Y9) ?_)<;>try((first|refine Zk ?_|refine Zv (Bm rfl rfl) ?_)<;>try((first|refine Zk ?_|refine Zv (Aw (CallR.val rfl en111) (hseen Y12 (Kn.of (.head _) rfl))) ?_)<;>try((first|refine Zv (Av rfl rfl) ?_|refine Zv (A0 rfl rfl) ?_)<;>try refine Aa N2 ?_))))))))))))))))))|refine Ab 37 ?_;try refine Za rfl (Aa N2 ?_)|refine Ab 38 ?_;try refine Zv (AD rfl rfl Y9 Y9) ?_;try refine Zm rfl (Aa N2 ?_))
    all_goals first
     | (refine⟨[],⟨?_,rfl⟩,hi_.subset Y5⟩;show Ending.returned (Value.bool _)=_;congr 2;grind)
     | skip
    all_goals
     have hgo:gw=(decide (x.ws.length≤7) && whensOk nb ((x.ws.take (k+1)).map (·.1)) (x.ws.drop (k+1))):=by
      rw[hstep];clear hA hW hany hf hkn ih hcell hseen;grind
     refine CU ?_ (A1 Y10 (ih (k+1) ⟨by omega,by omega,hgo⟩ Y9))
     repeat(first|exact List.Sublist.refl _|apply List.Sublist.cons|apply List.sublist_append_of_sublist_right)
  · have hk:k=x.ws.length:=by omega
    subst hk
    rw[List.drop_length] at k3
    have hgt:gw=true:=by rw[k3];simp[whensOk];omega
    repeat' (first|refine Ag rfl ?_|refine Aj rfl ?_|refine Al ?_|refine An ?_|refine Az rfl ?_|refine Bl rfl ?_|refine AM Tryz.func75 rfl (fun w_ hi_=>?_)|refine Ab 34 ?_;try refine Zv (A7 rfl rfl Y2) ?_;try refine Aa N2 ?_|refine Ab 39 ?_;try refine Zf C6 rfl (Zv (Ac U3 rfl rfl Y0 Y4) ?_);try refine Zv (Ay rfl rfl Y2) ?_;try refine Zm rfl ?_;try(((refine Bc rfl rfl (fun h=>?_) (fun h=>?_))<;>(first|refine Zk ?_|refine Zf fo68_2 rfl ?_))<;>try((first|refine Zk ?_|refine Zv (Ac U3 rfl rfl Y0 Y4) ?_)<;>try((first|refine Zk ?_|refine Zv (Ay rfl rfl Y2) ?_)<;>try((first|refine Zv (Av rfl rfl) ?_|refine Zv (A0 rfl rfl) ?_)<;>try refine Zm rfl ?_;try((first|refine Zk ?_|((refine Bc rfl rfl (fun h=>?_) (fun h=>?_))<;>(first|refine Zk ?_|refine Zf Dd rfl ?_)))<;>try((first|refine Zk ?_|refine Zv (Ac U3 rfl rfl Y0 Y4) ?_)<;>try((first|refine Zk ?_|refine Zv (Ay rfl rfl Y2) ?_)<;>try((first|refine Zv (Av rfl rfl) ?_|refine Zv (A0 rfl rfl) ?_)<;>try refine Zm rfl ?_;try((first|refine Zk ?_|((refine Bc rfl rfl (fun h=>?_) (fun h=>?_))<;>(first|refine Zk ?_|refine Zf fo68_4 rfl ?_)))<;>try((first|refine Zk ?_|refine Zv (Ac U3 rfl rfl Y0 Y4) ?_)<;>try((first|refine Zk ?_|refine Zv (Ay rfl rfl Y2) ?_)<;>try((first|refine Zv (Av rfl rfl) ?_|refine Zv (A0 rfl rfl) ?_)<;>try refine Zm rfl ?_;try((first|refine Zk ?_|((refine Bc rfl rfl (fun h=>?_) (fun h=>?_))<;>(first|refine Zk ?_|refine Zf fo68_5 rfl ?_)))<;>try((first|refine Zk ?_|refine Zv (Ac U9 rfl rfl Y0 Y4) ?_)<;>try((first|refine Zk ?_|refine Zv (Ct rfl rfl Y20) ?_)<;>try((first|refine Zv (Av rfl rfl) ?_|refine Zv (A0 rfl rfl) ?_)<;>try refine Zm rfl ?_;try((first|refine Zk ?_|((refine Bc rfl rfl (fun h=>?_) (fun h=>?_))<;>(first|refine Zk ?_|refine Zf fo68_8 rfl ?_)))<;>try((first|refine Zk ?_|refine Zv (Ac U3 rfl rfl Y0 Y4) ?_)<;>try((first|refine Zk ?_|refine Zv (Ay rfl rfl Y2) ?_)<;>try((first|refine Zv (Av rfl rfl) ?_|refine Zv (A0 rfl rfl) ?_)<;>try refine Za rfl (Aa N2 ?_))))))))))))))))))))))
    all_goals (refine⟨[],⟨?_,rfl⟩,hi_.subset Y5⟩;show Ending.returned (Value.bool _)=_;congr 2;rw[hR,hgt];grind)
end
end Go.Sl
namespace Go.Sl
open Go Go.RowKit Go.Shelf Go.Proofs
attribute [local irreducible] Calls
section
variable {C:Cx} {S:Nat→Prop} {w0:World} {D:List Deferred} {E:List (Nat×Value)} {H:List Ent} {d:Option Tmp} {t xt yt:TypeId} {p:String} {af:Array Edge} {g:Option (Nat×Bool)} {x y:Operand}
theorem ov_geqS {l m:List UInt8} (hx:opv E x=some (str l)) (hy:opv E y=some (str m)):OpV C S w0 H D E ⟨d,.binOp .geq xt x y yt,t,p,af,g⟩ (.bool (decide (bsLt l m=false))):=by
 rw[show decide (bsLt l m=false)=(!bsLt l m) by cases bsLt l m<;>rfl]
 exact ov_bin hx hy ⟨by simp,by simp⟩ fun w=>by simp only[binOp,Op.stringOp,toList_list];rfl
end
structure FlowL (x:FlowM):Prop where
 len:x.regs.length≤65535∧x.raises.length≤65535∧x.blks.length≤65535
 blks:∀b∈x.blks,b.ins.length≤65535∧b.en.args.length≤65535∧b.en.ws.length≤65535∧∀i∈b.ins,i.args.length≤65535
def rOk:Option Bs→List Bs→Bool
 | _,[]=>true
 | none,a::r=>symOk a && rOk (some a) r
 | some p,a::r=>symOk a && bsLt p a && rOk (some a) r
theorem rOk_some:∀(l:List Bs) (p:Bs),rOk (some p) l=match l with|[]=>true|a::r=>bsLt p a && raisesOk (a::r)
 | [],p=>rfl
 | [a],p=>by simp[rOk,raisesOk,Bool.and_comm]
 | a :: b::r,p=>by
   have:=rOk_some (b::r) a
   simp only[rOk,raisesOk] at this ⊢
   rw[this]
   cases symOk a<;>cases bsLt p a<;>simp
def prevAt (l:List Bs):Nat→Option Bs
 | 0=>none
 | k+1=>l[k]?
theorem raises_rOk (l:List Bs):raisesOk l=rOk none l:=by
 cases l with
 | nil=>rfl
 | cons a r=>
   simp only[rOk,rOk_some]
   cases r with
   | nil=>simp[raisesOk]
   | cons b r=>simp only[raisesOk,Bool.and_assoc]
section
variable {S:Nat→Prop} {w0:World} {F:List Ent}
theorem reg71_c (k:Int):Yields S w0 F 71 [.int .u8 k] (.bool (!(decide (k=1)|| decide (k=2)))):=by
 refine AE fun w hi=>?_
 simp only[List.nil_append] at hi
 refine Ak Tryz.func71 rfl rfl (hi) ?_
 by_cases h1:k=1
 · rw [show(!(decide (k=1)|| decide (k=2)))=false by simp[h1]]
   repeat' (first|refine Ag rfl ?_|refine Aj rfl ?_|refine Al ?_|refine An ?_|refine AM Tryz.func71 rfl (fun w_ hi_=>?_)|refine Ab 0 ?_;try refine Za rfl (Aa N19 ?_)|refine Ab 1 ?_;try refine Zm rfl (Zv (AN rfl rfl (by first|exact Ax Y9|exact As Y9|exact rfl)) ?_);try refine Zm rfl (Zk (Zk (Zv (A0 rfl rfl) (Za rfl (Aa N19 ?_))))))
   exact⟨[],⟨rfl,rfl⟩,hi_⟩
 · by_cases h2:k=2
   · rw [show(!(decide (k=1)|| decide (k=2)))=false by simp[h2]]
     repeat' (first|refine Ag rfl ?_|refine Aj rfl ?_|refine Al ?_|refine An ?_|refine AM Tryz.func71 rfl (fun w_ hi_=>?_)|refine Ab 0 ?_;try refine Za rfl (Aa N19 ?_)|refine Ab 1 ?_;try refine Zm rfl (Zv (AN rfl rfl (by first|exact Ax Y9|exact As Y9|exact rfl)) ?_);try refine Zm rfl (Zm rfl (Zv (AN rfl rfl (by first|exact Ax Y9|exact As Y9|exact rfl)) ?_));try refine Zv (Av rfl rfl) (Za rfl (Aa N19 ?_)))
     exact⟨[],⟨rfl,rfl⟩,hi_⟩
   · rw [show(!(decide (k=1)|| decide (k=2)))=true by simp[h1,h2]]
     repeat' (first|refine Ag rfl ?_|refine Aj rfl ?_|refine Al ?_|refine An ?_|refine AM Tryz.func71 rfl (fun w_ hi_=>?_)|refine Ab 0 ?_;try refine Za rfl (Aa N19 ?_)|refine Ab 1 ?_;try refine Zm rfl (Zv (AN rfl rfl (by first|exact Ax Y9|exact As Y9|exact rfl)) ?_);try refine Zm rfl (Zm rfl (Zv (AN rfl rfl (by first|exact Ax Y9|exact As Y9|exact rfl)) ?_));try refine Zv (Av rfl rfl) (Za rfl (Aa N19 ?_)))
     exact⟨[],⟨rfl,rfl⟩,hi_⟩
theorem ins73_c {cv:Value} {b5 bf mp mq nr nb:Nat} {rw_:Bool} {x:InsM} {av:Value} (hcv:okCell cv=true) (h5:∀j (h:j < (#[cv,Value.map (some mp),Value.map (some mq)]:Array Value).size),Kn S w0 F b5 (0+j) (#[cv,Value.map (some mp),Value.map (some mq)])[j]) (hmp:(⟨mp,rw_,mapBO partTab⟩:Ent)∈F) (hf:FlowAt S w0 F bf nr nb) (hn:nr≤65535) (hA:ArgsK S w0 F x.args av) (hal:x.args.length≤65535):
 Yields S w0 F 73 [.agg (insC x av).toArray,pv b5 0,pv bf 0] (.bool (!insPr nr x)):=by
 refine AE fun w hi=>?_
 simp only[List.nil_append] at hi
 have hq:∀ {e:Ent},Yields S w0 (e::F) 74 [.agg #[cv,.map (some mp),.map (some mq)],pv bf 0,.agg (insC x av).toArray] (.bool (insPr nr x)):=fun {e}=>tins_c (rw_:=rw_) hcv (.tail _ hmp) (hf.up fun e h=>.tail _ h) hn (hA.up fun e h=>.tail _ h) hal
 obtain⟨a0,cap0,rfl,hcap0,hk0⟩:=id hA
 generalize insPr (nr:Int) x=q at *
 refine Ak Tryz.func73 rfl rfl (hi) ?_
 cases q
 · repeat' (first|refine Ag rfl ?_|refine Aj rfl ?_|refine Al ?_|refine An ?_|refine AM Tryz.func73 rfl (fun w_ hi_=>?_)|refine Ab 0 ?_;try refine AL (cs:=(insC x (.slice a0 x.args.length cap0)).toArray) rfl rfl rfl rfl (fun b3 hb3=>?_);try refine Za rfl (Aa N33 ?_)|refine Ab 1 ?_;try refine Zv (AJ (cs:= #[cv,.map (some mp),.map (some mq)]) U117 rfl inf117 rfl (fun j h=>(h5 j h).cons) rfl) (Zv (AW U73 rfl inf73 rfl Y0 Y15) ?_);try refine Zv (Aw (CallR.val rfl en74) hq) (Zv (Ci rfl) (Za rfl (Aa N33 ?_))))
   exact⟨[],⟨rfl,rfl⟩,hi_.subset Y5⟩
 · repeat' (first|refine Ag rfl ?_|refine Aj rfl ?_|refine Al ?_|refine An ?_|refine AM Tryz.func73 rfl (fun w_ hi_=>?_)|refine Ab 0 ?_;try refine AL (cs:=(insC x (.slice a0 x.args.length cap0)).toArray) rfl rfl rfl rfl (fun b3 hb3=>?_);try refine Za rfl (Aa N33 ?_)|refine Ab 1 ?_;try refine Zv (AJ (cs:= #[cv,.map (some mp),.map (some mq)]) U117 rfl inf117 rfl (fun j h=>(h5 j h).cons) rfl) (Zv (AW U73 rfl inf73 rfl Y0 Y15) ?_);try refine Zv (Aw (CallR.val rfl en74) hq) (Zv (BN rfl) (Za rfl (Aa N33 ?_))))
   exact⟨[],⟨rfl,rfl⟩,hi_.subset Y5⟩
def frontOk (x:FlowM):Bool:=symOk x.nm && decide (x.regs.length≤400) && decide (0≤x.ac∧x.ac≤7∧x.ac≤(x.regs.length:Int)) && decide (x.res≤2) && decide (x.raises.length≤6) && decide (1≤x.blks.length∧x.blks.length≤600)
theorem chk_split (x:FlowM):chkOk x=(frontOk x && x.regs.all (fun r=>decide (r=1)|| decide (r=2)) && rOk none x.raises && x.blks.all (blkOk x.regs.length x.blks.length)):=by
 rw[←raises_rOk]
 unfold chkOk sndOk frontOk
 rw[Bool.eq_iff_iff]
 simp only[Bool.and_eq_true,decide_eq_true_eq]
 constructor
 · rintro ⟨h0,⟨⟨⟨⟨⟨⟨⟨⟨⟨h1,h2⟩,h3⟩,h4⟩,h5⟩,h6⟩,h7⟩,h8⟩,h9⟩,h10⟩,h11⟩
   exact⟨⟨⟨⟨⟨⟨⟨⟨h0,h1⟩,h2,h3,h4⟩,h5⟩,h6⟩,h7,h8⟩,h9⟩,h10⟩,h11⟩
 · rintro ⟨⟨⟨⟨⟨⟨⟨⟨h0,h1⟩,h2,h3,h4⟩,h5⟩,h6⟩,h7,h8⟩,h9⟩,h10⟩,h11⟩
   exact⟨h0,⟨⟨⟨⟨⟨⟨⟨⟨⟨h1,h2⟩,h3⟩,h4⟩,h5⟩,h6⟩,h7⟩,h8⟩,h9⟩,h10⟩,h11⟩
theorem inArgs_c (a:Int) (n:Nat):Yields S w0 F 69 [.int .i64 a,.int .i64 0,.int .i64 (if (n:Int) < 7 then (n:Int) else 7)] (.bool (decide (0≤a∧a≤7∧a≤(n:Int)))):=by
 have:=in_c (S:=S) (w0:=w0) (F:=F) a 0 (if (n:Int) < 7 then (n:Int) else 7)
 rwa [show inP a 0 (if (n:Int) < 7 then (n:Int) else 7)=decide (0≤a∧a≤7∧a≤(n:Int)) by rw[Bool.eq_iff_iff];simp[inP];split<;>omega] at this
theorem inBlks_c (n:Nat):Yields S w0 F 69 [.int .i64 (n:Int),.int .i64 1,.int .i64 600] (.bool (decide (1≤n∧n≤600))):=by
 have:=in_c (S:=S) (w0:=w0) (F:=F) (n:Int) 1 600
 rwa [show inP (n:Int) 1 600=decide (1≤n∧n≤600) by rw[Bool.eq_iff_iff];simp[inP];omega] at this
theorem w_cutH {C:Cx} {k:List Item} {D:List Deferred} {E:List (Nat×Value)} {H:List Ent} {a b:Item} {β:Type} (EJ:β→List (Nat×Value)) (HJ:β→List Ent) (J:Prop) (rest:J→∀q,WF C S w0 k D (EJ q) (HJ q)) (body:∀k',(J→∀q,WF C S w0 k' D (EJ q) (HJ q))→WF C S w0 (a::b::k') D E H):WF C S w0 (a::b::k) D E H:=body k rest
theorem nbD (b:Bool):(!b)=decide (b=false):=by cases b<;>rfl
theorem sound_c {x:FlowM} {v:Value} (hK:FlowK S w0 F x v) (hL:FlowL x):Yields S w0 F 40 [v] (.bool (chkOk x)):=by
 refine AE fun w hi=>?_
 simp only[List.nil_append] at hi
 obtain⟨rv,sv,bv,rfl,hk1,hk2,⟨ps,hps,hk3,hk4⟩⟩:=hK
 obtain⟨ar,cr,rfl,hcr,hkr⟩:=id hk1
 obtain⟨az,cz,rfl,hcs,hks⟩:=id hk2
 obtain⟨ab,cb,rfl,hcb,hkb⟩:=id hk3
 have hE:=chk_split x
 generalize chkOk x=R at *
 have n1:=hL.len.1
 have n2:=hL.len.2.1
 have n3:=hL.len.2.2
 have n4:ps.length=x.blks.length:=by rw[←hps];simp
 unfold frontOk at hE
 have hreg:∀ {F'},(∀e∈F,e∈F')→Yields S w0 F' 70 [.slice ar x.regs.length cr,.func (.func 71) #[] #[]] (.bool (decide (¬x.regs.all (fun r=>decide (r=1)|| decide (r=2))=true))):=fun hu=>by
  have:=has_u8 (hk1.up hu) n1 (p:=fun r=> !(decide (r=1)|| decide (r=2))) (fv:=.func (.func 71) #[] #[]) fun r _=>tells_fn en71 (reg71_c r)
  rw[any_not] at this
  have:=Yields.dec this
  rwa [show decide ((!x.regs.all (fun r=>decide (r=1)|| decide (r=2)))=true)=decide (¬x.regs.all (fun r=>decide (r=1)|| decide (r=2))=true) from decide_eq_decide.2 Y26] at this
 generalize hg1:x.regs.all (fun r=>decide (r=1)|| decide (r=2))=g1 at *
 generalize hg2:rOk none x.raises=g2 at *
 generalize hg3:x.blks.all (blkOk x.regs.length x.blks.length)=g3 at *
 refine Ak Tryz.func40 rfl rfl (hi) ?_
 repeat' (first|refine Ag rfl ?_|refine Aj rfl ?_|refine Al ?_|refine An ?_|refine A5 rfl ?_|refine CY rfl (fun h=>?_) (fun h=>?_)|refine w_condN rfl (fun h=>?_) (fun h=>?_)|refine AB ?_|refine AM Tryz.func40 rfl (fun w_ hi_=>?_)|refine Ab 0 ?_;try refine AL (cs:=flowC x (.slice ar x.regs.length cr) (.slice az x.raises.length cz) (.slice ab x.blks.length cb)) rfl rfl rfl rfl (fun b1 hb1=>?_);try refine Za rfl (Aa N16 ?_)|refine Ab 1 ?_;try refine Zf fo26_0 rfl (Zv (Ac U9 rfl rfl Y0 Y4) ?_);try refine Zv (Aw (CallR.val rfl en68) (Yields.dec (sym_c _))) (Zv (ov_not rfl) (Zm rfl ?_));try(((refine B8 rfl rfl (fun h=>?_) (fun h=>?_))<;>(first|refine Zk ?_|refine Zf BZ rfl ?_))<;>try((first|refine Zk ?_|refine Zv (Ac U22 rfl rfl Y0 Y4) ?_)<;>try((first|refine Zk ?_|refine Zv (Ap rfl U22 rfl) ?_)<;>try((first|refine Zk ?_|refine Zv (Be rfl rfl Y2) ?_)<;>try((first|refine Zv (Av rfl rfl) ?_|refine Zv (A0 rfl rfl) ?_)<;>try refine Zm rfl ?_;try((first|refine Zk ?_|((refine Bc rfl rfl (fun h=>?_) (fun h=>?_))<;>(first|refine Zk ?_|refine Zf fo26_1 rfl ?_)))<;>try((first|refine Zk ?_|refine Zv (Ac U3 rfl rfl Y0 Y4) ?_)<;>try((first|refine Zk ?_|refine Zf BZ rfl ?_)<;>try((first|refine Zk ?_|refine Zv (Ac U22 rfl rfl Y0 Y4) ?_)<;>try((first|refine Zk ?_|refine Zv (Ap rfl U22 rfl) ?_)<;>try((first|refine Zk ?_|refine Zv (ov_min rfl rfl) ?_)<;>try((first|refine Zk ?_|refine Zv (Aw (CallR.val rfl en69) (inArgs_c _ _)) ?_)<;>try((first|refine Zk ?_|refine Zv (ov_not rfl) ?_)<;>try((first|refine Zv (Av rfl rfl) ?_|refine Zv (A0 rfl rfl) ?_)<;>try refine Zm rfl ?_;try((first|refine Zk ?_|((refine B8 rfl rfl (fun h=>?_) (fun h=>?_))<;>(first|refine Zk ?_|refine Zf fo26_2 rfl ?_)))<;>try((first|refine Zk ?_|refine Zv (Ac U5 rfl rfl Y0 Y4) ?_)<;>try((first|refine Zk ?_|refine Zv (Be rfl rfl Y2) ?_)<;>try((first|refine Zv (Av rfl rfl) ?_|refine Zv (A0 rfl rfl) ?_)<;>try refine Zm rfl ?_;try((first|refine Zk ?_|((refine Bc rfl rfl (fun h=>?_) (fun h=>?_))<;>(first|refine Zk ?_|refine Zf Cd rfl ?_)))<;>try((first|refine Zk ?_|refine Zv (Ac U23 rfl rfl Y0 Y4) ?_)<;>try((first|refine Zk ?_|refine Zv (Ap rfl U23 rfl) ?_)<;>try((first|refine Zk ?_|refine Zv (Be rfl rfl Y2) ?_)<;>try((first|refine Zv (Av rfl rfl) ?_|refine Zv (A0 rfl rfl) ?_)<;>try refine Zm rfl ?_;try((first|refine Zk ?_|((refine Bc rfl rfl (fun h=>?_) (fun h=>?_))<;>(first|refine Zk ?_|refine Zf Bz rfl ?_)))<;>try((first|refine Zk ?_|refine Zv (Ac U24 rfl rfl Y0 Y4) ?_)<;>try((first|refine Zk ?_|refine Zv (Ap rfl U24 rfl) ?_)<;>try((first|refine Zk ?_|refine Zv (Aw (CallR.val rfl en69) (inBlks_c _)) ?_)<;>try((first|refine Zk ?_|refine Zv (ov_not rfl) ?_)<;>try((first|refine Zv (Av rfl rfl) ?_|refine Zv (A0 rfl rfl) ?_)<;>try refine Aa N16 ?_)))))))))))))))))))))))))))))|refine Ab 2 ?_;try refine Za rfl (Aa N16 ?_)|refine Ab 3 ?_;try refine Zf BZ rfl (Zv (Ac U22 rfl rfl Y0 Y4) ?_);try refine Zv (Aw (CallR.val rfl en70) (hreg Y12)) ?_;try refine Aa N16 ?_|refine Ab 4 ?_;try refine Za rfl (Aa N16 ?_))
 all_goals (try refine⟨[],⟨?_,rfl⟩,hi_.subset Y5⟩;show Ending.returned (Value.bool _)=_;congr 2;clear hk1 hk2 hk3 hk4 hkr hks hkb hi_ hreg;grind)
 have hR:R=(g2 && g3):=by clear hk1 hk2 hk3 hk4 hkr hks hkb hreg;grind
 clear hE hreg
 repeat' (first|refine Ag rfl ?_|refine Aj rfl ?_|refine Al ?_|refine Ab 5 ?_;try refine Zf Cd rfl (Zv (Ac U23 rfl rfl Y0 Y4) ?_);try refine Zv (Ap rfl U23 rfl) (Zm rfl (Aa N16 ?_)))
 refine A6 ?_
 refine w_cutH (fun _:Unit=>[(1,pv b1 0),(2,.bool false)]) (fun _=>⟨b1,true,.cells (flowC x (.slice ar x.regs.length cr) (.slice az x.raises.length cz) (.slice ab x.blks.length cb)) 26 (0,0)⟩::F) (g2=true) ?_ ?_
 rotate_left
 · intro k' rest
   refine A1 (E':=(fun k:Nat=>[(1,pv b1 0),(2,.bool false),(50,.slice az x.raises.length cz),(51,.int .i64 (x.raises.length:Int)),(52,.int .i64 (k:Int))]) 0) Y14 ?_
   refine Bb (fun k:Nat=>k≤x.raises.length∧g2=rOk (prevAt x.raises k) (x.raises.drop k)) (fun k=>x.raises.length - k) (fun k:Nat=>[(1,pv b1 0),(2,.bool false),(50,.slice az x.raises.length cz),(51,.int .i64 (x.raises.length:Int)),(52,.int .i64 (k:Int))]) (fun _=>_) ?_ 0 ⟨Nat.zero_le _,by rw[←hg2];rfl⟩
   rintro k ⟨k1,k2⟩ ih
   try dsimp only at k1 k2 ih ⊢
   by_cases hlt:k < x.raises.length
   · obtain ⟨b,off,hb,hkn⟩:=hks.resolve_left (fun e=>by have:=Bv x.raises;rw[e] at this;simp at this;omega)
     subst hb
     have hcl:∀j,j < x.raises.length→Kn S w0 F b (off+j*1) (str (x.raises[j]?.getD [])):=by
      intro j hj
      have:=hkn j (by rw[Bv];omega)
      rw[Nat.mul_one,List.getElem?_eq_getElem hj]
      simpa [strsV] using this
     have hdr:x.raises.drop k=x.raises[k]?.getD []::x.raises.drop (k+1):=by rw[List.getElem?_eq_getElem hlt];exact List.drop_eq_getElem_cons hlt
     have hc0:=hcl k hlt
     have hpn:prevAt x.raises (k+1)=some (x.raises[k]?.getD []):=by simp[prevAt,List.getElem?_eq_getElem hlt]
     rw[hdr] at k2
     cases k with
     | zero=>
       generalize (x.raises[0]?.getD []:Bs)=a at *
       have hg:g2=(symOk a && rOk (some a) (x.raises.drop (0+1))):=k2
       repeat' (first|refine Ag rfl ?_|refine Aj rfl ?_|refine Al ?_|refine An ?_|refine A5 rfl ?_|refine Az rfl ?_|refine A6 ?_|refine AH ?_|refine AB ?_|refine AM Tryz.func40 rfl (fun w_ hi_=>?_)|refine Ab 6 ?_;try refine Zv (A7 rfl rfl Y2) ?_;try refine Aa N16 ?_|refine Ab 7 ?_;try refine Zm rfl (Zv (Am U23 sz9 rfl rfl Y9 Y9) ?_);try refine Zv (A2 U9 rfl rfl (by repeat(first|exact hc0|apply Kn.cons))) ?_;try refine Za rfl (Za rfl (Aa N16 ?_))|refine Ab 8 ?_;try refine Zm rfl (Zv (Aw (CallR.val rfl en68) (Yields.dec (sym_c _))) (Zv (ov_not rfl) (Zm rfl ?_)));try(((refine B8 rfl rfl (fun h=>?_) (fun h=>?_))<;>(first|refine Zk ?_|refine Zm rfl ?_))<;>try((first|refine Zk ?_|refine Zv (Be rfl rfl Y2) ?_)<;>try((first|refine Zk ?_|refine Zm rfl ?_)<;>try refine Zk (Zk (Zk (Zk (Zk (Zk (Zk (Zk ?_)))))));try((first|refine Zk ?_|refine Zv (A0 rfl rfl) ?_)<;>try((first|refine Zv (Av rfl rfl) ?_|refine Zv (A0 rfl rfl) ?_)<;>try refine Aa N16 ?_)))))|refine Ab 9 ?_;try refine Za rfl (Aa N16 ?_)|refine Ab 10 ?_;try refine Zv (AD rfl rfl Y9 Y9) ?_;try refine Zm rfl (Aa N16 ?_))
       all_goals first
        | (refine⟨[],⟨?_,rfl⟩,hi_.subset Y5⟩;show Ending.returned (Value.bool _)=_;congr 2;rw[hR,hg];(simp[*];done))
        | (refine A1 Y10 (ih (0+1) ⟨by omega,?_⟩ Y9);rw[hpn,hg];simp[*])
     | succ k=>
       have hc1:Kn S w0 F b (off+(((k+1:Nat):Int) - 1).toNat*1) (str (x.raises[k]?.getD [])):=by rw[show(((k+1:Nat):Int) - 1).toNat=k by omega];exact hcl k Y9
       have hpk:prevAt x.raises (k+1)=some (x.raises[k]?.getD []):=by simp[prevAt,List.getElem?_eq_getElem (show k < x.raises.length by omega)]
       rw[hpk] at k2
       generalize (x.raises[k+1]?.getD []:Bs)=a at *
       generalize (x.raises[k]?.getD []:Bs)=q at *
       have hg:g2=(symOk a && bsLt q a && rOk (some a) (x.raises.drop (k+1+1))):=k2
       repeat' (first|refine Ag rfl ?_|refine Aj rfl ?_|refine Al ?_|refine An ?_|refine A5 rfl ?_|refine CY rfl (fun h=>?_) (fun h=>?_)|refine A6 ?_|refine AH ?_|refine AB ?_|refine AM Tryz.func40 rfl (fun w_ hi_=>?_)|refine Ab 6 ?_;try refine Zv (A7 rfl rfl Y2) ?_;try refine Aa N16 ?_|refine Ab 7 ?_;try refine Zm rfl (Zv (Am U23 sz9 rfl rfl Y9 Y9) ?_);try refine Zv (A2 U9 rfl rfl (by repeat(first|exact hc0|apply Kn.cons))) ?_;try refine Za rfl (Za rfl (Aa N16 ?_))|refine Ab 8 ?_;try refine Zm rfl (Zv (Aw (CallR.val rfl en68) (Yields.dec (sym_c _))) (Zv (ov_not rfl) (Zm rfl ?_)));try(((refine B8 rfl rfl (fun h=>?_) (fun h=>?_))<;>(first|refine Zk ?_|refine Zm rfl ?_))<;>try((first|refine Zk ?_|refine Zv (Be rfl rfl Y2) ?_)<;>try((first|refine Zk ?_|refine Zm rfl ?_)<;>try((first|refine Zk ?_|refine Zf Cd rfl ?_)<;>try((first|refine Zk ?_|refine Zv (Ac U23 rfl rfl Y0 Y4) ?_)<;>try((first|refine Zk ?_|refine Zm rfl ?_)<;>try((first|refine Zk ?_|refine Zv (Ca rfl rfl Y9 Y9) ?_)<;>try((first|refine Zk ?_|refine Zv (Am U23 sz9 rfl rfl Y9 Y9) ?_)<;>try((first|refine Zk ?_|refine Zv (A2 U9 rfl rfl (by repeat(first|exact hc1|apply Kn.cons))) ?_)<;>try((first|refine Zk ?_|refine Zm rfl ?_)<;>try((first|refine Zk ?_|refine Zv (ov_geqS rfl rfl) ?_)<;>try((first|refine Zk ?_|refine Zv (Av rfl rfl) ?_)<;>try((first|refine Zv (Av rfl rfl) ?_|refine Zv (A0 rfl rfl) ?_)<;>try refine Aa N16 ?_)))))))))))))|refine Ab 9 ?_;try refine Za rfl (Aa N16 ?_)|refine Ab 10 ?_;try refine Zv (AD rfl rfl Y9 Y9) ?_;try refine Zm rfl (Aa N16 ?_))
       all_goals first
        | (refine⟨[],⟨?_,rfl⟩,hi_.subset Y5⟩;show Ending.returned (Value.bool _)=_;congr 2;rw[hR,hg];(simp[*];done))
        | (refine A1 Y10 (ih (k+1+1) ⟨by omega,?_⟩ Y9);rw[hpn,hg];simp[*])
   · have hk:k=x.raises.length:=by omega
     subst hk
     rw[List.drop_length] at k2
     have hg:g2=true:=by rw[k2];cases prevAt x.raises x.raises.length<;>rfl
     repeat' (first|refine Ag rfl ?_|refine Al ?_|refine An ?_|refine Az rfl ?_|refine Bl rfl ?_|refine Ab 6 ?_;try refine Zv (A7 rfl rfl Y2) ?_;try refine Aa N16 ?_)
     exact A1 Y10 (rest hg ())
 intro hg2t _
 subst hg2t
 clear hg2 hks hk2
 have hR:R=g3:=by rw[hR];rfl
 repeat' (first|refine Ag rfl ?_|refine Aj rfl ?_|refine Al ?_|refine An ?_|refine Ab 11 ?_;try refine Zv (Cw pl130 inf130 rfl) ?_;try refine AL (cs:= #[]) rfl rfl rfl rfl (fun bm hbm=>?_);try refine Zv (CD U128 rfl rfl) ?_;try((refine AQ (pre:=[]) (Take.nil _) (CallR.val rfl en62) rfl rfl with_c ?_;rintro v post ⟨mp,mq,rfl,rfl⟩)<;>try refine A8 inf117 rfl rfl rfl rfl (fun b5 hb5=>?_);try refine AI rfl rfl rfl sz117 Y3 Y15 rfl rfl ?_;try refine Aa N16 ?_))
 simp only[List.cons_append,List.nil_append]
 generalize hG:(⟨b5,true,.cells #[.iface 128 (pv bm 0),.map (some mp),.map (some mq)] 117 (0,0)⟩:Ent)::_=G
 have hsG:F.Sublist G:=by rw[←hG];exact .cons _ (.cons _ (.cons _ (.cons _ (.cons _ (List.Sublist.refl _)))))
 have hFG:∀e∈F,e∈G:=fun e h=>hsG.subset h
 have hmG:(⟨mp,true,mapBO partTab⟩:Ent)∈G:=by rw[←hG];exact .tail _ (.head _)
 have m5:(⟨b5,true,.cells #[.iface 128 (pv bm 0),.map (some mp),.map (some mq)] 117 (0,0)⟩:Ent)∈G:=by rw[←hG];exact .head _
 have m1:(⟨b1,true,.cells (flowC x (.slice ar x.regs.length cr) (.slice az x.raises.length cz) (.slice ab x.blks.length cb)) 26 (0,0)⟩:Ent)∈G:=by rw[←hG];exact .tail _ (.tail _ (.tail _ (.tail _ (.head _))))
 have hfG:FlowAt S w0 G b1 x.regs.length x.blks.length:=⟨⟨ar,cr,Kn.of m1 rfl⟩,⟨ab,cb,Kn.of m1 rfl⟩⟩
 clear hG
 repeat' (first|refine Ag rfl ?_|refine Aj rfl ?_|refine Al ?_|refine Ab 12 ?_;try refine Zf Bz rfl (Zv (Ac U24 rfl rfl m1 rfl) (Zv (Ap rfl U24 rfl) (Zm rfl (Aa N16 ?_)))))
 refine A6 ?_
 refine A1 (E':=(fun k:Nat=>[(1,pv b1 0),(2,.bool false),(5,pv b5 0),(80,.slice ab x.blks.length cb),(81,.int .i64 (x.blks.length:Int)),(82,.int .i64 (k:Int))]) 0) Y14 ?_
 refine Bb (fun k:Nat=>k≤x.blks.length∧g3=(x.blks.drop k).all (blkOk x.regs.length x.blks.length)) (fun k=>x.blks.length - k) (fun k:Nat=>[(1,pv b1 0),(2,.bool false),(5,pv b5 0),(80,.slice ab x.blks.length cb),(81,.int .i64 (x.blks.length:Int)),(82,.int .i64 (k:Int))]) (fun _=>G) ?_ 0 ⟨Nat.zero_le _,hg3.symm⟩
 rintro k ⟨k1,k2⟩ ih
 try dsimp only at k1 k2 ih ⊢
 by_cases hlt:k < x.blks.length
 · obtain ⟨b,off,hb,hkn⟩:=hkb.resolve_left (fun e=>by have:=Ba pbC BE ps;rw[e] at this;simp at this;omega)
   subst hb
   have hpl:k < ps.length:=by omega
   obtain⟨p,hp⟩:∃p,ps[k]=p:=⟨_,rfl⟩
   have hpm:p∈ps:=hp▸List.getElem_mem hpl
   have hbk:x.blks[k]=p.blk:=by simp only[←hps,List.getElem_map,hp]
   have hcell:∀j (h:j < (pbC p).toArray.size),Kn S w0 F b (off+((k:Nat):Int).toNat*10+j) (pbC p).toArray[j]:=by
    intro j h
    have h2:j < 10:=h
    have:=C9 pbC BE ps k j hpl h2
    obtain⟨h3,h4⟩:=List.getElem?_eq_some_iff.1 (this.trans (List.getElem?_eq_getElem (show j < (pbC ps[k]).length from h2)))
    have h5:=hkn (k*10+j) h3
    rw[h4] at h5
    rw[show off+((k:Nat):Int).toNat*10+j=off+(k*10+j) by simp;omega]
    simp only[hp] at h5
    simpa using h5
   have hK:=hk4 p hpm
   obtain⟨is,i1,i2,i3⟩:=hK.ins
   have hbm:p.blk∈x.blks:=hbk▸List.getElem_mem hlt
   have hlb:=hL.blks p.blk hbm
   have hil:is.length=p.blk.ins.length:=by rw[←i1];simp
   obtain⟨ai,ci,hiv,hci,hki⟩:=id i2
   have hdr:x.blks.drop k=p.blk::x.blks.drop (k+1):=by rw[←hbk];exact List.drop_eq_getElem_cons hlt
   have hins:∀ {F'},(∀e∈G,e∈F')→Yields S w0 F' 72 [.slice ai p.blk.ins.length ci,.func (.func 73) #[] #[pv b5 0,pv b1 0]] (.bool (decide (p.blk.ins.all (fun i=>insR x.regs.length i)=false))):=fun {F'} hu=>by
    have hs:SlK S w0 F' (rowV insP is) is.length (.slice ai p.blk.ins.length ci):=by rw[hil,←hiv];exact i2.up fun e h=>hu e (hFG e h)
    have:=has_ins hs (by rw[hil];exact hlb.1) (p:=fun q=> !insPr x.regs.length q.1) (fv:=.func (.func 73) #[] #[pv b5 0,pv b1 0]) fun q hq=>tells_fn en73 (ins73_c (cv:=.iface 128 (pv bm 0)) (rw_:=true) rfl (fun j h=>Kn.of (hu _ m5) (by rw[Nat.zero_add];exact Array.getElem?_eq_getElem h)) (hu _ hmG) (hfG.up hu) n1 ((i3 q hq).up fun e h=>hu e (hFG e h)) (hlb.2.2.2 q.1 (by rw[←i1];exact List.mem_map_of_mem hq)))
    have e1:(p.blk.ins.all fun i=>insR x.regs.length i)=is.all (fun q=>insPr x.regs.length q.1):=by
     rw[←i1,List.all_map];congr 1;funext q;exact(insPr_R _ _).symm
    rw[any_not,←e1,nbD] at this
    exact this
   have hen:∀ {F'},(∀e∈G,e∈F')→Yields S w0 F' 75 [pv b1 0,.agg (endC p.blk.en p.av p.wv).toArray] (.bool (decide (endR x.regs.length x.blks.length p.blk.en=true))):=fun {F'} hu=>by
    have:=Yields.dec (ends_c (hfG.up hu) n1 n3 (hK.args.up fun e h=>hu e (hFG e h)) hlb.2.1 (hK.whens.up fun e h=>hu e (hFG e h)) hlb.2.2.1)
    rwa [endPr_R] at this
   have hst:(pbC p).toArray.toList.all okCell=true:=by
    have h1:=CL (ps:=[p]) (G:=F) (fun q hq=>by simp at hq;subst hq;exact hK)
    simpa [rowV] using h1
   rw[hdr,List.all_cons] at k2
   have hb1':blkOk x.regs.length x.blks.length p.blk=(decide (p.blk.ins.length≤200) && endR x.regs.length x.blks.length p.blk.en && p.blk.ins.all fun i=>insR x.regs.length i):=rfl
   rw[hb1'] at k2
   generalize (p.blk.ins.all fun i=>insR x.regs.length i)=gi at *
   generalize endR x.regs.length x.blks.length p.blk.en=ge at *
   have hld:∀ {b7:Nat} {F':List Ent},(⟨b7,true,.cells (pbC p).toArray 70 (0,0)⟩:Ent)∈F'→∀j (h:j < (endC p.blk.en p.av p.wv).toArray.size),Kn S w0 F' b7 (0+1+j) (endC p.blk.en p.av p.wv).toArray[j]:=fun hm j h=>Kn.of hm (by rw[show 0+1+j=j+1 by omega];simp[pbC,endC])
   have hiv0:(pbC p).toArray[0+0]?=some (.slice ai p.blk.ins.length ci):=by rw[←hiv];rfl
   repeat' (first|refine Ag rfl ?_|refine Aj rfl ?_|refine Al ?_|refine An ?_|refine A5 rfl ?_|refine w_condN rfl (fun h=>?_) (fun h=>?_)|refine A6 ?_|refine AH ?_|refine AB ?_|refine AM Tryz.func40 rfl (fun w_ hi_=>?_)|refine Ab 13 ?_;try refine Zv (A7 rfl rfl Y2) ?_;try refine Aa N16 ?_|refine Ab 14 ?_;try refine Zv (Am U24 sz70 rfl rfl Y9 Y9) ?_;try refine Zv (AJ (cs:=(pbC p).toArray) U70 rfl inf70 rfl (fun j h=>(hcell j h).mono hFG) rfl) ?_;try refine A8 inf70 rfl rfl rfl rfl (fun b7 hb7=>?_);try refine AI rfl rfl hst sz70 Y3 (by rfl) rfl rfl ?_;try refine Aa N16 ?_|refine Ab 15 ?_;try refine Zf Cv rfl (Zv (Ac U65 rfl rfl (.head _) hiv0) (Zv (Ap rfl U65 rfl) (Zv (Be rfl rfl Y2) ?_)));try refine Zm rfl ?_;try(((refine Bc rfl rfl (fun h=>?_) (fun h=>?_))<;>(first|refine Zk ?_|refine Zf Cv rfl ?_))<;>try((first|refine Zk ?_|refine Zv (Ac U65 rfl rfl (.head _) hiv0) ?_)<;>try((first|refine Zk ?_|refine Zv (Bm rfl rfl) ?_)<;>try((first|refine Zk ?_|refine Zv (Aw (CallR.val rfl en72) (hins (fun e h=>.tail _ h))) ?_)<;>try((first|refine Zv (Av rfl rfl) ?_|refine Zv (A0 rfl rfl) ?_)<;>try refine Zm rfl ?_;try((first|refine Zk ?_|((refine Bc rfl rfl (fun h=>?_) (fun h=>?_))<;>(first|refine Zk ?_|refine Zf fo70_1 rfl ?_)))<;>try((first|refine Zk ?_|refine Zv (AJ (cs:=(endC p.blk.en p.av p.wv).toArray) U68 rfl inf68 rfl (hld (.head _)) rfl) ?_)<;>try((first|refine Zk ?_|refine Zv (Aw (CallR.val rfl en75) (hen (fun e h=>.tail _ h))) ?_)<;>try((first|refine Zk ?_|refine Zv (ov_not rfl) ?_)<;>try((first|refine Zv (Av rfl rfl) ?_|refine Zv (A0 rfl rfl) ?_)<;>try refine Aa N16 ?_))))))))))|refine Ab 16 ?_;try refine Za rfl (Aa N16 ?_)|refine Ab 17 ?_;try refine Zv (AD rfl rfl Y9 Y9) ?_;try refine Zm rfl (Aa N16 ?_))
   all_goals first
    | (refine⟨[],⟨?_,rfl⟩,hi_.subset (.cons _ hsG)⟩;show Ending.returned (Value.bool _)=_;congr 2;rw[hR,k2];(simp[*];done))
    | (refine⟨[],⟨?_,rfl⟩,hi_.subset (.cons _ hsG)⟩;show Ending.returned (Value.bool _)=_;congr 2;rw[hR,k2];(simp[*];omega))
    | (refine CU (H':=G) (List.sublist_cons_self _ _) ?_;refine A1 Y10 (ih (k+1) ⟨by omega,?_⟩ Y9);rw[k2];simp[*];done)
    | (refine CU (H':=G) (List.sublist_cons_self _ _) ?_;refine A1 Y10 (ih (k+1) ⟨by omega,?_⟩ Y9);rw[k2];simp[*];omega)
 · have hk:k=x.blks.length:=by omega
   subst hk
   rw[List.drop_length] at k2
   have hg:g3=true:=by rw[k2];rfl
   repeat' (first|refine Ag rfl ?_|refine Aj rfl ?_|refine Al ?_|refine An ?_|refine Az rfl ?_|refine Bl rfl ?_|refine AM Tryz.func40 rfl (fun w_ hi_=>?_)|refine Ab 13 ?_;try refine Zv (A7 rfl rfl Y2) ?_;try refine Aa N16 ?_|refine Ab 18 ?_;try refine Za rfl (Aa N16 ?_))
   exact⟨[],⟨by rw[hR,hg];rfl,rfl⟩,hi_.subset hsG⟩
end
end Go.Sl
namespace Go.Sl
open Go Go.RowKit Go.Shelf Go.Proofs
attribute [local irreducible] Calls
def Guard (P:Prop) (v:Value) (post:List Ent):Prop:=∃q:Bool,v=.bool q∧post=[]∧(q=true→P)
structure LitB (b:BlkM):Prop where
 len:b.ins.length≤202∧b.en.args.length≤10∧b.en.ws.length≤10∧b.en.nm.length≤70
 ins:∀i∈b.ins,i.args.length≤10∧i.nm.length≤70
 ws:∀w∈b.en.ws,w.1.length≤70
structure LitF (x:FlowM):Prop where
 len:x.nm.length≤70∧x.regs.length≤404∧x.raises.length≤8∧x.blks.length≤602
 raises:∀t∈x.raises,t.length≤70
 blks:∀b∈x.blks,LitB b
theorem LitF.flowL {x:FlowM} (h:LitF x):FlowL x:=⟨by have:=h.len;omega,fun b hb=>by
 have h1:=(h.blks b hb).len
 exact⟨by omega,by omega,by omega,fun i hi=>by have:=((h.blks b hb).ins i hi).1;omega⟩⟩
theorem take_all {α:Type} {P:α→Prop} {l:List α} {k:Nat} (hk:k < l.length) (h:∀x∈l.take k,P x) (h2:P l[k]):∀x∈l.take (k+1),P x:=by
 intro x hx
 rw[List.take_succ_eq_append_getElem hk] at hx
 rcases List.mem_append.1 hx with hx|hx
 · exact h x hx
 · rw[List.mem_singleton.1 hx];exact h2
section
variable {S:Nat→Prop} {w0:World} {F:List Ent}
theorem when_cellsY {l:List (Bs×Int)} {b off:Nat} (hkn:∀i (h:i < (whensV l).length),Kn S w0 F b (off+i) (whensV l)[i]) {k:Nat} (hk:k < l.length):Kn S w0 F b (off+((k:Nat):Int).toNat*2+0) (str l[k].1)∧Kn S w0 F b (off+((k:Nat):Int).toNat*2+1) (.int .i64 l[k].2):=by
 have hj:∀j,j < 2→∀v,[str l[k].1,Value.int .i64 l[k].2][j]?=some v→Kn S w0 F b (off+((k:Nat):Int).toNat*2+j) v:=by
  intro j h2 v hv
  have:=C9 (fun p:Bs×Int=>[str p.1,Value.int .i64 p.2]) (fun _=>rfl) l k j hk h2
  rw[hv] at this
  obtain⟨h3,h4⟩:=List.getElem?_eq_some_iff.1 this
  have h5:Kn S w0 F b (off+(k*2+j)) ((rowV (fun p:Bs×Int=>[str p.1,Value.int .i64 p.2]) l)[k*2+j]'h3):=hkn (k*2+j) h3
  rw[h4] at h5
  rw[show off+((k:Nat):Int).toNat*2+j=off+(k*2+j) by simp;omega]
  exact h5
 exact⟨hj 0 Y9 _ rfl,hj 1 Y9 _ rfl⟩
theorem kn_row {α:Type} {f:α→List Value} {m:Nat} (hf:∀a,(f a).length=m) {l:List α} {b off:Nat} (hkn:∀i (h:i < (rowV f l).length),Kn S w0 F b (off+i) (rowV f l)[i]) {k:Nat} (hk:k < l.length) {j:Nat} (hj:j < m) {v:Value} (hv:(f l[k])[j]?=some v):Kn S w0 F b (off+((k:Nat):Int).toNat*m+j) v:=by
 have:=C9 f hf l k j hk hj
 rw[hv] at this
 obtain⟨h3,h4⟩:=List.getElem?_eq_some_iff.1 this
 have h5:=hkn (k*m+j) h3
 rw[h4] at h5
 rw[show off+((k:Nat):Int).toNat*m+j=off+(k*m+j) by simp;omega]
 exact h5
theorem little_c {x:FlowM} {v:Value} (hK:FlowK S w0 F x v):SLF Tryz.prog S w0 F 11 [v] [] (fun e post=>∃v,e=.returned v∧Guard (LitF x) v post):=by
 refine AE fun w hi=>?_
 simp only[List.nil_append] at hi
 obtain⟨rv,sv,bv,rfl,hk1,hk2,⟨ps,hps,hk3,hk4⟩⟩:=hK
 obtain⟨ar,cr,rfl,hcr,hkr⟩:=id hk1
 obtain⟨az,cz,rfl,hcs,hks⟩:=id hk2
 obtain⟨ab,cb,rfl,hcb,hkb⟩:=id hk3
 have n4:ps.length=x.blks.length:=by rw[←hps];simp
 refine Ak Tryz.func11 rfl rfl (hi) ?_
 repeat refine An ?_
 repeat' (first|refine Ag rfl ?_|refine Al ?_|refine Ab 0 ?_;try refine AL (cs:=flowC x (.slice ar x.regs.length cr) (.slice az x.raises.length cz) (.slice ab x.blks.length cb)) rfl rfl rfl rfl (fun b1 hb1=>?_);try refine Za rfl (Aa N12 ?_))
 repeat refine An ?_
 refine w_cutH (fun _:Unit=>[(1,pv b1 0),(2,.bool false)]) (fun _=>(⟨b1,true,.cells (flowC x (.slice ar x.regs.length cr) (.slice az x.raises.length cz) (.slice ab x.blks.length cb)) 26 (0,0)⟩:Ent)::F) (x.nm.length≤70∧x.regs.length≤404∧x.raises.length≤8∧x.blks.length≤602) ?_ ?_
 rotate_left
 · intro k' rest
   repeat' (first|refine Ag rfl ?_|refine Aj rfl ?_|refine Al ?_|refine An ?_|refine A5 rfl ?_|refine Az rfl ?_|refine CY rfl (fun h=>?_) (fun h=>?_)|refine AB ?_|refine AM Tryz.func11 rfl (fun w_ hi_=>?_)|refine Ab 1 ?_;try refine Zf fo26_0 rfl (Zv (Ac U9 rfl rfl Y0 Y4) ?_);try refine Zv (ov_lenS rfl U9 rfl) (Zv (Be rfl rfl Y2) ?_);try refine Zm rfl ?_;try(((refine Bc rfl rfl (fun h=>?_) (fun h=>?_))<;>(first|refine Zk ?_|refine Zf BZ rfl ?_))<;>try((first|refine Zk ?_|refine Zv (Ac U22 rfl rfl Y0 Y4) ?_)<;>try((first|refine Zk ?_|refine Zv (Ap rfl U22 rfl) ?_)<;>try((first|refine Zk ?_|refine Zv (Be rfl rfl Y2) ?_)<;>try((first|refine Zv (Av rfl rfl) ?_|refine Zv (A0 rfl rfl) ?_)<;>try refine Zm rfl ?_;try((first|refine Zk ?_|((refine Bc rfl rfl (fun h=>?_) (fun h=>?_))<;>(first|refine Zk ?_|refine Zf Cd rfl ?_)))<;>try((first|refine Zk ?_|refine Zv (Ac U23 rfl rfl Y0 Y4) ?_)<;>try((first|refine Zk ?_|refine Zv (Ap rfl U23 rfl) ?_)<;>try((first|refine Zk ?_|refine Zv (Be rfl rfl Y2) ?_)<;>try((first|refine Zv (Av rfl rfl) ?_|refine Zv (A0 rfl rfl) ?_)<;>try refine Zm rfl ?_;try((first|refine Zk ?_|((refine Bc rfl rfl (fun h=>?_) (fun h=>?_))<;>(first|refine Zk ?_|refine Zf Bz rfl ?_)))<;>try((first|refine Zk ?_|refine Zv (Ac U24 rfl rfl Y0 Y4) ?_)<;>try((first|refine Zk ?_|refine Zv (Ap rfl U24 rfl) ?_)<;>try((first|refine Zk ?_|refine Zv (Be rfl rfl Y2) ?_)<;>try((first|refine Zk ?_|refine Zm rfl ?_)<;>try((first|refine Zk ?_|((refine Bc rfl rfl (fun h=>?_) (fun h=>?_))<;>(first|refine Zk ?_|refine Zf Bz rfl ?_)))<;>try((first|refine Zk ?_|refine Zv (Ac U24 rfl rfl Y0 Y4) ?_)<;>try((first|refine Zk ?_|refine Zv (Ap rfl U24 rfl) ?_)<;>try((first|refine Zk ?_|refine Zv (CQ rfl rfl Y2) ?_)<;>try((first|refine Zk ?_|(first|refine Zv (Av rfl rfl) ?_|refine Zv (A0 rfl rfl) ?_))<;>try((first|refine Zv (Av rfl rfl) ?_|refine Zv (A0 rfl rfl) ?_)<;>try refine Zm rfl ?_;try((first|refine Zk ?_|refine Zf Bz rfl ?_|((refine Bc rfl rfl (fun h=>?_) (fun h=>?_))<;>(first|refine Zk ?_|refine Zf Bz rfl ?_)))<;>try((first|refine Zk ?_|refine Zv (Ac U24 rfl rfl Y0 Y4) ?_)<;>try((first|refine Zk ?_|refine Zv (Ap rfl U24 rfl) ?_)<;>try((first|refine Zk ?_|refine Zv (Be rfl rfl Y2) ?_)<;>try((first|refine Zv (Av rfl rfl) ?_|refine Zv (A0 rfl rfl) ?_)<;>try refine Aa N12 ?_))))))))))))))))))))))))))|refine Ab 2 ?_;try refine Za rfl (Aa N12 ?_))
   all_goals first
    | exact⟨[],⟨_,rfl,false,rfl,rfl,fun h=>by cases h⟩,hi_.subset Y17⟩
    | exact A1 Y10 (rest ⟨by omega,by omega,by omega,by omega⟩ ())
 intro hlen _
 repeat refine An ?_
 repeat' (first|refine Ag rfl ?_|refine Al ?_|refine Ab 3 ?_;try refine Za rfl (Aa N12 ?_))
 refine A6 ?_
 refine w_cutH (fun k:Nat=>[(1,pv b1 0),(2,.bool false),(3,.int .i64 (k:Int))]) (fun _=>(⟨b1,true,.cells (flowC x (.slice ar x.regs.length cr) (.slice az x.raises.length cz) (.slice ab x.blks.length cb)) 26 (0,0)⟩:Ent)::F) (∀t∈x.raises,t.length≤70) ?_ ?_
 rotate_left
 · intro k' rest
   refine A1 (E':=(fun k:Nat=>[(1,pv b1 0),(2,.bool false),(3,.int .i64 (k:Int))]) 0) Y14 ?_
   refine Bb (fun k:Nat=>k≤x.raises.length∧∀t∈x.raises.take k,t.length≤70) (fun k=>x.raises.length - k) (fun k:Nat=>[(1,pv b1 0),(2,.bool false),(3,.int .i64 (k:Int))]) (fun _=>_) ?_ 0 ⟨Nat.zero_le _,by simp⟩
   rintro k ⟨k1,k2⟩ ih
   try dsimp only at k1 k2 ih ⊢
   by_cases hlt:k < x.raises.length
   · obtain ⟨b,off,hb,hkn⟩:=hks.resolve_left (fun e=>by have:=Bv x.raises;rw[e] at this;simp at this;omega)
     subst hb
     have hc0:Kn S w0 F b (off+((k:Nat):Int).toNat*1) (str x.raises[k]):=by
      have:=hkn k (by rw[Bv];omega)
      simpa [strsV] using this
     repeat' (first|refine Ag rfl ?_|refine Aj rfl ?_|refine Al ?_|refine An ?_|refine A5 rfl ?_|refine CY rfl (fun h=>?_) (fun h=>?_)|refine A6 ?_|refine AH ?_|refine AB ?_|refine AM Tryz.func11 rfl (fun w_ hi_=>?_)|refine Ab 4 ?_;try refine Zm rfl (Zf Cd rfl (Zv (Ac U23 rfl rfl Y0 Y4) ?_));try refine Zv (Ap rfl U23 rfl) (Zv (A7 rfl rfl Y2) ?_);try refine Aa N12 ?_|refine Ab 6 ?_;try refine Zf Cd rfl (Zv (Ac U23 rfl rfl Y0 Y4) ?_);try refine Zm rfl (Zv (Am U23 sz9 rfl rfl Y9 Y9) ?_);try refine Zv (A2 U9 rfl rfl hc0.cons) (Zv (ov_lenS rfl U9 rfl) (Zv (Be rfl rfl Y2) ?_));try refine Aa N12 ?_|refine Ab 7 ?_;try refine Za rfl (Aa N12 ?_)|refine Ab 5 ?_;try refine Zm rfl (Zv (AD rfl rfl Y9 Y9) ?_);try refine Za rfl (Aa N12 ?_))
     all_goals first
      | exact⟨[],⟨_,rfl,false,rfl,rfl,fun h=>by cases h⟩,hi_.subset Y17⟩
      | exact A1 Y10 (ih (k+1) ⟨by omega,take_all hlt k2 Y9⟩ Y9)
   · have hk:k=x.raises.length:=by omega
     subst hk
     rw[List.take_length] at k2
     repeat' (first|refine Ag rfl ?_|refine Aj rfl ?_|refine Al ?_|refine An ?_|refine Az rfl ?_|refine Bl rfl ?_|refine Ab 4 ?_;try refine Zm rfl (Zf Cd rfl (Zv (Ac U23 rfl rfl Y0 Y4) ?_));try refine Zv (Ap rfl U23 rfl) (Zv (A7 rfl rfl Y2) ?_);try refine Aa N12 ?_)
     exact A1 Y10 (rest k2 x.raises.length)
 intro hra q1
 repeat refine An ?_
 repeat' (first|refine Ag rfl ?_|refine Al ?_|refine Ab 8 ?_;try refine Za rfl (Aa N12 ?_))
 refine A6 ?_
 have m1:(⟨b1,true,.cells (flowC x (.slice ar x.regs.length cr) (.slice az x.raises.length cz) (.slice ab x.blks.length cb)) 26 (0,0)⟩:Ent)∈(⟨b1,true,.cells (flowC x (.slice ar x.regs.length cr) (.slice az x.raises.length cz) (.slice ab x.blks.length cb)) 26 (0,0)⟩:Ent)::F:=.head _
 generalize hG:((⟨b1,true,.cells (flowC x (.slice ar x.regs.length cr) (.slice az x.raises.length cz) (.slice ab x.blks.length cb)) 26 (0,0)⟩:Ent)::F)=G at m1 ⊢
 have hsG:F.Sublist G:=by rw[←hG];exact .cons _ (List.Sublist.refl _)
 have hFG:∀e∈F,e∈G:=fun e h=>hsG.subset h
 clear hG
 refine A1 (E':=(fun k:Nat=>[(1,pv b1 0),(2,.bool false),(3,.int .i64 (q1:Int)),(4,.int .i64 (k:Int))]) 0) Y14 ?_
 refine Bb (fun k:Nat=>k≤x.blks.length∧∀b∈x.blks.take k,LitB b) (fun k=>x.blks.length - k) (fun k:Nat=>[(1,pv b1 0),(2,.bool false),(3,.int .i64 (q1:Int)),(4,.int .i64 (k:Int))]) (fun _=>G) ?_ 0 ⟨Nat.zero_le _,by simp⟩
 rintro k ⟨k1,k2⟩ ih
 try dsimp only at k1 k2 ih ⊢
 by_cases hlt:k < x.blks.length
 · obtain ⟨b,off,hb,hkn⟩:=hkb.resolve_left (fun e=>by have:=Ba pbC BE ps;rw[e] at this;simp at this;omega)
   subst hb
   have hpl:k < ps.length:=by omega
   obtain⟨p,hp⟩:∃p,ps[k]=p:=⟨_,rfl⟩
   have hpm:p∈ps:=hp▸List.getElem_mem hpl
   have hbk:x.blks[k]=p.blk:=by simp only[←hps,List.getElem_map,hp]
   have hcell:∀j (h:j < (pbC p).toArray.size),Kn S w0 F b (off+((k:Nat):Int).toNat*10+j) (pbC p).toArray[j]:=fun j h=>kn_row BE hkn hpl h (by rw[hp];simp)
   have hK:=hk4 p hpm
   obtain⟨is,i1,i2,i3⟩:=hK.ins
   have hil:is.length=p.blk.ins.length:=by rw[←i1];simp
   obtain⟨ai,ci,hiv,hci,hki⟩:=id i2
   obtain⟨av,cv,hav,hcv,hkv⟩:=id hK.args
   obtain⟨aw,cw,hwv,hcw,hkw⟩:=id hK.whens
   have hst:(pbC p).toArray.toList.all okCell=true:=by
    have h1:=CL (ps:=[p]) (G:=F) (fun q hq=>by simp at hq;subst hq;exact hK)
    simpa [rowV] using h1
   have hiv0:(pbC p).toArray[0+0]?=some (.slice ai p.blk.ins.length ci):=by rw[←hiv];rfl
   have hav0:(pbC p).toArray[0+1+6]?=some (.slice av p.blk.en.args.length cv):=by rw[←hav];rfl
   have hwv0:(pbC p).toArray[0+1+7]?=some (.slice aw p.blk.en.ws.length cw):=by rw[←hwv];rfl
   have hnm0:(pbC p).toArray[0+1+5]?=some (str p.blk.en.nm):=rfl
   repeat' (first|refine Ag rfl ?_|refine Aj rfl ?_|refine Al ?_|refine An ?_|refine A5 rfl ?_|refine A6 ?_|refine AB ?_|refine Ab 9 ?_;try refine Zm rfl (Zf Bz rfl (Zv (Ac U24 rfl rfl m1 rfl) (Zv (Ap rfl U24 rfl) (Zv (A7 rfl rfl Y2) ?_))));try refine Aa N12 ?_|refine Ab 11 ?_;try refine Zf Bz rfl (Zv (Ac U24 rfl rfl m1 rfl) (Zm rfl (Zv (Am U24 sz70 rfl rfl Y9 Y9) ?_)));try refine Zv (AJ (cs:=(pbC p).toArray) U70 rfl inf70 rfl (fun j h=>(hcell j h).mono hFG) rfl) ?_;try refine A8 inf70 rfl rfl rfl rfl (fun b7 hb7=>?_);try refine AI rfl rfl hst sz70 Y3 (by rfl) rfl rfl ?_;try refine Aa N12 ?_)
   repeat refine An ?_
   refine w_cutH (fun _:Unit=>[(1,pv b1 0),(2,.bool false),(3,.int .i64 (q1:Int)),(4,.int .i64 (k:Int)),(5,pv b7 0)]) (fun _=>(⟨b7,true,.cells (pbC p).toArray 70 (0,0)⟩:Ent)::G) (p.blk.ins.length≤202∧p.blk.en.args.length≤10∧p.blk.en.ws.length≤10∧p.blk.en.nm.length≤70) ?_ ?_
   rotate_left
   · intro k' rest
     repeat' (first|refine Ag rfl ?_|refine Aj rfl ?_|refine Al ?_|refine An ?_|refine A5 rfl ?_|refine CY rfl (fun h=>?_) (fun h=>?_)|refine AB ?_|refine AM Tryz.func11 rfl (fun w_ hi_=>?_)|refine Ab 12 ?_;try refine Zf Cv rfl (Zv (Ac U65 rfl rfl (.head _) hiv0) (Zv (Ap rfl U65 rfl) (Zv (Be rfl rfl Y2) ?_)));try refine Zm rfl ?_;try(((refine Bc rfl rfl (fun h=>?_) (fun h=>?_))<;>(first|refine Zk ?_|refine Zf Cv rfl ?_))<;>try((first|refine Zk ?_|refine Zv (Ac U65 rfl rfl (.head _) hiv0) ?_)<;>try((first|refine Zk ?_|refine Zv (Ap rfl U65 rfl) ?_)<;>try((first|refine Zk ?_|refine Zv (CQ rfl rfl Y2) ?_)<;>try((first|refine Zv (Av rfl rfl) ?_|refine Zv (A0 rfl rfl) ?_)<;>try refine Zm rfl ?_;try((first|refine Zf Cv rfl ?_|((refine Bc rfl rfl (fun h=>?_) (fun h=>?_))<;>(first|refine Zk ?_|refine Zf Cv rfl ?_)))<;>try((first|refine Zk ?_|refine Zv (Ac U65 rfl rfl (.head _) hiv0) ?_)<;>try((first|refine Zk ?_|refine Zv (Ap rfl U65 rfl) ?_)<;>try((first|refine Zk ?_|refine Zv (Be rfl rfl Y2) ?_)<;>try((first|refine Zv (Av rfl rfl) ?_|refine Zv (A0 rfl rfl) ?_)<;>try refine Zm rfl ?_;try((first|refine Zk ?_|refine Zf fo70_1 rfl ?_|((refine Bc rfl rfl (fun h=>?_) (fun h=>?_))<;>(first|refine Zk ?_|refine Zf fo70_1 rfl ?_)))<;>try((first|refine Zk ?_|refine Zf fo68_6 rfl ?_)<;>try((first|refine Zk ?_|refine Zv (Ac U59 rfl rfl (.head _) hav0) ?_)<;>try((first|refine Zk ?_|refine Zv (Ap rfl U59 rfl) ?_)<;>try((first|refine Zk ?_|refine Zv (Be rfl rfl Y2) ?_)<;>try((first|refine Zv (Av rfl rfl) ?_|refine Zv (A0 rfl rfl) ?_)<;>try refine Zm rfl ?_;try((first|refine Zk ?_|((refine Bc rfl rfl (fun h=>?_) (fun h=>?_))<;>(first|refine Zk ?_|refine Zf fo70_1 rfl ?_)))<;>try((first|refine Zk ?_|refine Zf fo68_7 rfl ?_)<;>try((first|refine Zk ?_|refine Zv (Ac U66 rfl rfl (.head _) hwv0) ?_)<;>try((first|refine Zk ?_|refine Zv (Ap rfl U66 rfl) ?_)<;>try((first|refine Zk ?_|refine Zv (Be rfl rfl Y2) ?_)<;>try((first|refine Zv (Av rfl rfl) ?_|refine Zv (A0 rfl rfl) ?_)<;>try refine Zm rfl ?_;try((first|refine Zk ?_|((refine Bc rfl rfl (fun h=>?_) (fun h=>?_))<;>(first|refine Zk ?_|refine Zf fo70_1 rfl ?_)))<;>try((first|refine Zk ?_|refine Zf fo68_5 rfl ?_)<;>try((first|refine Zk ?_|refine Zv (Ac U9 rfl rfl (.head _) hnm0) ?_)<;>try((first|refine Zk ?_|refine Zv (ov_lenS rfl U9 rfl) ?_)<;>try((first|refine Zk ?_|refine Zv (Be rfl rfl Y2) ?_)<;>try((first|refine Zv (Av rfl rfl) ?_|refine Zv (A0 rfl rfl) ?_)<;>try refine Aa N12 ?_))))))))))))))))))))))))))))|refine Ab 13 ?_;try refine Za rfl (Aa N12 ?_))
     all_goals first
      | exact⟨[],⟨_,rfl,false,rfl,rfl,fun h=>by cases h⟩,hi_.subset Y17⟩
      | exact A1 Y10 (rest ⟨by omega,by omega,by omega,by omega⟩ ())
   intro hbl _
   repeat refine An ?_
   repeat' (first|refine Ag rfl ?_|refine Al ?_|refine Ab 14 ?_;try refine Za rfl (Aa N12 ?_))
   refine A6 ?_
   refine w_cutH (fun j:Nat=>[(1,pv b1 0),(2,.bool false),(3,.int .i64 (q1:Int)),(4,.int .i64 (k:Int)),(5,pv b7 0),(6,.int .i64 (j:Int))]) (fun _=>(⟨b7,true,.cells (pbC p).toArray 70 (0,0)⟩:Ent)::G) (∀i∈p.blk.ins,i.args.length≤10∧i.nm.length≤70) ?_ ?_
   rotate_left
   · intro k' rest
     refine A1 (E':=(fun j:Nat=>[(1,pv b1 0),(2,.bool false),(3,.int .i64 (q1:Int)),(4,.int .i64 (k:Int)),(5,pv b7 0),(6,.int .i64 (j:Int))]) 0) Y14 ?_
     refine Bb (fun j:Nat=>j≤p.blk.ins.length∧∀i∈p.blk.ins.take j,i.args.length≤10∧i.nm.length≤70) (fun j=>p.blk.ins.length - j) (fun j:Nat=>[(1,pv b1 0),(2,.bool false),(3,.int .i64 (q1:Int)),(4,.int .i64 (k:Int)),(5,pv b7 0),(6,.int .i64 (j:Int))]) (fun _=>_) ?_ 0 ⟨Nat.zero_le _,by simp⟩
     rintro j ⟨j1,j2⟩ ihj
     try dsimp only at j1 j2 ihj ⊢
     by_cases hlt2:j < p.blk.ins.length
     · obtain ⟨bi,oi,hbi,hkni⟩:=hki.resolve_left (fun e=>by have:=Ba insP C7 is;rw[e] at this;simp at this;omega)
       subst hbi
       have hji:j < is.length:=by omega
       have hqk:p.blk.ins[j]=is[j].1:=by simp only[←i1,List.getElem_map]
       obtain⟨aq,cq,hqv,_,_⟩:=id (i3 _ (List.getElem_mem hji))
       have hc7:Kn S w0 F bi (oi+((j:Nat):Int).toNat*8+7) (.slice aq p.blk.ins[j].args.length cq):=kn_row C7 hkni hji Y22 (by rw[hqk,←hqv];rfl)
       have hc6:Kn S w0 F bi (oi+((j:Nat):Int).toNat*8+6) (str p.blk.ins[j].nm):=kn_row C7 hkni hji Y22 (by rw[hqk];rfl)
       repeat' (first|refine Ag rfl ?_|refine Aj rfl ?_|refine Al ?_|refine An ?_|refine A5 rfl ?_|refine CY rfl (fun h=>?_) (fun h=>?_)|refine A6 ?_|refine AH ?_|refine AB ?_|refine AM Tryz.func11 rfl (fun w_ hi_=>?_)|refine Ab 15 ?_;try refine Zm rfl (Zf Cv rfl (Zv (Ac U65 rfl rfl (.head _) hiv0) (Zv (Ap rfl U65 rfl) (Zv (A7 rfl rfl Y2) ?_))));try refine Aa N12 ?_|refine Ab 17 ?_;try refine Zf Cv rfl (Zv (Ac U65 rfl rfl (.head _) hiv0) (Zm rfl (Zv (Am U65 sz73 rfl rfl Y9 Y9) ?_)));try refine Zf CO rfl (Zv (A2 U59 rfl rfl (hc7.mono (fun e h=>.tail _ (hFG e h)))) (Zv (Ap rfl U59 rfl) (Zv (Be rfl rfl Y2) ?_)));try refine Zm rfl ?_;try(((refine Bc rfl rfl (fun h=>?_) (fun h=>?_))<;>(first|refine Zk ?_|refine Zf Cv rfl ?_))<;>try((first|refine Zk ?_|refine Zv (Ac U65 rfl rfl (.head _) hiv0) ?_)<;>try((first|refine Zk ?_|refine Zm rfl ?_)<;>try((first|refine Zk ?_|refine Zv (Am U65 sz73 rfl rfl Y9 Y9) ?_)<;>try((first|refine Zk ?_|refine Zf fo73_6 rfl ?_)<;>try((first|refine Zk ?_|refine Zv (A2 U9 rfl rfl (hc6.mono (fun e h=>.tail _ (hFG e h)))) ?_)<;>try((first|refine Zk ?_|refine Zv (ov_lenS rfl U9 rfl) ?_)<;>try((first|refine Zk ?_|refine Zv (Be rfl rfl Y2) ?_)<;>try((first|refine Zv (Av rfl rfl) ?_|refine Zv (A0 rfl rfl) ?_)<;>try refine Aa N12 ?_)))))))))|refine Ab 18 ?_;try refine Za rfl (Aa N12 ?_)|refine Ab 16 ?_;try refine Zm rfl (Zv (AD rfl rfl Y9 Y9) ?_);try refine Za rfl (Aa N12 ?_))
       all_goals first
        | exact⟨[],⟨_,rfl,false,rfl,rfl,fun h=>by cases h⟩,hi_.subset Y17⟩
        | exact A1 Y10 (ihj (j+1) ⟨by omega,take_all hlt2 j2 ⟨by omega,by omega⟩⟩ Y9)
     · have hj:j=p.blk.ins.length:=by omega
       subst hj
       rw[List.take_length] at j2
       repeat' (first|refine Ag rfl ?_|refine Aj rfl ?_|refine Al ?_|refine An ?_|refine Az rfl ?_|refine Bl rfl ?_|refine Ab 15 ?_;try refine Zm rfl (Zf Cv rfl (Zv (Ac U65 rfl rfl (.head _) hiv0) (Zv (Ap rfl U65 rfl) (Zv (A7 rfl rfl Y2) ?_))));try refine Aa N12 ?_)
       exact A1 Y10 (rest j2 p.blk.ins.length)
   intro hins q2
   repeat refine An ?_
   repeat' (first|refine Ag rfl ?_|refine Al ?_|refine Ab 19 ?_;try refine Za rfl (Aa N12 ?_))
   refine A6 ?_
   refine w_cutH (fun j:Nat=>[(1,pv b1 0),(2,.bool false),(3,.int .i64 (q1:Int)),(4,.int .i64 (k:Int)),(5,pv b7 0),(6,.int .i64 (q2:Int)),(7,.int .i64 (j:Int))]) (fun _=>(⟨b7,true,.cells (pbC p).toArray 70 (0,0)⟩:Ent)::G) (∀w∈p.blk.en.ws,w.1.length≤70) ?_ ?_
   rotate_left
   · intro k' rest
     refine A1 (E':=(fun j:Nat=>[(1,pv b1 0),(2,.bool false),(3,.int .i64 (q1:Int)),(4,.int .i64 (k:Int)),(5,pv b7 0),(6,.int .i64 (q2:Int)),(7,.int .i64 (j:Int))]) 0) Y14 ?_
     refine Bb (fun j:Nat=>j≤p.blk.en.ws.length∧∀w∈p.blk.en.ws.take j,w.1.length≤70) (fun j=>p.blk.en.ws.length - j) (fun j:Nat=>[(1,pv b1 0),(2,.bool false),(3,.int .i64 (q1:Int)),(4,.int .i64 (k:Int)),(5,pv b7 0),(6,.int .i64 (q2:Int)),(7,.int .i64 (j:Int))]) (fun _=>_) ?_ 0 ⟨Nat.zero_le _,by simp⟩
     rintro j ⟨j1,j2⟩ ihj
     try dsimp only at j1 j2 ihj ⊢
     by_cases hlt2:j < p.blk.en.ws.length
     · obtain ⟨bi,oi,hbi,hkni⟩:=hkw.resolve_left (fun e=>by have:=Db p.blk.en.ws;rw[e] at this;simp at this;omega)
       subst hbi
       have hc0:=(when_cellsY hkni hlt2).1
       repeat' (first|refine Ag rfl ?_|refine Aj rfl ?_|refine Al ?_|refine An ?_|refine A5 rfl ?_|refine CY rfl (fun h=>?_) (fun h=>?_)|refine A6 ?_|refine AH ?_|refine AB ?_|refine AM Tryz.func11 rfl (fun w_ hi_=>?_)|refine Ab 20 ?_;try refine Zm rfl (Zf fo70_1 rfl (Zf fo68_7 rfl (Zv (Ac U66 rfl rfl (.head _) hwv0) (Zv (Ap rfl U66 rfl) (Zv (A7 rfl rfl Y2) ?_)))));try refine Aa N12 ?_|refine Ab 22 ?_;try refine Zf fo70_1 rfl (Zf fo68_7 rfl (Zv (Ac U66 rfl rfl (.head _) hwv0) (Zm rfl (Zv (Am U66 sz75 rfl rfl Y9 Y9) ?_))));try refine Zf fo75_0 rfl (Zv (A2 U9 rfl rfl (hc0.mono (fun e h=>.tail _ (hFG e h)))) (Zv (ov_lenS rfl U9 rfl) (Zv (Be rfl rfl Y2) ?_)));try refine Aa N12 ?_|refine Ab 23 ?_;try refine Za rfl (Aa N12 ?_)|refine Ab 21 ?_;try refine Zm rfl (Zv (AD rfl rfl Y9 Y9) ?_);try refine Za rfl (Aa N12 ?_))
       all_goals first
        | exact⟨[],⟨_,rfl,false,rfl,rfl,fun h=>by cases h⟩,hi_.subset Y17⟩
        | exact A1 Y10 (ihj (j+1) ⟨by omega,take_all hlt2 j2 Y9⟩ Y9)
     · have hj:j=p.blk.en.ws.length:=by omega
       subst hj
       rw[List.take_length] at j2
       repeat' (first|refine Ag rfl ?_|refine Aj rfl ?_|refine Al ?_|refine An ?_|refine Az rfl ?_|refine Bl rfl ?_|refine Ab 20 ?_;try refine Zm rfl (Zf fo70_1 rfl (Zf fo68_7 rfl (Zv (Ac U66 rfl rfl (.head _) hwv0) (Zv (Ap rfl U66 rfl) (Zv (A7 rfl rfl Y2) ?_)))));try refine Aa N12 ?_)
       exact A1 Y10 (rest j2 p.blk.en.ws.length)
   intro hws q3
   repeat' (first|refine Ag rfl ?_|refine Aj rfl ?_|refine Al ?_|refine AH ?_|refine Ab 10 ?_;try refine Zm rfl (Zv (AD rfl rfl Y9 Y9) ?_);try refine Za rfl (Aa N12 ?_))
   refine CU (H':=G) (List.sublist_cons_self _ _) ?_
   exact A1 Y10 (ih (k+1) ⟨by omega,take_all hlt k2 (by rw[hbk];exact⟨hbl,hins,hws⟩)⟩ Y9)
 · have hk:k=x.blks.length:=by omega
   subst hk
   rw[List.take_length] at k2
   repeat' (first|refine Ag rfl ?_|refine Aj rfl ?_|refine Al ?_|refine An ?_|refine Az rfl ?_|refine Bl rfl ?_|refine AM Tryz.func11 rfl (fun w_ hi_=>?_)|refine Ab 9 ?_;try refine Zm rfl (Zf Bz rfl (Zv (Ac U24 rfl rfl m1 rfl) (Zv (Ap rfl U24 rfl) (Zv (A7 rfl rfl Y2) ?_))));try refine Aa N12 ?_|refine Ab 24 ?_;try refine Za rfl (Aa N12 ?_))
   exact⟨[],⟨_,rfl,true,rfl,rfl,fun _=>⟨hlen,hra,k2⟩⟩,hi_.subset hsG⟩
end
end Go.Sl
namespace Go.Sl
inductive Seg|lit (b:Bs)|ref (q:Int) (nm:Bs)|blk
 deriving DecidableEq
def put1 (s:WS):Seg→WS
 | .lit b=>{s with bytes:=s.bytes++b}
 | .ref q nm=>{s with bytes:=s.bytes++be 2 0,places:=s.places++[((s.bytes.length:Int),q,nm)]}
 | .blk=>{s with blocks:=s.blocks++[(s.bytes.length:Int)]}
def puts (l:List Seg) (s:WS):WS:=l.foldl put1 s
theorem puts_cons (a:Seg) (l:List Seg) (s:WS):puts (a::l) s=puts l (put1 s a):=rfl
theorem puts_app (a b:List Seg) (s:WS):puts (a++b) s=puts b (puts a s):=List.foldl_append
def sgN (sz:Nat) (n:Int):List Seg:=[.lit (be sz n)]
def sgT (t:Bs):List Seg:=[.lit (be 1 t.length++t)]
def sgLI:LI→InsM→List Seg
 | .to,x=>sgN 2 x.to
 | .a,x=>sgN 2 x.a
 | .b,x=>sgN 2 x.b
 | .lo,x=>sgN 4 x.lo
 | .hi,x=>sgN 4 x.hi
 | .one,x=>sgN 2 (arg1 x.args)
 | .sh,x=>[.ref 2 x.nm]
 | .fi,x=>[.ref 3 x.nm]
 | .me,x=>[.ref 4 x.nm]
 | .gl,x=>[.ref 5 x.nm]
def sgIns (x:InsM):List Seg:=sgN 1 x.op++((formI x.op).getD []).flatMap fun l=>sgLI l x
def sgWhen (w:Bs×Int):List Seg:=sgT w.1++sgN 2 w.2
def sgL {α:Type} (sz:Nat) (g:α→List Seg) (l:List α):List Seg:=sgN sz l.length++l.flatMap g
def sgLJ:LJ→EndM→List Seg
 | .target,x=>sgN 2 x.to
 | .other,x=>sgN 2 x.el
 | .first,x=>sgN 2 x.a
 | .second,x=>sgN 2 x.b
 | .code,x=>sgN 1 x.a
 | .raised,x=>sgT x.nm
 | .called,x=>[.ref 1 x.nm]
 | .asked,x=>[.ref 4 x.nm]
 | .given,x=>sgL 1 (sgN 2) x.args
 | .handlers,x=>sgL 1 sgWhen x.ws++sgN 2 x.ot
def sgEnd (x:EndM):List Seg:=sgN 1 x.kd++((formE x.kd).getD []).flatMap fun l=>sgLJ l x
def sgBlk (b:BlkM):List Seg:=.blk::(sgL 1 sgIns b.ins++sgEnd b.en)
def sgFlow (f:FlowM):List Seg:=sgN 1 f.ac++(sgN 1 f.res++(sgL 2 (sgN 1) f.regs++(sgL 1 sgT f.raises++sgL 2 sgBlk f.blks)))
def layF (f:FlowM):WS:=puts (sgFlow f) ws0
def msr (s:WS):Nat:=s.bytes.length+s.places.length+s.blocks.length
def Wr {α:Type} (k:Nat) (c:WS→Out (α×WS)) (a:α) (l:List Seg):Prop:=∀s,msr s+k≤maxB→c s=.ok (a,puts l s)∧msr (puts l s)≤msr s+k
theorem Wr.up {α:Type} {k k':Nat} {c:WS→Out (α×WS)} {a:α} {l:List Seg} (h:Wr k c a l) (hk:k≤k'):Wr k' c a l:=fun s hs=>by
 have:=h s Y9
 exact⟨this.1,by omega⟩
theorem Wr.bind {α β:Type} {k k':Nat} {c:WS→Out (α×WS)} {d:α×WS→Out (β×WS)} {a:α} {b:β} {l m:List Seg} (h:Wr k c a l) (h2:Wr k' (fun s=>d (a,s)) b m):Wr (k+k') (fun s=>(c s).bind d) b (l++m):=fun s hs=>by
 have h1:=h s Y9
 have h3:=h2 (puts l s) Y9
 dsimp only at h3
 refine⟨?_,?_⟩
 · dsimp only;rw[h1.1,Out.ok_bind,h3.1,puts_app]
 · rw[puts_app];omega
theorem Wr.map {α β:Type} {k:Nat} {c:WS→Out (α×WS)} {a:α} {b:β} {l:List Seg} (h:Wr k c a l) (f:α×WS→β) (hf:∀s,f (a,s)=b):Wr k (fun s=>(c s).bind fun r=>.ok (f r,r.2)) b l:=fun s hs=>by
 have h1:=h s hs
 exact⟨by dsimp only;rw[h1.1,Out.ok_bind,hf],h1.2⟩
theorem Wr.pure {α:Type} (a:α):Wr 0 (fun s=>.ok (a,s)) a []:=fun s _=>⟨rfl,Nat.le_refl _⟩
theorem CI (n:Int) (sz:Nat):Wr sz (wKd.num n sz) n (sgN sz n):=fun s hs=>by
 unfold msr at hs
 refine⟨?_,?_⟩
 · simp only[wKd];rw[if_pos Y9];rfl
 · simp[msr,sgN,puts,put1,Cp];omega
theorem wr_small {p:Int} (h0:0≤p) (h1:p≤255):Wr 1 (small wKd p) p (sgN 1 p):=(CI p 1).map _ fun s=>by dsimp only;omega
theorem wr_txt {t:Bs} (h:t≠[]):Wr (1+t.length) (wKd.txt t) t (sgT t):=fun s hs=>by
 unfold msr at hs
 refine⟨?_,?_⟩
 · simp only[wKd];rw[if_pos ⟨h,by omega⟩];simp[sgT,puts,put1]
 · simp[msr,sgT,puts,put1,Cp];omega
theorem wr_ref (nm:Bs) (q:Int):Wr 3 (wKd.ref nm q) nm [.ref q nm]:=fun s hs=>by
 unfold msr at hs
 refine⟨?_,?_⟩
 · simp only[wKd];rw[if_pos ⟨by omega,by omega⟩];simp[puts,put1]
 · simp[msr,puts,put1,Cp];omega
theorem wr_ltI {x:InsM} (l:LI) (h:l=.one→x.args.length=1):Wr 4 (ltI wKd l x) x (sgLI l x):=by
 cases l with
 | one=>
   have h:=h rfl
   obtain⟨n,hn⟩:∃n,x.args=[n]:=List.length_eq_one_iff.1 h
   refine Wr.up (k:=2) ((CI (arg1 x.args) 2).map (b:=x) (fun r=>{x with args:=[r.1]}) fun s=>?_) Y9
   simp only[hn,arg1]
   cases x;simp only at hn;subst hn;rfl
 | lo=>exact(CI x.lo 4).map (b:=x) (fun r=>{x with lo:=r.1}) fun s=>rfl
 | hi=>exact(CI x.hi 4).map (b:=x) (fun r=>{x with hi:=r.1}) fun s=>rfl
 | to=>exact Wr.up (k:=2) ((CI x.to 2).map (b:=x) (fun r=>{x with to:=r.1}) fun s=>rfl) Y9
 | a=>exact Wr.up (k:=2) ((CI x.a 2).map (b:=x) (fun r=>{x with a:=r.1}) fun s=>rfl) Y9
 | b=>exact Wr.up (k:=2) ((CI x.b 2).map (b:=x) (fun r=>{x with b:=r.1}) fun s=>rfl) Y9
 | sh=>exact Wr.up (k:=3) ((wr_ref x.nm 2).map (b:=x) (fun r=>{x with nm:=r.1}) fun s=>rfl) Y9
 | fi=>exact Wr.up (k:=3) ((wr_ref x.nm 3).map (b:=x) (fun r=>{x with nm:=r.1}) fun s=>rfl) Y9
 | me=>exact Wr.up (k:=3) ((wr_ref x.nm 4).map (b:=x) (fun r=>{x with nm:=r.1}) fun s=>rfl) Y9
 | gl=>exact Wr.up (k:=3) ((wr_ref x.nm 5).map (b:=x) (fun r=>{x with nm:=r.1}) fun s=>rfl) Y9
theorem wr_runs {α β:Type} {step:β→α→WS→Out (α×WS)} {x:α} {g:β→List Seg} {k:Nat}:∀(ls:List β),(∀l∈ls,Wr k (step l x) x (g l))→Wr (ls.length*k) (runs step ls x) x (ls.flatMap g)
 | [],_=>(Wr.pure x).up (Nat.zero_le _)
 | l :: r,h=>by
   have:=(h l (.head _)).bind (d:=fun q=>runs step r q.1 q.2) (wr_runs r fun m hm=>h m (.tail _ hm))
   exact this.up (by simp[Nat.succ_mul];omega)
theorem wr_iter {α:Type} {step:α→WS→Out (α×WS)} {g:α→List Seg} {k:Nat}:∀(l:List α),(∀x∈l,Wr k (step x) x (g x))→Wr (l.length*k) (iter step l) l (l.flatMap g)
 | [],_=>(Wr.pure _).up (Nat.zero_le _)
 | x :: r,h=>by
   have:=(h x (.head _)).bind (d:=fun q=>(iter step r q.2).bind fun q2=>.ok (q.1::q2.1,q2.2)) ((wr_iter r fun m hm=>h m (.tail _ hm)).map (b:=x::r) (fun q2=>x::q2.1) fun s=>rfl)
   exact this.up (by simp[Nat.succ_mul];omega)
theorem wr_lst {α:Type} {step:α→WS→Out (α×WS)} {g:α→List Seg} {k sz:Nat} {z:α} {l:List α} (h:∀x∈l,Wr k (step x) x (g x)):Wr (sz+l.length*k) (lst wKd sz z step l) l (sgL sz g l):=by
 refine(CI (l.length:Int) sz).bind ?_
 have:=wr_iter l h
 intro s hs
 have h1:=this s hs
 refine⟨?_,h1.2⟩
 dsimp only
 rw[if_neg Y9,if_pos rfl]
 exact h1.1
theorem formI_len {op:Int} {ls:List LI} (h:formI op=some ls):ls.length≤3:=(formI_ok h).1
theorem formE_len {op:Int} {ls:List LJ} (h:formE op=some ls):ls.length≤5:=(formE_ok h).1
structure InsW (x:InsM):Prop where
 op0:0≤x.op
 op1:x.op≤255
 form:formI x.op≠none
 one:∀ls,formI x.op=some ls→LI.one∈ls→x.args.length=1
theorem wr_ins {x:InsM} (h:InsW x):Wr 13 (codeIns wKd x) x (sgIns x):=by
 refine(wr_small h.op0 h.op1).bind (k':=12) ?_
 cases hf:formI x.op with
 | none=>exact absurd hf h.form
 | some ls=>
   have h2:=wr_runs (step:=ltI wKd) (x:=x) (g:=fun l=>sgLI l x) ls (k:=4) fun l hl=>wr_ltI l fun e=>h.one ls hf (e▸hl)
   have:=formI_len hf
   have h3:=h2.up (k':=12) Y9
   intro s hs
   have h4:=h3 s hs
   simp only[hf,Option.getD_some]
   exact h4
structure EndW (x:EndM):Prop where
 kd0:0≤x.kd
 kd1:x.kd≤255
 form:formE x.kd≠none
 nm:∀ls,formE x.kd=some ls→LJ.raised∈ls→x.nm≠[]∧x.nm.length≤60
 args:x.args.length≤7
 ws:x.ws.length≤7∧∀w∈x.ws,w.1≠[]∧w.1.length≤60
theorem wr_when {w:Bs×Int} (h:w.1≠[]∧w.1.length≤60):Wr 63 (codeWhen wKd w) w (sgWhen w):=by
 have:=(wr_txt h.1).bind (d:=fun r=>(wKd.num w.2 2 r.2).bind fun r2=>.ok ((r.1,r2.1),r2.2)) ((CI w.2 2).map (b:=w) (fun r2=>(w.1,r2.1)) fun s=>rfl)
 exact this.up Y9
theorem wr_ltE {x:EndM} (l:LJ) (h:EndW x) (hr:l=.raised→x.nm≠[]∧x.nm.length≤60):Wr 450 (ltE wKd l x) x (sgLJ l x):=by
 cases l with
 | target=>exact Wr.up (k:=2) ((CI x.to 2).map (b:=x) (fun r=>{x with to:=r.1}) fun s=>rfl) Y9
 | other=>exact Wr.up (k:=2) ((CI x.el 2).map (b:=x) (fun r=>{x with el:=r.1}) fun s=>rfl) Y9
 | first=>exact Wr.up (k:=2) ((CI x.a 2).map (b:=x) (fun r=>{x with a:=r.1}) fun s=>rfl) Y9
 | second=>exact Wr.up (k:=2) ((CI x.b 2).map (b:=x) (fun r=>{x with b:=r.1}) fun s=>rfl) Y9
 | code=>exact Wr.up (k:=1) ((CI x.a 1).map (b:=x) (fun r=>{x with a:=r.1}) fun s=>rfl) Y9
 | raised=>have:=hr rfl;exact Wr.up ((wr_txt this.1).map (b:=x) (fun r=>{x with nm:=r.1}) fun s=>rfl) Y9
 | called=>exact Wr.up (k:=3) ((wr_ref x.nm 1).map (b:=x) (fun r=>{x with nm:=r.1}) fun s=>rfl) Y9
 | asked=>exact Wr.up (k:=3) ((wr_ref x.nm 4).map (b:=x) (fun r=>{x with nm:=r.1}) fun s=>rfl) Y9
 | given=>
   have:=h.args
   exact Wr.up ((wr_lst (k:=2) (sz:=1) (z:=0) (step:=fun n=>wKd.num n 2) (g:=sgN 2) (l:=x.args) fun n _=>CI n 2).map (b:=x) (fun r=>{x with args:=r.1}) fun s=>rfl) Y9
 | handlers=>
   have h1:=h.ws.1
   have:=(wr_lst (sz:=1) (z:=(([],0):Bs×Int)) (fun w hw=>wr_when (h.ws.2 w hw))).bind (d:=fun r=>(wKd.num x.ot 2 r.2).bind fun r2=>.ok ({x with ws:=r.1,ot:=r2.1},r2.2)) ((CI x.ot 2).map (b:=x) (fun r2=>{x with ws:=x.ws,ot:=r2.1}) fun s=>rfl)
   exact this.up Y9
theorem wr_end {x:EndM} (h:EndW x):Wr 2251 (codeEnd wKd x) x (sgEnd x):=by
 refine((wr_small h.kd0 h.kd1).bind (k':=2250) ?_)
 cases hf:formE x.kd with
 | none=>exact absurd hf h.form
 | some ls=>
   have h2:=wr_runs (step:=ltE wKd) (x:=x) (g:=fun l=>sgLJ l x) ls (k:=450) fun l hl=>wr_ltE l h fun e=>h.nm ls hf (e▸hl)
   have:=formE_len hf
   have h3:=h2.up (k':=2250) Y9
   intro s hs
   have h4:=h3 s hs
   simp only[hf,Option.getD_some]
   exact h4
structure BlkW (b:BlkM):Prop where
 ins:b.ins.length≤200∧∀x∈b.ins,InsW x
 en:EndW b.en
theorem wr_blkm:Wr 1 (fun s=>(wKd.blk s).bind fun s=>.ok ((),s)) () [.blk]:=fun s hs=>by
 unfold msr at hs
 refine⟨?_,?_⟩
 · simp only[wKd];rw[if_pos Y9];simp[puts,put1,Out.bind]
 · simp[msr,puts,put1];omega
theorem wr_blk {b:BlkM} (h:BlkW b):Wr 5000 (codeBlk wKd b) b (sgBlk b):=by
 have hk:fixOt b.en=b.en:=by
  unfold fixOt
  rw[if_neg]
  intro e
  refine h.en.form ?_
  rw[e];rfl
 have h1:=h.ins.1
 have hl:=wr_lst (sz:=1) (z:=ins0) (fun x hx=>wr_ins (h.ins.2 x hx))
 have he:=wr_end h.en
 have h2:=(hl.bind (d:=fun r=>(codeEnd wKd (fixOt b.en) r.2).bind fun r2=>.ok (BlkM.mk r.1 r2.1,r2.2)) (by rw[hk];exact he.map (b:=b) (fun r2=>BlkM.mk b.ins r2.1) fun s=>rfl))
 have h3:=(wr_blkm.bind (d:=fun r=>(lst wKd 1 ins0 (codeIns wKd) b.ins r.2).bind fun r=>(codeEnd wKd (fixOt b.en) r.2).bind fun r2=>.ok (BlkM.mk r.1 r2.1,r2.2)) h2).up (k':=5000) Y9
 intro s hs
 have h4:=h3 s hs
 refine⟨?_,h4.2⟩
 rw[show codeBlk wKd b s=_ from rfl]
 have:=h4.1
 dsimp only at this
 rw[Out.bind_assoc] at this
 exact this
structure FlowW (f:FlowM):Prop where
 res:0≤f.res∧f.res≤255
 regs:f.regs.length≤400∧∀r∈f.regs,0≤r∧r≤255
 raises:f.raises.length≤6∧∀t∈f.raises,t≠[]∧t.length≤60
 blks:f.blks.length≤600∧∀b∈f.blks,BlkW b
theorem wr_flow {f:FlowM} (h:FlowW f):codeFlow wKd f ws0=.ok (f,layF f):=by
 obtain⟨h1,⟨h2,h3⟩,⟨h4,h5⟩,h6,h7⟩:=h
 have a1:=CI f.ac 1
 have a2:=wr_small h1.1 h1.2
 have a3:=wr_lst (sz:=2) (z:=0) (step:=small wKd) (g:=sgN 1) (k:=1) (fun r hr=>wr_small (h3 r hr).1 (h3 r hr).2)
 have a4:=wr_lst (sz:=1) (z:=([]:Bs)) (step:=wKd.txt) (g:=sgT) (k:=61) (fun t ht=>(wr_txt (h5 t ht).1).up (by have:=(h5 t ht).2;omega))
 have a5:=wr_lst (sz:=2) (z:=blk0) (fun b hb=>wr_blk (h7 b hb))
 have b5:=a5.map (fun r5=>{f with ac:=f.ac,res:=f.res,regs:=f.regs,raises:=f.raises,blks:=r5.1}) (b:=f) fun s=>rfl
 have b4:=a4.bind (d:=fun r4=>(lst wKd 2 blk0 (codeBlk wKd) f.blks r4.2).bind fun r5=>.ok ({f with ac:=f.ac,res:=f.res,regs:=f.regs,raises:=r4.1,blks:=r5.1},r5.2)) b5
 have b3:=a3.bind (d:=fun r3=>(lst wKd 1 [] wKd.txt f.raises r3.2).bind fun r4=>(lst wKd 2 blk0 (codeBlk wKd) f.blks r4.2).bind fun r5=>.ok ({f with ac:=f.ac,res:=f.res,regs:=r3.1,raises:=r4.1,blks:=r5.1},r5.2)) b4
 have b2:=a2.bind (d:=fun r2=>(lst wKd 2 0 (small wKd) f.regs r2.2).bind fun r3=>(lst wKd 1 [] wKd.txt f.raises r3.2).bind fun r4=>(lst wKd 2 blk0 (codeBlk wKd) f.blks r4.2).bind fun r5=>.ok ({f with ac:=f.ac,res:=r2.1,regs:=r3.1,raises:=r4.1,blks:=r5.1},r5.2)) b3
 have b1:=a1.bind (d:=fun r1=>(small wKd f.res r1.2).bind fun r2=>(lst wKd 2 0 (small wKd) f.regs r2.2).bind fun r3=>(lst wKd 1 [] wKd.txt f.raises r3.2).bind fun r4=>(lst wKd 2 blk0 (codeBlk wKd) f.blks r4.2).bind fun r5=>.ok ({f with ac:=r1.1,res:=r2.1,regs:=r3.1,raises:=r4.1,blks:=r5.1},r5.2)) b2
 exact(b1 ws0 (by simp[msr,ws0,maxB];omega)).1
theorem symOk_w {s:Bs} (h:symOk s=true):s≠[]∧s.length≤60:=by
 simp only[symOk,Bool.and_eq_true,decide_eq_true_eq] at h
 exact⟨by rintro rfl;simp at h,h.1.1.2⟩
theorem raises_w:∀(l:List Bs),raisesOk l=true→∀t∈l,symOk t=true
 | [],_,t,ht=>(List.not_mem_nil ht).elim
 | [a],h,t,ht=>by simp at ht;subst ht;exact h
 | a :: b::r,h,t,ht=>by
   simp only[raisesOk,Bool.and_eq_true] at h
   rcases List.mem_cons.1 ht with rfl|ht
   · exact h.1.1
   · exact raises_w (b::r) h.2 t ht
theorem insW_of {n:Int} {x:InsM} (h:insR n x=true):InsW x:=by
 rw[←insPr_R] at h
 unfold insPr at h
 cases hf:formI x.op with
 | none=>rw[hf] at h;cases h
 | some ls =>
   rw[hf] at h
   have h1:=formI_some hf
   refine⟨?_,?_,by rw[hf];simp,?_⟩
   · simp only[opsL,List.mem_cons,List.not_mem_nil,or_false] at h1;omega
   · simp only[opsL,List.mem_cons,List.not_mem_nil,or_false] at h1;omega
   · intro ls' h2 h3
     rw[hf] at h2;cases h2
     have key : ∀(ls:List LI) (x:InsM),wantsP n ls x=true→LI.one∈ls→ls.Nodup→x.args.length=1:=by
      intro ls
      induction ls with
      | nil=>intro x _ h _;exact(List.not_mem_nil h).elim
      | cons l r ih=>
        intro x h1 h2 h3
        simp only[wantsP] at h1
        split at h1
        · rename_i h4
          rcases List.mem_cons.1 h2 with rfl|h2
          · simp only[wantP,Bool.and_eq_true,decide_eq_true_eq] at h4
            exact h4.1
          · have h5:=ih _ h1 h2 (List.nodup_cons.1 h3).2
            have hne:l≠.one:=fun e=>(List.nodup_cons.1 h3).1 (e▸h2)
            rw[←h5]
            cases l<;>first|rfl|exact absurd rfl hne|(simp only[wantP];split<;>rfl)
        · cases h1
     exact key ls x h h3 (formI_ok hf).2
theorem whens_w {nb:Int}:∀(l:List (Bs×Int)) (seen:List Bs),whensOk nb seen l=true→∀w∈l,symOk w.1=true
 | [],_,_,w,hw=>(List.not_mem_nil hw).elim
 | a :: r,seen,h,w,hw=>by
   simp only[whensOk,Bool.and_eq_true] at h
   rcases List.mem_cons.1 hw with rfl|hw
   · exact h.1.1.1
   · exact whens_w r _ h.2 w hw
theorem endW_of {n nb:Int} {x:EndM} (h:endR n nb x=true):EndW x:=by
 rw[←endPr_R] at h
 have hkd:x.kd=1∨x.kd=2∨x.kd=3∨x.kd=4∨x.kd=5∨x.kd=6∨x.kd=7∨x.kd=8∨x.kd=9:=by
  refine Decidable.byContradiction fun hn=>?_
  simp only[not_or] at hn
  simp[endPr,endLook,hn] at h
 unfold endPr at h
 simp only at h
 split at h
 · cases h
 · rename_i h1
   simp only[Bool.or_eq_true,not_or,Bool.not_eq_true,Bool.and_eq_false_iff,decide_eq_false_iff_not] at h1
   split at h
   · cases h
   · split at h
     · cases h
     · split at h
       · rename_i h4
         simp only[Bool.and_eq_true,decide_eq_true_eq] at h4
         refine⟨by omega,by omega,?_,?_,by omega,h4.1,fun w hw=>symOk_w (whens_w _ _ h4.2 w hw)⟩
         · rcases hkd with e|e|e|e|e|e|e|e|e<;>simp[e,formE]
         · intro ls hf hr
           have e4:x.kd=4:=by
            rcases hkd with e|e|e|e|e|e|e|e|e<;>simp[e,formE] at hf<;>subst hf<;>simp_all
           have:=h1.1.1.1
           simp[endLook,e4] at this
           exact symOk_w this
       · cases h
theorem flowW_of {f:FlowM} (h:sndOk f=true) (hres:0≤f.res):FlowW f:=by
 simp only[sndOk,Bool.and_eq_true,decide_eq_true_eq,List.all_eq_true,Bool.or_eq_true] at h
 obtain⟨⟨⟨⟨⟨⟨⟨⟨⟨⟨h1,h2⟩,h3⟩,h4⟩,h5⟩,h6⟩,h7⟩,h8⟩,h9⟩,h10⟩,h11⟩:=h
 refine⟨⟨hres,by omega⟩,⟨h1,fun r hr=>by have:=h9 r hr;omega⟩,⟨h6,fun t ht=>symOk_w (raises_w _ h10 t ht)⟩,h8,fun b hb=>?_⟩
 have hb:=h11 b hb
 simp only[blkOk,Bool.and_eq_true,decide_eq_true_eq,List.all_eq_true] at hb
 exact⟨⟨hb.1.1,fun x hx=>insW_of (hb.2 x hx)⟩,endW_of hb.1.2⟩
end Go.Sl
