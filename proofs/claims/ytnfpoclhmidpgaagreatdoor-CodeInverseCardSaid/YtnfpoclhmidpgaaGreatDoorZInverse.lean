/- CodeInverse: the call returns true for every input, and leaves its arguments as they were. Condition: none beyond the card's own. -/
import Derived.Test.YtnfpoclhmidpgaaGreatDoorR7
set_option maxRecDepth 100000
set_option maxHeartbeats 8000000
set_option linter.unusedSimpArgs false
set_option linter.unusedVariables false
namespace Go.Sl
open Go Go.RowKit Go.Shelf Go.Proofs
section
variable {S:Nat→Prop} {w0:World} {F:List Ent}
theorem encN_c {x:FlowM} {v:Value} (hK:FlowK S w0 F x v) (hL:FlowL x) (hres:0≤x.res):SLF Tryz.prog S w0 F 13 [v] [] (fun e post=>∃v,e=.returned v∧∃u,v=.tuple #[u,.int .i64 (encS x).2]∧CodeK S w0 post (encS x).1 u):=
 SLF.mono (encode_c hK (fun hs=>flowR_of hs hres) hL) fun e post ⟨u,h1,h2⟩=>⟨_,h1,u,rfl,h2⟩
end
end Go.Sl
namespace Go.Sl
theorem good_of {f:FlowM} (hs:sndOk f=true) (hres:0≤f.res) {N:List Bs} (hN:N.length=(nmsOf (sgFlow f)).length) (h2:∀n∈N,n.length=2) (hl:(out (sgFlow f)).length≤20000) (hp:(pl (sgFlow f) 0).length≤500):GoodF (namesS N f []) (rawOf (setN (sgFlow f) N)):=by
 have e1:=names_nms hN []
 have e2:=names_seg hN []
 have e3:=names_sk N f []
 refine⟨rfl,by rw[e1];exact h2,hres,?_,by rw[e2],?_,by rw[sk_len e3];exact hp⟩
 · rw [names_dm]
   rw[snd_split,Bool.and_eq_true] at hs
   exact hs.1
 · rw[←e2,rlen_out _ (by rw[e1];exact h2),sk_out _ _ e3];exact hl
def zN (k:Nat):List Bs:=List.replicate k [0,0]
theorem zN_len (k:Nat):(zN k).length=k:=by simp[zN]
theorem zN_two (k:Nat):∀n∈zN k,n.length=2:=fun n h=>by rw[List.eq_of_mem_replicate h];rfl
theorem raw_zN (l:List Seg):rawOf (setN l (zN (nmsOf l).length))=out l:=by
 have h:=setN_nms l (zN (nmsOf l).length) (zN_len _)
 rw[raw_out _ (by rw[h];exact fun m hm=>List.eq_of_mem_replicate hm),sk_out _ _ (setN_sk _ _)]
theorem enc_ok2 {f:FlowM} (h:(encS f).2=0):chkOk f=true∧sndOk f=true∧(out (sgFlow f)).length≤20000∧(pl (sgFlow f) 0).length≤500∧encS f=(⟨f.nm,out (sgFlow f),pl (sgFlow f) 0⟩,0):=by
 have h1:=enc_ok.1 h
 have h2:=enc_val h
 rw[layF_eq] at h1 h2
 exact⟨h1.1,(Bool.and_eq_true _ _▸h1.1:symOk f.nm=true∧sndOk f=true).2,h1.2.1,h1.2.2,h2⟩
theorem nms_len (f:FlowM):(nmsOf (sgFlow f)).length=(pl (sgFlow f) 0).length:=by simp[nmsOf]
theorem enc_code {f:FlowM} (h:(encS f).2=0) (hres:0≤f.res) {N:List Bs} (hN:N.length=(nmsOf (sgFlow f)).length) (h2:∀n∈N,n.length=2):codeP (rawOf (setN (sgFlow f) N))=some (namesS N f []):=by
 obtain⟨_,hs,hl,hp,_⟩:=enc_ok2 h
 exact codeP_good.2 (good_of hs hres hN h2 hl hp)
theorem enc_dec {f:FlowM} (h:(encS f).2=0) (hres:0≤f.res):decodeP (encS f).1=some f:=by
 obtain⟨_,hs,hl,hp,he⟩:=enc_ok2 h
 have hc:=enc_code h hres (zN_len _) (zN_two _)
 rw[raw_zN] at hc
 obtain⟨s,hd⟩:=codeP_dec hc
 rw[he]
 unfold decodeP
 simp only[hd]
 have hg:namesS ((pl (sgFlow f) 0).map (·.2.2)) (namesS (zN (nmsOf (sgFlow f)).length) f []) f.nm=f:=by
  have h0:nmsOf (sgFlow (namesS (zN (nmsOf (sgFlow f)).length) f []))=zN (nmsOf (sgFlow f)).length:=names_nms (zN_len _) []
  refine flow_ext rfl (by rw[names_dm,names_dm]) ?_
  rw[names_nms (by rw[h0,zN_len];rfl)]
  rfl
 rw[hg,he]
 simp
theorem enc_decS {f:FlowM} (h:(encS f).2=0) (hres:0≤f.res):decS (encS f).1=(f,0):=by
 unfold decS;rw[enc_dec h hres]
theorem encS_err (f:FlowM):(encS f).2=0∨((encS f).2=1∨(encS f).2=2)∧(encS f).1=code0:=by
 unfold encS
 split
 · split<;>simp
 · simp
theorem plcS_names {f:FlowM} (h:(encS f).2=0) (hres:0≤f.res) {N:List Bs} (hN:N.length=(nmsOf (sgFlow f)).length) (h2:∀n∈N,n.length=2):plcS (rawOf (setN (sgFlow f) N))=((pl (sgFlow f) 0).map noNm,0)∧blkS (rawOf (setN (sgFlow f) N))=(bkp (sgFlow f) 0,0)∧frontS (rawOf (setN (sgFlow f) N))=((f.regs.take f.ac.toNat,f.res),0):=by
 have hc:=enc_code h hres hN h2
 unfold plcS blkS frontS
 simp only[hc]
 refine⟨?_,?_,rfl⟩
 · rw[sk_pl _ _ _ (names_sk _ _ _)]
 · rw[sk_bkp _ _ _ (names_sk _ _ _)]
end Go.Sl
namespace Go.Sl
theorem raw_set:∀(l:List Seg) (N:List Bs) (n m:Nat) (x y:UInt8) (p:Plc),(∀a∈N,a.length=2)→N.length=(nmsOf l).length→(pl l n)[m]?=some p →
 ∃i:Nat,p.1=((n+i:Nat):Int)∧i+2≤(rawOf (setN l N)).length∧((rawOf (setN l N)).set i x).set (i+1) y=rawOf (setN l (N.set m [x,y]))
 | [],N,n,m,x,y,p,_,_,h=>by simp[pl] at h
 | .lit b::r,N,n,m,x,y,p,h2,hN,h=>by
   rw[nms_lit] at hN
   obtain⟨i,h3,h4,h5⟩:=raw_set r N (n+b.length) m x y p h2 hN h
   refine⟨b.length+i,by rw[h3];omega,?_,?_⟩
   · simp only[setN,rawOf,List.flatMap_cons,rawOf1,List.length_append] at h4 ⊢;omega
   · simp only[setN,rawOf,List.flatMap_cons,rawOf1] at h5 ⊢
     rw[List.set_append_right _ _ Y9,List.set_append_right _ _ Y9,show b.length+i - b.length=i by omega,show b.length+i+1 - b.length=i+1 by omega,h5]
 | .blk::r,N,n,m,x,y,p,h2,hN,h=>by
   rw[nms_blk1] at hN
   obtain⟨i,h3,h4,h5⟩:=raw_set r N n m x y p h2 hN h
   exact⟨i,h3,h4,h5⟩
 | .ref q nm::r,[],n,m,x,y,p,h2,hN,h=>by rw[nms_ref] at hN;simp at hN
 | .ref q nm::r,a::N,n,0,x,y,p,h2,hN,h=>by
   have hp:p=((n:Int),q,nm):=by simpa [pl] using h.symm
   obtain⟨c,d,rfl⟩:=len_two (h2 a (.head _))
   refine⟨0,by rw[hp];rfl,?_,?_⟩
   · simp[setN,rawOf,rawOf1]
   · simp[setN,rawOf,rawOf1]
 | .ref q nm::r,a::N,n,m+1,x,y,p,h2,hN,h=>by
   rw[nms_ref] at hN
   obtain⟨c,d,rfl⟩:=len_two (h2 a (.head _))
   obtain⟨i,h3,h4,h5⟩:=raw_set r N (n+2) m x y p (fun z hz=>h2 z (.tail _ hz)) (by simpa using hN) h
   refine⟨2+i,by rw[h3];omega,?_,?_⟩
   · simp only[setN,rawOf,List.flatMap_cons,rawOf1,List.length_append,List.length_cons,List.length_nil] at h4 ⊢;omega
   · simp only[setN,rawOf,List.flatMap_cons,rawOf1,List.set_cons_succ] at h5 ⊢
     rw[List.set_append_right _ _ (by simp only[List.length_cons,List.length_nil];omega),List.set_append_right _ _ (by simp only[List.length_cons,List.length_nil];omega),show 2+i - [c,d].length=i by(simp only[List.length_cons,List.length_nil];omega),show 2+i+1 - [c,d].length=i+1 by(simp only[List.length_cons,List.length_nil];omega),h5]
theorem blk_out (b:BlkM):∃r,rawOf (sgBlk b)=be 1 b.ins.length++r∧1≤(out (sgBlk b)).length:=by
 refine⟨rawOf (b.ins.flatMap sgIns++sgEnd b.en),?_,?_⟩
 · simp[sgBlk,sgL,sgN,rawOf,rawOf1]
 · simp only[sgBlk,sgL,sgN,out,List.flatMap_cons,List.flatMap_append,out1,List.length_append,Cp,List.length_nil,List.nil_append,List.append_nil,List.flatMap_nil,List.cons_append];omega
theorem bkp_blk1 (x:BlkM) (n:Nat):bkp (sgBlk x) n=[(n:Int)]:=by
 have h:=bkp_blk x
 rw[bkp_len _ 0 n] at h
 have e:bkp (sgBlk x) n=(n:Int)::bkp (sgL 1 sgIns x.ins++sgEnd x.en) n:=rfl
 rw[e] at h ⊢
 simp only[List.length_cons,Nat.add_eq_right,List.length_eq_zero_iff] at h
 rw[h]
theorem bkp_get:∀(bs:List BlkM) (n s:Nat),s < bs.length→(bkp (bs.flatMap sgBlk) n)[s]?=some ((n+(out ((bs.take s).flatMap sgBlk)).length:Nat):Int)
 | [],n,s,h=>by simp at h
 | b::bs,n,0,h=>by simp[List.flatMap_cons,CC,bkp_blk1,out]
 | b :: bs,n,s+1,h=>by
   rw[List.flatMap_cons,CC,bkp_blk1]
   simp only[List.singleton_append,List.getElem?_cons_succ,List.take_succ_cons,List.flatMap_cons,out_app,List.length_append]
   rw[bkp_get bs _ s (by simpa using h)]
   rw[Nat.add_assoc]
def hdF (f:FlowM):List Seg:=sgN 1 f.ac++(sgN 1 f.res++(sgL 2 (sgN 1) f.regs++(sgL 1 sgT f.raises++sgN 2 f.blks.length)))
theorem sg_hd (f:FlowM):sgFlow f=hdF f++f.blks.flatMap sgBlk:=by
 unfold sgFlow hdF
 rw[show sgL 2 sgBlk f.blks=sgN 2 f.blks.length++f.blks.flatMap sgBlk from rfl]
 simp only[List.append_assoc]
theorem lits_hd (f:FlowM):Lits (hdF f):=lits_app (BR _ _) (lits_app (BR _ _) (lits_app (lits_L (fun r=>BR 1 r) _) (lits_app (lits_L lits_T _) (BR _ _))))
theorem lits_raw:∀(l:List Seg),Lits l→rawOf l=out l
 | [],_=>rfl
 | a :: l,h=>by
   obtain⟨b,rfl⟩:=h a (.head _)
   rw[out_cons]
   show b++rawOf l=b++out l
   rw[lits_raw l fun s hs=>h s (.tail _ hs)]
theorem bkp_flow_get (f:FlowM) {s:Nat} (h:s < f.blks.length):(bkp (sgFlow f) 0)[s]?=some (((out (hdF f)).length+(out ((f.blks.take s).flatMap sgBlk)).length:Nat):Int):=by
 rw[sg_hd,CC,bkp_lit (lits_hd f),List.nil_append,bkp_get _ _ _ h,Nat.zero_add]
theorem bkp_inc (f:FlowM) {s:Nat} (h:s+1 < f.blks.length):∃q r:Nat,(bkp (sgFlow f) 0)[s]?=some (q:Int)∧(bkp (sgFlow f) 0)[s+1]?=some (r:Int)∧q < r:=by
 refine⟨_,_,bkp_flow_get f Y9,bkp_flow_get f h,?_⟩
 have:f.blks.take (s+1)=f.blks.take s++[f.blks[s]]:=by rw[List.take_succ_eq_append_getElem]
 rw[this,List.flatMap_append,out_app,List.length_append]
 obtain⟨_,_,h1⟩:=blk_out f.blks[s]
 simp only[List.flatMap_cons,List.flatMap_nil,List.append_nil]
 omega
theorem blk_byte {f:FlowM} (h2:∀m∈nmsOf (sgFlow f),m.length=2) {s:Nat} (h:s < f.blks.length):∃q:Nat,(bkp (sgFlow f) 0)[s]?=some (q:Int)∧(rawOf (sgFlow f))[q]?=some (UInt8.ofNat ((f.blks[s].ins.length:Int) % 256).toNat):=by
 refine⟨_,bkp_flow_get f h,?_⟩
 have hd:f.blks=f.blks.take s++(f.blks[s]::f.blks.drop (s+1)):=by rw[←List.drop_eq_getElem_cons h,List.take_append_drop]
 have e:rawOf (sgFlow f)=(rawOf (hdF f)++rawOf ((f.blks.take s).flatMap sgBlk))++(rawOf (sgBlk f.blks[s])++rawOf ((f.blks.drop (s+1)).flatMap sgBlk)):=by
  rw[sg_hd,rawOf_app]
  conv=>lhs;rw[hd]
  simp only[List.flatMap_append,List.flatMap_cons,rawOf_app,List.append_assoc]
 have hn:∀m∈nmsOf ((f.blks.take s).flatMap sgBlk),m.length=2:=by
  intro m hm
  refine h2 m ?_
  rw[nms_flow]
  conv=>rw[hd]
  rw[List.flatMap_append,Bx]
  exact List.mem_append_left _ hm
 have hl:(rawOf (hdF f)++rawOf ((f.blks.take s).flatMap sgBlk)).length=(out (hdF f)).length+(out ((f.blks.take s).flatMap sgBlk)).length:=by
  rw[List.length_append,lits_raw _ (lits_hd f),rlen_out _ hn]
 obtain⟨r,h3,_⟩:=blk_out f.blks[s]
 rw[e,←hl,List.getElem?_append_right (Nat.le_refl _),Nat.sub_self,h3,be1]
 simp
theorem names_ins (N:List Bs) (f:FlowM) (nm:Bs):(namesS N f nm).blks.length=f.blks.length∧∀(s:Nat) (h:s < (namesS N f nm).blks.length) (h':s < f.blks.length),(namesS N f nm).blks[s].ins.length=f.blks[s].ins.length:=by
 have h:=names_dm N f nm
 have h1:(namesS N f nm).blks.map dmB=f.blks.map dmB:=congrArg FlowM.blks h
 have h0:(namesS N f nm).blks.length=f.blks.length:=by simpa using congrArg List.length h1
 refine⟨h0,fun s hs hs'=>?_⟩
 have h2:(((namesS N f nm).blks.map dmB)[s]'(by simpa using hs))=((f.blks.map dmB)[s]'(by simpa using hs')):=by simp only[h1]
 simp only[List.getElem_map] at h2
 have h3:=congrArg (fun b:BlkM=>b.ins.length) h2
 simpa [dmB] using h3
theorem blk_put {f:FlowM} {N:List Bs} (hN:N.length=(nmsOf (sgFlow f)).length) (h2:∀n∈N,n.length=2) {s:Nat} (h:s < f.blks.length):∃q:Nat,(bkp (sgFlow f) 0)[s]?=some (q:Int)∧(rawOf (setN (sgFlow f) N))[q]?=some (UInt8.ofNat ((f.blks[s].ins.length:Int) % 256).toNat):=by
 obtain⟨k1,k2⟩:=names_ins N f []
 obtain⟨q,h3,h4⟩:=blk_byte (f:=namesS N f []) (by rw[names_nms hN];exact h2) (s:=s) Y9
 rw[sk_bkp _ _ _ (names_sk N f [])] at h3
 rw[names_seg hN,k2 s Y9 h] at h4
 exact⟨q,h3,h4⟩
end Go.Sl
namespace Go.Sl
end Go.Sl
namespace Go.Sl
theorem FlowX.flowL {x:FlowM} (h:FlowX x):FlowL x:=⟨h.len,fun b hb=>⟨(h.ins b hb).1,(h.en b hb).len.2.1,(h.en b hb).len.2.2,fun i hi=>((h.ins b hb).2 i hi).len.2⟩⟩
end Go.Sl
namespace Go.Sl
open Go
theorem byv_set (B:Bs) (rst:List Value) (i:Nat) (h:i < B.length) {y:Int} (h0:0≤y) (h1:y≤255):((byv B++rst).toArray).setIfInBounds i (.int .u8 y)=(byv (B.set i (UInt8.ofNat y.toNat))++rst).toArray:=by
 apply Array.ext'
 rw[Array.toList_setIfInBounds,List.set_append_left _ _ (by simpa [byv] using h)]
 congr 1
 unfold byv
 rw[List.map_set,u8n _ Y9,show((y.toNat:Nat):Int)=y by omega]
theorem enc_out {f:FlowM} (h:(encS f).2=0):encS f=(⟨f.nm,out (sgFlow f),pl (sgFlow f) 0⟩,0):=(enc_ok2 h).2.2.2.2
end Go.Sl
namespace Go.Sl
open Go
def refs (h:UInt8) (lo:Nat→UInt8) (cnt m:Nat):List Bs:=(List.range cnt).map fun i=>if i < m then [h,lo i] else [0,0]
theorem refs_len (h:UInt8) (lo:Nat→UInt8) (cnt m:Nat):(refs h lo cnt m).length=cnt:=by simp[refs]
theorem refs_two (h:UInt8) (lo:Nat→UInt8) (cnt m:Nat):∀n∈refs h lo cnt m,n.length=2:=by
 intro n hn
 obtain⟨i,_,rfl⟩:=List.mem_map.1 hn
 split<;>rfl
theorem refs_zero (h:UInt8) (lo:Nat→UInt8) (cnt:Nat):refs h lo cnt 0=zN cnt:=by
 unfold refs zN
 apply List.ext_getElem
 · simp
 · intro i h1 h2;simp
theorem refs_succ (h:UInt8) (lo:Nat→UInt8) {cnt m:Nat} (hm:m < cnt):(refs h lo cnt m).set m [h,lo m]=refs h lo cnt (m+1):=by
 unfold refs
 apply List.ext_getElem
 · simp
 · intro i h1 h2
   simp only[List.length_set,List.length_map,List.length_range] at h1
   rw[List.getElem_set]
   simp only[List.getElem_map,List.getElem_range]
   by_cases him:m=i
   · subst him;simp
   · rw [if_neg him]
     by_cases h3:i < m
     · rw[if_pos h3,if_pos Y9]
     · rw[if_neg h3,if_neg Y9]
theorem raw_len {l:List Seg} {N:List Bs} (hN:N.length=(nmsOf l).length) (h2:∀n∈N,n.length=2):(rawOf (setN l N)).length=(out l).length:=by
 rw[rlen_out _ (by rw[setN_nms _ _ hN];exact h2),sk_out _ _ (setN_sk _ _)]
theorem refs_step {l:List Seg} (h:UInt8) (lo:Nat→UInt8) {m:Nat} {p:Plc} (hp:(pl l 0)[m]?=some p):
 ∃i:Nat,p.1=(i:Int)∧i+2≤(out l).length∧((rawOf (setN l (refs h lo (nmsOf l).length m))).set i h).set (i+1) (lo m)=rawOf (setN l (refs h lo (nmsOf l).length (m+1))):=by
 obtain⟨i,h1,h2,h3⟩:=raw_set l (refs h lo (nmsOf l).length m) 0 m h (lo m) p (refs_two _ _ _ _) (refs_len _ _ _ _) hp
 refine⟨i,by rw[h1];simp,?_,?_⟩
 · rwa [raw_len (refs_len _ _ _ _) (refs_two _ _ _ _)] at h2
 · rw [h3,refs_succ]
   have:=(List.getElem?_eq_some_iff.1 hp).1
   simpa [nmsOf] using this
theorem lenS_ok {f:FlowM} (h:chkOk f=true):lenS f=(((out (sgFlow f)).length:Int),0):=by
 unfold lenS
 rw[if_pos h,layF_eq]
end Go.Sl
namespace Go.Sl
open Go Go.RowKit Go.Shelf Go.Proofs
attribute [local irreducible] Calls
section
variable {S:Nat→Prop} {w0:World} {F:List Ent}
theorem code0_ex {v:Value} (h:CodeK S w0 F code0 v):∃a2 c2 a3 c3,v=.agg #[str [],.slice a2 0 c2,.slice a3 0 c3]:=by
 obtain⟨_,_,rfl,⟨a2,c2,rfl,_⟩,⟨a3,c3,rfl,_⟩⟩:=h
 exact⟨_,_,_,_,rfl⟩
theorem CodeK.ex {x:CodeM} {v:Value} (h:CodeK S w0 F x v):∃a2 c2 a3 c3,v=.agg #[str x.nm,.slice a2 x.bytes.length c2,.slice a3 x.places.length c3]∧SlK S w0 F (byv x.bytes) x.bytes.length (.slice a2 x.bytes.length c2)∧SlK S w0 F (rowV plcC x.places) x.places.length (.slice a3 x.places.length c3):=by
 obtain⟨_,_,rfl,⟨a2,c2,rfl,h1⟩,⟨a3,c3,rfl,h2⟩⟩:=h
 exact⟨_,_,_,_,rfl,⟨a2,c2,rfl,h1⟩,⟨a3,c3,rfl,h2⟩⟩
theorem u8_rng (z:Int):0≤IntKind.u8.wrap z∧IntKind.u8.wrap z≤255:=by rw[wrap_u8];omega
theorem byv_setW (B:Bs) (rst:List Value) (i:Nat) (h:i < B.length) (z:Int):((byv B++rst).toArray).setIfInBounds (0+((i:Nat):Int).toNat*1) (.int .u8 (IntKind.u8.wrap z))=(byv (B.set i (UInt8.ofNat (IntKind.u8.wrap z).toNat))++rst).toArray:=by
 rw[show 0+((i:Nat):Int).toNat*1=i by simp]
 exact byv_set B rst i h (u8_rng z).1 (u8_rng z).2
theorem byv_setW2 (B:Bs) (rst:List Value) (i:Nat) (h:i+1 < B.length) (z:Int):((byv B++rst).toArray).setIfInBounds (0+(((i:Nat):Int)+1).toNat*1) (.int .u8 (IntKind.u8.wrap z))=(byv (B.set (i+1) (UInt8.ofNat (IntKind.u8.wrap z).toNat))++rst).toArray:=byv_setW B rst (i+1) h z
theorem w_eqH {C:Cx} {k:List Item} {D:List Deferred} {E:List (Nat×Value)} {H H':List Ent} (h:H=H') (hw:WF C S w0 k D E H'):WF C S w0 k D E H:=h▸hw
theorem regs_bytes (l:List Int) (h:∀r∈l,0≤r∧r≤255):∃b:Bs,regV l=byv b∧b.length=l.length:=by
 refine⟨l.map fun n=>UInt8.ofNat n.toNat,?_,by simp⟩
 unfold byv regV
 rw[List.map_map]
 apply List.map_congr_left
 intro n hn
 have:=h n hn
 simp only[Function.comp,u8n _ (show n.toNat < 256 by omega)]
 congr 1;omega
theorem codeInverse_c {x:FlowM} {v:Value} {nn:Int} (hK:FlowK S w0 F x v) (hI:FlowI x) (hP:PowF F):Yields S w0 F 10 [v,.int .i64 nn] (.bool true):=by
 refine AE fun w hi=>?_
 simp only[List.nil_append] at hi
 obtain⟨r1,r2,r3,r4,r5,r6,rfl⟩:=hK.ex
 refine Ak Tryz.func10 rfl rfl (hi) ?_
 repeat refine An ?_
 repeat' (first|refine Ag rfl ?_|refine Al ?_|refine Ab 0 ?_;try refine AL (cs:=(flowC x (.slice r1 x.regs.length r2) (.slice r3 x.raises.length r4) (.slice r5 x.blks.length r6))) rfl rfl rfl rfl (fun b2 hb2=>?_);try refine Za rfl (Aa N7 ?_))
 repeat refine An ?_
 refine w_cutH (fun _:Unit=>[(1,.int .i64 nn),(2,pv b2 0),(4,.bool false)]) (fun _=>⟨b2,true,.cells (flowC x (.slice r1 x.regs.length r2) (.slice r3 x.raises.length r4) (.slice r5 x.blks.length r6)) 26 (0,0)⟩::F) (LitF x) ?_ ?_
 rotate_left
 · intro k' rest
   repeat' (first|refine Ag rfl ?_|refine Aj rfl ?_|refine Al ?_|refine An ?_|refine A5 rfl ?_|refine Az rfl ?_|refine AB ?_|refine AM Tryz.func10 rfl (fun w_ hi_=>?_)|refine Ab 1 ?_;try((refine Zv (AJ (cs:=(flowC x (.slice r1 x.regs.length r2) (.slice r3 x.raises.length r4) (.slice r5 x.blks.length r6))) U26 rfl AO rfl (fun j h=>Kn.of Y13 (by rw[Nat.zero_add];exact Array.getElem?_eq_getElem h)) rfl) ?_)<;>try((refine AQ (pre:=[]) (Take.nil _) (CallR.val rfl en11) rfl rfl (little_c (hK.up Y16)) ?_;rintro _ _ ⟨q,rfl,rfl,hq⟩;cases q)<;>try((first|refine Zv (BN rfl) ?_|refine Zv (Ci rfl) ?_)<;>try refine Aa N7 ?_)))|refine Ab 2 ?_;try refine Zv (Aw (CallR.val rfl en12) (wrote_c (hP.up Y16))) ?_;try refine Za rfl (Aa N7 ?_))
   all_goals first
    | exact⟨[],⟨rfl,rfl⟩,hi_.subset Y17⟩
    | exact A1 Y10 (rest (hq rfl) ())
 intro hL _
 have hX:=hL.flowX hI
 have hres:=hI.rng.2.1
 have henc:=fun {F'} (hu:∀e∈F,e∈F')=>encN_c (hK.up hu) hL.flowL hres
 have hee:=encS_err x
 by_cases h0:(encS x).2=0
 rotate_left
 · obtain ⟨he,hc0⟩:=hee.resolve_left h0
   rw[hc0] at henc
   generalize (encS x).2=e at *
   rcases he with rfl|rfl
   · repeat' (first|refine Ag rfl ?_|refine Aj rfl ?_|refine Al ?_|refine An ?_|refine A5 rfl ?_|refine AM Tryz.func10 rfl (fun w_ hi_=>?_)|refine Ab 3 ?_;try((refine Zv (AJ (cs:=(flowC x (.slice r1 x.regs.length r2) (.slice r3 x.raises.length r4) (.slice r5 x.blks.length r6))) U26 rfl AO rfl (fun j h=>Kn.of Y13 (by rw[Nat.zero_add];exact Array.getElem?_eq_getElem h)) rfl) ?_)<;>try((refine AQ (pre:=[]) (Take.nil _) (CallR.val rfl en13) rfl rfl (henc Y19) ?_;rintro _ Y ⟨_,rfl,hk0⟩;obtain⟨a2,c2,a3,c3,rfl⟩:=code0_ex hk0)<;>try refine Zm rfl (Zv (Ae rfl rfl) (Zv (Ae rfl rfl) ?_));try refine A8 inf31 rfl rfl rfl rfl (fun b_ hb_=>?_);try refine AI rfl rfl rfl sz31 Y3 Y15 rfl rfl ?_;try refine Za rfl (Aa N7 ?_)))|refine Ab 4 ?_;try refine Zm rfl (Zv (AN rfl rfl (by first|exact Ax Y9|exact As Y9|exact rfl)) ?_);try refine Aa N7 ?_|refine Ab 5 ?_;try refine Zv (Aw (CallR.val rfl en12) (wrote_c (hP.up Y16))) ?_;try refine Zm rfl (Zm rfl (Zv (Ay rfl rfl Y2) ?_));try refine Zm rfl (Zk (Zk (Zv (Av rfl rfl) (Zv (Av rfl rfl) (Zm rfl (Zf CV rfl (Zv (Ac U22 rfl rfl Y0 Y4) ?_)))))));try refine Zv (Ap rfl U22 rfl) (Zf Cn rfl (Zv (Ac U29 rfl rfl Y0 Y4) ?_));try refine Zv (Ap rfl U29 rfl) (Zv (AD rfl rfl Y9 Y9) ?_);try refine Zv (Ay rfl rfl Y2) ?_;try refine Zv (Av rfl rfl) (Zm rfl (Zf fo31_0 rfl (Zv (Ac U9 rfl rfl Y0 Y4) ?_)));try refine Zv (Ct rfl rfl Y20) ?_;try refine Zv (Av rfl rfl) (Za rfl (Aa N7 ?_)))
     exact⟨[],⟨rfl,rfl⟩,hi_.subset Y17⟩
   · repeat' (first|refine Ag rfl ?_|refine Aj rfl ?_|refine Al ?_|refine An ?_|refine A5 rfl ?_|refine AM Tryz.func10 rfl (fun w_ hi_=>?_)|refine Ab 3 ?_;try((refine Zv (AJ (cs:=(flowC x (.slice r1 x.regs.length r2) (.slice r3 x.raises.length r4) (.slice r5 x.blks.length r6))) U26 rfl AO rfl (fun j h=>Kn.of Y13 (by rw[Nat.zero_add];exact Array.getElem?_eq_getElem h)) rfl) ?_)<;>try((refine AQ (pre:=[]) (Take.nil _) (CallR.val rfl en13) rfl rfl (henc Y19) ?_;rintro _ Y ⟨_,rfl,hk0⟩;obtain⟨a2,c2,a3,c3,rfl⟩:=code0_ex hk0)<;>try refine Zm rfl (Zv (Ae rfl rfl) (Zv (Ae rfl rfl) ?_));try refine A8 inf31 rfl rfl rfl rfl (fun b_ hb_=>?_);try refine AI rfl rfl rfl sz31 Y3 Y15 rfl rfl ?_;try refine Za rfl (Aa N7 ?_)))|refine Ab 4 ?_;try refine Zm rfl (Zv (AN rfl rfl (by first|exact Ax Y9|exact As Y9|exact rfl)) ?_);try refine Aa N7 ?_|refine Ab 5 ?_;try refine Zv (Aw (CallR.val rfl en12) (wrote_c (hP.up Y16))) ?_;try refine Zm rfl (Zm rfl (Zv (Ay rfl rfl Y2) ?_));try refine Zm rfl (Zm rfl (Zv (Ay rfl rfl Y2) ?_));try refine Zv (A0 rfl rfl) (Zv (Av rfl rfl) (Zm rfl (Zf CV rfl (Zv (Ac U22 rfl rfl Y0 Y4) ?_))));try refine Zv (Ap rfl U22 rfl) (Zf Cn rfl (Zv (Ac U29 rfl rfl Y0 Y4) ?_));try refine Zv (Ap rfl U29 rfl) (Zv (AD rfl rfl Y9 Y9) ?_);try refine Zv (Ay rfl rfl Y2) ?_;try refine Zv (Av rfl rfl) (Zm rfl (Zf fo31_0 rfl (Zv (Ac U9 rfl rfl Y0 Y4) ?_)));try refine Zv (Ct rfl rfl Y20) ?_;try refine Zv (Av rfl rfl) (Za rfl (Aa N7 ?_)))
     exact⟨[],⟨rfl,rfl⟩,hi_.subset Y17⟩
 have hen:=enc_out h0
 obtain⟨hck,hsn,hbl,hpl,_⟩:=enc_ok2 h0
 have hdec:=enc_decS h0 hres
 have hlen:=lenS_ok hck
 have hKl:=bkp_flow x
 have hpn:=fun {N} hN h2=>plcS_names h0 hres (N:=N) hN h2
 have hp0:=plcS_names h0 hres (zN_len _) (zN_two _)
 rw[raw_zN] at hp0
 have hle:=length_c hK (fun hs=>flowR_of hs hres) hL.flowL
 rw[hen] at hdec
 have hnl:=nms_len x
 rw[hen] at henc
 clear hee
 obtain⟨B,hB⟩:∃B,B=out (sgFlow x):=⟨_,rfl⟩
 obtain⟨P,hPl⟩:∃P,P=pl (sgFlow x) 0:=⟨_,rfl⟩
 obtain⟨K,hKK⟩:∃K,K=bkp (sgFlow x) 0:=⟨_,rfl⟩
 rw[hlen] at hle
 rw[←hB,←hPl] at henc hdec
 rw[←hB] at hbl hle hp0
 rw[←hPl] at hpl hp0 hnl
 rw[←hKK] at hKl hp0
 obtain⟨hpS,hbS,hfS⟩:=hp0
 simp only at henc
 repeat refine An ?_
 repeat' (first|refine Ag rfl ?_|refine Aj rfl ?_|refine Al ?_|refine Ab 3 ?_;try((refine Zv (AJ (cs:=(flowC x (.slice r1 x.regs.length r2) (.slice r3 x.raises.length r4) (.slice r5 x.blks.length r6))) U26 rfl AO rfl (fun j h=>Kn.of Y13 (by rw[Nat.zero_add];exact Array.getElem?_eq_getElem h)) rfl) ?_)<;>try((refine AQ (pre:=[]) (Take.nil _) (CallR.val rfl en13) rfl rfl (henc Y19) ?_;rintro _ Y ⟨_,rfl,hk1⟩;obtain⟨a2,c2,a3,c3,rfl,hkB,hkP⟩:=hk1.ex;dsimp only at hkB hkP ⊢)<;>try refine Zm rfl (Zv (Ae rfl rfl) (Zv (Ae rfl rfl) ?_));try refine A8 inf31 rfl rfl rfl rfl (fun b_ hb_=>?_);try refine AI rfl rfl rfl sz31 Y3 Y15 rfl rfl ?_;try refine Za rfl (Aa N7 ?_))))
 revert b_
 intro b5 hb5
 refine A1 (E':=[(1,.int .i64 nn),(2,pv b2 0),(4,.bool false),(5,pv b5 0),(6,.int .i64 0)]) Y14 ?_
 refine w_abs fun G hG hsG=>?_
 have m5:(⟨b5,true,.cells #[str x.nm,.slice a2 B.length c2,.slice a3 P.length c3] 31 (0,0)⟩:Ent)∈G:=hG _ (.head _)
 have m2:(⟨b2,true,.cells (flowC x (.slice r1 x.regs.length r2) (.slice r3 x.raises.length r4) (.slice r5 x.blks.length r6)) 26 (0,0)⟩:Ent)∈G:=hG _ (.tail _ (List.mem_append_right _ (.head _)))
 have hFG:∀e∈F,e∈G:=fun e h=>hG e (.tail _ (List.mem_append_right _ (.tail _ h)))
 have sB:SlK S w0 G (byv B) B.length (.slice a2 B.length c2):=hkB.up fun e h=>hG e (.tail _ (List.mem_append_left _ h))
 have sP:SlK S w0 G (rowV plcC P) P.length (.slice a3 P.length c3):=hkP.up fun e h=>hG e (.tail _ (List.mem_append_left _ h))
 have hs:F.Sublist G:=List.Sublist.trans Y17 hsG
 have hPG:=hP.up hFG
 have hKG:=hK.up hFG
 have hleG:=fun {F'} (hu:∀e∈G,e∈F')=>length_c (hKG.up hu) (fun hs=>flowR_of hs hres) hL.flowL
 rw[hlen,←hB] at hleG
 have hcK:CodeK S w0 G ⟨x.nm,B,P⟩ (.agg #[str x.nm,.slice a2 B.length c2,.slice a3 P.length c3]):=⟨_,_,rfl,sB,sP⟩
 clear hG hsG hkB hkP henc hle hk1 hK hP
 have hdc:=fun {F'} (hu:∀e∈G,e∈F')=>decode_c (hcK.up hu) (by show B.length≤_;omega) (by show P.length≤_;omega)
 rw[hdec] at hdc
 have hpc:=fun {F'} (hu:∀e∈G,e∈F')=>places_c (sB.up hu) Y9
 rw[hpS] at hpc
 have hbc:=fun {F'} (hu:∀e∈G,e∈F')=>blocks_c (sB.up hu) Y9
 rw[hbS] at hbc
 have hfc:=fun {F'} (hu:∀e∈G,e∈F')=>front_c (sB.up hu) Y9 (hPG.up hu)
 rw[hfS] at hfc
 dsimp only at hdc hpc hbc hfc
 repeat refine An ?_
 repeat' (first|refine Ag rfl ?_|refine Aj rfl ?_|refine Al ?_|refine An ?_|refine Az rfl ?_|refine AB ?_|refine Ab 4 ?_;try refine Zm rfl (Zv (AN rfl rfl (by first|exact Ax Y9|exact As Y9|exact rfl)) ?_);try refine Aa N7 ?_)
 repeat' (first|refine Ag rfl ?_|refine Aj rfl ?_|refine Al ?_|refine Ab 6 ?_;try((refine Zv (AJ (cs:= #[str x.nm,.slice a2 B.length c2,.slice a3 P.length c3]) U31 rfl inf31 rfl (fun j h=>Kn.of (by repeat(first|exact m5|refine .tail _ ?_|refine List.mem_append_right _ ?_)) (by rw[Nat.zero_add];exact Array.getElem?_eq_getElem h)) rfl) ?_)<;>try((refine AQ (pre:=[]) (Take.nil _) (CallR.val rfl en21) rfl rfl (hdc Y19) ?_;rintro _ X6 ⟨_,rfl,hf6⟩;obtain⟨f1,f2,f3,f4,f5,f6,rfl⟩:=hf6.ex)<;>try refine Zm rfl (Zv (Ae rfl rfl) (Zv (Ae rfl rfl) ?_));try refine A8 AO rfl rfl rfl rfl (fun b_ hb_=>?_);try refine AI rfl rfl (BF _ _ _ _ _ _ _ _ _ _) Cj Y3 (by rfl) rfl rfl ?_;try refine Za rfl (Aa N7 ?_))))
 revert b_
 intro b7 hb7
 repeat refine An ?_
 repeat' (first|refine Ag rfl ?_|refine Aj rfl ?_|refine Al ?_|refine An ?_|refine Ab 7 ?_;try((refine Zv (AJ (cs:=(flowC x (.slice r1 x.regs.length r2) (.slice r3 x.raises.length r4) (.slice r5 x.blks.length r6))) U26 rfl AO rfl (fun j h=>Kn.of (by repeat(first|exact m2|refine .tail _ ?_|refine List.mem_append_right _ ?_)) (by rw[Nat.zero_add];exact Array.getElem?_eq_getElem h)) rfl) ?_)<;>try refine Zv (Aw (CallR.val rfl en15) (hleG Y19)) ?_;try refine Zm rfl (Zv (Ae rfl rfl) (Zv (Ae rfl rfl) (Za rfl (Za rfl (Aa N7 ?_))))))|refine Ab 8 ?_;try refine Zf CV rfl ?_;try((refine Zv (Ac U22 rfl rfl (by repeat(first|exact m5|refine .tail _ ?_|refine List.mem_append_right _ ?_)) rfl) ?_)<;>try((refine AQ (pre:=[]) (Take.nil _) (CallR.val rfl en28) rfl rfl (hpc Y19) ?_;rintro _ X8 ⟨_,rfl,⟨ap,cp,rfl,hcp,hkp⟩⟩;simp only[List.length_map] at hcp hkp ⊢)<;>try refine Zm rfl (Zv (Ae rfl rfl) (Zv (Ae rfl rfl) (Za rfl (Za rfl (Aa N7 ?_)))))))|refine Ab 9 ?_;try refine Zf CV rfl ?_;try((refine Zv (Ac U22 rfl rfl (by repeat(first|exact m5|refine .tail _ ?_|refine List.mem_append_right _ ?_)) rfl) ?_)<;>try((refine AQ (pre:=[]) (Take.nil _) (CallR.val rfl en30) rfl rfl (hbc Y19) ?_;rintro _ X9 ⟨_,rfl,⟨ak,ck,rfl,hck2,hkk⟩⟩)<;>try refine Zm rfl (Zv (Ae rfl rfl) (Zv (Ae rfl rfl) (Za rfl (Za rfl (Aa N7 ?_)))))))|refine Ab 10 ?_;try refine Zf CV rfl ?_;try((refine Zv (Ac U22 rfl rfl (by repeat(first|exact m5|refine .tail _ ?_|refine List.mem_append_right _ ?_)) rfl) ?_)<;>try((refine AQ (pre:=[]) (Take.nil _) (CallR.val rfl en27) rfl rfl (hfc Y19) ?_;rintro _ X10 ⟨_,rfl,⟨af,cf,rfl,hcf,hkf⟩⟩)<;>try refine Zm rfl (Zv (Ae rfl rfl) (Zv (Ae rfl rfl) ?_));try refine A8 inf53 rfl rfl rfl rfl (fun b_ hb_=>?_);try refine AI rfl rfl rfl sz53 Y3 Y15 rfl rfl ?_;try refine Za rfl (Aa N7 ?_))))
 revert b_
 intro b15 hb15
 refine A1 (E':=[(1,.int .i64 nn),(2,pv b2 0),(4,.bool false),(5,pv b5 0),(7,pv b7 0),(8,.int .i64 0),(9,.int .i64 (B.length:Int)),(10,.int .i64 0),(11,.slice ap P.length cp),(12,.int .i64 0),(13,.slice ak K.length ck),(14,.int .i64 0),(15,pv b15 0),(16,.int .i64 0)]) Y14 ?_
 refine w_abs fun G1 hG hsG=>?_
 have m15:(⟨b15,true,.cells #[.slice af (x.regs.take x.ac.toNat).length cf,.int .u8 x.res] 53 (0,0)⟩:Ent)∈G1:=hG _ (.head _)
 have hX10:∀e∈X10,e∈G1:=fun e h=>hG e (.tail _ (List.mem_append_left _ h))
 have hX9:∀e∈X9,e∈G1:=fun e h=>hG e (.tail _ (List.mem_append_right _ (List.mem_append_left _ h)))
 have hX8:∀e∈X8,e∈G1:=fun e h=>hG e (.tail _ (List.mem_append_right _ (List.mem_append_right _ (List.mem_append_left _ h))))
 have hX7:∀e∈((⟨b7,true,.cells (flowC x (.slice f1 x.regs.length f2) (.slice f3 x.raises.length f4) (.slice f5 x.blks.length f6)) 26 (0,0)⟩:Ent)::(X6++G)),e∈G1:=fun e h=>hG e (.tail _ (List.mem_append_right _ (List.mem_append_right _ (List.mem_append_right _ h))))
 have hGG:∀e∈G,e∈G1:=fun e h=>hX7 e (.tail _ (List.mem_append_right _ h))
 have m7:=hX7 _ (.head _)
 have hF7:=hf6.up fun e h=>hX7 e (.tail _ (List.mem_append_left _ h))
 have sPn:SlK S w0 G1 (rowV plcC (P.map noNm)) P.length (.slice ap P.length cp):=SlK.up ⟨ap,cp,rfl,hcp,hkp⟩ hX8
 have sK:SlK S w0 G1 (intsV K) K.length (.slice ak K.length ck):=SlK.up ⟨ak,ck,rfl,hck2,hkk⟩ hX9
 have sF:SlK S w0 G1 (regV (x.regs.take x.ac.toNat)) (x.regs.take x.ac.toNat).length (.slice af (x.regs.take x.ac.toNat).length cf):=SlK.up ⟨af,cf,rfl,hcf,hkf⟩ hX10
 replace m5:=hGG _ m5
 replace m2:=hGG _ m2
 replace sB:=sB.up hGG
 replace sP:=sP.up hGG
 replace hs:F.Sublist G1:=List.Sublist.trans Y17 hsG
 replace hPG:=hPG.up hGG
 replace hKG:=hKG.up hGG
 clear hX7 hX8 hX9 hX10 hGG hkp hkk hkf hf6 hG hsG hdc hpc hbc hfc hleG hcK hFG hlen hdec
 clear G
 have hsm:Yields S w0 G1 23 [.agg (flowC x (.slice f1 x.regs.length f2) (.slice f3 x.raises.length f4) (.slice f5 x.blks.length f6)),.agg (flowC x (.slice r1 x.regs.length r2) (.slice r3 x.raises.length r4) (.slice r5 x.blks.length r6))] (.bool true):=by
  have:=same_c hF7 hX hKG hX
  rwa [decide_eq_true rfl] at this
 repeat' (first|refine Ag rfl ?_|refine Aj rfl ?_|refine Al ?_|refine An ?_|refine Az rfl ?_|refine AB ?_|refine Ab 11 ?_;try refine Zm rfl (Zv (AN rfl rfl (by first|exact Ax Y9|exact As Y9|exact rfl)) ?_);try refine Zm rfl (Zm rfl (Zv (AN rfl rfl (by first|exact Ax Y9|exact As Y9|exact rfl)) ?_));try refine Zv (A0 rfl rfl) (Zm rfl (Zm rfl (Zv (AN rfl rfl (by first|exact Ax Y9|exact As Y9|exact rfl)) ?_)));try refine Zv (A0 rfl rfl) (Zm rfl (Zm rfl (Zv (AN rfl rfl (by first|exact Ax Y9|exact As Y9|exact rfl)) ?_)));try refine Zv (A0 rfl rfl) (Zm rfl (Zm rfl (Zv (AN rfl rfl (by first|exact Ax Y9|exact As Y9|exact rfl)) ?_)));try refine Zv (A0 rfl rfl) (Zm rfl (Zm rfl (Zf CV rfl ?_)));try((refine Zv (Ac U22 rfl rfl (by repeat(first|exact m5|refine .tail _ ?_|refine List.mem_append_right _ ?_)) rfl) ?_)<;>try refine Zv (Ap rfl U22 rfl) (Zv (AN rfl rfl (by first|exact Ax Y9|exact As Y9|exact rfl)) ?_);try refine Zv (A0 rfl rfl) (Zm rfl ?_);try((refine Zv (AJ (cs:=flowC x (.slice f1 x.regs.length f2) (.slice f3 x.raises.length f4) (.slice f5 x.blks.length f6)) U26 rfl AO rfl (fun j h=>Kn.of m7 (by rw[Nat.zero_add];exact Array.getElem?_eq_getElem h)) rfl) ?_)<;>try((refine Zv (AJ (cs:=(flowC x (.slice r1 x.regs.length r2) (.slice r3 x.raises.length r4) (.slice r5 x.blks.length r6))) U26 rfl AO rfl (fun j h=>Kn.of m2 (by rw[Nat.zero_add];exact Array.getElem?_eq_getElem h)) rfl) ?_)<;>try refine Zv (Aw (CallR.val rfl en23) hsm) (Zv (BN rfl) (Zv (A0 rfl rfl) (Zm rfl (Zm rfl (Zv (Ap rfl U29 rfl) (Zf Cn rfl ?_))))));try((refine Zv (Ac U29 rfl rfl (by repeat(first|exact m5|refine .tail _ ?_|refine List.mem_append_right _ ?_)) rfl) ?_)<;>try refine Zv (Ap rfl U29 rfl) (Zv (AN rfl rfl (by first|exact Ax Y9|exact As Y9|exact rfl)) ?_);try refine Zv (A0 rfl rfl) (Zm rfl (Zm rfl (Zv (Ap rfl U59 rfl) (Zf Bz rfl (Zv (Ac U24 rfl rfl Y0 Y4) ?_)))));try refine Zv (Ap rfl U24 rfl) (Zv (AN rfl rfl (by first|exact Ax Y9|exact As Y9|exact rfl)) ?_);try refine Zv (A0 rfl rfl) (Aa N7 ?_))))))
 clear hsm hF7 m7
 have hac:0≤x.ac∧x.ac≤x.regs.length:=by
  have:=hsn
  simp only[sndOk,Bool.and_eq_true,decide_eq_true_eq] at this
  omega
 obtain⟨Rb,hRb,hRl⟩:=regs_bytes (x.regs.take x.ac.toNat) (fun r hr=>hI.regs r (List.mem_of_mem_take hr))
 have hRc:x.ac=(Rb.length:Int):=by rw[hRl,List.length_take];omega
 rw[←hRl] at m15 sF
 rw[hRb] at sF
 obtain ⟨hr2,sR⟩:x.regs.length≤r2∧SlK S w0 G1 (byv Rb) Rb.length (.slice r1 Rb.length r2):=by
  obtain⟨_,_,_,e,h1,_⟩:=id hKG
  cases e
  obtain⟨_,_,e,h2,_⟩:=id h1
  cases e
  refine⟨h2,?_⟩
  have h3:=h1.cut (k:=Rb.length) (m:=x.ac.toNat) Y9 (by simp[regV];omega)
  have h4:(regV x.regs).take x.ac.toNat=byv Rb:=by rw[←hRb];unfold regV;rw[List.map_take]
  rwa [h4] at h3
 repeat' (first|refine Ag rfl ?_|refine Aj rfl ?_|refine Al ?_|refine An ?_|refine Az rfl ?_|refine AB ?_|refine BL 13 rfl mixed Y1 ?_;try refine A3 (Ad fo53_0 rfl) rfl rfl (A3 (Ac U22 rfl rfl Y0 Y4) rfl rfl ?_);try refine A3 (B4 U22 U9 U5 rfl sF) rfl rfl (A3 (Ad BZ rfl) rfl rfl (A3 (Ac U22 rfl rfl Y0 Y4) rfl rfl ?_));try refine A3 (Ad fo26_1 rfl) rfl rfl (A3 (Ac U3 rfl rfl Y0 Y4) rfl rfl ?_);try refine A3 (Dc (n:=Rb.length) U22 sz5 rfl rfl hRc Y9) rfl rfl ?_;try refine A3 (B4 U22 U9 U5 rfl sR) rfl rfl (A3 (ov_neqS3 rfl rfl Y24) rfl rfl ?_);try refine A3 (Ai rfl) rfl rfl (A3 (Ad fo53_1 rfl) rfl rfl (A3 (Ac U5 rfl rfl Y0 Y4) rfl rfl ?_));try refine A3 (Ad fo26_2 rfl) rfl rfl (A3 (Ac U5 rfl rfl Y0 Y4) rfl rfl ?_);try refine A3 (AN rfl rfl (by first|exact Ax Y9|exact As Y9|exact rfl)) rfl rfl ?_;try refine A3 (A0 rfl rfl) rfl rfl (BJ N7 ?_))
 repeat refine An ?_
 repeat' (first|refine Ag rfl ?_|refine Aj rfl ?_|refine Al ?_|refine Ab 15 ?_;try((refine B9 U22 inf5 rfl rfl (fun bb_ hb_=>?_))<;>try refine Zf CV rfl ?_;try((refine Zv (Ac U22 rfl rfl (by repeat(first|exact m5|refine .tail _ ?_|refine List.mem_append_right _ ?_)) rfl) ?_)<;>try((refine wo_appendX (sz:=1) (xs:=[]) (rst:=[]) (new:=byv B) rfl rfl (sB.up Y16) U22 U22 rfl inf5 rfl Y22 rfl rfl rfl rfl (.head _) (by simp[byv]) (by simp[byv,okCell]) (Nat.le_refl _) (by show(2*(_+_)+192)*1≤_;omega) Y9 rfl rfl (fun b17 c17 q17 hl17 hc17=>?_))<;>try refine Za rfl (Aa N7 ?_)))))
 simp only[List.nil_append,Nat.zero_add] at hl17 hc17 ⊢
 repeat refine An ?_
 refine A1 (E':=[(1,.int .i64 nn),(2,pv b2 0),(4,.bool false),(5,pv b5 0),(11,.slice ap P.length cp),(13,.slice ak K.length ck),(15,pv b15 0),(17,.slice (some ⟨b17,0,none⟩) B.length c17)]) Y14 ?_
 repeat' (first|refine Ag rfl ?_|refine Al ?_|refine Ab 16 ?_;try refine Za rfl (Aa N7 ?_))
 refine A6 ?_
 obtain⟨h8,hh8⟩:∃h8,h8=UInt8.ofNat (IntKind.u8.wrap (nn.fdiv (2 ^ min (Int.toNat 8) IntKind.i64.bits))).toNat:=⟨_,rfl⟩
 obtain⟨lo,hlo⟩:∃lo:Nat→UInt8,lo=fun m:Nat=>UInt8.ofNat (IntKind.u8.wrap (IntKind.i64.wrap (nn+(m:Int)))).toNat:=⟨_,rfl⟩
 obtain⟨R,hR⟩:∃R:Nat→Bs,R=fun m=>rawOf (setN (sgFlow x) (refs h8 lo P.length m)):=⟨_,rfl⟩
 have hR0:R 0=B:=by rw[hR];dsimp only;rw[refs_zero,←hnl,raw_zN,←hB]
 have hRl2:∀m,(R m).length=B.length:=fun m=>by rw[hR];dsimp only;rw[raw_len (by rw[refs_len,hnl]) (refs_two _ _ _ _),←hB]
 refine w_eqH (H':=(⟨b17,true,.cells (byv (R 0)++q17).toArray 5 (0,0)⟩:Ent)::G1) (by rw[hR0]) ?_
 refine w_cutH (fun k:Nat=>[(1,.int .i64 nn),(2,pv b2 0),(4,.bool false),(5,pv b5 0),(11,.slice ap P.length cp),(13,.slice ak K.length ck),(15,pv b15 0),(17,.slice (some ⟨b17,0,none⟩) B.length c17),(18,.int .i64 (k:Int))]) (fun _=>(fun m:Nat=>(⟨b17,true,.cells (byv (R m)++q17).toArray 5 (0,0)⟩:Ent)::G1) P.length) True ?_ ?_
 rotate_left
 · intro k' rest
   refine A1 (E':=(fun m:Nat=>[(1,.int .i64 nn),(2,pv b2 0),(4,.bool false),(5,pv b5 0),(11,.slice ap P.length cp),(13,.slice ak K.length ck),(15,pv b15 0),(17,.slice (some ⟨b17,0,none⟩) B.length c17),(18,.int .i64 (m:Int))]) 0) Y14 ?_
   refine Bb (fun m:Nat=>m≤P.length) (fun m=>P.length - m) (fun m:Nat=>[(1,.int .i64 nn),(2,pv b2 0),(4,.bool false),(5,pv b5 0),(11,.slice ap P.length cp),(13,.slice ak K.length ck),(15,pv b15 0),(17,.slice (some ⟨b17,0,none⟩) B.length c17),(18,.int .i64 (m:Int))]) (fun m:Nat=>(⟨b17,true,.cells (byv (R m)++q17).toArray 5 (0,0)⟩:Ent)::G1) ?_ 0 (Nat.zero_le _)
   rintro m k1 ih
   try dsimp only at k1 ih ⊢
   by_cases hlt:m < P.length
   · obtain ⟨i,hPi,hil,hst⟩:=refs_step (l:=sgFlow x) h8 lo (m:=m) (p:=P[m]) (by rw[←hPl];exact List.getElem?_eq_getElem hlt)
     rw[hnl] at hst
     rw[←hB] at hil
     replace hst:((R m).set i h8).set (i+1) (lo m)=R (m+1):=by rw[hR];exact hst
     obtain ⟨pa,po,rfl,hkn1⟩:∃pa po,ap=some ⟨pa,po,none⟩∧∀j (h:j < (rowV plcC (P.map noNm)).length),Kn S w0 G1 pa (po+j) (rowV plcC (P.map noNm))[j]:=by
      obtain⟨_,_,e,_,h⟩:=id sPn
      cases e
      obtain⟨b,o,h1,h2⟩:=h.resolve_left (fun e=>by have:=Ba plcC Cs (P.map noNm);rw[e] at this;simp at this;omega)
      exact⟨b,o,h1,h2⟩
     obtain ⟨p3,o3,rfl,hkn2⟩:∃pa po,a3=some ⟨pa,po,none⟩∧∀j (h:j < (rowV plcC P).length),Kn S w0 G1 pa (po+j) (rowV plcC P)[j]:=by
      obtain⟨_,_,e,_,h⟩:=id sP
      cases e
      obtain⟨b,o,h1,h2⟩:=h.resolve_left (fun e=>by have:=Ba plcC Cs P;rw[e] at this;simp at this;omega)
      exact⟨b,o,h1,h2⟩
     have hlm:m < (P.map noNm).length:=by simpa using hlt
     have cA0:Kn S w0 G1 pa (po+((m:Nat):Int).toNat*3+0) (.int .i64 (i:Int)):=kn_row Cs hkn1 hlm Y22 (by simp[noNm,plcC,hPi])
     have cA1:Kn S w0 G1 pa (po+((m:Nat):Int).toNat*3+1) (.int .u8 P[m].2.1):=kn_row Cs hkn1 hlm Y22 (by simp[noNm,plcC])
     have cA2:Kn S w0 G1 pa (po+((m:Nat):Int).toNat*3+2) (str []):=kn_row Cs hkn1 hlm Y22 (by simp[noNm,plcC])
     have cB0:Kn S w0 G1 p3 (o3+((m:Nat):Int).toNat*3+0) (.int .i64 (i:Int)):=kn_row Cs hkn2 hlt Y22 (by simp[plcC,hPi])
     have cB1:Kn S w0 G1 p3 (o3+((m:Nat):Int).toNat*3+1) (.int .u8 P[m].2.1):=kn_row Cs hkn2 hlt Y22 (by simp[plcC])
     have hRm:=hRl2 m
     have hsz1:0+((i:Nat):Int).toNat*1 < ((byv (R m)++q17).toArray).size:=by simp[byv];omega
     repeat' (first|refine Ag rfl ?_|refine Aj rfl ?_|refine Al ?_|refine An ?_|refine A5 rfl ?_|refine Az rfl ?_|refine A6 ?_|refine AB ?_|refine Ab 17 ?_;try refine Zm rfl (Zm rfl (Zv (Ap rfl U29 rfl) (Zv (A7 rfl rfl Y2) ?_)));try refine Aa N7 ?_|refine BL 19 rfl mixed Y1 ?_;try refine A3 (Ai rfl) rfl rfl (A3 (Ai rfl) rfl rfl (A3 (Am U29 sz49 rfl rfl Y9 Y9) rfl rfl ?_));try refine A3 (Ad fo49_0 rfl) rfl rfl (A3 (A2 U3 rfl rfl cA0.cons) rfl rfl (A3 (Ad Cn rfl) rfl rfl ?_));try((refine A3 (Ac U29 rfl rfl (by repeat(first|exact m5|refine .tail _ ?_|refine List.mem_append_right _ ?_)) rfl) rfl rfl ?_)<;>try refine A3 (Ai rfl) rfl rfl (A3 (Am U29 sz49 rfl rfl Y9 Y9) rfl rfl ?_);try refine A3 (Ad fo49_0 rfl) rfl rfl (A3 (A2 U3 rfl rfl cB0.cons) rfl rfl (A3 (AN rfl rfl (by first|exact Ax Y9|exact As Y9|exact rfl)) rfl rfl ?_));try refine A3 (Ai rfl) rfl rfl (A3 (Ai rfl) rfl rfl (A3 (Ai rfl) rfl rfl (A3 (Am U29 sz49 rfl rfl Y9 Y9) rfl rfl ?_)));try refine A3 (Ad fo49_1 rfl) rfl rfl (A3 (A2 U5 rfl rfl cA1.cons) rfl rfl (A3 (Ad Cn rfl) rfl rfl ?_));try((refine A3 (Ac U29 rfl rfl (by repeat(first|exact m5|refine .tail _ ?_|refine List.mem_append_right _ ?_)) rfl) rfl rfl ?_)<;>try refine A3 (Ai rfl) rfl rfl (A3 (Am U29 sz49 rfl rfl Y9 Y9) rfl rfl ?_);try refine A3 (Ad fo49_1 rfl) rfl rfl (A3 (A2 U5 rfl rfl cB1.cons) rfl rfl (A3 (AN rfl rfl (by first|exact Ax Y9|exact As Y9|exact rfl)) rfl rfl ?_));try refine A3 (A0 rfl rfl) rfl rfl (A3 (Ai rfl) rfl rfl (A3 (Ai rfl) rfl rfl (A3 (Ai rfl) rfl rfl (A3 (Am U29 sz49 rfl rfl Y9 Y9) rfl rfl ?_))));try refine A3 (Ad fo49_2 rfl) rfl rfl (A3 (A2 U9 rfl rfl cA2.cons) rfl rfl (A3 (ov_neqS3 rfl rfl Y24) rfl rfl ?_));try refine A3 (A0 rfl rfl) rfl rfl (BJ N7 ?_))))
     repeat refine An ?_
     repeat' (first|refine Ag rfl ?_|refine Aj rfl ?_|refine Al ?_|refine Ab 21 ?_;try refine Zm rfl (Zm rfl (Zm rfl (Zv (Am U29 sz49 rfl rfl Y9 Y9) ?_)));try refine Zf fo49_0 rfl (Zv (A2 U3 rfl rfl cA0.cons) (Zm rfl (Zv (ov_shr rfl rfl Y9 rfl) ?_)));try refine Zv (CE U3 U5 rfl rfl) (Zv (Am U22 sz5 rfl rfl Y9 Y9) ?_);try refine AK (c:=(byv (R m)++q17).toArray) rfl rfl rfl sz5 (.head _) hsz1 (.inr (Nat.zero_le _)) rfl rfl ?_;try refine Aa N7 ?_)
     rw[byv_setW _ _ _ Y9,←hh8]
     repeat refine An ?_
     have hsz2:0+(((i:Nat):Int)+1).toNat*1 < ((byv ((R m).set i h8)++q17).toArray).size:=by simp[byv];omega
     have hi9:0≤((i:Nat):Int)∧((i:Nat):Int)≤9223372036854775806:=by omega
     repeat' (first|refine Ag rfl ?_|refine Aj rfl ?_|refine Al ?_|refine Ab 22 ?_;try refine Zm rfl (Zm rfl (Zm rfl (Zv (Am U29 sz49 rfl rfl Y9 Y9) ?_)));try refine Zf fo49_0 rfl (Zv (A2 U3 rfl rfl cA0.cons) (Zv (AD rfl rfl Y9 Y9) ?_));try refine Zm rfl (Zm rfl (Zv (ov_add rfl rfl rfl) (Zv (CE U3 U5 rfl rfl) (Zv (Am U22 sz5 rfl rfl Y9 Y9) ?_))));try refine AK (c:=(byv ((R m).set i h8)++q17).toArray) rfl rfl rfl sz5 (.head _) hsz2 (.inr (Nat.zero_le _)) rfl rfl ?_;try refine Aa N7 ?_)
     rw[byv_setW2 _ _ _ (by simp;omega)]
     refine w_eqH (H':=(⟨b17,true,.cells (byv (R (m+1))++q17).toArray 5 (0,0)⟩:Ent)::G1) (by rw[←hst,hlo]) ?_
     repeat refine An ?_
     repeat' (first|refine Ag rfl ?_|refine Aj rfl ?_|refine Al ?_|refine AH ?_|refine Ab 18 ?_;try refine Zm rfl (Zv (AD rfl rfl Y9 Y9) ?_);try refine Za rfl (Aa N7 ?_))
     refine A1 Y10 (ih (m+1) hlt Y9)
   · have hk:m=P.length:=by omega
     subst hk
     repeat' (first|refine Ag rfl ?_|refine Aj rfl ?_|refine Al ?_|refine An ?_|refine Az rfl ?_|refine Bl rfl ?_|refine Ab 17 ?_;try refine Zm rfl (Zm rfl (Zv (Ap rfl U29 rfl) (Zv (A7 rfl rfl Y2) ?_)));try refine Aa N7 ?_)
     exact A1 Y10 (rest trivial P.length)
 rintro _ k18
 refine w_eqH (H':=(⟨b17,true,.cells (byv (R P.length)++q17).toArray 5 (0,0)⟩:Ent)::G1) rfl ?_
 have hRO:=hRl2 P.length
 have hp1:=hpn (N:=refs h8 lo P.length P.length) (by rw[refs_len,hnl]) (refs_two _ _ _ _)
 have hblk:∀s,(h:s < x.blks.length)→∃q:Nat,K[s]?=some (q:Int)∧(R P.length)[q]?=some (UInt8.ofNat ((x.blks[s].ins.length:Int) % 256).toNat):=fun s h=>by
  rw[hKK,hR]
  exact blk_put (by rw[refs_len,hnl]) (refs_two _ _ _ _) h
 have hinc:∀s,s+1 < x.blks.length→∃q r:Nat,K[s]?=some (q:Int)∧K[s+1]?=some (r:Int)∧q < r:=fun s h=>by
  rw[hKK]
  exact bkp_inc x h
 rw[show rawOf (setN (sgFlow x) (refs h8 lo P.length P.length))=R P.length by rw[hR],←hPl,←hKK] at hp1
 obtain⟨qS,qB,qF⟩:=hp1
 generalize R P.length=O at *
 refine w_abs fun G2 hG hsG=>?_
 have m17:(⟨b17,true,.cells (byv O++q17).toArray 5 (0,0)⟩:Ent)∈G2:=hG _ (.head _)
 have hGG:∀e∈G1,e∈G2:=fun e h=>hG e (.tail _ h)
 have sO:SlK S w0 G2 (byv O) O.length (.slice (some ⟨b17,0,none⟩) B.length c17):=by
  rw[hRO]
  exact⟨_,_,rfl,hc17,.inr ⟨b17,0,rfl,fun j h=>Kn.of m17 (by rw[Nat.zero_add];simp only[List.getElem?_toArray];rw[List.getElem?_append_left h];exact List.getElem?_eq_getElem h)⟩⟩
 replace m2:=hGG _ m2
 replace m5:=hGG _ m5
 replace m15:=hGG _ m15
 replace sP:=sP.up hGG
 replace sPn:=sPn.up hGG
 replace sK:=sK.up hGG
 replace sF:=sF.up hGG
 replace hs:F.Sublist G2:=List.Sublist.trans Y17 hsG
 replace hPG:=hPG.up hGG
 replace hKG:=hKG.up hGG
 clear hG hsG hGG hR0 hRl2 sB sR
 clear G1
 have hpc:=fun {F'} (hu:∀e∈G2,e∈F')=>places_c (sO.up hu) Y9
 rw[qS] at hpc
 have hbc:=fun {F'} (hu:∀e∈G2,e∈F')=>blocks_c (sO.up hu) Y9
 rw[qB] at hbc
 have hfc:=fun {F'} (hu:∀e∈G2,e∈F')=>front_c (sO.up hu) Y9 (hPG.up hu)
 rw[qF] at hfc
 dsimp only at hpc hbc hfc
 repeat refine An ?_
 repeat' (first|refine Ag rfl ?_|refine Aj rfl ?_|refine Al ?_|refine An ?_|refine Ab 23 ?_;try refine Zm rfl ?_;try((refine AQ (pre:=[]) (Take.nil _) (CallR.val rfl en28) rfl rfl (hpc Y19) ?_;rintro _ X19 ⟨_,rfl,⟨ap2,cp2,rfl,hcp2,hkp2⟩⟩;simp only[List.length_map] at hcp2 hkp2 ⊢)<;>try refine Zm rfl (Zv (Ae rfl rfl) (Zv (Ae rfl rfl) (Za rfl (Za rfl (Aa N7 ?_))))))|refine Ab 24 ?_;try refine Zm rfl ?_;try((refine AQ (pre:=[]) (Take.nil _) (CallR.val rfl en30) rfl rfl (hbc Y19) ?_;rintro _ X21 ⟨_,rfl,⟨ak2,ck2,rfl,hck3,hkk2⟩⟩)<;>try refine Zm rfl (Zv (Ae rfl rfl) (Zv (Ae rfl rfl) (Za rfl (Za rfl (Aa N7 ?_))))))|refine Ab 25 ?_;try refine Zm rfl ?_;try((refine AQ (pre:=[]) (Take.nil _) (CallR.val rfl en27) rfl rfl (hfc Y19) ?_;rintro _ X23 ⟨_,rfl,⟨af2,cf2,rfl,hcf2,hkf2⟩⟩)<;>try refine Zm rfl (Zv (Ae rfl rfl) (Zv (Ae rfl rfl) ?_));try refine A8 inf53 rfl rfl rfl rfl (fun b_ hb_=>?_);try refine AI rfl rfl rfl sz53 Y3 Y15 rfl rfl ?_;try refine Za rfl (Aa N7 ?_)))
 revert b_
 intro b23 hb23
 refine A1 (E':=[(2,pv b2 0),(4,.bool false),(11,.slice ap P.length cp),(13,.slice ak K.length ck),(15,pv b15 0),(17,.slice (some ⟨b17,0,none⟩) B.length c17),(19,.slice ap2 P.length cp2),(20,.int .i64 0),(21,.slice ak2 K.length ck2),(22,.int .i64 0),(23,pv b23 0),(24,.int .i64 0)]) Y14 ?_
 refine w_abs fun G3 hG hsG=>?_
 have m23:(⟨b23,true,.cells #[.slice af2 (x.regs.take x.ac.toNat).length cf2,.int .u8 x.res] 53 (0,0)⟩:Ent)∈G3:=hG _ (.head _)
 have hX23:∀e∈X23,e∈G3:=fun e h=>hG e (.tail _ (List.mem_append_left _ h))
 have hX21:∀e∈X21,e∈G3:=fun e h=>hG e (.tail _ (List.mem_append_right _ (List.mem_append_left _ h)))
 have hX19:∀e∈X19,e∈G3:=fun e h=>hG e (.tail _ (List.mem_append_right _ (List.mem_append_right _ (List.mem_append_left _ h))))
 have hGG:∀e∈G2,e∈G3:=fun e h=>hG e (.tail _ (List.mem_append_right _ (List.mem_append_right _ (List.mem_append_right _ h))))
 have sPn2:SlK S w0 G3 (rowV plcC (P.map noNm)) P.length (.slice ap2 P.length cp2):=SlK.up ⟨ap2,cp2,rfl,hcp2,hkp2⟩ hX19
 have sK2:SlK S w0 G3 (intsV K) K.length (.slice ak2 K.length ck2):=SlK.up ⟨ak2,ck2,rfl,hck3,hkk2⟩ hX21
 have sF2:SlK S w0 G3 (regV (x.regs.take x.ac.toNat)) (x.regs.take x.ac.toNat).length (.slice af2 (x.regs.take x.ac.toNat).length cf2):=SlK.up ⟨af2,cf2,rfl,hcf2,hkf2⟩ hX23
 rw[←hRl] at m23 sF2
 rw[hRb] at sF2
 replace m2:=hGG _ m2
 replace m15:=hGG _ m15
 replace m17:=hGG _ m17
 replace sPn:=sPn.up hGG
 replace sK:=sK.up hGG
 replace sF:=sF.up hGG
 replace sO:=sO.up hGG
 replace hs:F.Sublist G3:=List.Sublist.trans Y17 hsG
 replace hPG:=hPG.up hGG
 replace hKG:=hKG.up hGG
 clear hG hsG hX23 hX21 hX19 hGG hkp2 hkk2 hkf2 hpc hbc hfc m5 sP
 clear G2
 have hsp:Yields S w0 G3 35 [.slice ap P.length cp,.slice ap2 P.length cp2] (.bool true):=by
  have:=samePlaces_c (l:=P.map noNm) (m:=P.map noNm) (by simpa using sPn) (by simpa using sPn2) (by simp;omega) (by simp;omega)
  rwa [decide_eq_true rfl] at this
 repeat refine An ?_
 repeat' (first|refine Ag rfl ?_|refine Aj rfl ?_|refine Al ?_|refine An ?_|refine Az rfl ?_|refine AB ?_|refine Ab 26 ?_;try refine Zm rfl (Zv (AN rfl rfl (by first|exact Ax Y9|exact As Y9|exact rfl)) ?_);try refine Zm rfl (Zm rfl (Zv (AN rfl rfl (by first|exact Ax Y9|exact As Y9|exact rfl)) ?_));try refine Zv (A0 rfl rfl) (Zm rfl (Zm rfl (Zv (AN rfl rfl (by first|exact Ax Y9|exact As Y9|exact rfl)) ?_)));try refine Zv (A0 rfl rfl) (Zm rfl (Zm rfl (Zm rfl (Zv (Aw (CallR.val rfl en35) hsp) (Zv (BN rfl) (Zv (A0 rfl rfl) (Zm rfl (Zf fo53_0 rfl (Zv (Ac U22 rfl rfl Y0 Y4) ?_)))))))));try refine Zv (B4 U22 U9 U5 rfl sF2) (Zf fo53_0 rfl (Zv (Ac U22 rfl rfl Y0 Y4) ?_));try refine Zv (B4 U22 U9 U5 rfl sF) (Zv (ov_neqS3 rfl rfl Y24) ?_);try refine Zv (A0 rfl rfl) (Zm rfl (Zf fo53_1 rfl (Zv (Ac U5 rfl rfl Y0 Y4) ?_)));try refine Zf fo53_1 rfl (Zv (Ac U5 rfl rfl Y0 Y4) ?_);try refine Zv (AN rfl rfl (by first|exact Ax Y9|exact As Y9|exact rfl)) ?_;try refine Zv (A0 rfl rfl) (Zm rfl (Zm rfl (Zv (Ap rfl U59 rfl) (Zm rfl (Zv (Ap rfl U59 rfl) (Zv (AN rfl rfl (by first|exact Ax Y9|exact As Y9|exact rfl)) ?_))))));try refine Zv (A0 rfl rfl) (Aa N7 ?_))
 clear hsp sPn2 sF2 sF sPn m15 m23 qS qB qF
 obtain ⟨ab,cb,ps,e9,hps,hbn,hbk,hk4⟩:∃ab cb,∃ps:List PB,Value.slice r5 x.blks.length r6=.slice ab x.blks.length cb∧ps.map PB.blk=x.blks∧ps.length=x.blks.length∧(ps=[]∨∃b off,ab=some ⟨b,off,none⟩∧∀i (h:i < (rowV pbC ps).length),Kn S w0 G3 b (off+i) (rowV pbC ps)[i])∧∀p∈ps,PBkn S w0 G3 p:=by
  obtain⟨_,_,_,e,_,_,⟨ps,hps,hk3,hk4⟩⟩:=hKG
  cases e
  obtain⟨_,_,e,_,h⟩:=hk3
  cases e
  refine⟨_,_,ps,rfl,hps,by rw[←hps,List.length_map],h.imp (fun e=>?_) id,hk4⟩
  cases ps with
  | nil=>rfl
  | cons a l=>cases e
 cases e9
 repeat refine An ?_
 repeat' (first|refine Ag rfl ?_|refine Al ?_|refine Ab 28 ?_;try refine Za rfl (Aa N7 ?_))
 refine A6 ?_
 refine A1 (E':=(fun m:Nat=>[(2,pv b2 0),(4,.bool false),(13,.slice ak K.length ck),(17,.slice (some ⟨b17,0,none⟩) B.length c17),(21,.slice ak2 K.length ck2),(25,.int .i64 (m:Int))]) 0) Y14 ?_
 refine Bb (fun m:Nat=>m≤K.length) (fun m=>K.length - m) (fun m:Nat=>[(2,pv b2 0),(4,.bool false),(13,.slice ak K.length ck),(17,.slice (some ⟨b17,0,none⟩) B.length c17),(21,.slice ak2 K.length ck2),(25,.int .i64 (m:Int))]) (fun _=>G3) ?_ 0 (Nat.zero_le _)
 rintro m k1 ih
 try dsimp only at k1 ih ⊢
 by_cases hlt:m < K.length
 · have hmb:m < x.blks.length:=by omega
   have h602:=hL.len.2.2.2
   obtain⟨q,hq1,hq2⟩:=hblk m hmb
   obtain⟨hqO,hq2⟩:=List.getElem?_eq_some_iff.1 hq2
   have hKm:K[m]=(q:Int):=(List.getElem?_eq_some_iff.1 hq1).2
   have hil:=(hL.blks x.blks[m] (List.getElem_mem hmb)).len.1
   obtain⟨bb,ob,rfl,hkn⟩:=hbk.resolve_left (fun e=>by rw[e] at hbn;simp at hbn;omega)
   have hpl:m < ps.length:=by omega
   obtain⟨p,hp⟩:∃p,ps[m]=p:=⟨_,rfl⟩
   obtain⟨is,i1,i2,i3⟩:=(hk4 p (hp▸List.getElem_mem hpl)).ins
   obtain⟨ai,ci,hiv,_,_⟩:=id i2
   have hbp:x.blks[m]=p.blk:=by simp only[←hps,List.getElem_map,hp]
   rw[hbp] at hil hq2
   have cB:Kn S w0 G3 bb (ob+((m:Nat):Int).toNat*10+0) (.slice ai p.blk.ins.length ci):=kn_row BE hkn hpl Y22 (by rw[hp,←hiv];rfl)
   have hil2:is.length=p.blk.ins.length:=by rw[←i1];simp
   obtain⟨x1,y1,e1,_,g1⟩:=id sK
   cases e1
   obtain⟨z1,o1,rfl,n1⟩:=g1.resolve_left (fun e=>by have:=intsV_len K;rw[e] at this;simp at this;omega)
   obtain⟨x2,y2,e2,_,g2⟩:=id sK2
   cases e2
   obtain⟨z2,o2,rfl,n2⟩:=g2.resolve_left (fun e=>by have:=intsV_len K;rw[e] at this;simp at this;omega)
   have int1:∀ {z o:Nat},(∀i (h:i < (intsV K).length),Kn S w0 G3 z (o+i) (intsV K)[i])→∀ {i:Nat},(h:i < K.length)→Kn S w0 G3 z (o+((i:Nat):Int).toNat*1) (.int .i64 K[i]):=fun hn i h=>by
    have:=hn i (by rw[intsV_len];exact h)
    simpa [intsV] using this
   have c1:Kn S w0 G3 z1 (o1+((m:Nat):Int).toNat*1) (.int .i64 (q:Int)):=hKm▸int1 n1 hlt
   have c2:Kn S w0 G3 z2 (o2+((m:Nat):Int).toNat*1) (.int .i64 (q:Int)):=hKm▸int1 n2 hlt
   have c17':Kn S w0 G3 b17 (0+((q:Nat):Int).toNat*1) (.int .u8 (p.blk.ins.length:Int)):=Kn.of m17 (by
    simp only[List.getElem?_toArray,Nat.zero_add,Int.toNat_natCast,Nat.mul_one]
    rw[List.getElem?_append_left (by simpa [byv] using hqO)]
    simp only[byv,List.getElem?_map,List.getElem?_eq_getElem hqO,Option.map_some,hq2]
    rw[u8n _ Y9]
    congr 2;omega)
   rcases Nat.eq_zero_or_pos m with rfl|hm
   · repeat refine An ?_
     repeat' (first|refine Ag rfl ?_|refine Aj rfl ?_|refine Al ?_|refine Ab 29 ?_;try refine Zm rfl (Zm rfl (Zv (Ap rfl U59 rfl) (Zv (A7 rfl rfl Y2) ?_)));try refine Aa N7 ?_)
     repeat' (first|refine Ag rfl ?_|refine Aj rfl ?_|refine Al ?_|refine An ?_|refine A5 rfl ?_|refine Az rfl ?_|refine A6 ?_|refine AH ?_|refine AB ?_|refine BL 31 rfl mixed Y1 ?_;try refine A3 (Ai rfl) rfl rfl (A3 (Ai rfl) rfl rfl (A3 (Am U59 sz3 rfl rfl Y9 Y9) rfl rfl ?_));try refine A3 (A2 U3 rfl rfl c2) rfl rfl (A3 (Ai rfl) rfl rfl (A3 (Ai rfl) rfl rfl (A3 (Am U59 sz3 rfl rfl Y9 Y9) rfl rfl ?_)));try refine A3 (A2 U3 rfl rfl c1) rfl rfl (A3 (AN rfl rfl (by first|exact Ax Y9|exact As Y9|exact rfl)) rfl rfl ?_);try refine A3 (Ai rfl) rfl rfl (A3 (Ai rfl) rfl rfl (A3 (Be rfl rfl Y2) rfl rfl ?_));try refine A3 (Ai rfl) rfl rfl (wq_skip rfl rfl (wq_skip rfl rfl (wq_skip rfl rfl (wq_skip rfl rfl (wq_skip rfl rfl (wq_skip rfl rfl (wq_skip rfl rfl (wq_skip rfl rfl (wq_skip rfl rfl (wq_skip rfl rfl (A3 (A0 rfl rfl) rfl rfl (A3 (A0 rfl rfl) rfl rfl (A3 (Ai rfl) rfl rfl (A3 (Ai rfl) rfl rfl (A3 (Ai rfl) rfl rfl (A3 (Am U59 sz3 rfl rfl Y9 Y9) rfl rfl ?_))))))))))))))));try refine A3 (A2 U3 rfl rfl c1) rfl rfl (A3 (A7 rfl rfl Y2) rfl rfl ?_);try refine A3 (A0 rfl rfl) rfl rfl (A3 (Ai rfl) rfl rfl (A3 (Ai rfl) rfl rfl (A3 (Ai rfl) rfl rfl (A3 (Am U59 sz3 rfl rfl Y9 Y9) rfl rfl ?_))));try refine A3 (A2 U3 rfl rfl c1) rfl rfl (A3 (Ai rfl) rfl rfl (A3 (Ap rfl U22 rfl) rfl rfl (A3 (Bj rfl rfl Y2) rfl rfl ?_)));try refine A3 (A0 rfl rfl) rfl rfl (A3 (Ai rfl) rfl rfl (A3 (Ai rfl) rfl rfl (A3 (Ai rfl) rfl rfl (A3 (Ai rfl) rfl rfl (A3 (Am U59 sz3 rfl rfl Y9 Y9) rfl rfl ?_)))));try refine A3 (A2 U3 rfl rfl c1) rfl rfl (A3 (Am U22 sz5 rfl rfl Y9 Y9) rfl rfl ?_);try refine A3 (A2 U5 rfl rfl c17') rfl rfl (A3 (C8 U5 U3 rfl Y9 Y9) rfl rfl ?_);try refine A3 (Ad Bz rfl) rfl rfl (A3 (Ac U24 rfl rfl m2 rfl) rfl rfl (A3 (Ai rfl) rfl rfl (A3 (Am U24 sz70 rfl rfl Y9 Y9) rfl rfl ?_)));try refine A3 (Ad Cv rfl) rfl rfl (A3 (A2 U65 rfl rfl cB) rfl rfl (A3 (Ap rfl U65 rfl) rfl rfl (A3 (AN rfl rfl (by first|exact Ax Y9|exact As Y9|exact rfl)) rfl rfl ?_)));try refine A3 (A0 rfl rfl) rfl rfl (BJ N7 ?_)|refine Ab 30 ?_;try refine Zm rfl (Zv (AD rfl rfl Y9 Y9) ?_);try refine Za rfl (Aa N7 ?_))
     refine A1 Y10 (ih (0+1) hlt Y9)
   · obtain ⟨j,rfl⟩:∃j,m=j+1:=⟨m - 1,by omega⟩
     obtain⟨s,r,hs1,hs2,hsr⟩:=hinc j hmb
     have hKj:K[j]=(s:Int):=(List.getElem?_eq_some_iff.1 hs1).2
     have hrq:r=q:=by rw[hq1] at hs2;cases hs2;rfl
     subst hrq
     have c4:Kn S w0 G3 z1 (o1+(((j+1:Nat):Int) - 1).toNat*1) (.int .i64 (s:Int)):=by
      have:=int1 n1 (i:=j) Y9
      rw[hKj] at this
      rwa [show(((j+1:Nat):Int) - 1)=(j:Int) by omega]
     repeat refine An ?_
     repeat' (first|refine Ag rfl ?_|refine Aj rfl ?_|refine Al ?_|refine Ab 29 ?_;try refine Zm rfl (Zm rfl (Zv (Ap rfl U59 rfl) (Zv (A7 rfl rfl Y2) ?_)));try refine Aa N7 ?_)
     repeat' (first|refine Ag rfl ?_|refine Aj rfl ?_|refine Al ?_|refine An ?_|refine A5 rfl ?_|refine Az rfl ?_|refine A6 ?_|refine AH ?_|refine AB ?_|refine BL 31 rfl mixed Y1 ?_;try refine A3 (Ai rfl) rfl rfl (A3 (Ai rfl) rfl rfl (A3 (Am U59 sz3 rfl rfl Y9 Y9) rfl rfl ?_));try refine A3 (A2 U3 rfl rfl c2) rfl rfl (A3 (Ai rfl) rfl rfl (A3 (Ai rfl) rfl rfl (A3 (Am U59 sz3 rfl rfl Y9 Y9) rfl rfl ?_)));try refine A3 (A2 U3 rfl rfl c1) rfl rfl (A3 (AN rfl rfl (by first|exact Ax Y9|exact As Y9|exact rfl)) rfl rfl ?_);try refine A3 (Ai rfl) rfl rfl (A3 (Ai rfl) rfl rfl (A3 (Be rfl rfl Y2) rfl rfl ?_));try refine A3 (Ai rfl) rfl rfl (A3 (Ai rfl) rfl rfl (A3 (Ai rfl) rfl rfl (A3 (Am U59 sz3 rfl rfl Y9 Y9) rfl rfl ?_)));try refine A3 (A2 U3 rfl rfl c1) rfl rfl (A3 (Ai rfl) rfl rfl (A3 (Ai rfl) rfl rfl (A3 (Ca rfl rfl Y9 Y9) rfl rfl ?_)));try refine A3 (Am U59 sz3 rfl rfl Y9 Y9) rfl rfl ?_;try refine A3 (A2 U3 rfl rfl c4) rfl rfl (A3 (CQ rfl rfl Y2) rfl rfl ?_);try refine A3 (Av rfl rfl) rfl rfl (A3 (A0 rfl rfl) rfl rfl (A3 (Ai rfl) rfl rfl (A3 (Ai rfl) rfl rfl (A3 (Ai rfl) rfl rfl (A3 (Am U59 sz3 rfl rfl Y9 Y9) rfl rfl ?_)))));try refine A3 (A2 U3 rfl rfl c1) rfl rfl (A3 (A7 rfl rfl Y2) rfl rfl ?_);try refine A3 (A0 rfl rfl) rfl rfl (A3 (Ai rfl) rfl rfl (A3 (Ai rfl) rfl rfl (A3 (Ai rfl) rfl rfl (A3 (Am U59 sz3 rfl rfl Y9 Y9) rfl rfl ?_))));try refine A3 (A2 U3 rfl rfl c1) rfl rfl (A3 (Ai rfl) rfl rfl (A3 (Ap rfl U22 rfl) rfl rfl (A3 (Bj rfl rfl Y2) rfl rfl ?_)));try refine A3 (A0 rfl rfl) rfl rfl (A3 (Ai rfl) rfl rfl (A3 (Ai rfl) rfl rfl (A3 (Ai rfl) rfl rfl (A3 (Ai rfl) rfl rfl (A3 (Am U59 sz3 rfl rfl Y9 Y9) rfl rfl ?_)))));try refine A3 (A2 U3 rfl rfl c1) rfl rfl (A3 (Am U22 sz5 rfl rfl Y9 Y9) rfl rfl ?_);try refine A3 (A2 U5 rfl rfl c17') rfl rfl (A3 (C8 U5 U3 rfl Y9 Y9) rfl rfl ?_);try refine A3 (Ad Bz rfl) rfl rfl (A3 (Ac U24 rfl rfl m2 rfl) rfl rfl (A3 (Ai rfl) rfl rfl (A3 (Am U24 sz70 rfl rfl Y9 Y9) rfl rfl ?_)));try refine A3 (Ad Cv rfl) rfl rfl (A3 (A2 U65 rfl rfl cB) rfl rfl (A3 (Ap rfl U65 rfl) rfl rfl (A3 (AN rfl rfl (by first|exact Ax Y9|exact As Y9|exact rfl)) rfl rfl ?_)));try refine A3 (A0 rfl rfl) rfl rfl (BJ N7 ?_)|refine Ab 30 ?_;try refine Zm rfl (Zv (AD rfl rfl Y9 Y9) ?_);try refine Za rfl (Aa N7 ?_))
     refine A1 Y10 (ih (j+1+1) hlt Y9)
 · have hk:m=K.length:=by omega
   subst hk
   repeat' (first|refine Ag rfl ?_|refine Aj rfl ?_|refine Al ?_|refine An ?_|refine Az rfl ?_|refine Bl rfl ?_|refine AM Tryz.func10 rfl (fun w_ hi_=>?_)|refine Ab 29 ?_;try refine Zm rfl (Zm rfl (Zv (Ap rfl U59 rfl) (Zv (A7 rfl rfl Y2) ?_)));try refine Aa N7 ?_|refine Ab 33 ?_;try refine Zv (Aw (CallR.val rfl en12) (wrote_c hPG)) (Za rfl (Aa N7 ?_)))
   exact⟨[],⟨rfl,rfl⟩,hi_.subset Y17⟩
end
end Go.Sl
namespace Go.Proofs.YtnfpoclhmidpgaaGreatDoor
open Go Go.ChangeShapes Go.WideShapes Go.ChangeAt Go.RowKit Go.Sl
open Go.ChangeMaps (open_string shut_string)
theorem codeInverse_lifted (os:Os) (started:os.Started) (H:Type) (enc:TypeId×Value→H):
 ReturnsInHanded {} Tryz.checked os 10 .any (fun w args=>(Rows.codeInverseSpec.pre enc Tryz.prog Tryz.f10 [] false w args∧laidMetH Tryz.prog laidL w)∧sizedMet enc Tryz.prog Tryz.f10 (OpenSpec.ofChange Rows.codeInverseSpec) false w args)
  (Rows.codeInverseSpec.post enc Tryz.prog Tryz.f10 false true false false):=by
 refine wrap started Y1 Tryz.func10 #[.agg #[.string ⟨#[]⟩,.int .i64 0,.int .u8 0,.slice none 0 0,.slice none 0 0,.slice none 0 0],.int .i64 0] Y1 Y1 Y1 ?_
 intro W base args ds gs before hval hW hL hs
 have hW':=hW
 have hlt:=hW.lt
 obtain⟨p,q,hA0,hV,rfl,hfz,hnd⟩:=hW
 have hA:DataW.TrodAll enc Tryz.prog W 0 (fun _=>true) true Tryz.f10.params.toList args.toList ds p:=hA0
 rw[Tryz.params10] at hA hval
 obtain⟨v0,v1,d0,d1,p0,p1,rfl,rfl,rfl,h0,h1⟩:=trodAll_two hA
 obtain⟨rfl,rfl⟩:=trodVars_none hV
 have k0:=h0
 obtain⟨cs0,rfl,_⟩:=okWide_struct flow_fs (hval 0 26 v0 rfl rfl)
 obtain⟨f0,h0⟩:=h0
 obtain⟨m0,K0,g0⟩:=opn_flow h0
 replace K0:FlowK none_ W [] m0 (.agg cs0):=by simpa [Value.cells] using K0
 have k1:=h1
 obtain⟨a1,rfl,rfl,rfl,wa1⟩:=open_int Tryz.underlying3 (hval 1 3 v1 rfl rfl) h1
 have hc:=law_of (fun F hP=>codeInverse_c (nn:=a1) (K0.up (fun _ h=>by cases h)) g0 hP) hL
 refine hc.mono fun e W' ⟨he,hb⟩=>⟨_,he,_,_,_,[],_,[],hW',trodAll_mk1 (shut_bool Tryz.underlying4 _),trodAll_mk2 (Below.trod laidOut Y1 (of_decide_eq_true Y1) k0 hb fun x hx=>hlt x (by simp only[List.mem_append,hx,true_or,or_true])) (Below.trod laidOut Y1 (of_decide_eq_true Y1) k1 hb fun x hx=>hlt x (by simp only[List.mem_append,hx,true_or,or_true])),rfl,hb.frame _,fun h=>by cases h⟩
theorem codeInverse_holds:Rows.CodeInverseSaid:=
 OpenClaim.holds_of_wide 10 Tryz.f10 rfl rfl rfl rfl rfl rfl rfl ⟨rfl,rfl,rfl,rfl,rfl⟩ rfl rfl rfl rfl rfl Y1 Tryz.func10 Y1
  (of_decide_eq_true Y1) (by unfold Func.isWrapper;first|rw[if_pos (by decide +kernel)];kernel_rfl|rw[if_neg (by decide +kernel)];exact⟨rfl,rfl⟩)
  (fun os started H enc _=>codeInverse_lifted os started H enc)
theorem codeInverse_card:Rows.CodeInverseCardSaid:=
 Claim7.holds_tied_plain_at .later [] [.data,.data,.data] true (true,"38cb48cba00e4f9beffe54e56f5b75e9fd5ad66057cdb564375641c327a061fb") true
  codeInverse_holds (fun _ h=>by cases h) Y1 (fun _ h=>by cases h) codeInverse_row_tie rfl ⟨rfl,rfl⟩ Y1 rfl
  (fun f fn hf hfn=>by
   obtain rfl:f=10:=Option.some.inj ((show Tryz.prog.funcNamed "trestle/trestlelaw15.CodeInverse" = some 10 by kernel_rfl).symm.trans hf)|>.symm
   obtain rfl:fn=Tryz.f10:=(Option.some.inj (Tryz.func10.symm.trans hfn)).symm
   exact ⟨by kernel_rfl,fun j t ht=>by
    have hall:(Tryz.f10.params.toList.all fun u=> !Tryz.prog.wantsStandIn u)=true:=by kernel_rfl
    have hm:t∈Tryz.f10.params.toList:=by simpa using Array.mem_of_getElem? ht
    exact(show Tryz.prog.wantsStandIn t=false by simpa using List.all_eq_true.1 hall t hm)⟩)
  Y1
end Go.Proofs.YtnfpoclhmidpgaaGreatDoor
