/- CodeTorn: the call returns true for every input, and leaves its arguments as they were. Condition: none beyond the card's own. -/
import Derived.Test.YtnfpoclhmidpgaaGreatDoorQ7
set_option maxRecDepth 100000
set_option maxHeartbeats 8000000
set_option linter.unusedSimpArgs false
set_option linter.unusedVariables false
namespace Go.Sl
open Go Go.RowKit Go.Shelf Go.Proofs
section
variable {S:Nat→Prop} {w0:World} {F:List Ent}
theorem encN_c {x:FlowM} {v:Value} (hK:FlowK S w0 F x v) (hL:FlowL x) (hres:0≤x.res):SLF Tryz.prog S w0 F 13 [v] [] (fun e post=>∃v,e=.returned v∧∃u,v=.tuple #[u,.int .i64 (encS x).2]∧CodeK S w0 post (encS x).1 u):=
 SLF.mono (encode_c hK (fun hs=>flowR_of hs hres) hL) fun e post ⟨u,h1,h2⟩=>⟨_,h1,u,rfl,h2⟩
end
end Go.Sl
namespace Go.Sl
theorem good_of {f:FlowM} (hs:sndOk f=true) (hres:0≤f.res) {N:List Bs} (hN:N.length=(nmsOf (sgFlow f)).length) (h2:∀n∈N,n.length=2) (hl:(out (sgFlow f)).length≤20000) (hp:(pl (sgFlow f) 0).length≤500):GoodF (namesS N f []) (rawOf (setN (sgFlow f) N)):=by
 have e1:=names_nms hN []
 have e2:=names_seg hN []
 have e3:=names_sk N f []
 refine⟨rfl,by rw[e1];exact h2,hres,?_,by rw[e2],?_,by rw[sk_len e3];exact hp⟩
 · rw [names_dm]
   rw[snd_split,Bool.and_eq_true] at hs
   exact hs.1
 · rw[←e2,rlen_out _ (by rw[e1];exact h2),sk_out _ _ e3];exact hl
def zN (k:Nat):List Bs:=List.replicate k [0,0]
theorem zN_len (k:Nat):(zN k).length=k:=by simp[zN]
theorem zN_two (k:Nat):∀n∈zN k,n.length=2:=fun n h=>by rw[List.eq_of_mem_replicate h];rfl
theorem raw_zN (l:List Seg):rawOf (setN l (zN (nmsOf l).length))=out l:=by
 have h:=setN_nms l (zN (nmsOf l).length) (zN_len _)
 rw[raw_out _ (by rw[h];exact fun m hm=>List.eq_of_mem_replicate hm),sk_out _ _ (setN_sk _ _)]
theorem enc_ok2 {f:FlowM} (h:(encS f).2=0):chkOk f=true∧sndOk f=true∧(out (sgFlow f)).length≤20000∧(pl (sgFlow f) 0).length≤500∧encS f=(⟨f.nm,out (sgFlow f),pl (sgFlow f) 0⟩,0):=by
 have h1:=enc_ok.1 h
 have h2:=enc_val h
 rw[layF_eq] at h1 h2
 exact⟨h1.1,(Bool.and_eq_true _ _▸h1.1:symOk f.nm=true∧sndOk f=true).2,h1.2.1,h1.2.2,h2⟩
theorem enc_code {f:FlowM} (h:(encS f).2=0) (hres:0≤f.res) {N:List Bs} (hN:N.length=(nmsOf (sgFlow f)).length) (h2:∀n∈N,n.length=2):codeP (rawOf (setN (sgFlow f) N))=some (namesS N f []):=by
 obtain⟨_,hs,hl,hp,_⟩:=enc_ok2 h
 exact codeP_good.2 (good_of hs hres hN h2 hl hp)
theorem enc_dec {f:FlowM} (h:(encS f).2=0) (hres:0≤f.res):decodeP (encS f).1=some f:=by
 obtain⟨_,hs,hl,hp,he⟩:=enc_ok2 h
 have hc:=enc_code h hres (zN_len _) (zN_two _)
 rw[raw_zN] at hc
 obtain⟨s,hd⟩:=codeP_dec hc
 rw[he]
 unfold decodeP
 simp only[hd]
 have hg:namesS ((pl (sgFlow f) 0).map (·.2.2)) (namesS (zN (nmsOf (sgFlow f)).length) f []) f.nm=f:=by
  have h0:nmsOf (sgFlow (namesS (zN (nmsOf (sgFlow f)).length) f []))=zN (nmsOf (sgFlow f)).length:=names_nms (zN_len _) []
  refine flow_ext rfl (by rw[names_dm,names_dm]) ?_
  rw[names_nms (by rw[h0,zN_len];rfl)]
  rfl
 rw[hg,he]
 simp
theorem enc_decS {f:FlowM} (h:(encS f).2=0) (hres:0≤f.res):decS (encS f).1=(f,0):=by
 unfold decS;rw[enc_dec h hres]
theorem dec_enc {x:CodeM} (h:(decS x).2=0):encS (decS x).1=(x,0)∧(decS x).1.nm=x.nm:=by
 unfold decS at h ⊢
 cases hd:decodeP x with
 | none=>rw[hd] at h;simp at h
 | some g =>
   unfold decodeP at hd
   split at hd
   · cases hd
   · rename_i r hr
     simp only at hd
     split at hd
     · rename_i hc
       cases hd
       have h1:=enc_val hc.1
       have h2:=hc.2
       rw[h1] at h2
       simp only at h2
       refine⟨?_,rfl⟩
       simp only
       rw[h1,h2.1,h2.2]
       obtain⟨a,b,c⟩:=x
       rfl
     · cases hd
theorem decS_err (x:CodeM):(decS x).2=0∨(decS x).2=150:=by
 unfold decS;split<;>simp
theorem frontS_err (b:Bs):(frontS b).2=0∨(frontS b).2=150:=by
 unfold frontS;split<;>simp
theorem front_ok {b:Bs}:(frontS b).2=0↔∃f,codeP b=some f:=by
 unfold frontS;split<;>simp[*]
theorem encS_err (f:FlowM):(encS f).2=0∨((encS f).2=1∨(encS f).2=2)∧(encS f).1=code0:=by
 unfold encS
 split
 · split<;>simp
 · simp
theorem prefix_free {b r:Bs} {f g:FlowM} (h:codeP b=some f) (h2:codeP (b++r)=some g):r=[]:=by
 have hf:=codeP_good.1 h
 have hg:=codeP_good.1 h2
 obtain⟨s,k1,k2,_⟩:=hg.read
 have hB:=flowB_of hf.rawF hf.res hf.snd
 have hb:=bk_flow (b:=b++r) hB (rs0 ()) r (Nat.zero_le _) (by rw[hf.raw];simp[rs0]) (by
  have h1:=cnt_eq (sgFlow f) 0
  have h2:=hf.pls
  have h3:=bkp_flow f
  have h4:f.blks.length≤65534:=hB.blks.1
  simp only[rs0,List.length_nil,maxB]
  omega)
 unfold rawRead at k1
 rw[hb.1] at k1
 simp only[Out.ok.injEq,Prod.mk.injEq] at k1
 have ha:=adv_eq (sgFlow f) (rs0 ())
 rw[←k1.2,ha] at k2
 simp only[rs0,Nat.zero_add] at k2
 rw[←rlen_out _ hf.two,hf.raw,List.length_append] at k2
 exact List.length_eq_zero_iff.1 Y9
end Go.Sl
namespace Go.Sl
end Go.Sl
namespace Go.Sl
theorem span_inj {α:Type} (p:α→Bool):∀(a b R T:List α),(∀x∈a,p x=true)→(∀x∈b,p x=true)→(∀x∈R.head?,p x=false)→(∀x∈T.head?,p x=false)→a++R=b++T→a=b∧R=T
 | [],[],R,T,_,_,_,_,h=>⟨rfl,h⟩
 | [],y::b,R,T,_,hb,hR,_,h=>by
   simp only[List.nil_append,List.cons_append] at h
   subst h
   have h1:=hR y Y26
   rw[hb y (.head _)] at h1;cases h1
 | x :: a,[],R,T,ha,_,_,hT,h=>by
   simp only[List.nil_append,List.cons_append] at h
   subst h
   have h1:=hT x Y26
   rw[ha x (.head _)] at h1;cases h1
 | x :: a,y::b,R,T,ha,hb,hR,hT,h=>by
   simp only[List.cons_append,List.cons.injEq] at h
   obtain⟨rfl,h⟩:=h
   obtain⟨h1,h2⟩:=span_inj p a b R T (fun z hz=>ha z (.tail _ hz)) (fun z hz=>hb z (.tail _ hz)) hR hT h
   exact⟨by rw[h1],h2⟩
theorem map_injP {α β:Type} {f:α→β} {P:α→Prop} (hf:∀x y,P x→P y→f x=f y→x=y):∀(l m:List α),(∀x∈l,P x)→(∀x∈m,P x)→l.map f=m.map f→l=m
 | [],[],_,_,_=>rfl
 | [],_::_,_,_,h=>by simp at h
 | _::_,[],_,_,h=>by simp at h
 | x :: l,y::m,hl,hm,h=>by
   simp only[List.map_cons,List.cons.injEq] at h
   rw[hf x y (hl x (.head _)) (hm y (.head _)) h.1,map_injP hf l m (fun z hz=>hl z (.tail _ hz)) (fun z hz=>hm z (.tail _ hz)) h.2]
def wc (c:UInt8):Bool:= !(decide (c=32)|| decide (c=10))
def Wd (v:Bs):Prop:=∀c∈v,wc c=true
def spl (ws:List Bs):Bs:=ws.flatMap fun v=>32::v
theorem linB_cons (w:Bs) (ws:List Bs):linB (w::ws)=w++spl ws:=rfl
theorem spl_inj:∀(ws vs:List Bs) (r t:Bs),(∀v∈ws,Wd v)→(∀v∈vs,Wd v)→spl ws++10::r=spl vs++10::t→ws=vs∧r=t
 | [],[],r,t,_,_,h=>⟨rfl,by simpa [spl] using h⟩
 | [],v::vs,r,t,_,_,h=>by simp[spl] at h
 | w::ws,[],r,t,_,_,h=>by simp[spl] at h
 | w :: ws,v::vs,r,t,hw,hv,h=>by
   have hd:∀(us:List Bs) (r:Bs),∀x∈(spl us++10::r).head?,wc x=false:=by
    intro us r x hx
    cases us<;>(simp[spl] at hx;subst hx;rfl)
   simp only[spl,List.flatMap_cons,List.cons_append,List.append_assoc,List.cons.injEq,true_and] at h
   obtain⟨h1,h2⟩:=span_inj wc w v (spl ws++10::r) (spl vs++10::t) (hw w (.head _)) (hv v (.head _)) (hd ws r) (hd vs t) h
   obtain⟨h3,h4⟩:=spl_inj ws vs r t (fun z hz=>hw z (.tail _ hz)) (fun z hz=>hv z (.tail _ hz)) h2
   exact⟨by rw[h1,h3],h4⟩
theorem lines_inj:∀(L M:List (List Bs)),(∀l∈L,l≠[]∧∀v∈l,Wd v)→(∀l∈M,l≠[]∧∀v∈l,Wd v)→L.flatMap lineT=M.flatMap lineT→L=M
 | [],[],_,_,_=>rfl
 | [],m::M,_,_,h=>by simp[lineT] at h
 | l::L,[],_,_,h=>by simp[lineT] at h
 | l :: L,m::M,hL,hM,h=>by
   obtain⟨w,ws,rfl⟩:=List.exists_cons_of_ne_nil (hL l (.head _)).1
   obtain⟨v,vs,rfl⟩:=List.exists_cons_of_ne_nil (hM m (.head _)).1
   have hw:=(hL _ (.head _)).2
   have hv:=(hM _ (.head _)).2
   simp only[List.flatMap_cons,lineT,linB_cons,List.append_assoc,List.singleton_append] at h
   have hd:∀(us:List Bs) (r:Bs),∀x∈(spl us++10::r).head?,wc x=false:=by
    intro us r x hx
    cases us<;>(simp[spl] at hx;subst hx;rfl)
   obtain⟨h1,h2⟩:=span_inj wc w v _ _ (hw w (.head _)) (hv v (.head _)) (hd _ _) (hd _ _) h
   obtain⟨h3,h4⟩:=spl_inj ws vs _ _ (fun z hz=>hw z (.tail _ hz)) (fun z hz=>hv z (.tail _ hz)) h2
   rw[h1,h3,lines_inj L M (fun z hz=>hL z (.tail _ hz)) (fun z hz=>hM z (.tail _ hz)) h4]
def decV (l:Bs):Nat:=l.foldl (fun n c=>n*10+(c.toNat - 48)) 0
theorem decV_dec:∀(k u:Nat),u < k→decV (Lib.decDigits u)=u
 | 0,u,h=>by omega
 | k + 1,u,h=>by
   rw[Lib.decDigits]
   split
   · rename_i h1
     simp only[decV,List.foldl_cons,List.foldl_nil,u8n _ (show 48+u < 256 by omega)];omega
   · rename_i h1
     unfold decV
     rw[List.foldl_append]
     show(decV (Lib.decDigits (u / 10)))*10+((UInt8.ofNat (48+u % 10)).toNat - 48)=u
     rw[decV_dec k (u / 10) Y9,u8n _ Y9];omega
theorem dec_chars:∀(k u:Nat),u < k→∀c∈Lib.decDigits u,48≤c.toNat∧c.toNat≤57
 | 0,u,h=>by omega
 | k + 1,u,h=>by
   rw[Lib.decDigits]
   split
   · intro c hc
     rw[List.mem_singleton.1 hc,u8n _ Y9];omega
   · intro c hc
     rcases List.mem_append.1 hc with hc|hc
     · exact dec_chars k (u / 10) Y9 c hc
     · rw[List.mem_singleton.1 hc,u8n _ Y9];omega
theorem CE {n m:Int} (h:dgT n=dgT m):n=m:=by
 have hd:∀u,decV (Lib.decDigits u)=u:=fun u=>decV_dec (u+1) u Y9
 have hc:∀u r,Lib.decDigits u≠45::r:=fun u r e=>by
  have:=dec_chars (u+1) u Y9 45 (by rw[e];exact .head _)
  simp at this
 unfold dgT Lib.itoa at h
 split at h<;>split at h
 · have h1:=congrArg decV (List.cons.inj h).2
   rw[hd,hd] at h1;omega
 · exact absurd h.symm (hc _ _)
 · exact absurd h (hc _ _)
 · have h1:=congrArg decV h
   rw[hd,hd] at h1;omega
theorem wd_of {v:Bs} (h:∀c∈v,33≤c.toNat):Wd v:=fun c hc=>by
 have:=h c hc
 unfold wc
 have h1:c≠32:=by rintro rfl;simp at this
 have h2:c≠10:=by rintro rfl;simp at this
 simp[h1,h2]
theorem wd_dg (n:Int):Wd (dgT n):=wd_of fun c hc=>by
 unfold dgT Lib.itoa at hc
 split at hc
 · rcases List.mem_cons.1 hc with rfl|hc
   · decide
   · have:=dec_chars _ _ (Nat.lt_succ_self _) c hc;omega
 · have:=dec_chars _ _ (Nat.lt_succ_self _) c hc;omega
theorem wd_sym {s:Bs} (h:symOk s=true):Wd s:=wd_of fun c hc=>by
 unfold symOk at h
 simp only[Bool.and_eq_true,List.all_eq_true,decide_eq_true_eq] at h
 exact(h.2 c hc).1
def NmO (s:Bs):Prop:=s=[]∨symOk s=true
theorem wd_nm {s:Bs} (h:NmO s):Wd (nmT s):=by
 unfold nmT
 split
 · exact wd_of fun c hc=>by rw[List.mem_singleton.1 hc];decide
 · rename_i h1
   exact wd_sym (h.resolve_left h1)
theorem sym_ne {s:Bs} (h:symOk s=true):s≠[45]∧s≠[]:=by
 unfold symOk at h
 simp only[Bool.and_eq_true,decide_eq_true_eq] at h
 exact⟨h.1.2,by rintro rfl;simp at h⟩
theorem nm_inj {s t:Bs} (hs:NmO s) (ht:NmO t) (h:nmT s=nmT t):s=t:=by
 unfold nmT at h
 split at h<;>split at h
 · simp[*]
 · rename_i h1 h2
   exact absurd h.symm (sym_ne (ht.resolve_left h2)).1
 · rename_i h1 h2
   exact absurd h (sym_ne (hs.resolve_left h1)).1
 · exact h
abbrev bBlk:Bs:=[98,108,111,99,107]
def insW (x:InsM):List Bs:=bIns::([x.op,x.to,x.a,x.b,x.lo,x.hi].map dgT++(nmT x.nm::x.args.map dgT))
def whenW (w:Bs×Int):List Bs:=[bWhen,w.1,dgT w.2]
def endWd (x:EndM):List Bs:=bEnd::([x.kd,x.a,x.b,x.to,x.el,x.ot].map dgT++(nmT x.nm::x.args.map dgT))
def blkWs (b:BlkM):List (List Bs):=b.ins.map insW++(endWd b.en::b.en.ws.map whenW)
def flowWs (x:FlowM):List (List Bs):=[bFlow,x.nm,dgT x.ac,dgT x.res]::(bRegs::x.regs.map dgT)::(bRaises::x.raises)::x.blks.flatMap fun b=>[bBlk]::blkWs b
theorem moreT_spl (l:List Int):moreT l=spl (l.map dgT):=by
 unfold moreT spl
 induction l with
 | nil=>rfl
 | cons a l ih=>simp only[List.flatMap_cons,List.map_cons,ih]
theorem spl_app (a b:List Bs):spl (a++b)=spl a++spl b:=List.flatMap_append
theorem spl_cons (a:Bs) (b:List Bs):spl (a::b)=32::(a++spl b):=rfl
theorem insT_line (x:InsM):insT x=lineT (insW x):=by
 unfold insT insW lineT
 rw[linB_cons,spl_app,spl_cons,moreT_spl,moreT_spl]
 simp
theorem endLT_line (x:EndM):endLT x=lineT (endWd x):=by
 unfold endLT endWd lineT
 rw[linB_cons,spl_app,spl_cons,moreT_spl,moreT_spl]
 simp
theorem flat_map2 {α β:Type} (f:α→Bs) (g:α→β) (h:β→Bs) (e:∀x,f x=h (g x)):∀l:List α,l.flatMap f=(l.map g).flatMap h
 | []=>rfl
 | x::l=>by simp only[List.flatMap_cons,List.map_cons,e,flat_map2 f g h e l]
theorem blkT_lines (b:BlkM):blkT b=([bBlk]::blkWs b).flatMap lineT:=by
 unfold blkT endT blkWs
 rw[flat_map2 insT insW lineT insT_line,flat_map2 whenT whenW lineT (fun _=>rfl),endLT_line]
 simp only[List.flatMap_cons,List.flatMap_append,List.append_assoc]
 rfl
theorem flowT_lines (x:FlowM):flowT x=(flowWs x).flatMap lineT:=by
 have hb:∀l:List BlkM,l.flatMap blkT=(l.flatMap fun b=>[bBlk]::blkWs b).flatMap lineT:=by
  intro l
  induction l with
  | nil=>rfl
  | cons b l ih=>rw[List.flatMap_cons,List.flatMap_cons,List.flatMap_append,ih,blkT_lines]
 unfold flowT headT flowWs
 rw[hb]
 simp only[List.flatMap_cons,List.append_assoc]
 congr 1
 unfold lineT
 rw[linB_cons,linB_cons,moreT_spl]
 simp only[List.append_assoc]
 rfl
theorem insW_inj {x y:InsM} (hx:NmO x.nm) (hy:NmO y.nm) (h:insW x=insW y):x=y:=by
 unfold insW at h
 simp only[List.map_cons,List.map_nil,List.cons_append,List.nil_append,List.cons.injEq,true_and] at h
 obtain⟨h1,h2,h3,h4,h5,h6,h7,h8⟩:=h
 have h9:=map_injP (P:=fun _=>True) (fun _ _ _ _ h=>CE h) _ _ (fun _ _=>trivial) (fun _ _=>trivial) h8
 obtain⟨_,_,_,_,_,_,_,_⟩:=x
 obtain⟨_,_,_,_,_,_,_,_⟩:=y
 simp only at *
 rw[CE h1,CE h2,CE h3,CE h4,CE h5,CE h6,nm_inj hx hy h7,h9]
theorem end_inj {x y:EndM} (hx:NmO x.nm) (hy:NmO y.nm) (h:endWd x=endWd y) (hw:x.ws=y.ws):x=y:=by
 unfold endWd at h
 simp only[List.map_cons,List.map_nil,List.cons_append,List.nil_append,List.cons.injEq,true_and] at h
 obtain⟨h1,h2,h3,h4,h5,h6,h7,h8⟩:=h
 have h9:=map_injP (P:=fun _=>True) (fun _ _ _ _ h=>CE h) _ _ (fun _ _=>trivial) (fun _ _=>trivial) h8
 obtain⟨_,_,_,_,_,_,_,_,_⟩:=x
 obtain⟨_,_,_,_,_,_,_,_,_⟩:=y
 simp only at *
 subst hw
 rw[CE h1,CE h2,CE h3,CE h4,CE h5,CE h6,nm_inj hx hy h7,h9]
theorem whenW_inj {x y:Bs×Int} (h:whenW x=whenW y):x=y:=by
 unfold whenW at h
 simp only[List.cons.injEq,true_and,and_true] at h
 exact Prod.ext h.1 (CE h.2)
structure BlkQ (b:BlkM):Prop where
 ins:∀i∈b.ins,NmO i.nm
 en:NmO b.en.nm
 ws:∀w∈b.en.ws,symOk w.1=true
theorem blkWs_inj {x y:BlkM} (hx:BlkQ x) (hy:BlkQ y) (h:blkWs x=blkWs y):x=y:=by
 unfold blkWs at h
 have hi:∀(l:List InsM),∀z∈l.map insW,(fun l:List Bs=>decide (l.head?=some bIns)) z=true:=by
  intro l z hz
  obtain⟨i,_,rfl⟩:=List.mem_map.1 hz
  rfl
 obtain⟨h1,h2⟩:=span_inj (fun l:List Bs=>decide (l.head?=some bIns)) _ _ _ _ (hi _) (hi _) (fun z hz=>by simp at hz;subst hz;rfl) (fun z hz=>by simp at hz;subst hz;rfl) h
 simp only[List.cons.injEq] at h2
 have h3:=map_injP (P:=fun i:InsM=>NmO i.nm) (fun _ _ a b c=>insW_inj a b c) _ _ hx.ins hy.ins h1
 have h4:=map_injP (P:=fun _=>True) (fun _ _ _ _ h=>whenW_inj h) _ _ (fun _ _=>trivial) (fun _ _=>trivial) h2.2
 have h5:=end_inj hx.en hy.en h2.1 h4
 obtain⟨_,_⟩:=x
 obtain⟨_,_⟩:=y
 simp only at h3 h5
 rw[h3,h5]
theorem blks_inj:∀(l m:List BlkM),(∀b∈l,BlkQ b)→(∀b∈m,BlkQ b)→(l.flatMap fun b=>[bBlk]::blkWs b)=(m.flatMap fun b=>[bBlk]::blkWs b)→l=m
 | [],[],_,_,_=>rfl
 | [],_::_,_,_,h=>by simp at h
 | _::_,[],_,_,h=>by simp at h
 | x :: l, y::m,hl,hm,h=>by
   simp only[List.flatMap_cons,List.cons_append,List.cons.injEq,true_and] at h
   have hb : ∀(b:BlkM),∀z∈blkWs b,(fun l:List Bs=> !decide (l=[bBlk])) z=true:=by
    intro b z hz
    unfold blkWs at hz
    rcases List.mem_append.1 hz with hz|hz
    · obtain ⟨i,_,rfl⟩:=List.mem_map.1 hz
      rfl
    · rcases List.mem_cons.1 hz with rfl|hz
      · rfl
      · obtain ⟨i,_,rfl⟩:=List.mem_map.1 hz
        rfl
   have ht:∀(l:List BlkM),∀z∈(l.flatMap fun b=>[bBlk]::blkWs b).head?,(fun l:List Bs=> !decide (l=[bBlk])) z=false:=by
    intro l z hz
    cases l with
    | nil=>simp at hz
    | cons b l=>simp at hz;subst hz;rfl
   obtain⟨h1,h2⟩:=span_inj (fun l:List Bs=> !decide (l=[bBlk])) _ _ _ _ (hb x) (hb y) (ht l) (ht m) h
   rw[blkWs_inj (hl x (.head _)) (hm y (.head _)) h1,blks_inj l m (fun z hz=>hl z (.tail _ hz)) (fun z hz=>hm z (.tail _ hz)) h2]
structure FlowQ (x:FlowM):Prop where
 nm:symOk x.nm=true
 raises:∀t∈x.raises,symOk t=true
 blks:∀b∈x.blks,BlkQ b
theorem wd_const {v:Bs} (h:v.all (fun c=>decide (33≤c.toNat))=true):Wd v:=wd_of fun c hc=>by
 have:=List.all_eq_true.1 h c hc
 simpa using this
theorem wd_dgs (l:List Int):∀v∈l.map dgT,Wd v:=fun v hv=>by
 obtain⟨n,_,rfl⟩:=List.mem_map.1 hv
 exact wd_dg n
theorem FlowQ.lines {x:FlowM} (h:FlowQ x):∀l∈flowWs x,l≠[]∧∀v∈l,Wd v:=by
 intro l hl
 unfold flowWs at hl
 have hb : ∀ b ∈ x.blks,l∈([bBlk]::blkWs b)→l≠[]∧∀v∈l,Wd v:=by
  intro b hb hl
  have hq:=h.blks b hb
  rcases List.mem_cons.1 hl with rfl|hl
  · exact⟨by simp,fun v hv=>by rw[List.mem_singleton.1 hv];exact wd_const rfl⟩
  · rcases List.mem_append.1 hl with hl|hl
    · obtain ⟨i,hi,rfl⟩:=List.mem_map.1 hl
      refine⟨by simp[insW],fun v hv=>?_⟩
      rcases List.mem_cons.1 hv with rfl|hv
      · exact wd_const rfl
      · rcases List.mem_append.1 hv with hv|hv
        · exact wd_dgs _ v hv
        · rcases List.mem_cons.1 hv with rfl|hv
          · exact wd_nm (hq.ins i hi)
          · exact wd_dgs _ v hv
    · rcases List.mem_cons.1 hl with rfl|hl
      · refine ⟨by simp[endWd],fun v hv=>?_⟩
        rcases List.mem_cons.1 hv with rfl|hv
        · exact wd_const rfl
        · rcases List.mem_append.1 hv with hv|hv
          · exact wd_dgs _ v hv
          · rcases List.mem_cons.1 hv with rfl|hv
            · exact wd_nm hq.en
            · exact wd_dgs _ v hv
      · obtain ⟨w,hw,rfl⟩:=List.mem_map.1 hl
        refine⟨by simp[whenW],fun v hv=>?_⟩
        simp only[whenW,List.mem_cons,List.not_mem_nil,or_false] at hv
        rcases hv with rfl|rfl|rfl
        · exact wd_const rfl
        · exact wd_sym (hq.ws w hw)
        · exact wd_dg _
 rcases List.mem_cons.1 hl with rfl|hl
 · refine ⟨by simp,fun v hv=>?_⟩
   simp only[List.mem_cons,List.not_mem_nil,or_false] at hv
   rcases hv with rfl|rfl|rfl|rfl
   · exact wd_const rfl
   · exact wd_sym h.nm
   · exact wd_dg _
   · exact wd_dg _
 · rcases List.mem_cons.1 hl with rfl|hl
   · refine ⟨by simp,fun v hv=>?_⟩
     rcases List.mem_cons.1 hv with rfl|hv
     · exact wd_const rfl
     · exact wd_dgs _ v hv
   · rcases List.mem_cons.1 hl with rfl|hl
     · refine ⟨by simp,fun v hv=>?_⟩
       rcases List.mem_cons.1 hv with rfl|hv
       · exact wd_const rfl
       · exact wd_sym (h.raises v hv)
     · obtain ⟨b,hb1,hb2⟩:=List.mem_flatMap.1 hl
       exact hb b hb1 hb2
theorem flowT_inj {x y:FlowM} (hx:FlowQ x) (hy:FlowQ y) (h:flowT x=flowT y):x=y:=by
 rw[flowT_lines,flowT_lines] at h
 have h1:=lines_inj _ _ hx.lines hy.lines h
 unfold flowWs at h1
 simp only[List.cons.injEq,true_and,and_true] at h1
 obtain⟨⟨h2,h3,h4⟩,h5,h6,h7⟩:=h1
 have h8:=map_injP (P:=fun _=>True) (fun _ _ _ _ h=>CE h) _ _ (fun _ _=>trivial) (fun _ _=>trivial) h5
 have h9:=blks_inj _ _ hx.blks hy.blks h7
 obtain⟨_,_,_,_,_,_⟩:=x
 obtain⟨_,_,_,_,_,_⟩:=y
 simp only at *
 rw[h2,CE h3,CE h4,h8,h6,h9]
theorem nmO_of {c:Bool} {s:Bs} (h1:(c && !symOk s)=false) (h2:(!c && decide (s≠[]))=false):NmO s:=by
 cases c
 · left;simpa using h2
 · right;simpa using h1
theorem insQ_of {n:Int} {x:InsM} (h:insR n x=true):NmO x.nm:=by
 unfold insR at h
 simp only at h
 split at h
 · cases h
 split at h
 · cases h
 split at h
 · cases h
 split at h
 · cases h
 rename_i c3
 simp only[Bool.not_eq_true,Bool.or_eq_false_iff] at c3
 exact nmO_of c3.1 c3.2
theorem endQ_of {n nb:Int} {x:EndM} (h:endR n nb x=true):NmO x.nm∧∀w∈x.ws,symOk w.1=true:=by
 unfold endR at h
 simp only at h
 split at h
 · cases h
 split at h
 · cases h
 split at h
 · cases h
 split at h
 · cases h
 rename_i c3
 split at h
 rotate_left
 · cases h
 simp only[Bool.not_eq_true,Bool.or_eq_false_iff] at c3
 obtain⟨⟨⟨n1,n2⟩,g1⟩,g2⟩:=c3
 refine⟨nmO_of n1 n2,?_⟩
 split at h
 · simp only[handlersR,Bool.and_eq_true] at h
   exact whens_w _ _ h.2
 · simp only[Bool.and_eq_true,decide_eq_true_eq] at h
   rw[List.length_eq_zero_iff.1 h.1]
   simp
theorem flowQ_of {x:FlowM} (h:chkOk x=true):FlowQ x:=by
 simp only[chkOk,Bool.and_eq_true] at h
 obtain⟨h0,h⟩:=h
 simp only[sndOk,Bool.and_eq_true,List.all_eq_true] at h
 obtain⟨⟨_,h10⟩,h11⟩:=h
 refine⟨h0,raises_w _ h10,fun b hb=>?_⟩
 have hb:=h11 b hb
 simp only[blkOk,Bool.and_eq_true,List.all_eq_true] at hb
 have he:=endQ_of hb.1.2
 exact⟨fun i hi=>insQ_of (hb.2 i hi),he.1,he.2⟩
end Go.Sl
namespace Go.Sl
theorem FlowX.flowL {x:FlowM} (h:FlowX x):FlowL x:=⟨h.len,fun b hb=>⟨(h.ins b hb).1,(h.en b hb).len.2.1,(h.en b hb).len.2.2,fun i hi=>((h.ins b hb).2 i hi).len.2⟩⟩
theorem decS_res (x:CodeM):0≤(decS x).1.res:=by
 unfold decS
 cases hd:decodeP x with
 | none=>exact Int.le_refl _
 | some g =>
   unfold decodeP at hd
   split at hd
   · cases hd
   · rename_i r hr
     simp only at hd
     split at hd
     · cases hd
       exact(decP_f (f:=r.1) (s:=r.2) hr).res.1
     · cases hd
theorem sym_len {s:Bs} (h:symOk s=true):s.length≤60:=(symOk_w h).2
theorem chk_nm {f:FlowM} (h:chkOk f=true):symOk f.nm=true:=by
 unfold chkOk at h
 rw[Bool.and_eq_true] at h
 exact h.1
theorem chk_X {f:FlowM} (h:chkOk f=true) (hres:0≤f.res):FlowX f:=flowX_of (chk_snd h) hres (by have:=sym_len (chk_nm h);omega)
end Go.Sl
namespace Go.Sl
open Go
theorem byv_set (B:Bs) (rst:List Value) (i:Nat) (h:i < B.length) {y:Int} (h0:0≤y) (h1:y≤255):((byv B++rst).toArray).setIfInBounds i (.int .u8 y)=(byv (B.set i (UInt8.ofNat y.toNat))++rst).toArray:=by
 apply Array.ext'
 rw[Array.toList_setIfInBounds,List.set_append_left _ _ (by simpa [byv] using h)]
 congr 1
 unfold byv
 rw[List.map_set,u8n _ Y9,show((y.toNat:Nat):Int)=y by omega]
theorem enc_front {f:FlowM} (h:(encS f).2=0) (hres:0≤f.res):codeP (out (sgFlow f))=some (namesS (zN (nmsOf (sgFlow f)).length) f []):=by
 have:=enc_code h hres (zN_len _) (zN_two _)
 rwa [raw_zN] at this
theorem front_bad {b:Bs} (h:∀f,codeP b≠some f):(frontS b).2=150:=by
 rcases frontS_err b with h1|h1
 · obtain ⟨f,hf⟩:=front_ok.1 h1
   exact absurd hf (h f)
 · exact h1
theorem short_code {f:FlowM} (h:(encS f).2=0) (hres:0≤f.res) {i:Nat} (hi:i < (out (sgFlow f)).length):(frontS ((out (sgFlow f)).take i)).2=150:=by
 refine front_bad fun g hg=>?_
 have h2:=enc_front h hres
 rw[←List.take_append_drop i (out (sgFlow f))] at h2
 have:=congrArg List.length (prefix_free hg h2)
 simp at this;omega
theorem long_code {f:FlowM} (h:(encS f).2=0) (hres:0≤f.res) (r:Bs):(frontS (out (sgFlow f)++r)).2=if r=[] then 0 else 150:=by
 split
 · rename_i hr
   subst hr
   rw[List.append_nil]
   exact front_ok.2 ⟨_,enc_front h hres⟩
 · rename_i hr
   exact front_bad fun g hg=>hr (prefix_free (enc_front h hres) hg)
theorem enc_out {f:FlowM} (h:(encS f).2=0):encS f=(⟨f.nm,out (sgFlow f),pl (sgFlow f) 0⟩,0):=(enc_ok2 h).2.2.2.2
theorem torn_code {f:FlowM} (h:(encS f).2=0) (hres:0≤f.res) {i:Nat} (hi:i < (out (sgFlow f)).length) {y:UInt8} (hd:(decS ⟨f.nm,(out (sgFlow f)).set i y,pl (sgFlow f) 0⟩).2=0):
 FlowX (decS ⟨f.nm,(out (sgFlow f)).set i y,pl (sgFlow f) 0⟩).1∧(decide (flowT f=flowT (decS ⟨f.nm,(out (sgFlow f)).set i y,pl (sgFlow f) 0⟩).1)=decide (y=(out (sgFlow f))[i])):=by
 have hr:=decS_res ⟨f.nm,(out (sgFlow f)).set i y,pl (sgFlow f) 0⟩
 obtain⟨h1,h2⟩:=dec_enc hd
 have hc:chkOk (decS ⟨f.nm,(out (sgFlow f)).set i y,pl (sgFlow f) 0⟩).1=true:=(enc_ok2 (by rw[h1])).1
 refine⟨chk_X hc hr,?_⟩
 have hcf:=(enc_ok2 h).1
 have he:=enc_out h
 have hdf:=enc_decS h hres
 rw[Bool.eq_iff_iff]
 simp only[decide_eq_true_eq]
 constructor
 · intro ht
   have:=flowT_inj (flowQ_of hcf) (flowQ_of hc) ht
   rw[←this,he] at h1
   simp only[Prod.mk.injEq,CodeM.mk.injEq,and_true,true_and] at h1
   have h3:=congrArg (·[i]?) h1
   simp only[List.getElem?_set_self hi,List.getElem?_eq_getElem hi,Option.some.injEq] at h3
   exact h3.symm
 · rintro rfl
   rw[List.set_getElem_self]
   rw[he] at hdf
   rw[hdf]
end Go.Sl
namespace Go.Sl
open Go Go.RowKit Go.Shelf Go.Proofs
attribute [local irreducible] Calls
section
variable {S:Nat→Prop} {w0:World} {F:List Ent}
theorem codeTorn_c {x:FlowM} {v mv:Value} {at_ y:Int} {more:Bs} (hK:FlowK S w0 F x v) (hI:FlowI x) (hM:SlK S w0 F (byv more) more.length mv) (hy:0≤y∧y≤255) (hP:PowF F):Yields S w0 F 8 [v,.int .i64 at_,.int .u8 y,mv] (.bool true):=by
 refine AD fun w hi=>?_
 simp only[List.nil_append] at hi
 obtain⟨r1,r2,r3,r4,r5,r6,rfl⟩:=hK.ex
 obtain⟨am,cm,rfl,hcm,hkm⟩:=id hM
 refine Ak Tryz.func8 rfl rfl (hi) ?_
 repeat refine Am ?_
 repeat' (first|refine Ah rfl ?_|refine Al ?_|refine Ab 0 ?_;try refine AK (cs:=(flowC x (.slice r1 x.regs.length r2) (.slice r3 x.raises.length r4) (.slice r5 x.blks.length r6))) rfl rfl rfl rfl (fun b4 hb4=>?_);try refine Za rfl (Aa N18 ?_))
 repeat refine Am ?_
 refine w_cutH (fun _:Unit=>[(1,.int .i64 at_),(2,.int .u8 y),(3,.slice am more.length cm),(4,pv b4 0),(8,.bool false)]) (fun _=>⟨b4,true,.cells (flowC x (.slice r1 x.regs.length r2) (.slice r3 x.raises.length r4) (.slice r5 x.blks.length r6)) 26 (0,0)⟩::F) (LitF x∧more.length≤500) ?_ ?_
 rotate_left
 · intro k' rest
   repeat' (first|refine Ah rfl ?_|refine Aj rfl ?_|refine Al ?_|refine Am ?_|refine A2 rfl ?_|refine CG rfl (fun h=>?_) (fun h=>?_)|refine AC ?_|refine AM Tryz.func8 rfl (fun w_ hi_=>?_)|refine Ab 1 ?_;try((refine Zv (AL (cs:=(flowC x (.slice r1 x.regs.length r2) (.slice r3 x.raises.length r4) (.slice r5 x.blks.length r6))) U26 rfl AN rfl (fun j h=>Kn.of Y13 (by rw[Nat.zero_add];exact Array.getElem?_eq_getElem h)) rfl) ?_)<;>try((refine AT (pre:=[]) (Take.nil _) (CallR.val rfl en11) rfl rfl (little_c (hK.up Y15)) ?_;rintro _ _ ⟨q,rfl,rfl,hq⟩;cases q)<;>try((first|refine Zv (BX rfl) ?_|refine Zv (Cm rfl) ?_)<;>try refine Zm rfl ?_;try((first|refine Zk ?_|refine Zm rfl ?_)<;>try((first|refine Zk ?_|refine Zv (Ar rfl U22 rfl) ?_)<;>try((first|refine Zk ?_|refine Zv (Bd rfl rfl Y2) ?_)<;>try((first|refine Zv (Au rfl rfl) ?_|refine Zv (A3 rfl rfl) ?_)<;>try refine Aa N18 ?_)))))))|refine Ab 2 ?_;try refine Zv (Av (CallR.val rfl en12) (wrote_c (hP.up Y15))) ?_;try refine Za rfl (Aa N18 ?_))
   all_goals first
    | exact⟨[],⟨rfl,rfl⟩,hi_.subset Y17⟩
    | exact Ay Y10 (rest ⟨hq rfl,by omega⟩ ())
 rintro⟨hL,hml⟩ _
 have hX:=hL.flowX hI
 have hres:=hI.rng.2.1
 have henc:=fun {F'} (hu:∀e∈F,e∈F')=>encN_c (hK.up hu) hL.flowL hres
 have hee:=encS_err x
 by_cases h0:(encS x).2=0
 rotate_left
 · repeat' (first|refine Ah rfl ?_|refine Aj rfl ?_|refine Al ?_|refine Am ?_|refine A2 rfl ?_|refine AM Tryz.func8 rfl (fun w_ hi_=>?_)|refine Ab 3 ?_;try((refine Zv (AL (cs:=(flowC x (.slice r1 x.regs.length r2) (.slice r3 x.raises.length r4) (.slice r5 x.blks.length r6))) U26 rfl AN rfl (fun j h=>Kn.of Y13 (by rw[Nat.zero_add];exact Array.getElem?_eq_getElem h)) rfl) ?_)<;>try((refine AT (pre:=[]) (Take.nil _) (CallR.val rfl en13) rfl rfl (henc Y20) ?_;rintro _ Y ⟨_,rfl,_,_,rfl,⟨a2,c2,rfl,hc2,hk2⟩,⟨a3,c3,rfl,hc3,hk3⟩⟩)<;>try refine Zm rfl (Zv (Af rfl rfl) (Zv (Af rfl rfl) ?_));try refine A4 inf31 rfl rfl rfl rfl (fun b_ hb_=>?_);try refine AH rfl rfl rfl sz31 Y3 Y16 rfl rfl ?_;try refine Za rfl (Aa N18 ?_)))|refine Ab 4 ?_;try refine Zm rfl (Zv (AU rfl rfl (by first|exact A1 Y9|exact Ax Y9|exact rfl)) ?_);try refine Zm rfl (Zk (Zk (Zk (Zk (Zv (Au rfl rfl) (Aa N18 ?_))))))|refine Ab 5 ?_;try refine Zv (Av (CallR.val rfl en12) (wrote_c (hP.up Y15))) ?_;try refine Za rfl (Aa N18 ?_))
   exact⟨[],⟨rfl,rfl⟩,hi_.subset Y17⟩
 have hen:=enc_out h0
 obtain⟨hck,hsn,hbl,hpl,_⟩:=enc_ok2 h0
 have hsh:=fun i hi=>short_code h0 hres (i:=i) hi
 have hlg:=long_code h0 hres more
 have hto:=fun {i} hi {y} hd=>torn_code h0 hres (i:=i) hi (y:=y) hd
 rw[hen] at henc
 clear hee hen
 generalize out (sgFlow x)=B at *
 generalize pl (sgFlow x) 0=P at *
 repeat refine Am ?_
 repeat' (first|refine Ah rfl ?_|refine Aj rfl ?_|refine Al ?_|refine Ab 3 ?_;try((refine Zv (AL (cs:=(flowC x (.slice r1 x.regs.length r2) (.slice r3 x.raises.length r4) (.slice r5 x.blks.length r6))) U26 rfl AN rfl (fun j h=>Kn.of Y13 (by rw[Nat.zero_add];exact Array.getElem?_eq_getElem h)) rfl) ?_)<;>try((refine AT (pre:=[]) (Take.nil _) (CallR.val rfl en13) rfl rfl (henc Y20) ?_;rintro _ Y ⟨_,rfl,_,_,rfl,⟨a2,c2,rfl,hc2,hk2⟩,⟨a3,c3,rfl,hc3,hk3⟩⟩)<;>try refine Zm rfl (Zv (Af rfl rfl) (Zv (Af rfl rfl) ?_));try refine A4 inf31 rfl rfl rfl rfl (fun b_ hb_=>?_);try refine AH rfl rfl rfl sz31 Y3 Y16 rfl rfl ?_;try refine Za rfl (Aa N18 ?_))))
 replace hc2:B.length≤c2:=hc2
 replace hc3:P.length≤c3:=hc3
 revert b_
 intro b9 hb9
 refine Ay (E':=[(1,.int .i64 at_),(2,.int .u8 y),(3,.slice am more.length cm),(4,pv b4 0),(8,.bool false),(9,pv b9 0),(10,.int .i64 0)]) Y14 ?_
 refine w_abs fun G hG hsG=>?_
 have m9:(⟨b9,true,.cells #[str x.nm,.slice a2 B.length c2,.slice a3 P.length c3] 31 (0,0)⟩:Ent)∈G:=hG _ (.head _)
 have m4:(⟨b4,true,.cells (flowC x (.slice r1 x.regs.length r2) (.slice r3 x.raises.length r4) (.slice r5 x.blks.length r6)) 26 (0,0)⟩:Ent)∈G:=hG _ (.tail _ (List.mem_append_right _ (.head _)))
 have hFG:∀e∈F,e∈G:=fun e h=>hG e (.tail _ (List.mem_append_right _ (.tail _ h)))
 have sB:SlK S w0 G (byv B) B.length (.slice a2 B.length c2):=SlK.up ⟨a2,c2,rfl,hc2,hk2⟩ fun e h=>hG e (.tail _ (List.mem_append_left _ h))
 have sP:SlK S w0 G (rowV plcC P) P.length (.slice a3 P.length c3):=SlK.up ⟨a3,c3,rfl,hc3,hk3⟩ fun e h=>hG e (.tail _ (List.mem_append_left _ h))
 have sM:=hM.up hFG
 have hs:F.Sublist G:=List.Sublist.trans Y17 hsG
 have hP':=hP.up hFG
 have hK':=hK.up hFG
 clear hG hsG hk2 hk3 hkm hM hK henc
 clear hP
 have hP:=hP'
 clear hP'
 repeat refine Am ?_
 refine w_cutH (fun _:Unit=>[(1,.int .i64 at_),(2,.int .u8 y),(3,.slice am more.length cm),(4,pv b4 0),(8,.bool false),(9,pv b9 0),(10,.int .i64 0)]) (fun _=>G) (B.length≤4000) ?_ ?_
 rotate_left
 · intro k' rest
   repeat' (first|refine Ah rfl ?_|refine Aj rfl ?_|refine Al ?_|refine Am ?_|refine CG rfl (fun h=>?_) (fun h=>?_)|refine AC ?_|refine AM Tryz.func8 rfl (fun w_ hi_=>?_)|refine Ab 4 ?_;try refine Zm rfl (Zv (AU rfl rfl (by first|exact A1 Y9|exact Ax Y9|exact rfl)) ?_);try refine Zm rfl (Zf CP rfl (Zv (Ac U22 rfl rfl m9 rfl) (Zv (Ar rfl U22 rfl) (Zv (Bd rfl rfl Y2) ?_))));try refine Zv (A3 rfl rfl) (Aa N18 ?_)|refine Ab 5 ?_;try refine Zv (Av (CallR.val rfl en12) (wrote_c (hP.up Y15))) ?_;try refine Za rfl (Aa N18 ?_))
   all_goals first
    | exact⟨[],⟨rfl,rfl⟩,hi_.subset Y17⟩
    | exact Ay Y10 (rest Y9 ())
 intro hb4k _
 repeat refine Am ?_
 refine w_cutH (fun _:{q:List Ent // (∀e∈G,e∈q)∧F.Sublist q}=>[(3,.slice am more.length cm),(8,.bool false),(9,pv b9 0)]) (fun q=>q.1) True ?_ ?_
 rotate_left
 · intro k' rest
   by_cases hat:0≤at_∧at_ < B.length
   rotate_left
   · by_cases hz:0≤at_
     · have hz2:¬at_ < B.length:=fun h=>hat ⟨hz,h⟩
       repeat' (first|refine Ah rfl ?_|refine Aj rfl ?_|refine Al ?_|refine A0 rfl ?_|refine AC ?_|refine Ab 6 ?_;try refine Zm rfl (Zv (Bh rfl rfl Y2) ?_);try refine Zm rfl (Zm rfl (Zf CP rfl (Zv (Ac U22 rfl rfl m9 rfl) (Zv (Ar rfl U22 rfl) (Zv (A9 rfl rfl Y2) ?_)))));try refine Zv (Au rfl rfl) (Aa N18 ?_))
       exact Ay Y10 (rest trivial ⟨G,fun _ h=>h,hs⟩)
     · repeat' (first|refine Ah rfl ?_|refine Aj rfl ?_|refine Al ?_|refine A0 rfl ?_|refine AC ?_|refine Ab 6 ?_;try refine Zm rfl (Zv (Bh rfl rfl Y2) ?_);try refine Zm rfl (Zk (Zk (Zk (Zk (Zk (Zv (A3 rfl rfl) (Aa N18 ?_))))))))
       exact Ay Y10 (rest trivial ⟨G,fun _ h=>h,hs⟩)
   obtain⟨hz,hz2⟩:=hat
   obtain⟨i,rfl⟩:=Int.eq_ofNat_of_zero_le hz
   have hi':i < B.length:=by omega
   repeat' (first|refine Ah rfl ?_|refine Aj rfl ?_|refine Al ?_|refine Am ?_|refine A2 rfl ?_|refine Ab 6 ?_;try refine Zm rfl (Zv (Bh rfl rfl Y2) ?_);try refine Zm rfl (Zm rfl (Zf CP rfl (Zv (Ac U22 rfl rfl m9 rfl) (Zv (Ar rfl U22 rfl) (Zv (A9 rfl rfl Y2) ?_)))));try refine Zv (Au rfl rfl) (Aa N18 ?_))
   obtain ⟨p2,o2,rfl,hkB⟩:∃p2 o2,a2=some ⟨p2,o2,none⟩∧∀j (h:j < (byv B).length),Kn S w0 G p2 (o2+j) (byv B)[j]:=by
    obtain⟨_,_,e,_,h⟩:=id sB
    cases e
    obtain⟨b,o,h1,h2⟩:=h.resolve_left (fun e=>by have:=congrArg List.length e;simp[byv] at this;rw[this] at hi';simp at hi')
    exact⟨b,o,h1,h2⟩
   have sT:SlK S w0 G (byv (B.take i)) (B.take i).length (.slice (some ⟨p2,o2,none⟩) i i):=by
    refine⟨_,_,by rw[List.length_take,Nat.min_eq_left Y9],Nat.le_of_eq (by rw[List.length_take,Nat.min_eq_left Y9]),.inr ⟨p2,o2,rfl,fun j hj=>?_⟩⟩
    have hj2:j < i:=by simp[byv] at hj;omega
    have:=hkB j (by simp[byv];omega)
    simpa [byv] using this
   have hfr:=fun {F'} (hu:∀e∈G,e∈F')=>front_c (sT.up hu) (by rw[List.length_take];omega) (hP.up hu)
   rw[hsh i hi'] at hfr
   generalize (frontS (B.take i)).1=fr at *
   repeat' (first|refine Ah rfl ?_|refine Aj rfl ?_|refine Al ?_|refine Ab 7 ?_;try refine Zf CP rfl ?_;try((refine Zv (Ac U22 rfl rfl (by repeat(first|exact m9|refine .tail _ ?_|refine List.mem_append_right _ ?_)) rfl) ?_)<;>try refine Zm rfl (Zm rfl ?_);try((refine Zv (ov_slice3n (b:=i) (c:=i) U22 sz5 rfl (fun z hz=>by cases hz;exact plain_add) rfl rfl (Nat.le_refl _) Y9) ?_)<;>try((refine AT (pre:=[]) (Take.nil _) (CallR.val rfl en27) rfl rfl (hfr Y20) ?_;rintro _ X7 ⟨_,rfl,⟨a7,c7,rfl,hc7,hk7⟩⟩)<;>try refine Zm rfl (Zv (Af rfl rfl) (Zv (Af rfl rfl) ?_));try refine A4 inf53 rfl rfl rfl rfl (fun b_ hb_=>?_);try refine AH rfl rfl rfl sz53 Y3 Y16 rfl rfl ?_;try refine Za rfl (Aa N18 ?_)))))
   revert b_
   intro b11 hb11
   refine Ay (E':=[(1,.int .i64 (i:Int)),(2,.int .u8 y),(3,.slice am more.length cm),(4,pv b4 0),(8,.bool false),(9,pv b9 0),(12,.int .i64 150)]) Y14 ?_
   refine CJ (H':=G) Y17 ?_
   clear hk7 hfr
   refine Am ?_
   repeat' (first|refine Ah rfl ?_|refine Aj rfl ?_|refine Al ?_|refine Ab 8 ?_;try((refine B2 U22 Di rfl rfl (fun bb_ hb_=>?_))<;>try refine Zf CP rfl ?_;try((refine Zv (Ac U22 rfl rfl (by repeat(first|exact m9|refine .tail _ ?_|refine List.mem_append_right _ ?_)) rfl) ?_)<;>try((refine wo_appendX (sz:=1) (xs:=[]) (rst:=[]) (new:=byv B) rfl rfl (sB.up Y15) U22 U22 rfl Di rfl Y22 rfl rfl rfl rfl (.head _) (by simp[byv]) (by simp[byv,okCell]) (Nat.le_refl _) (by show(2*(_+_)+192)*1≤_;omega) Y9 rfl rfl (fun b13 c13 q13 hl13 hc13=>?_))<;>try refine Za rfl (Aa N18 ?_)))))
   simp only[List.nil_append,Nat.zero_add] at hl13 hc13 ⊢
   refine Am ?_
   obtain⟨T,hT⟩:∃T,T=B.set i (UInt8.ofNat y.toNat):=⟨_,rfl⟩
   have hTl:T.length=B.length:=by rw[hT];simp
   have hst:∀(q:List Value),((byv B++q).toArray).setIfInBounds (0+((i:Nat):Int).toNat*1) (.int .u8 y)=(byv T++q).toArray:=fun q=>by
    rw[show 0+((i:Nat):Int).toNat*1=i by simp,hT];exact byv_set B q i hi' hy.1 hy.2
   have hsz:0+((i:Nat):Int).toNat*1 < ((byv B++q13).toArray).size:=by simp[byv];omega
   repeat' (first|refine Ah rfl ?_|refine Aj rfl ?_|refine Al ?_|refine Ab 9 ?_;try refine Zm rfl (Zm rfl (Zm rfl (Zv (Ao U22 sz5 rfl rfl Y9 Y9) ?_)));try refine AJ (v:=.int .u8 y) (c:=(byv B++q13).toArray) rfl rfl rfl sz5 Y3 hsz (.inr (Nat.zero_le _)) rfl rfl ?_;try refine Aa N18 ?_)
   rw[hst]
   refine Am ?_
   have sTo:∀ {F':List Ent},SlK S w0 (⟨b13,true,.cells (byv T++q13).toArray 5 (0,0)⟩::F') (byv T) T.length (.slice (some ⟨b13,0,none⟩) B.length c13):=fun {F'}=>by
    have:=SlK.own (S:=S) (w0:=w0) (cells:=byv T) (rst:=q13) (n:=B.length) (b:=b13) (el:=5) (F:=F') hc13
    rwa [←hTl] at this ⊢
   have hdc:∀ {F':List Ent},(∀e∈G,e∈F')→SLF Tryz.prog S w0 (⟨b13,true,.cells (byv T++q13).toArray 5 (0,0)⟩::F') 21 [.agg #[str x.nm,.slice (some ⟨b13,0,none⟩) B.length c13,.slice a3 P.length c3]] [] _:=fun {F'} hu=>decode_c (x:=⟨x.nm,T,P⟩) ⟨_,_,rfl,sTo,sP.up fun e h=>.tail _ (hu e h)⟩ (by show T.length≤_;omega) (by show P.length≤_;omega)
   have hto':=hto hi' (y:=UInt8.ofNat y.toNat)
   rw[←hT] at hto'
   have hde:=decS_err ⟨x.nm,T,P⟩
   generalize decS ⟨x.nm,T,P⟩=dg at *
   obtain⟨g,e⟩:=dg
   simp only at hde hto' hdc
   repeat' (first|refine Ah rfl ?_|refine Aj rfl ?_|refine Al ?_|refine Ab 10 ?_;try refine Zf fo31_0 rfl ?_;try((refine Zv (Ac U9 rfl rfl (by repeat(first|exact m9|refine .tail _ ?_|refine List.mem_append_right _ ?_)) rfl) ?_)<;>try refine Zm rfl (Zf C7 rfl ?_);try((refine Zv (Ac U29 rfl rfl (by repeat(first|exact m9|refine .tail _ ?_|refine List.mem_append_right _ ?_)) rfl) ?_)<;>try refine Zv (C4 pl31 inf31 rfl rfl rfl rfl rfl rfl rfl) ?_;try((refine AT (pre:=[]) (Take.nil _) (CallR.val rfl en21) rfl rfl (hdc (fun _ h=>h)) ?_;rintro _ X10 ⟨_,rfl,hf⟩;obtain⟨f1,f2,f3,f4,f5,f6,rfl⟩:=hf.ex)<;>try refine Zm rfl (Zv (Af rfl rfl) (Zv (Af rfl rfl) ?_));try refine A4 AN rfl rfl rfl rfl (fun b_ hb_=>?_);try refine AH rfl rfl (BD _ _ _ _ _ _ _ _ _ _) Cg Y3 (by rfl) rfl rfl ?_;try refine Za rfl (Aa N18 ?_)))))
   revert b_
   intro b14 hb14
   refine Ay (E':=[(1,.int .i64 (i:Int)),(2,.int .u8 y),(3,.slice am more.length cm),(4,pv b4 0),(8,.bool false),(9,pv b9 0),(12,.int .i64 150),(14,pv b14 0),(15,.int .i64 e)]) Y14 ?_
   refine w_abs fun G1 hG hsG=>?_
   have m14:(⟨b14,true,.cells (flowC g (.slice f1 g.regs.length f2) (.slice f3 g.raises.length f4) (.slice f5 g.blks.length f6)) 26 (0,0)⟩:Ent)∈G1:=hG _ (.head _)
   have hu1:∀e∈G,e∈G1:=fun e h=>hG e (.tail _ (List.mem_append_right _ (.tail _ h)))
   have hf1:=hf.up fun e h=>hG e (.tail _ (List.mem_append_left _ h))
   have hs1:F.Sublist G1:=List.Sublist.trans Y17 hsG
   have m4':=hu1 _ m4
   have m9':=hu1 _ m9
   have hK1:=hK'.up hu1
   have hkb:Kn S w0 G1 p2 (o2+((i:Nat):Int).toNat*1) (.int .u8 (B[i].toNat:Int)):=by
    have:=(hkB i (by simp[byv];omega)).mono hu1
    simpa [byv] using this
   rcases hde with rfl|rfl
   · obtain ⟨hXg,hsame⟩:=hto' rfl
     have hsm:Yields S w0 G1 23 [.agg (flowC x (.slice r1 x.regs.length r2) (.slice r3 x.raises.length r4) (.slice r5 x.blks.length r6)),.agg (flowC g (.slice f1 g.regs.length f2) (.slice f3 g.raises.length f4) (.slice f5 g.blks.length f6))] (.bool (decide (flowT x=flowT g))):=same_c hK1 hX hf1 hXg
     rw[hsame] at hsm
     clear hto' hsame hto hdc hG hsG hf sTo hst
     by_cases hyb:y=(B[i].toNat:Int)
     · have h1:UInt8.ofNat y.toNat=B[i]:=u8o _ Y9
       rw[decide_eq_true h1] at hsm
       repeat refine Am ?_
       repeat' (first|refine Ah rfl ?_|refine Aj rfl ?_|refine Al ?_|refine A0 rfl ?_|refine AC ?_|refine BW 11 rfl mixed Y1 ?_;try refine AG (Ai rfl) rfl rfl (AG (AU rfl rfl (by first|exact A1 Y9|exact Ax Y9|exact rfl)) rfl rfl ?_);try refine AG (Ai rfl) rfl rfl (AG (Ai rfl) rfl rfl (AG (AU rfl rfl (by first|exact A1 Y9|exact Ax Y9|exact rfl)) rfl rfl ?_));try refine AG (Ai rfl) rfl rfl (C8 rfl rfl (C8 rfl rfl (AG (A3 rfl rfl) rfl rfl (AG (A3 rfl rfl) rfl rfl (AG (Ai rfl) rfl rfl (AG (Ai rfl) rfl rfl (AG (Aw rfl rfl Y2) rfl rfl ?_)))))));try refine AG (Ai rfl) rfl rfl (AG (Ai rfl) rfl rfl (AG (Ad CP rfl) rfl rfl (AG (Ac U22 rfl rfl m9' rfl) rfl rfl (AG (Ai rfl) rfl rfl (AG (Ao U22 sz5 rfl rfl Y9 Y9) rfl rfl ?_)))));try refine AG (A6 U5 rfl rfl hkb) rfl rfl (AG (AU rfl rfl (by first|exact A1 Y9|exact Ax Y9|exact rfl)) rfl rfl ?_);try((refine AG (AL (cs:=(flowC x (.slice r1 x.regs.length r2) (.slice r3 x.raises.length r4) (.slice r5 x.blks.length r6))) U26 rfl AN rfl (fun j h=>Kn.of m4' (by rw[Nat.zero_add];exact Array.getElem?_eq_getElem h)) rfl) rfl rfl ?_)<;>try((refine AG (AL (cs:=(flowC g (.slice f1 g.regs.length f2) (.slice f3 g.raises.length f4) (.slice f5 g.blks.length f6))) U26 rfl AN rfl (fun j h=>Kn.of m14 (by rw[Nat.zero_add];exact Array.getElem?_eq_getElem h)) rfl) rfl rfl ?_)<;>try refine AG (Av (CallR.val rfl en23) hsm) rfl rfl (AG (ov_eqlB U4 rfl rfl) rfl rfl (AG (Au rfl rfl) rfl rfl (AG (A3 rfl rfl) rfl rfl (BV N18 ?_)))))))
       exact Ay Y10 (rest trivial ⟨G1,hu1,hs1⟩)
     · have h1:¬UInt8.ofNat y.toNat=B[i]:=fun h=>hyb (by rw[←h,u8n _ Y9];omega)
       rw[decide_eq_false h1] at hsm
       repeat refine Am ?_
       repeat' (first|refine Ah rfl ?_|refine Aj rfl ?_|refine Al ?_|refine A0 rfl ?_|refine AC ?_|refine BW 11 rfl mixed Y1 ?_;try refine AG (Ai rfl) rfl rfl (AG (AU rfl rfl (by first|exact A1 Y9|exact Ax Y9|exact rfl)) rfl rfl ?_);try refine AG (Ai rfl) rfl rfl (AG (Ai rfl) rfl rfl (AG (AU rfl rfl (by first|exact A1 Y9|exact Ax Y9|exact rfl)) rfl rfl ?_));try refine AG (Ai rfl) rfl rfl (C8 rfl rfl (C8 rfl rfl (AG (A3 rfl rfl) rfl rfl (AG (A3 rfl rfl) rfl rfl (AG (Ai rfl) rfl rfl (AG (Ai rfl) rfl rfl (AG (Aw rfl rfl Y2) rfl rfl ?_)))))));try refine AG (Ai rfl) rfl rfl (AG (Ai rfl) rfl rfl (AG (Ad CP rfl) rfl rfl (AG (Ac U22 rfl rfl m9' rfl) rfl rfl (AG (Ai rfl) rfl rfl (AG (Ao U22 sz5 rfl rfl Y9 Y9) rfl rfl ?_)))));try refine AG (A6 U5 rfl rfl hkb) rfl rfl (AG (AU rfl rfl (by first|exact A1 Y9|exact Ax Y9|exact rfl)) rfl rfl ?_);try((refine AG (AL (cs:=(flowC x (.slice r1 x.regs.length r2) (.slice r3 x.raises.length r4) (.slice r5 x.blks.length r6))) U26 rfl AN rfl (fun j h=>Kn.of m4' (by rw[Nat.zero_add];exact Array.getElem?_eq_getElem h)) rfl) rfl rfl ?_)<;>try((refine AG (AL (cs:=(flowC g (.slice f1 g.regs.length f2) (.slice f3 g.raises.length f4) (.slice f5 g.blks.length f6))) U26 rfl AN rfl (fun j h=>Kn.of m14 (by rw[Nat.zero_add];exact Array.getElem?_eq_getElem h)) rfl) rfl rfl ?_)<;>try refine AG (Av (CallR.val rfl en23) hsm) rfl rfl (AG (ov_eqlB U4 rfl rfl) rfl rfl (AG (Au rfl rfl) rfl rfl (AG (A3 rfl rfl) rfl rfl (BV N18 ?_)))))))
       exact Ay Y10 (rest trivial ⟨G1,hu1,hs1⟩)
   · clear hto' hto hdc hG hsG hf sTo hst
     repeat refine Am ?_
     have hsm:=trivial
     repeat' (first|refine Ah rfl ?_|refine Aj rfl ?_|refine Al ?_|refine A0 rfl ?_|refine AC ?_|refine BW 11 rfl mixed Y1 ?_;try refine AG (Ai rfl) rfl rfl (AG (AU rfl rfl (by first|exact A1 Y9|exact Ax Y9|exact rfl)) rfl rfl ?_);try refine AG (Ai rfl) rfl rfl (AG (Ai rfl) rfl rfl (AG (AU rfl rfl (by first|exact A1 Y9|exact Ax Y9|exact rfl)) rfl rfl ?_));try refine AG (Ai rfl) rfl rfl (AG (Ai rfl) rfl rfl (AG (AU rfl rfl (by first|exact A1 Y9|exact Ax Y9|exact rfl)) rfl rfl ?_));try refine AG (Au rfl rfl) rfl rfl (AG (A3 rfl rfl) rfl rfl (AG (Ai rfl) rfl rfl (AG (Ai rfl) rfl rfl (AG (Aw rfl rfl Y2) rfl rfl ?_))));try refine AG (Ai rfl) rfl rfl (C8 rfl rfl (C8 rfl rfl (C8 rfl rfl (C8 rfl rfl (C8 rfl rfl (C8 rfl rfl (C8 rfl rfl (C8 rfl rfl (C8 rfl rfl (C8 rfl rfl (C8 rfl rfl (AG (A3 rfl rfl) rfl rfl (AG (A3 rfl rfl) rfl rfl (BV N18 ?_)))))))))))))))
     exact Ay Y10 (rest trivial ⟨G1,hu1,hs1⟩)
 rintro _ ⟨G2,hu,hs2⟩
 simp only at hu hs2 ⊢
 replace m9:=hu _ m9
 replace sB:=sB.up hu
 replace sM:=sM.up hu
 replace hP:=hP.up hu
 clear hto hsh sP hK' m4 hFG hu hs
 clear G
 repeat refine Am ?_
 repeat' (first|refine Ah rfl ?_|refine Aj rfl ?_|refine Al ?_|refine Ab 13 ?_;try((refine B2 U22 Di rfl rfl (fun bb_ hb_=>?_))<;>try refine Zf CP rfl ?_;try((refine Zv (Ac U22 rfl rfl (by repeat(first|exact m9|refine .tail _ ?_|refine List.mem_append_right _ ?_)) rfl) ?_)<;>try((refine wo_appendX (sz:=1) (xs:=[]) (rst:=[]) (new:=byv B) rfl rfl (sB.up Y15) U22 U22 rfl Di rfl Y22 rfl rfl rfl rfl (.head _) (by simp[byv]) (by simp[byv,okCell]) (Nat.le_refl _) (by show(2*(_+_)+192)*1≤_;omega) Y9 rfl rfl (fun b13 c13 q13 hl13 hc13=>?_))<;>try refine Zm rfl ?_;try((refine wo_appendX (sz:=1) (xs:=[]++byv B) (rst:=q13) (new:=byv more) rfl rfl (sM.up Y15) U22 U22 rfl Di rfl Y22 rfl rfl (by simp[byv]) (by simpa using hl13) (.head _) (by simp[byv]) (by simp[byv,okCell]) hc13 (by show(2*(_+_)+192)*1≤_;omega) Y9 rfl rfl (fun b16 c16 q16 hl16 hc16=>?_))<;>try refine Za rfl (Aa N18 ?_))))))
 have sL:SlK S w0 (⟨b16,true,.cells ([]++byv B++byv more++q16).toArray 5 (0,0)⟩::G2) (byv (B++more)) (B++more).length (.slice (some ⟨b16,0,none⟩) (0+B.length+more.length) c16):=by
  have:=SlK.own (S:=S) (w0:=w0) (cells:=byv (B++more)) (rst:=q16) (n:=(B++more).length) (cap:=c16) (b:=b16) (el:=5) (F:=G2) (by simp;omega)
  simpa [byv] using this
 have hfr:=front_c sL (by simp;omega) (hP.up Y15)
 generalize frontS (B++more)=fr at *
 obtain⟨fr1,fr2⟩:=fr
 simp only at hlg hfr
 have hwr:∀ {F'},(∀e∈G2,e∈F')→Yields S w0 F' 12 [] (.bool true):=fun hu=>wrote_c (hP.up hu)
 clear sL sB sM
 by_cases hm0:more=[]
 · rw [if_pos hm0] at hlg
   subst hlg
   have hm1:more.length=0:=by rw[hm0];rfl
   repeat' (first|refine Ah rfl ?_|refine Aj rfl ?_|refine Al ?_|refine Am ?_|refine AM Tryz.func8 rfl (fun w_ hi_=>?_)|refine Ab 14 ?_;try refine Zm rfl ?_;try((refine AT (pre:=[]) (Take.nil _) (CallR.val rfl en27) rfl rfl hfr ?_;rintro _ X7 ⟨_,rfl,⟨a7,c7,rfl,hc7,hk7⟩⟩)<;>try refine Zm rfl (Zv (Af rfl rfl) (Zv (Af rfl rfl) ?_));try refine A4 inf53 rfl rfl rfl rfl (fun b_ hb_=>?_);try refine AH rfl rfl rfl sz53 Y3 Y16 rfl rfl ?_;try refine Za rfl (Aa N18 ?_))|refine Ab 15 ?_;try refine Zv (Av (CallR.val rfl en12) (hwr Y20)) ?_;try refine Zm rfl (Zm rfl (Zv (Aw rfl rfl Y2) ?_));try refine Zm rfl (Zv (Ar rfl U22 rfl) (Zv (Aw rfl rfl Y2) ?_));try refine Zv (ov_eqlB U4 rfl rfl) (Zv (Au rfl rfl) (Za rfl (Aa N18 ?_))))
   exact⟨[],⟨rfl,rfl⟩,hi_.subset Y17⟩
 · rw [if_neg hm0] at hlg
   subst hlg
   have hm1:¬((more.length:Nat):Int)=0:=by have:=List.length_pos_iff.2 hm0;omega
   repeat' (first|refine Ah rfl ?_|refine Aj rfl ?_|refine Al ?_|refine Am ?_|refine AM Tryz.func8 rfl (fun w_ hi_=>?_)|refine Ab 14 ?_;try refine Zm rfl ?_;try((refine AT (pre:=[]) (Take.nil _) (CallR.val rfl en27) rfl rfl hfr ?_;rintro _ X7 ⟨_,rfl,⟨a7,c7,rfl,hc7,hk7⟩⟩)<;>try refine Zm rfl (Zv (Af rfl rfl) (Zv (Af rfl rfl) ?_));try refine A4 inf53 rfl rfl rfl rfl (fun b_ hb_=>?_);try refine AH rfl rfl rfl sz53 Y3 Y16 rfl rfl ?_;try refine Za rfl (Aa N18 ?_))|refine Ab 15 ?_;try refine Zv (Av (CallR.val rfl en12) (hwr Y20)) ?_;try refine Zm rfl (Zm rfl (Zv (Aw rfl rfl Y2) ?_));try refine Zm rfl (Zv (Ar rfl U22 rfl) (Zv (Aw rfl rfl Y2) ?_));try refine Zv (ov_eqlB U4 rfl rfl) (Zv (Au rfl rfl) (Za rfl (Aa N18 ?_))))
   exact⟨[],⟨rfl,rfl⟩,hi_.subset Y17⟩
end
end Go.Sl
namespace Go.Proofs.YtnfpoclhmidpgaaGreatDoor
open Go Go.ChangeShapes Go.WideShapes Go.ChangeAt Go.RowKit Go.Sl
open Go.ChangeMaps (open_string shut_string)
theorem codeTorn_lifted (os:Os) (started:os.Started) (H:Type) (enc:TypeId×Value→H):
 ReturnsInHanded {} Tryz.checked os 8 .any (fun w args=>(Rows.codeTornSpec.pre enc Tryz.prog Tryz.f8 [] false w args∧laidMetH Tryz.prog laidL w)∧sizedMet enc Tryz.prog Tryz.f8 (OpenSpec.ofChange Rows.codeTornSpec) false w args)
  (Rows.codeTornSpec.post enc Tryz.prog Tryz.f8 false true false false):=by
 refine wrap started Y1 Tryz.func8 #[.agg #[.string ⟨#[]⟩,.int .i64 0,.int .u8 0,.slice none 0 0,.slice none 0 0,.slice none 0 0],.int .i64 0,.int .u8 0,.slice none 0 0] Y1 Y1 Y1 ?_
 intro W base args ds gs before hval hW hL hs
 have hW':=hW
 have hlt:=hW.lt
 obtain⟨p,q,hA0,hV,rfl,hfz,hnd⟩:=hW
 have hA:DataW.TrodAll enc Tryz.prog W 0 (fun _=>true) true Tryz.f8.params.toList args.toList ds p:=hA0
 rw[Tryz.params8] at hA hval
 obtain⟨v0,v1,v2,v3,d0,d1,d2,d3,p0,p1,p2,p3,rfl,rfl,rfl,h0,h1,h2,h3⟩:=trodAll_four hA
 obtain⟨rfl,rfl⟩:=trodVars_none hV
 have k0:=h0
 obtain⟨cs0,rfl,_⟩:=okWide_struct flow_fs (hval 0 26 v0 rfl rfl)
 obtain⟨f0,h0⟩:=h0
 obtain⟨m0,K0,g0⟩:=opn_flow h0
 replace K0:FlowK none_ W [] m0 (.agg cs0):=by simpa [Value.cells] using K0
 have k1:=h1
 obtain⟨a1,rfl,rfl,rfl,wa1⟩:=open_int Tryz.underlying3 (hval 1 3 v1 rfl rfl) h1
 have k2:=h2
 obtain⟨a2,rfl,rfl,rfl,wa2⟩:=open_int Tryz.underlying5 (hval 2 5 v2 rfl rfl) h2
 have w2:0≤a2∧a2≤255:=by simp[Lit.wf,IntKind.min,IntKind.max,IntKind.signed,IntKind.bits] at wa2;omega
 have k3:=h3
 obtain⟨a3,l3,c3,rfl⟩:=okWide_slice Tryz.underlying22 (hval 3 22 v3 rfl rfl)
 obtain⟨f3,h3⟩:=h3
 obtain⟨y3,e3,m3,K3⟩:=opn_bytes _ _ _ h3
 replace e3:Value.slice a3 l3 c3=y3:=by simpa [Value.cells] using e3
 subst e3
 have hc:=law_of (fun F hP=>codeTorn_c (at_:=a1) (K0.up (fun _ h=>by cases h)) g0 (K3.up (fun _ h=>by cases h)) w2 hP) hL
 refine hc.mono fun e W' ⟨he,hb⟩=>⟨_,he,_,_,_,[],_,[],hW',trodAll_mk1 (shut_bool Tryz.underlying4 _),trodAll_mk4 (Below.trod laidOut Y1 (of_decide_eq_true Y1) k0 hb fun x hx=>hlt x (by simp only[List.mem_append,hx,true_or,or_true])) (Below.trod laidOut Y1 (of_decide_eq_true Y1) k1 hb fun x hx=>hlt x (by simp only[List.mem_append,hx,true_or,or_true])) (Below.trod laidOut Y1 (of_decide_eq_true Y1) k2 hb fun x hx=>hlt x (by simp only[List.mem_append,hx,true_or,or_true])) (Below.trod laidOut Y1 (of_decide_eq_true Y1) k3 hb fun x hx=>hlt x (by simp only[List.mem_append,hx,true_or,or_true])),rfl,hb.frame _,fun h=>by cases h⟩
theorem codeTorn_holds:Rows.CodeTornSaid:=
 OpenClaim.holds_of_wide 8 Tryz.f8 rfl rfl rfl rfl rfl rfl rfl ⟨rfl,rfl,rfl,rfl,rfl⟩ rfl rfl rfl rfl rfl Y1 Tryz.func8 Y1
  (of_decide_eq_true Y1) (by unfold Func.isWrapper;first|rw[if_pos (by decide +kernel)];kernel_rfl|rw[if_neg (by decide +kernel)];exact⟨rfl,rfl⟩)
  (fun os started H enc _=>codeTorn_lifted os started H enc)
theorem codeTorn_card:Rows.CodeTornCardSaid:=
 Claim7.holds_tied_plain_at .later [] [.data,.data,.data] true (true,"38cb48cba00e4f9beffe54e56f5b75e9fd5ad66057cdb564375641c327a061fb") true
  codeTorn_holds (fun _ h=>by cases h) Y1 (fun _ h=>by cases h) codeTorn_row_tie rfl ⟨rfl,rfl⟩ Y1 rfl
  (fun f fn hf hfn=>by
   obtain rfl:f=8:=Option.some.inj ((show Tryz.prog.funcNamed "trestle/trestlelaw15.CodeTorn" = some 8 by kernel_rfl).symm.trans hf)|>.symm
   obtain rfl:fn=Tryz.f8:=(Option.some.inj (Tryz.func8.symm.trans hfn)).symm
   exact ⟨by kernel_rfl,fun j t ht=>by
    have hall:(Tryz.f8.params.toList.all fun u=> !Tryz.prog.wantsStandIn u)=true:=by kernel_rfl
    have hm:t∈Tryz.f8.params.toList:=by simpa using Array.mem_of_getElem? ht
    exact(show Tryz.prog.wantsStandIn t=false by simpa using List.all_eq_true.1 hall t hm)⟩)
  Y1
end Go.Proofs.YtnfpoclhmidpgaaGreatDoor
