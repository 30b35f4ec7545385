/- Of the proof that this claim's last text ends. -/
import Derived.Test.YtnfpoclhmidpgaaGreatDoorR1
set_option maxRecDepth 100000
set_option maxHeartbeats 8000000
set_option linter.unusedSimpArgs false
set_option linter.unusedVariables false
namespace Go.Sl
open Go Go.RowKit Go.Shelf Go.Proofs
attribute [local irreducible] Calls
section
variable {S:Nat→Prop} {w0:World} {σ:Type} (cd:Cod S w0 σ) {F:List Ent} {s:σ} {L:List Ent} (hE:cd.env F) (hs:cd.St s L)
include hE hs
theorem ione_c {A B:List Value} {b:Nat} {x:InsM} {av:Value} {el:TypeId} (hA:ArgsK S w0 F x.args av) (hm:x.args.length≠1∨cd.K∧∀n s n' s',cd.κ.num n 2 s=.ok (n',s')→n'=n) (hf:ltI cd.κ .one x s≠.full):
 SLF Tryz.prog S w0 F 130 [wkV cd,pv b A.length] (L++[⟨b,true,.cells (A++(insC x av++B)).toArray el (0,0)⟩]) (MoO (ltI cd.κ .one x s) fun a v post=>v=unitV∧∃L' X av',cd.St a.2 L'∧post=L'++(⟨b,true,.cells (A++(insC a.1 av'++B)).toArray el (0,0)⟩::X)∧SlS S w0 intsV X a.1.args x.args av' av):=by
 refine AE fun w hi=>?_
 simp only[List.append_assoc,List.cons_append,List.nil_append] at hi
 obtain⟨a,cap,rfl,hcap,hk⟩:=hA
 have g7:((A++(insC x (.slice a x.args.length cap)++B)).toArray)[A.length+7]?=some (.slice a x.args.length cap):=BD (j:=7) (R:=insC x (.slice a x.args.length cap)) (show 7 < 8 by decide) rfl
 have st:∀v u,((A++(insC x v++B)).toArray).setIfInBounds (A.length+7) u=(A++(insC x u++B)).toArray:=fun v u=>BH (R:=insC x v) (show 7 < 8 by decide) u
 have h7:A.length+7 < ((A++(insC x (.slice a x.args.length cap)++B)).toArray).size:=by
  simp only[List.size_toArray,List.length_append];show A.length+7 < A.length+(8+B.length);omega
 by_cases hl:x.args.length=1
 · obtain ⟨hK,hm'⟩:=hm.resolve_left (fun h=>h hl)
   obtain ⟨n,hn⟩:∃n,x.args=[n]:=by
    match x.args,hl with
    | [n],_=>exact⟨n,rfl⟩
   obtain⟨bb,off,rfl,hk2⟩:=hk.resolve_left (by rw[hn];simp[intsV])
   have hk0:Kn S w0 F bb (off+0*1) (.int .i64 n):=by
    have:=hk2 0 (by rw[hn];simp[intsV])
    simpa [hn,intsV] using this
   have hr:ltI cd.κ .one x s=(cd.κ.num n 2 s).bind fun r=>.ok ({x with args:=[r.1]},r.2):=by rw[ltI,hn,arg1]
   rw[hr] at hf ⊢
   simp only[hl] at g7 hi hcap h7
   refine Ak Tryz.func130 rfl rfl (hi) ?_
   repeat' (first|refine Ag rfl ?_|refine Aj rfl ?_|refine Al ?_|refine An ?_|refine Az rfl ?_|refine AB ?_|refine Bp Tryz.func130 rfl (fun w_ hi_=>?_)|refine Ab 0 ?_;try refine AL rfl rfl rfl rfl (fun b_ hb_=>?_);try refine Aa N28 ?_|refine Ab 1 ?_;try refine Zm rfl (Zv (Ah rfl) (Zf CO rfl (Zv (Ac U59 rfl rfl Y0 Y4) ?_)));try refine Zv (Ap rfl U59 rfl) (Zv (AN rfl rfl (by first|exact Ax Y9|exact As Y9|exact rfl)) ?_);try refine Aa N28 ?_|refine Bg (id:=3) 6 rfl mixed Y1 ?_;try refine A4 (AW U113 rfl BB rfl Y0 Y15) rfl rfl ?_;try refine A4 (Ai rfl) rfl rfl (A4 (Ah rfl) rfl rfl (A4 (Ad CO rfl) rfl rfl (A4 (Ac U59 rfl rfl Y0 Y4) rfl rfl ?_)));try refine A4 (Am U59 sz3 rfl rfl Y9 Y9) rfl rfl ?_;try refine Bf ?_;try((refine AU (pre:=L++[]) (Take.join Y7 (Take.nil _)) (CallR.val rfl en147) rfl rfl (CA cd (b:=bb) (o:=off+0*1) (Lp':=fun _=>[]) (by repeat(first|exact hE|apply cd.envC|apply cd.envA)) hs (Out.nf hf) (fun n' s' e=>by obtain rfl:=hm' _ _ _ _ e;exact .kn hK (by repeat(first|exact hk0|apply Kn.cons|apply Kn.app)))) (fun e=>AR Tryz.func130 (by simp only[e,Out.bind]) Y5) ?_;rintro⟨n',s'⟩ e1 v post ⟨rfl,L',hs',rfl⟩)<;>try refine Aa N28 ?_))
   obtain rfl:=hm' _ _ _ _ e1
   have hx:{x with args:=[n']}=x:=by rw[←hn]
   simp only[List.append_nil] at hi_
   refine⟨_,Bo (by simp only[e1,Out.bind];rfl) ⟨rfl,L',[],.slice (some ⟨bb,off,none⟩) 1 cap,hs',rfl,?_⟩,?_⟩
   · rw[hx];exact .inl ⟨rfl,by rw[hl]⟩
   · rw [hx]
     exact hi_.pick (F:=F) (Take.join Y7 Y6) Y5
 · have hr:ltI cd.κ .one x s=(cd.κ.num 0 2 s).bind fun r=>.ok ({x with args:=[r.1]},r.2):=by
    simp only[ltI,arg1_ne hl]
   rw[hr] at hf ⊢
   have hl':¬((x.args.length:Int)=1):=by omega
   refine Ak Tryz.func130 rfl rfl (hi) ?_
   repeat' (first|refine Ag rfl ?_|refine Aj rfl ?_|refine Al ?_|refine An ?_|refine A5 rfl ?_|refine Bp Tryz.func130 rfl (fun w_ hi_=>?_)|refine Ab 0 ?_;try refine AL rfl rfl rfl rfl (fun b_ hb_=>?_);try refine Aa N28 ?_|refine Ab 1 ?_;try refine Zm rfl (Zv (Ah rfl) (Zf CO rfl (Zv (Ac U59 rfl rfl Y0 Y4) ?_)));try refine Zv (Ap rfl U59 rfl) (Zv (AN rfl rfl (by first|exact Ax Y9|exact As Y9|exact rfl)) ?_);try refine Aa N28 ?_|refine Ab 2 ?_;try refine Zm rfl ?_;try((refine C4 (n:=1) (zs:= #[.int .i64 0]) rfl rfl U59 Cl rfl rfl rfl rfl Y22 Y22 (Nat.le_of_ble_eq_true rfl) Y22 rfl rfl (fun bb hbb=>?_))<;>try refine Zv (Ah rfl) (Zf CO rfl ?_);try((refine AK rfl rfl rfl sz59 Y3 h7 (.inr (Nat.zero_le _)) rfl rfl ?_;rw[st];have g7':((A++(insC x (.slice (some ⟨bb,0,none⟩) 1 1)++B)).toArray)[A.length+7]?=some (.slice (some ⟨bb,0,none⟩) 1 1):=BD (j:=7) (R:=insC x (.slice (some ⟨bb,0,none⟩) 1 1)) (show 7 < 8 by decide) rfl)<;>try refine Aa N28 ?_))|refine Bg (id:=3) 6 rfl mixed Y1 ?_;try refine A4 (AW U113 rfl BB rfl Y0 Y15) rfl rfl ?_;try refine A4 (Ai rfl) rfl rfl (A4 (Ah rfl) rfl rfl (A4 (Ad CO rfl) rfl rfl (A4 (Ac U59 rfl rfl Y0 Y4) rfl rfl ?_)));try refine A4 (Am U59 sz3 rfl rfl Y9 Y9) rfl rfl ?_;try refine Bf ?_;try((refine CJ cd (o:=0) (gv:=fun n=>.int .i64 n) Y7 Y6 (CallR.val rfl en147) rfl rfl (CA cd (by repeat(first|exact hE|apply cd.envC|apply cd.envA)) hs (Out.nf hf) (fun n' s' _=>.own _ _ _ rfl)) (fun e=>AR Tryz.func130 (by simp only[e,Out.bind]) Y5) (fun n' s' e1 L' hs'=>?_))<;>try refine Aa N28 ?_))
   refine⟨_,Bo (by simp only[e1,Out.bind];rfl) ⟨rfl,L',[⟨bb,true,.cells #[.int .i64 n'] 3 (0,0)⟩],.slice (some ⟨bb,0,none⟩) 1 1,hs',rfl,?_⟩,?_⟩
   · refine .inr ⟨_,1,rfl,by simp,.inr ⟨bb,0,rfl,?_⟩⟩
     intro i h
     have h0:i=0:=by simp[intsV] at h;exact h
     subst h0
     exact Kn.of (.head _) (by simp[intsV])
   · exact hi_.pick (ps:=L'++[_,_]) (F:=F) (Take.join Y7 Y6) Y5
end
end Go.Sl
namespace Go.Sl
open Go Go.RowKit Go.Shelf Go.Proofs
attribute [local irreducible] Calls
theorem CX {C:Cx} {S:Nat→Prop} {w0:World} {k:List Item} {D:List Deferred} {E:List (Nat×Value)} {H A R1 R2 F:List Ent} {e:Ent} (h:Take H A R1) (h2:Take R1 [e] R2) (hs:F.Sublist R2) (hk:WF C S w0 k D E (A++(e::F))):WF C S w0 k D E H:=by
 have:=w_pick (h.join h2) hs (C:=C) (S:=S) (w0:=w0) (k:=k) (D:=D) (E:=E) (by rw[List.append_assoc];exact hk)
 exact this
theorem wo_dyn {C:Cx} {S:Nat→Prop} {w0:World} {k:List Item} {D:List Deferred} {E:List (Nat×Value)} {H:List Ent} {d:Option Tmp} {t:TypeId} {p:String} {af:Array Edge} {g:Option (Nat×Bool)} {ops:Array Oper} {rest:List Oper} {α:Type} {r:Out α} {G:α→Value→List Ent→Prop} {c:Call} {f:FuncId} {vs:List Value} {pre F:List Ent} (hp:Take H pre F) (hc:CallR C D E ⟨d,.call c,t,p,af,g⟩ f vs) (hg:guardOk E ops ⟨d,.call c,t,p,af,g⟩=some true) (hd:dstOk d C.n=true)
 (h:SLF C.P S w0 F f vs pre (MoO r G)) (hn:r=.bad→WP C S w0 badE D [] F)
 (hk:∀a,r=.ok a→∀v post,G a v post→WO C S w0 ops rest k D (putE d v E) (post++F)):WO C S w0 ops (⟨d,.call c,t,p,af,g⟩::rest) k D E H:=AU hp hc hg hd h hn hk
section
variable {S:Nat→Prop} {w0:World} {σ:Type} (cd:Cod S w0 σ) {F:List Ent} {s:σ} {L:List Ent} (hE:cd.env F) (hs:cd.St s L)
include hE hs
theorem list_byte_c {α:Type} {b o m cap sz:Nat} {a0:Option Addr} {c:Array Value} {el:TypeId} (hc:c[o]?=some (.slice a0 m cap)) (l:List α) (hml:l.length=m) (z:α) (step:α→σ→Out (α×σ)) (hsz:sz=1∨sz=2∨sz=4)
 (fv:Value) (f:FuncId) (gv:Value→List Value) (hgo:∀p,GoesTo Tryz.prog fv [p] f (gv p)) (hen:Enters Tryz.prog f) (T:Value→List α→List α→σ→List Ent→Prop) (Lx:List Ent)
 (hm:(∀n' s',cd.κ.num m sz s=.ok (n',s')→n'=m)∨l=[]∧Lx=[])
 (start:∀s' L',cd.κ.num m sz s=.ok ((m:Int),s')→cd.St s' L'→T (.slice a0 m cap) [] l s' (L'++Lx))
 (startN:∀(n:Nat) s' L' bb,cd.κ.num m sz s=.ok ((n:Int),s')→0 < n→cd.St s' L'→T (.slice (some ⟨bb,0,none⟩) n n) [] (List.replicate n z) s' (L'++[⟨bb,true,.cells (rowV (fun _:Unit=>[.int .u8 0]) (List.replicate n ())).toArray 5 (0,0)⟩]))
 (room:∀n' s',cd.κ.num m sz s=.ok (n',s')→n'≤65535) (hm4:m < 4294967296)
 (ata:∀hv d x r s L,T hv d (x::r) s L→∃bb off cp,hv=.slice (some ⟨bb,off,none⟩) (d.length+(r.length+1)) cp)
 (each:∀F2,(∀e∈F,e∈F2)→∀bb off cp d x r s L,T (.slice (some ⟨bb,off,none⟩) (d.length+(r.length+1)) cp) d (x::r) s L→∀q,q=off+d.length*1→step x s≠.full→SLF Tryz.prog S w0 F2 f (gv (pv bb q)) L (MoO (step x s) fun a v post=>v=unitV∧T (.slice (some ⟨bb,off,none⟩) (d.length+(r.length+1)) cp) (d++[a.1]) r a.2 post))
 (hf:lst cd.κ sz z step l s≠.full):
 SLF Tryz.prog S w0 F 91 [wkV cd,pv b o,.int .i64 (sz:Int),fv] (L++(Lx++[⟨b,true,.cells c el (0,0)⟩])) (MoO (lst cd.κ sz z step l s) fun a v post=>v=unitV∧∃hv Lr,T hv a.1 [] a.2 Lr∧post=Lr++[⟨b,true,.cells (c.setIfInBounds o hv) el (0,0)⟩]):=by
 refine AE fun w hi=>?_
 simp only[List.append_assoc,List.cons_append,List.nil_append] at hi
 have hlt:o < c.size:=by rw[Array.getElem?_eq_some_iff] at hc;exact hc.1
 have hset:c.setIfInBounds o (.slice a0 m cap)=c:=by
  rw[Array.getElem?_eq_some_iff] at hc
  obtain⟨h1,h2⟩:=hc
  rw[Array.setIfInBounds_def,dif_pos h1,←h2]
  simp
 subst hml
 have hf':=hf
 unfold lst at hf'
 cases hnum:cd.κ.num (l.length:Int) sz s with
 | full=>exact absurd hnum (Out.nf hf')
 | bad=>
   refine Ak Tryz.func91 rfl rfl (hi) ?_
   repeat' (first|refine Ag rfl ?_|refine Aj rfl ?_|refine Al ?_|refine An ?_|refine Ab 0 ?_;try refine AL rfl rfl rfl rfl (fun b_ hb_=>?_);try refine Aa N0 ?_|refine Ab 1 ?_;try refine Zm rfl (Zv (Ah rfl) (Zv (Ac U22 rfl rfl Y0 Y4) ?_));try refine Zv (Ap rfl U22 rfl) ?_;try refine A8 Cl rfl rfl rfl rfl (fun b_ hb_=>?_);try refine AT rfl rfl rfl sz3 Y3 rfl rfl ?_;try refine Aa N0 ?_|refine Ab 2 ?_;try refine Zf Bd rfl (Zv (Ac U111 rfl rfl Y0 Y4) ?_);try refine Zm rfl ?_;try((refine BT cd (sz:=sz) (n:=(l.length:Int)) Y7 Y6 rfl rfl rfl rfl rfl rfl (by repeat(first|exact hE|apply cd.envC|apply cd.envA)) hs hsz (Out.nf hf) (fun e=>AR Tryz.func91 (by simp only[lst,e,Out.bind]) Y5) (fun n2 s2 e1 L' hs'=>?_);rw[hnum] at e1;cases e1)<;>try refine Aa N0 ?_))
 | ok r=>
 obtain⟨n',s'⟩:=r
 have hroom:=room _ _ hnum
 by_cases hneg:n' < 0
 · have hr:lst cd.κ sz z step l s=.bad:=by simp only[lst,hnum,Out.bind,if_pos hneg]
   refine Ak Tryz.func91 rfl rfl (hi) ?_
   repeat' (first|refine Ag rfl ?_|refine Aj rfl ?_|refine Al ?_|refine An ?_|refine Ab 0 ?_;try refine AL rfl rfl rfl rfl (fun b_ hb_=>?_);try refine Aa N0 ?_|refine Ab 1 ?_;try refine Zm rfl (Zv (Ah rfl) (Zv (Ac U22 rfl rfl Y0 Y4) ?_));try refine Zv (Ap rfl U22 rfl) ?_;try refine A8 Cl rfl rfl rfl rfl (fun b_ hb_=>?_);try refine AT rfl rfl rfl sz3 Y3 rfl rfl ?_;try refine Aa N0 ?_|refine Ab 2 ?_;try refine Zf Bd rfl (Zv (Ac U111 rfl rfl Y0 Y4) ?_);try refine Zm rfl ?_;try((refine BT cd (sz:=sz) (n:=(l.length:Int)) Y7 Y6 rfl rfl rfl rfl rfl rfl (by repeat(first|exact hE|apply cd.envC|apply cd.envA)) hs hsz (Out.nf hf) (fun e=>by rw[hnum] at e;cases e) (fun n2 s2 e1 L' hs'=>?_);rw[hnum] at e1;cases e1)<;>try refine Aa N0 ?_)|refine Ab 3 ?_;try refine Zv (Ac U3 rfl rfl Y0 Y4) ?_;try refine Zv (Bj rfl rfl Y2) ?_;try((refine AU (Take.nil _) (CallR.val rfl en79) rfl rfl (Cb false) (fun e=>AR Tryz.func91 hr Y5) ?_;rintro u e v post ⟨rfl,rfl⟩;cases e)<;>try refine Aa N0 ?_))
 by_cases hsame:n'=l.length
 · subst hsame
   have hl:lst cd.κ sz z step l s=iter step l s':=by simp only[lst,hnum,Out.bind,if_neg hneg,if_true]
   refine Ak Tryz.func91 rfl rfl (hi) ?_
   repeat' (first|refine Ag rfl ?_|refine Aj rfl ?_|refine Al ?_|refine An ?_|refine Az rfl ?_|refine A6 ?_|refine AB ?_|refine Ab 0 ?_;try refine AL rfl rfl rfl rfl (fun b_ hb_=>?_);try refine Aa N0 ?_|refine Ab 1 ?_;try refine Zm rfl (Zv (Ah rfl) (Zv (Ac U22 rfl rfl Y0 Y4) ?_));try refine Zv (Ap rfl U22 rfl) ?_;try refine A8 Cl rfl rfl rfl rfl (fun b_ hb_=>?_);try refine AT rfl rfl rfl sz3 Y3 rfl rfl ?_;try refine Aa N0 ?_|refine Ab 2 ?_;try refine Zf Bd rfl (Zv (Ac U111 rfl rfl Y0 Y4) ?_);try refine Zm rfl ?_;try((refine BT cd (sz:=sz) (n:=(l.length:Int)) Y7 Y6 rfl rfl rfl rfl rfl rfl (by repeat(first|exact hE|apply cd.envC|apply cd.envA)) hs hsz (Out.nf hf) (fun e=>by rw[hnum] at e;cases e) (fun n2 s2 e1 L' hs'=>?_);rw[hnum] at e1;cases e1)<;>try refine Aa N0 ?_)|refine Ab 3 ?_;try refine Zv (Ac U3 rfl rfl Y0 Y4) ?_;try refine Zv (Bj rfl rfl Y2) ?_;try((refine AU (Take.nil _) (CallR.val rfl en79) rfl rfl (Cb true) (fun e=>by cases e) ?_;rintro u e v post ⟨rfl,rfl⟩)<;>try refine Aa N0 ?_)|refine BL 4 rfl mixed Y1 ?_;try refine A3 (Ac U3 rfl rfl Y0 Y4) rfl rfl ?_;try refine A3 (Ai rfl) rfl rfl (A3 (Ah rfl) rfl rfl (A3 (Ac U22 rfl rfl Y0 Y4) rfl rfl ?_));try refine A3 (Ap rfl U22 rfl) rfl rfl (A3 (AN rfl rfl (by first|exact Ax Y9|exact As Y9|exact rfl)) rfl rfl ?_);try refine BJ N0 ?_|refine Ab 6 ?_;try refine Zm rfl (Zv (Ah rfl) (Zv (Ac U22 rfl rfl Y0 Y4) ?_));try refine Zv (Ap rfl U22 rfl) (Zm rfl (Aa N0 ?_)))
   have hT0:=start s' L' hnum hs'
   simp only[List.nil_append]
   refine CX (A:=L'++Lx) (e:=⟨b,true,.cells c el (0,0)⟩) (F:=F) (Take.join Y7 Y7) Y6 Y5 ?_
   refine A1 (E':=(fun q:Nat×List α×List α×σ×List Ent=>[(1,pv b o),(3,fv),(34,.int .i64 (l.length:Nat)),(35,.int .i64 (q.1:Int))]) (0,[],l,s',L'++Lx)) Y14 ?_
   refine Bb (fun q:Nat×List α×List α×σ×List Ent=>T (.slice a0 l.length cap) q.2.1 q.2.2.1 q.2.2.2.1 q.2.2.2.2∧q.2.1.length=q.1∧q.1+q.2.2.1.length=l.length∧iter step l s'=(iter step q.2.2.1 q.2.2.2.1).bind fun r=>.ok (q.2.1++r.1,r.2)) (fun q=>q.2.2.1.length) (fun q:Nat×List α×List α×σ×List Ent=>[(1,pv b o),(3,fv),(34,.int .i64 (l.length:Nat)),(35,.int .i64 (q.1:Int))]) (fun q=>q.2.2.2.2++(⟨b,true,.cells c el (0,0)⟩::F)) ?_ (0,[],l,s',L'++Lx) ⟨hT0,rfl,by simp only[List.length_replicate];omega,by cases iter step l s'<;>rfl⟩
   rintro⟨i,dn,td,s2,L2⟩ ⟨hT,hdl,hn,hit⟩ ih
   dsimp only at hT hdl hn hit ih ⊢
   cases td with
   | nil=>
     have hi0:i=l.length:=by simpa using hn
     subst hi0
     repeat' (first|refine Ag rfl ?_|refine Al ?_|refine An ?_|refine Az rfl ?_|refine Bl rfl ?_|refine Bp Tryz.func91 rfl (fun w_ hi_=>?_)|refine Ab 7 ?_;try refine Zv (A7 rfl rfl Y2) ?_;try refine Aa N0 ?_)
     refine⟨_,Bo (by rw[hl,hit];simp only[iter,Out.bind,List.append_nil];rfl) ⟨rfl,_,L2,hT,rfl⟩,?_⟩
     rw[hset]
     exact hi_.pick (F:=F) (Take.join Y7 Y6) Y5
   | cons x td=>
     have hlt:(i:Int) < (l.length:Nat):=by simp only[List.length_cons] at hn;omega
     obtain⟨bb2,off2,cp2,hva⟩:=ata _ _ _ _ _ _ hT
     have hva2:=hva
     rw[show dn.length+(td.length+1)=l.length by simp only[List.length_cons] at hn;omega] at hva2
     cases hva2
     rw[hl,hit,iter] at hf
     have hnf:=Out.nf (Out.nf hf)
     repeat' (first|refine Ag rfl ?_|refine Aj rfl ?_|refine Al ?_|refine An ?_|refine A5 rfl ?_|refine A6 ?_|refine AH ?_|refine AB ?_|refine Ab 7 ?_;try refine Zv (A7 rfl rfl Y2) ?_;try refine Aa N0 ?_|refine Ab 8 ?_;try refine Zm rfl (Za rfl (Aa N0 ?_))|refine Ab 9 ?_;try refine Zm rfl (Zm rfl (Zv (Ah rfl) (Zv (Ac U22 rfl rfl Y0 Y4) ?_)));try refine Zm rfl (Zv (Am U22 sz5 rfl rfl Y9 Y9) ?_);try((refine wo_dyn (pre:=L2) Y7 (CallR.fv rfl rfl (hgo _) hen) rfl rfl (each (⟨b,true,.cells c el (0,0)⟩::F) (fun e h=>.tail _ h) bb2 off2 cap dn x td s2 L2 (by rw[show dn.length+(td.length+1)=l.length by simp only[List.length_cons] at hn;omega];exact hT) (off2+(i:Int).toNat*1) Y9 hnf) (fun e=>AR Tryz.func91 (by rw[hl,hit];simp only[iter,e,Out.bind]) Y5) ?_;rintro⟨a,s3⟩ e3 v post ⟨rfl,hT3⟩)<;>try refine Aa N0 ?_)|refine Ab 10 ?_;try refine Zv (AD rfl rfl Y9 Y9) ?_;try refine Zm rfl (Aa N0 ?_))
     refine A1 Y10 (ih (i+1,dn++[a],td,s3,post) ⟨by rw[show(dn.length+(td.length+1))=l.length by simp only[List.length_cons] at hn;omega] at hT3;exact hT3,by simp only[List.length_append,List.length_cons,List.length_nil];omega,by simp only[List.length_cons] at hn ⊢;omega,?_⟩ Y28)
     rw[hit]
     simp only[iter,e3,Out.bind]
     cases iter step td s3<;>simp[Out.bind]
 · obtain ⟨rfl,rfl⟩:=hm.resolve_left (fun h=>hsame (h _ _ hnum))
   obtain⟨n,rfl⟩:=Int.eq_ofNat_of_zero_le (show 0≤n' by omega)
   have hn0:0 < n:=by simp only[List.length_nil] at hsame;omega
   have hl:lst cd.κ sz z step [] s=iter step (List.replicate n z) s':=by simp only[lst,hnum,Out.bind,if_neg hneg,if_neg hsame];rfl
   refine Ak Tryz.func91 rfl rfl (hi) ?_
   have hnum0:cd.κ.num 0 sz s=.ok ((n:Int),s'):=hnum
   repeat' (first|refine Ag rfl ?_|refine Aj rfl ?_|refine Al ?_|refine An ?_|refine A5 rfl ?_|refine A6 ?_|refine Ab 0 ?_;try refine AL rfl rfl rfl rfl (fun b_ hb_=>?_);try refine Aa N0 ?_|refine Ab 1 ?_;try refine Zm rfl (Zv (Ah rfl) (Zv (Ac U22 rfl rfl Y0 Y4) ?_));try refine Zv (Ap rfl U22 rfl) ?_;try refine A8 Cl rfl rfl rfl rfl (fun b_ hb_=>?_);try refine AT rfl rfl rfl sz3 Y3 rfl rfl ?_;try refine Aa N0 ?_|refine Ab 2 ?_;try refine Zf Bd rfl (Zv (Ac U111 rfl rfl Y0 Y4) ?_);try refine Zm rfl ?_;try((refine BT cd (sz:=sz) (n:=(0:Int)) Y7 Y6 rfl rfl rfl rfl rfl rfl (by repeat(first|exact hE|apply cd.envC|apply cd.envA)) hs hsz (Out.nf hf) (fun e=>by rw[hnum0] at e;cases e) (fun n2 s2 e1 L' hs'=>?_);rw[hnum0] at e1;cases e1)<;>try refine Aa N0 ?_)|refine Ab 3 ?_;try refine Zv (Ac U3 rfl rfl Y0 Y4) ?_;try refine Zv (Bj rfl rfl Y2) ?_;try((refine AU (Take.nil _) (CallR.val rfl en79) rfl rfl (Cb true) (fun e=>by cases e) ?_;rintro u e v post ⟨rfl,rfl⟩)<;>try refine Aa N0 ?_)|refine BL 4 rfl mixed Y1 ?_;try refine A3 (Ac U3 rfl rfl Y0 Y4) rfl rfl ?_;try refine A3 (Ai rfl) rfl rfl (A3 (Ah rfl) rfl rfl (A3 (Ac U22 rfl rfl Y0 Y4) rfl rfl ?_));try refine A3 (Ap rfl U22 rfl) rfl rfl (A3 (AN rfl rfl (by first|exact Ax Y9|exact As Y9|exact rfl)) rfl rfl ?_);try refine BJ N0 ?_|refine Ab 5 ?_;try refine Zm rfl (Zv (Ac U3 rfl rfl Y0 Y4) ?_);try((refine C4 (n:=n) (zs:= #[.int .u8 0]) rfl rfl U22 inf5 rfl rfl rfl rfl Y22 hn0 (show _*n≤_ by simp only[Tryz.t5];omega) Y9 rfl rfl (fun bb hbb=>?_))<;>try refine Zv (Ah rfl) ?_;try((refine AK rfl rfl rfl Ck Y3 hlt (.inr (Nat.zero_le _)) rfl rfl ?_;have hgt:(c.setIfInBounds o (.slice (some ⟨bb,0,none⟩) n n))[o]?=some (.slice (some ⟨bb,0,none⟩) n n):=by simp[hlt])<;>try refine Aa N0 ?_))|refine Ab 6 ?_;try refine Zm rfl (Zv (Ah rfl) (Zv (Ac U22 rfl rfl Y0 Y4) ?_));try refine Zv (Ap rfl U22 rfl) (Zm rfl (Aa N0 ?_)))
   have hT0:=startN n s' L' bb hnum hn0 hs'
   have hset2:∀v u,(c.setIfInBounds o v).setIfInBounds o u=c.setIfInBounds o u:=fun v u=>by simp
   simp only[List.nil_append]
   have hset:(c.setIfInBounds o (.slice (some ⟨bb,0,none⟩) n n))=(c.setIfInBounds o (.slice (some ⟨bb,0,none⟩) n n)):=rfl
   refine CX (A:=L'++[⟨bb,true,.cells (rowV (fun _:Unit=>[.int .u8 0]) (List.replicate n ())).toArray 5 (0,0)⟩]) (e:=⟨b,true,.cells (c.setIfInBounds o (.slice (some ⟨bb,0,none⟩) n n)) el (0,0)⟩) (F:=F) (Take.join Y7 Y6) Y6 Y5 ?_
   refine A1 (E':=(fun q:Nat×List α×List α×σ×List Ent=>[(1,pv b o),(3,fv),(34,.int .i64 (n:Nat)),(35,.int .i64 (q.1:Int))]) (0,[],(List.replicate n z),s',L'++[⟨bb,true,.cells (rowV (fun _:Unit=>[.int .u8 0]) (List.replicate n ())).toArray 5 (0,0)⟩])) Y14 ?_
   refine Bb (fun q:Nat×List α×List α×σ×List Ent=>T (.slice (some ⟨bb,0,none⟩) n n) q.2.1 q.2.2.1 q.2.2.2.1 q.2.2.2.2∧q.2.1.length=q.1∧q.1+q.2.2.1.length=n∧iter step (List.replicate n z) s'=(iter step q.2.2.1 q.2.2.2.1).bind fun r=>.ok (q.2.1++r.1,r.2)) (fun q=>q.2.2.1.length) (fun q:Nat×List α×List α×σ×List Ent=>[(1,pv b o),(3,fv),(34,.int .i64 (n:Nat)),(35,.int .i64 (q.1:Int))]) (fun q=>q.2.2.2.2++(⟨b,true,.cells (c.setIfInBounds o (.slice (some ⟨bb,0,none⟩) n n)) el (0,0)⟩::F)) ?_ (0,[],(List.replicate n z),s',L'++[⟨bb,true,.cells (rowV (fun _:Unit=>[.int .u8 0]) (List.replicate n ())).toArray 5 (0,0)⟩]) ⟨hT0,rfl,by simp only[List.length_replicate];omega,by cases iter step (List.replicate n z) s'<;>rfl⟩
   rintro⟨i,dn,td,s2,L2⟩ ⟨hT,hdl,hn,hit⟩ ih
   dsimp only at hT hdl hn hit ih ⊢
   cases td with
   | nil=>
     have hi0:i=n:=by simpa using hn
     subst hi0
     repeat' (first|refine Ag rfl ?_|refine Al ?_|refine An ?_|refine Az rfl ?_|refine Bl rfl ?_|refine Bp Tryz.func91 rfl (fun w_ hi_=>?_)|refine Ab 7 ?_;try refine Zv (A7 rfl rfl Y2) ?_;try refine Aa N0 ?_)
     refine⟨_,Bo (by rw[hl,hit];simp only[iter,Out.bind,List.append_nil];rfl) ⟨rfl,_,L2,hT,rfl⟩,?_⟩
     rw[hset]
     exact hi_.pick (F:=F) (Take.join Y7 Y6) Y5
   | cons x td=>
     have hlt:(i:Int) < (n:Nat):=by simp only[List.length_cons] at hn;omega
     rw[hl,hit,iter] at hf
     have hnf:=Out.nf (Out.nf hf)
     repeat' (first|refine Ag rfl ?_|refine Aj rfl ?_|refine Al ?_|refine An ?_|refine A5 rfl ?_|refine A6 ?_|refine AH ?_|refine AB ?_|refine Ab 7 ?_;try refine Zv (A7 rfl rfl Y2) ?_;try refine Aa N0 ?_|refine Ab 8 ?_;try refine Zm rfl (Za rfl (Aa N0 ?_))|refine Ab 9 ?_;try refine Zm rfl (Zm rfl (Zv (Ah rfl) (Zv (Ac U22 rfl rfl Y0 Y4) ?_)));try refine Zm rfl (Zv (Am U22 sz5 rfl rfl Y9 Y9) ?_);try((refine wo_dyn (pre:=L2) Y7 (CallR.fv rfl rfl (hgo _) hen) rfl rfl (each (⟨b,true,.cells (c.setIfInBounds o (.slice (some ⟨bb,0,none⟩) n n)) el (0,0)⟩::F) (fun e h=>.tail _ h) bb 0 n dn x td s2 L2 (by rw[show dn.length+(td.length+1)=n by simp only[List.length_cons] at hn;omega];exact hT) (0+(i:Int).toNat*1) Y9 hnf) (fun e=>AR Tryz.func91 (by rw[hl,hit];simp only[iter,e,Out.bind]) Y5) ?_;rintro⟨a,s3⟩ e3 v post ⟨rfl,hT3⟩)<;>try refine Aa N0 ?_)|refine Ab 10 ?_;try refine Zv (AD rfl rfl Y9 Y9) ?_;try refine Zm rfl (Aa N0 ?_))
     refine A1 Y10 (ih (i+1,dn++[a],td,s3,post) ⟨by rw[show(dn.length+(td.length+1))=n by simp only[List.length_cons] at hn;omega] at hT3;exact hT3,by simp only[List.length_append,List.length_cons,List.length_nil];omega,by simp only[List.length_cons] at hn ⊢;omega,?_⟩ Y28)
     rw[hit]
     simp only[iter,e3,Out.bind]
     cases iter step td s3<;>simp[Out.bind]
theorem list_text_c {α:Type} {b o m cap sz:Nat} {a0:Option Addr} {c:Array Value} {el:TypeId} (hc:c[o]?=some (.slice a0 m cap)) (l:List α) (hml:l.length=m) (z:α) (step:α→σ→Out (α×σ)) (hsz:sz=1∨sz=2∨sz=4)
 (fv:Value) (f:FuncId) (gv:Value→List Value) (hgo:∀p,GoesTo Tryz.prog fv [p] f (gv p)) (hen:Enters Tryz.prog f) (T:Value→List α→List α→σ→List Ent→Prop) (Lx:List Ent)
 (hm:(∀n' s',cd.κ.num m sz s=.ok (n',s')→n'=m)∨l=[]∧Lx=[])
 (start:∀s' L',cd.κ.num m sz s=.ok ((m:Int),s')→cd.St s' L'→T (.slice a0 m cap) [] l s' (L'++Lx))
 (startN:∀(n:Nat) s' L' bb,cd.κ.num m sz s=.ok ((n:Int),s')→0 < n→cd.St s' L'→T (.slice (some ⟨bb,0,none⟩) n n) [] (List.replicate n z) s' (L'++[⟨bb,true,.cells (rowV (fun _:Unit=>[str []]) (List.replicate n ())).toArray 9 (0,0)⟩]))
 (room:∀n' s',cd.κ.num m sz s=.ok (n',s')→n'≤65535) (hm4:m < 4294967296)
 (ata:∀hv d x r s L,T hv d (x::r) s L→∃bb off cp,hv=.slice (some ⟨bb,off,none⟩) (d.length+(r.length+1)) cp)
 (each:∀F2,(∀e∈F,e∈F2)→∀bb off cp d x r s L,T (.slice (some ⟨bb,off,none⟩) (d.length+(r.length+1)) cp) d (x::r) s L→∀q,q=off+d.length*1→step x s≠.full→SLF Tryz.prog S w0 F2 f (gv (pv bb q)) L (MoO (step x s) fun a v post=>v=unitV∧T (.slice (some ⟨bb,off,none⟩) (d.length+(r.length+1)) cp) (d++[a.1]) r a.2 post))
 (hf:lst cd.κ sz z step l s≠.full):
 SLF Tryz.prog S w0 F 92 [wkV cd,pv b o,.int .i64 (sz:Int),fv] (L++(Lx++[⟨b,true,.cells c el (0,0)⟩])) (MoO (lst cd.κ sz z step l s) fun a v post=>v=unitV∧∃hv Lr,T hv a.1 [] a.2 Lr∧post=Lr++[⟨b,true,.cells (c.setIfInBounds o hv) el (0,0)⟩]):=by
 refine AE fun w hi=>?_
 simp only[List.append_assoc,List.cons_append,List.nil_append] at hi
 have hlt:o < c.size:=by rw[Array.getElem?_eq_some_iff] at hc;exact hc.1
 have hset:c.setIfInBounds o (.slice a0 m cap)=c:=by
  rw[Array.getElem?_eq_some_iff] at hc
  obtain⟨h1,h2⟩:=hc
  rw[Array.setIfInBounds_def,dif_pos h1,←h2]
  simp
 subst hml
 have hf':=hf
 unfold lst at hf'
 cases hnum:cd.κ.num (l.length:Int) sz s with
 | full=>exact absurd hnum (Out.nf hf')
 | bad=>
   refine Ak Tryz.func92 rfl rfl (hi) ?_
   repeat' (first|refine Ag rfl ?_|refine Aj rfl ?_|refine Al ?_|refine An ?_|refine Ab 0 ?_;try refine AL rfl rfl rfl rfl (fun b_ hb_=>?_);try refine Aa N0 ?_|refine Ab 1 ?_;try refine Zm rfl (Zv (Ah rfl) (Zv (Ac U23 rfl rfl Y0 Y4) ?_));try refine Zv (Ap rfl U23 rfl) ?_;try refine A8 Cl rfl rfl rfl rfl (fun b_ hb_=>?_);try refine AT rfl rfl rfl sz3 Y3 rfl rfl ?_;try refine Aa N0 ?_|refine Ab 2 ?_;try refine Zf Bd rfl (Zv (Ac U111 rfl rfl Y0 Y4) ?_);try refine Zm rfl ?_;try((refine BT cd (sz:=sz) (n:=(l.length:Int)) Y7 Y6 rfl rfl rfl rfl rfl rfl (by repeat(first|exact hE|apply cd.envC|apply cd.envA)) hs hsz (Out.nf hf) (fun e=>AR Tryz.func92 (by simp only[lst,e,Out.bind]) Y5) (fun n2 s2 e1 L' hs'=>?_);rw[hnum] at e1;cases e1)<;>try refine Aa N0 ?_))
 | ok r=>
 obtain⟨n',s'⟩:=r
 have hroom:=room _ _ hnum
 by_cases hneg:n' < 0
 · have hr:lst cd.κ sz z step l s=.bad:=by simp only[lst,hnum,Out.bind,if_pos hneg]
   refine Ak Tryz.func92 rfl rfl (hi) ?_
   repeat' (first|refine Ag rfl ?_|refine Aj rfl ?_|refine Al ?_|refine An ?_|refine Ab 0 ?_;try refine AL rfl rfl rfl rfl (fun b_ hb_=>?_);try refine Aa N0 ?_|refine Ab 1 ?_;try refine Zm rfl (Zv (Ah rfl) (Zv (Ac U23 rfl rfl Y0 Y4) ?_));try refine Zv (Ap rfl U23 rfl) ?_;try refine A8 Cl rfl rfl rfl rfl (fun b_ hb_=>?_);try refine AT rfl rfl rfl sz3 Y3 rfl rfl ?_;try refine Aa N0 ?_|refine Ab 2 ?_;try refine Zf Bd rfl (Zv (Ac U111 rfl rfl Y0 Y4) ?_);try refine Zm rfl ?_;try((refine BT cd (sz:=sz) (n:=(l.length:Int)) Y7 Y6 rfl rfl rfl rfl rfl rfl (by repeat(first|exact hE|apply cd.envC|apply cd.envA)) hs hsz (Out.nf hf) (fun e=>by rw[hnum] at e;cases e) (fun n2 s2 e1 L' hs'=>?_);rw[hnum] at e1;cases e1)<;>try refine Aa N0 ?_)|refine Ab 3 ?_;try refine Zv (Ac U3 rfl rfl Y0 Y4) ?_;try refine Zv (Bj rfl rfl Y2) ?_;try((refine AU (Take.nil _) (CallR.val rfl en79) rfl rfl (Cb false) (fun e=>AR Tryz.func92 hr Y5) ?_;rintro u e v post ⟨rfl,rfl⟩;cases e)<;>try refine Aa N0 ?_))
 by_cases hsame:n'=l.length
 · subst hsame
   have hl:lst cd.κ sz z step l s=iter step l s':=by simp only[lst,hnum,Out.bind,if_neg hneg,if_true]
   refine Ak Tryz.func92 rfl rfl (hi) ?_
   repeat' (first|refine Ag rfl ?_|refine Aj rfl ?_|refine Al ?_|refine An ?_|refine Az rfl ?_|refine A6 ?_|refine AB ?_|refine Ab 0 ?_;try refine AL rfl rfl rfl rfl (fun b_ hb_=>?_);try refine Aa N0 ?_|refine Ab 1 ?_;try refine Zm rfl (Zv (Ah rfl) (Zv (Ac U23 rfl rfl Y0 Y4) ?_));try refine Zv (Ap rfl U23 rfl) ?_;try refine A8 Cl rfl rfl rfl rfl (fun b_ hb_=>?_);try refine AT rfl rfl rfl sz3 Y3 rfl rfl ?_;try refine Aa N0 ?_|refine Ab 2 ?_;try refine Zf Bd rfl (Zv (Ac U111 rfl rfl Y0 Y4) ?_);try refine Zm rfl ?_;try((refine BT cd (sz:=sz) (n:=(l.length:Int)) Y7 Y6 rfl rfl rfl rfl rfl rfl (by repeat(first|exact hE|apply cd.envC|apply cd.envA)) hs hsz (Out.nf hf) (fun e=>by rw[hnum] at e;cases e) (fun n2 s2 e1 L' hs'=>?_);rw[hnum] at e1;cases e1)<;>try refine Aa N0 ?_)|refine Ab 3 ?_;try refine Zv (Ac U3 rfl rfl Y0 Y4) ?_;try refine Zv (Bj rfl rfl Y2) ?_;try((refine AU (Take.nil _) (CallR.val rfl en79) rfl rfl (Cb true) (fun e=>by cases e) ?_;rintro u e v post ⟨rfl,rfl⟩)<;>try refine Aa N0 ?_)|refine BL 4 rfl mixed Y1 ?_;try refine A3 (Ac U3 rfl rfl Y0 Y4) rfl rfl ?_;try refine A3 (Ai rfl) rfl rfl (A3 (Ah rfl) rfl rfl (A3 (Ac U23 rfl rfl Y0 Y4) rfl rfl ?_));try refine A3 (Ap rfl U23 rfl) rfl rfl (A3 (AN rfl rfl (by first|exact Ax Y9|exact As Y9|exact rfl)) rfl rfl ?_);try refine BJ N0 ?_|refine Ab 6 ?_;try refine Zm rfl (Zv (Ah rfl) (Zv (Ac U23 rfl rfl Y0 Y4) ?_));try refine Zv (Ap rfl U23 rfl) (Zm rfl (Aa N0 ?_)))
   have hT0:=start s' L' hnum hs'
   simp only[List.nil_append]
   refine CX (A:=L'++Lx) (e:=⟨b,true,.cells c el (0,0)⟩) (F:=F) (Take.join Y7 Y7) Y6 Y5 ?_
   refine A1 (E':=(fun q:Nat×List α×List α×σ×List Ent=>[(1,pv b o),(3,fv),(34,.int .i64 (l.length:Nat)),(35,.int .i64 (q.1:Int))]) (0,[],l,s',L'++Lx)) Y14 ?_
   refine Bb (fun q:Nat×List α×List α×σ×List Ent=>T (.slice a0 l.length cap) q.2.1 q.2.2.1 q.2.2.2.1 q.2.2.2.2∧q.2.1.length=q.1∧q.1+q.2.2.1.length=l.length∧iter step l s'=(iter step q.2.2.1 q.2.2.2.1).bind fun r=>.ok (q.2.1++r.1,r.2)) (fun q=>q.2.2.1.length) (fun q:Nat×List α×List α×σ×List Ent=>[(1,pv b o),(3,fv),(34,.int .i64 (l.length:Nat)),(35,.int .i64 (q.1:Int))]) (fun q=>q.2.2.2.2++(⟨b,true,.cells c el (0,0)⟩::F)) ?_ (0,[],l,s',L'++Lx) ⟨hT0,rfl,by simp only[List.length_replicate];omega,by cases iter step l s'<;>rfl⟩
   rintro⟨i,dn,td,s2,L2⟩ ⟨hT,hdl,hn,hit⟩ ih
   dsimp only at hT hdl hn hit ih ⊢
   cases td with
   | nil=>
     have hi0:i=l.length:=by simpa using hn
     subst hi0
     repeat' (first|refine Ag rfl ?_|refine Al ?_|refine An ?_|refine Az rfl ?_|refine Bl rfl ?_|refine Bp Tryz.func92 rfl (fun w_ hi_=>?_)|refine Ab 7 ?_;try refine Zv (A7 rfl rfl Y2) ?_;try refine Aa N0 ?_)
     refine⟨_,Bo (by rw[hl,hit];simp only[iter,Out.bind,List.append_nil];rfl) ⟨rfl,_,L2,hT,rfl⟩,?_⟩
     rw[hset]
     exact hi_.pick (F:=F) (Take.join Y7 Y6) Y5
   | cons x td=>
     have hlt:(i:Int) < (l.length:Nat):=by simp only[List.length_cons] at hn;omega
     obtain⟨bb2,off2,cp2,hva⟩:=ata _ _ _ _ _ _ hT
     have hva2:=hva
     rw[show dn.length+(td.length+1)=l.length by simp only[List.length_cons] at hn;omega] at hva2
     cases hva2
     rw[hl,hit,iter] at hf
     have hnf:=Out.nf (Out.nf hf)
     repeat' (first|refine Ag rfl ?_|refine Aj rfl ?_|refine Al ?_|refine An ?_|refine A5 rfl ?_|refine A6 ?_|refine AH ?_|refine AB ?_|refine Ab 7 ?_;try refine Zv (A7 rfl rfl Y2) ?_;try refine Aa N0 ?_|refine Ab 8 ?_;try refine Zm rfl (Za rfl (Aa N0 ?_))|refine Ab 9 ?_;try refine Zm rfl (Zm rfl (Zv (Ah rfl) (Zv (Ac U23 rfl rfl Y0 Y4) ?_)));try refine Zm rfl (Zv (Am U23 sz9 rfl rfl Y9 Y9) ?_);try((refine wo_dyn (pre:=L2) Y7 (CallR.fv rfl rfl (hgo _) hen) rfl rfl (each (⟨b,true,.cells c el (0,0)⟩::F) (fun e h=>.tail _ h) bb2 off2 cap dn x td s2 L2 (by rw[show dn.length+(td.length+1)=l.length by simp only[List.length_cons] at hn;omega];exact hT) (off2+(i:Int).toNat*1) Y9 hnf) (fun e=>AR Tryz.func92 (by rw[hl,hit];simp only[iter,e,Out.bind]) Y5) ?_;rintro⟨a,s3⟩ e3 v post ⟨rfl,hT3⟩)<;>try refine Aa N0 ?_)|refine Ab 10 ?_;try refine Zv (AD rfl rfl Y9 Y9) ?_;try refine Zm rfl (Aa N0 ?_))
     refine A1 Y10 (ih (i+1,dn++[a],td,s3,post) ⟨by rw[show(dn.length+(td.length+1))=l.length by simp only[List.length_cons] at hn;omega] at hT3;exact hT3,by simp only[List.length_append,List.length_cons,List.length_nil];omega,by simp only[List.length_cons] at hn ⊢;omega,?_⟩ Y28)
     rw[hit]
     simp only[iter,e3,Out.bind]
     cases iter step td s3<;>simp[Out.bind]
 · obtain ⟨rfl,rfl⟩:=hm.resolve_left (fun h=>hsame (h _ _ hnum))
   obtain⟨n,rfl⟩:=Int.eq_ofNat_of_zero_le (show 0≤n' by omega)
   have hn0:0 < n:=by simp only[List.length_nil] at hsame;omega
   have hl:lst cd.κ sz z step [] s=iter step (List.replicate n z) s':=by simp only[lst,hnum,Out.bind,if_neg hneg,if_neg hsame];rfl
   refine Ak Tryz.func92 rfl rfl (hi) ?_
   have hnum0:cd.κ.num 0 sz s=.ok ((n:Int),s'):=hnum
   repeat' (first|refine Ag rfl ?_|refine Aj rfl ?_|refine Al ?_|refine An ?_|refine A5 rfl ?_|refine A6 ?_|refine Ab 0 ?_;try refine AL rfl rfl rfl rfl (fun b_ hb_=>?_);try refine Aa N0 ?_|refine Ab 1 ?_;try refine Zm rfl (Zv (Ah rfl) (Zv (Ac U23 rfl rfl Y0 Y4) ?_));try refine Zv (Ap rfl U23 rfl) ?_;try refine A8 Cl rfl rfl rfl rfl (fun b_ hb_=>?_);try refine AT rfl rfl rfl sz3 Y3 rfl rfl ?_;try refine Aa N0 ?_|refine Ab 2 ?_;try refine Zf Bd rfl (Zv (Ac U111 rfl rfl Y0 Y4) ?_);try refine Zm rfl ?_;try((refine BT cd (sz:=sz) (n:=(0:Int)) Y7 Y6 rfl rfl rfl rfl rfl rfl (by repeat(first|exact hE|apply cd.envC|apply cd.envA)) hs hsz (Out.nf hf) (fun e=>by rw[hnum0] at e;cases e) (fun n2 s2 e1 L' hs'=>?_);rw[hnum0] at e1;cases e1)<;>try refine Aa N0 ?_)|refine Ab 3 ?_;try refine Zv (Ac U3 rfl rfl Y0 Y4) ?_;try refine Zv (Bj rfl rfl Y2) ?_;try((refine AU (Take.nil _) (CallR.val rfl en79) rfl rfl (Cb true) (fun e=>by cases e) ?_;rintro u e v post ⟨rfl,rfl⟩)<;>try refine Aa N0 ?_)|refine BL 4 rfl mixed Y1 ?_;try refine A3 (Ac U3 rfl rfl Y0 Y4) rfl rfl ?_;try refine A3 (Ai rfl) rfl rfl (A3 (Ah rfl) rfl rfl (A3 (Ac U23 rfl rfl Y0 Y4) rfl rfl ?_));try refine A3 (Ap rfl U23 rfl) rfl rfl (A3 (AN rfl rfl (by first|exact Ax Y9|exact As Y9|exact rfl)) rfl rfl ?_);try refine BJ N0 ?_|refine Ab 5 ?_;try refine Zm rfl (Zv (Ac U3 rfl rfl Y0 Y4) ?_);try((refine C4 (n:=n) (zs:= #[str []]) rfl rfl U23 inf9 rfl rfl rfl rfl Y22 hn0 (show _*n≤_ by simp only[Tryz.t9];omega) Y9 rfl rfl (fun bb hbb=>?_))<;>try refine Zv (Ah rfl) ?_;try((refine AK rfl rfl rfl sz23 Y3 hlt (.inr (Nat.zero_le _)) rfl rfl ?_;have hgt:(c.setIfInBounds o (.slice (some ⟨bb,0,none⟩) n n))[o]?=some (.slice (some ⟨bb,0,none⟩) n n):=by simp[hlt])<;>try refine Aa N0 ?_))|refine Ab 6 ?_;try refine Zm rfl (Zv (Ah rfl) (Zv (Ac U23 rfl rfl Y0 Y4) ?_));try refine Zv (Ap rfl U23 rfl) (Zm rfl (Aa N0 ?_)))
   have hT0:=startN n s' L' bb hnum hn0 hs'
   have hset2:∀v u,(c.setIfInBounds o v).setIfInBounds o u=c.setIfInBounds o u:=fun v u=>by simp
   simp only[List.nil_append]
   have hset:(c.setIfInBounds o (.slice (some ⟨bb,0,none⟩) n n))=(c.setIfInBounds o (.slice (some ⟨bb,0,none⟩) n n)):=rfl
   refine CX (A:=L'++[⟨bb,true,.cells (rowV (fun _:Unit=>[str []]) (List.replicate n ())).toArray 9 (0,0)⟩]) (e:=⟨b,true,.cells (c.setIfInBounds o (.slice (some ⟨bb,0,none⟩) n n)) el (0,0)⟩) (F:=F) (Take.join Y7 Y6) Y6 Y5 ?_
   refine A1 (E':=(fun q:Nat×List α×List α×σ×List Ent=>[(1,pv b o),(3,fv),(34,.int .i64 (n:Nat)),(35,.int .i64 (q.1:Int))]) (0,[],(List.replicate n z),s',L'++[⟨bb,true,.cells (rowV (fun _:Unit=>[str []]) (List.replicate n ())).toArray 9 (0,0)⟩])) Y14 ?_
   refine Bb (fun q:Nat×List α×List α×σ×List Ent=>T (.slice (some ⟨bb,0,none⟩) n n) q.2.1 q.2.2.1 q.2.2.2.1 q.2.2.2.2∧q.2.1.length=q.1∧q.1+q.2.2.1.length=n∧iter step (List.replicate n z) s'=(iter step q.2.2.1 q.2.2.2.1).bind fun r=>.ok (q.2.1++r.1,r.2)) (fun q=>q.2.2.1.length) (fun q:Nat×List α×List α×σ×List Ent=>[(1,pv b o),(3,fv),(34,.int .i64 (n:Nat)),(35,.int .i64 (q.1:Int))]) (fun q=>q.2.2.2.2++(⟨b,true,.cells (c.setIfInBounds o (.slice (some ⟨bb,0,none⟩) n n)) el (0,0)⟩::F)) ?_ (0,[],(List.replicate n z),s',L'++[⟨bb,true,.cells (rowV (fun _:Unit=>[str []]) (List.replicate n ())).toArray 9 (0,0)⟩]) ⟨hT0,rfl,by simp only[List.length_replicate];omega,by cases iter step (List.replicate n z) s'<;>rfl⟩
   rintro⟨i,dn,td,s2,L2⟩ ⟨hT,hdl,hn,hit⟩ ih
   dsimp only at hT hdl hn hit ih ⊢
   cases td with
   | nil=>
     have hi0:i=n:=by simpa using hn
     subst hi0
     repeat' (first|refine Ag rfl ?_|refine Al ?_|refine An ?_|refine Az rfl ?_|refine Bl rfl ?_|refine Bp Tryz.func92 rfl (fun w_ hi_=>?_)|refine Ab 7 ?_;try refine Zv (A7 rfl rfl Y2) ?_;try refine Aa N0 ?_)
     refine⟨_,Bo (by rw[hl,hit];simp only[iter,Out.bind,List.append_nil];rfl) ⟨rfl,_,L2,hT,rfl⟩,?_⟩
     rw[hset]
     exact hi_.pick (F:=F) (Take.join Y7 Y6) Y5
   | cons x td=>
     have hlt:(i:Int) < (n:Nat):=by simp only[List.length_cons] at hn;omega
     rw[hl,hit,iter] at hf
     have hnf:=Out.nf (Out.nf hf)
     repeat' (first|refine Ag rfl ?_|refine Aj rfl ?_|refine Al ?_|refine An ?_|refine A5 rfl ?_|refine A6 ?_|refine AH ?_|refine AB ?_|refine Ab 7 ?_;try refine Zv (A7 rfl rfl Y2) ?_;try refine Aa N0 ?_|refine Ab 8 ?_;try refine Zm rfl (Za rfl (Aa N0 ?_))|refine Ab 9 ?_;try refine Zm rfl (Zm rfl (Zv (Ah rfl) (Zv (Ac U23 rfl rfl Y0 Y4) ?_)));try refine Zm rfl (Zv (Am U23 sz9 rfl rfl Y9 Y9) ?_);try((refine wo_dyn (pre:=L2) Y7 (CallR.fv rfl rfl (hgo _) hen) rfl rfl (each (⟨b,true,.cells (c.setIfInBounds o (.slice (some ⟨bb,0,none⟩) n n)) el (0,0)⟩::F) (fun e h=>.tail _ h) bb 0 n dn x td s2 L2 (by rw[show dn.length+(td.length+1)=n by simp only[List.length_cons] at hn;omega];exact hT) (0+(i:Int).toNat*1) Y9 hnf) (fun e=>AR Tryz.func92 (by rw[hl,hit];simp only[iter,e,Out.bind]) Y5) ?_;rintro⟨a,s3⟩ e3 v post ⟨rfl,hT3⟩)<;>try refine Aa N0 ?_)|refine Ab 10 ?_;try refine Zv (AD rfl rfl Y9 Y9) ?_;try refine Zm rfl (Aa N0 ?_))
     refine A1 Y10 (ih (i+1,dn++[a],td,s3,post) ⟨by rw[show(dn.length+(td.length+1))=n by simp only[List.length_cons] at hn;omega] at hT3;exact hT3,by simp only[List.length_append,List.length_cons,List.length_nil];omega,by simp only[List.length_cons] at hn ⊢;omega,?_⟩ Y28)
     rw[hit]
     simp only[iter,e3,Out.bind]
     cases iter step td s3<;>simp[Out.bind]
theorem list_int_c {α:Type} {b o m cap sz:Nat} {a0:Option Addr} {c:Array Value} {el:TypeId} (hc:c[o]?=some (.slice a0 m cap)) (l:List α) (hml:l.length=m) (z:α) (step:α→σ→Out (α×σ)) (hsz:sz=1∨sz=2∨sz=4)
 (fv:Value) (f:FuncId) (gv:Value→List Value) (hgo:∀p,GoesTo Tryz.prog fv [p] f (gv p)) (hen:Enters Tryz.prog f) (T:Value→List α→List α→σ→List Ent→Prop) (Lx:List Ent)
 (hm:(∀n' s',cd.κ.num m sz s=.ok (n',s')→n'=m)∨l=[]∧Lx=[])
 (start:∀s' L',cd.κ.num m sz s=.ok ((m:Int),s')→cd.St s' L'→T (.slice a0 m cap) [] l s' (L'++Lx))
 (startN:∀(n:Nat) s' L' bb,cd.κ.num m sz s=.ok ((n:Int),s')→0 < n→cd.St s' L'→T (.slice (some ⟨bb,0,none⟩) n n) [] (List.replicate n z) s' (L'++[⟨bb,true,.cells (rowV (fun _:Unit=>[.int .i64 0]) (List.replicate n ())).toArray 3 (0,0)⟩]))
 (room:∀n' s',cd.κ.num m sz s=.ok (n',s')→n'≤65535) (hm4:m < 4294967296)
 (ata:∀hv d x r s L,T hv d (x::r) s L→∃bb off cp,hv=.slice (some ⟨bb,off,none⟩) (d.length+(r.length+1)) cp)
 (each:∀F2,(∀e∈F,e∈F2)→∀bb off cp d x r s L,T (.slice (some ⟨bb,off,none⟩) (d.length+(r.length+1)) cp) d (x::r) s L→∀q,q=off+d.length*1→step x s≠.full→SLF Tryz.prog S w0 F2 f (gv (pv bb q)) L (MoO (step x s) fun a v post=>v=unitV∧T (.slice (some ⟨bb,off,none⟩) (d.length+(r.length+1)) cp) (d++[a.1]) r a.2 post))
 (hf:lst cd.κ sz z step l s≠.full):
 SLF Tryz.prog S w0 F 148 [wkV cd,pv b o,.int .i64 (sz:Int),fv] (L++(Lx++[⟨b,true,.cells c el (0,0)⟩])) (MoO (lst cd.κ sz z step l s) fun a v post=>v=unitV∧∃hv Lr,T hv a.1 [] a.2 Lr∧post=Lr++[⟨b,true,.cells (c.setIfInBounds o hv) el (0,0)⟩]):=by
 refine AE fun w hi=>?_
 simp only[List.append_assoc,List.cons_append,List.nil_append] at hi
 have hlt:o < c.size:=by rw[Array.getElem?_eq_some_iff] at hc;exact hc.1
 have hset:c.setIfInBounds o (.slice a0 m cap)=c:=by
  rw[Array.getElem?_eq_some_iff] at hc
  obtain⟨h1,h2⟩:=hc
  rw[Array.setIfInBounds_def,dif_pos h1,←h2]
  simp
 subst hml
 have hf':=hf
 unfold lst at hf'
 cases hnum:cd.κ.num (l.length:Int) sz s with
 | full=>exact absurd hnum (Out.nf hf')
 | bad=>
   refine Ak Tryz.func148 rfl rfl (hi) ?_
   repeat' (first|refine Ag rfl ?_|refine Aj rfl ?_|refine Al ?_|refine An ?_|refine Ab 0 ?_;try refine AL rfl rfl rfl rfl (fun b_ hb_=>?_);try refine Aa N0 ?_|refine Ab 1 ?_;try refine Zm rfl (Zv (Ah rfl) (Zv (Ac U59 rfl rfl Y0 Y4) ?_));try refine Zv (Ap rfl U59 rfl) ?_;try refine A8 Cl rfl rfl rfl rfl (fun b_ hb_=>?_);try refine AT rfl rfl rfl sz3 Y3 rfl rfl ?_;try refine Aa N0 ?_|refine Ab 2 ?_;try refine Zf Bd rfl (Zv (Ac U111 rfl rfl Y0 Y4) ?_);try refine Zm rfl ?_;try((refine BT cd (sz:=sz) (n:=(l.length:Int)) Y7 Y6 rfl rfl rfl rfl rfl rfl (by repeat(first|exact hE|apply cd.envC|apply cd.envA)) hs hsz (Out.nf hf) (fun e=>AR Tryz.func148 (by simp only[lst,e,Out.bind]) Y5) (fun n2 s2 e1 L' hs'=>?_);rw[hnum] at e1;cases e1)<;>try refine Aa N0 ?_))
 | ok r=>
 obtain⟨n',s'⟩:=r
 have hroom:=room _ _ hnum
 by_cases hneg:n' < 0
 · have hr:lst cd.κ sz z step l s=.bad:=by simp only[lst,hnum,Out.bind,if_pos hneg]
   refine Ak Tryz.func148 rfl rfl (hi) ?_
   repeat' (first|refine Ag rfl ?_|refine Aj rfl ?_|refine Al ?_|refine An ?_|refine Ab 0 ?_;try refine AL rfl rfl rfl rfl (fun b_ hb_=>?_);try refine Aa N0 ?_|refine Ab 1 ?_;try refine Zm rfl (Zv (Ah rfl) (Zv (Ac U59 rfl rfl Y0 Y4) ?_));try refine Zv (Ap rfl U59 rfl) ?_;try refine A8 Cl rfl rfl rfl rfl (fun b_ hb_=>?_);try refine AT rfl rfl rfl sz3 Y3 rfl rfl ?_;try refine Aa N0 ?_|refine Ab 2 ?_;try refine Zf Bd rfl (Zv (Ac U111 rfl rfl Y0 Y4) ?_);try refine Zm rfl ?_;try((refine BT cd (sz:=sz) (n:=(l.length:Int)) Y7 Y6 rfl rfl rfl rfl rfl rfl (by repeat(first|exact hE|apply cd.envC|apply cd.envA)) hs hsz (Out.nf hf) (fun e=>by rw[hnum] at e;cases e) (fun n2 s2 e1 L' hs'=>?_);rw[hnum] at e1;cases e1)<;>try refine Aa N0 ?_)|refine Ab 3 ?_;try refine Zv (Ac U3 rfl rfl Y0 Y4) ?_;try refine Zv (Bj rfl rfl Y2) ?_;try((refine AU (Take.nil _) (CallR.val rfl en79) rfl rfl (Cb false) (fun e=>AR Tryz.func148 hr Y5) ?_;rintro u e v post ⟨rfl,rfl⟩;cases e)<;>try refine Aa N0 ?_))
 by_cases hsame:n'=l.length
 · subst hsame
   have hl:lst cd.κ sz z step l s=iter step l s':=by simp only[lst,hnum,Out.bind,if_neg hneg,if_true]
   refine Ak Tryz.func148 rfl rfl (hi) ?_
   repeat' (first|refine Ag rfl ?_|refine Aj rfl ?_|refine Al ?_|refine An ?_|refine Az rfl ?_|refine A6 ?_|refine AB ?_|refine Ab 0 ?_;try refine AL rfl rfl rfl rfl (fun b_ hb_=>?_);try refine Aa N0 ?_|refine Ab 1 ?_;try refine Zm rfl (Zv (Ah rfl) (Zv (Ac U59 rfl rfl Y0 Y4) ?_));try refine Zv (Ap rfl U59 rfl) ?_;try refine A8 Cl rfl rfl rfl rfl (fun b_ hb_=>?_);try refine AT rfl rfl rfl sz3 Y3 rfl rfl ?_;try refine Aa N0 ?_|refine Ab 2 ?_;try refine Zf Bd rfl (Zv (Ac U111 rfl rfl Y0 Y4) ?_);try refine Zm rfl ?_;try((refine BT cd (sz:=sz) (n:=(l.length:Int)) Y7 Y6 rfl rfl rfl rfl rfl rfl (by repeat(first|exact hE|apply cd.envC|apply cd.envA)) hs hsz (Out.nf hf) (fun e=>by rw[hnum] at e;cases e) (fun n2 s2 e1 L' hs'=>?_);rw[hnum] at e1;cases e1)<;>try refine Aa N0 ?_)|refine Ab 3 ?_;try refine Zv (Ac U3 rfl rfl Y0 Y4) ?_;try refine Zv (Bj rfl rfl Y2) ?_;try((refine AU (Take.nil _) (CallR.val rfl en79) rfl rfl (Cb true) (fun e=>by cases e) ?_;rintro u e v post ⟨rfl,rfl⟩)<;>try refine Aa N0 ?_)|refine BL 4 rfl mixed Y1 ?_;try refine A3 (Ac U3 rfl rfl Y0 Y4) rfl rfl ?_;try refine A3 (Ai rfl) rfl rfl (A3 (Ah rfl) rfl rfl (A3 (Ac U59 rfl rfl Y0 Y4) rfl rfl ?_));try refine A3 (Ap rfl U59 rfl) rfl rfl (A3 (AN rfl rfl (by first|exact Ax Y9|exact As Y9|exact rfl)) rfl rfl ?_);try refine BJ N0 ?_|refine Ab 6 ?_;try refine Zm rfl (Zv (Ah rfl) (Zv (Ac U59 rfl rfl Y0 Y4) ?_));try refine Zv (Ap rfl U59 rfl) (Zm rfl (Aa N0 ?_)))
   have hT0:=start s' L' hnum hs'
   simp only[List.nil_append]
   refine CX (A:=L'++Lx) (e:=⟨b,true,.cells c el (0,0)⟩) (F:=F) (Take.join Y7 Y7) Y6 Y5 ?_
   refine A1 (E':=(fun q:Nat×List α×List α×σ×List Ent=>[(1,pv b o),(3,fv),(34,.int .i64 (l.length:Nat)),(35,.int .i64 (q.1:Int))]) (0,[],l,s',L'++Lx)) Y14 ?_
   refine Bb (fun q:Nat×List α×List α×σ×List Ent=>T (.slice a0 l.length cap) q.2.1 q.2.2.1 q.2.2.2.1 q.2.2.2.2∧q.2.1.length=q.1∧q.1+q.2.2.1.length=l.length∧iter step l s'=(iter step q.2.2.1 q.2.2.2.1).bind fun r=>.ok (q.2.1++r.1,r.2)) (fun q=>q.2.2.1.length) (fun q:Nat×List α×List α×σ×List Ent=>[(1,pv b o),(3,fv),(34,.int .i64 (l.length:Nat)),(35,.int .i64 (q.1:Int))]) (fun q=>q.2.2.2.2++(⟨b,true,.cells c el (0,0)⟩::F)) ?_ (0,[],l,s',L'++Lx) ⟨hT0,rfl,by simp only[List.length_replicate];omega,by cases iter step l s'<;>rfl⟩
   rintro⟨i,dn,td,s2,L2⟩ ⟨hT,hdl,hn,hit⟩ ih
   dsimp only at hT hdl hn hit ih ⊢
   cases td with
   | nil=>
     have hi0:i=l.length:=by simpa using hn
     subst hi0
     repeat' (first|refine Ag rfl ?_|refine Al ?_|refine An ?_|refine Az rfl ?_|refine Bl rfl ?_|refine Bp Tryz.func148 rfl (fun w_ hi_=>?_)|refine Ab 7 ?_;try refine Zv (A7 rfl rfl Y2) ?_;try refine Aa N0 ?_)
     refine⟨_,Bo (by rw[hl,hit];simp only[iter,Out.bind,List.append_nil];rfl) ⟨rfl,_,L2,hT,rfl⟩,?_⟩
     rw[hset]
     exact hi_.pick (F:=F) (Take.join Y7 Y6) Y5
   | cons x td=>
     have hlt:(i:Int) < (l.length:Nat):=by simp only[List.length_cons] at hn;omega
     obtain⟨bb2,off2,cp2,hva⟩:=ata _ _ _ _ _ _ hT
     have hva2:=hva
     rw[show dn.length+(td.length+1)=l.length by simp only[List.length_cons] at hn;omega] at hva2
     cases hva2
     rw[hl,hit,iter] at hf
     have hnf:=Out.nf (Out.nf hf)
     repeat' (first|refine Ag rfl ?_|refine Aj rfl ?_|refine Al ?_|refine An ?_|refine A5 rfl ?_|refine A6 ?_|refine AH ?_|refine AB ?_|refine Ab 7 ?_;try refine Zv (A7 rfl rfl Y2) ?_;try refine Aa N0 ?_|refine Ab 8 ?_;try refine Zm rfl (Za rfl (Aa N0 ?_))|refine Ab 9 ?_;try refine Zm rfl (Zm rfl (Zv (Ah rfl) (Zv (Ac U59 rfl rfl Y0 Y4) ?_)));try refine Zm rfl (Zv (Am U59 sz3 rfl rfl Y9 Y9) ?_);try((refine wo_dyn (pre:=L2) Y7 (CallR.fv rfl rfl (hgo _) hen) rfl rfl (each (⟨b,true,.cells c el (0,0)⟩::F) (fun e h=>.tail _ h) bb2 off2 cap dn x td s2 L2 (by rw[show dn.length+(td.length+1)=l.length by simp only[List.length_cons] at hn;omega];exact hT) (off2+(i:Int).toNat*1) Y9 hnf) (fun e=>AR Tryz.func148 (by rw[hl,hit];simp only[iter,e,Out.bind]) Y5) ?_;rintro⟨a,s3⟩ e3 v post ⟨rfl,hT3⟩)<;>try refine Aa N0 ?_)|refine Ab 10 ?_;try refine Zv (AD rfl rfl Y9 Y9) ?_;try refine Zm rfl (Aa N0 ?_))
     refine A1 Y10 (ih (i+1,dn++[a],td,s3,post) ⟨by rw[show(dn.length+(td.length+1))=l.length by simp only[List.length_cons] at hn;omega] at hT3;exact hT3,by simp only[List.length_append,List.length_cons,List.length_nil];omega,by simp only[List.length_cons] at hn ⊢;omega,?_⟩ Y28)
     rw[hit]
     simp only[iter,e3,Out.bind]
     cases iter step td s3<;>simp[Out.bind]
 · obtain ⟨rfl,rfl⟩:=hm.resolve_left (fun h=>hsame (h _ _ hnum))
   obtain⟨n,rfl⟩:=Int.eq_ofNat_of_zero_le (show 0≤n' by omega)
   have hn0:0 < n:=by simp only[List.length_nil] at hsame;omega
   have hl:lst cd.κ sz z step [] s=iter step (List.replicate n z) s':=by simp only[lst,hnum,Out.bind,if_neg hneg,if_neg hsame];rfl
   refine Ak Tryz.func148 rfl rfl (hi) ?_
   have hnum0:cd.κ.num 0 sz s=.ok ((n:Int),s'):=hnum
   repeat' (first|refine Ag rfl ?_|refine Aj rfl ?_|refine Al ?_|refine An ?_|refine A5 rfl ?_|refine A6 ?_|refine Ab 0 ?_;try refine AL rfl rfl rfl rfl (fun b_ hb_=>?_);try refine Aa N0 ?_|refine Ab 1 ?_;try refine Zm rfl (Zv (Ah rfl) (Zv (Ac U59 rfl rfl Y0 Y4) ?_));try refine Zv (Ap rfl U59 rfl) ?_;try refine A8 Cl rfl rfl rfl rfl (fun b_ hb_=>?_);try refine AT rfl rfl rfl sz3 Y3 rfl rfl ?_;try refine Aa N0 ?_|refine Ab 2 ?_;try refine Zf Bd rfl (Zv (Ac U111 rfl rfl Y0 Y4) ?_);try refine Zm rfl ?_;try((refine BT cd (sz:=sz) (n:=(0:Int)) Y7 Y6 rfl rfl rfl rfl rfl rfl (by repeat(first|exact hE|apply cd.envC|apply cd.envA)) hs hsz (Out.nf hf) (fun e=>by rw[hnum0] at e;cases e) (fun n2 s2 e1 L' hs'=>?_);rw[hnum0] at e1;cases e1)<;>try refine Aa N0 ?_)|refine Ab 3 ?_;try refine Zv (Ac U3 rfl rfl Y0 Y4) ?_;try refine Zv (Bj rfl rfl Y2) ?_;try((refine AU (Take.nil _) (CallR.val rfl en79) rfl rfl (Cb true) (fun e=>by cases e) ?_;rintro u e v post ⟨rfl,rfl⟩)<;>try refine Aa N0 ?_)|refine BL 4 rfl mixed Y1 ?_;try refine A3 (Ac U3 rfl rfl Y0 Y4) rfl rfl ?_;try refine A3 (Ai rfl) rfl rfl (A3 (Ah rfl) rfl rfl (A3 (Ac U59 rfl rfl Y0 Y4) rfl rfl ?_));try refine A3 (Ap rfl U59 rfl) rfl rfl (A3 (AN rfl rfl (by first|exact Ax Y9|exact As Y9|exact rfl)) rfl rfl ?_);try refine BJ N0 ?_|refine Ab 5 ?_;try refine Zm rfl (Zv (Ac U3 rfl rfl Y0 Y4) ?_);try((refine C4 (n:=n) (zs:= #[.int .i64 0]) rfl rfl U59 Cl rfl rfl rfl rfl Y22 hn0 (show _*n≤_ by simp only[Tryz.t3];omega) Y9 rfl rfl (fun bb hbb=>?_))<;>try refine Zv (Ah rfl) ?_;try((refine AK rfl rfl rfl sz59 Y3 hlt (.inr (Nat.zero_le _)) rfl rfl ?_;have hgt:(c.setIfInBounds o (.slice (some ⟨bb,0,none⟩) n n))[o]?=some (.slice (some ⟨bb,0,none⟩) n n):=by simp[hlt])<;>try refine Aa N0 ?_))|refine Ab 6 ?_;try refine Zm rfl (Zv (Ah rfl) (Zv (Ac U59 rfl rfl Y0 Y4) ?_));try refine Zv (Ap rfl U59 rfl) (Zm rfl (Aa N0 ?_)))
   have hT0:=startN n s' L' bb hnum hn0 hs'
   have hset2:∀v u,(c.setIfInBounds o v).setIfInBounds o u=c.setIfInBounds o u:=fun v u=>by simp
   simp only[List.nil_append]
   have hset:(c.setIfInBounds o (.slice (some ⟨bb,0,none⟩) n n))=(c.setIfInBounds o (.slice (some ⟨bb,0,none⟩) n n)):=rfl
   refine CX (A:=L'++[⟨bb,true,.cells (rowV (fun _:Unit=>[.int .i64 0]) (List.replicate n ())).toArray 3 (0,0)⟩]) (e:=⟨b,true,.cells (c.setIfInBounds o (.slice (some ⟨bb,0,none⟩) n n)) el (0,0)⟩) (F:=F) (Take.join Y7 Y6) Y6 Y5 ?_
   refine A1 (E':=(fun q:Nat×List α×List α×σ×List Ent=>[(1,pv b o),(3,fv),(34,.int .i64 (n:Nat)),(35,.int .i64 (q.1:Int))]) (0,[],(List.replicate n z),s',L'++[⟨bb,true,.cells (rowV (fun _:Unit=>[.int .i64 0]) (List.replicate n ())).toArray 3 (0,0)⟩])) Y14 ?_
   refine Bb (fun q:Nat×List α×List α×σ×List Ent=>T (.slice (some ⟨bb,0,none⟩) n n) q.2.1 q.2.2.1 q.2.2.2.1 q.2.2.2.2∧q.2.1.length=q.1∧q.1+q.2.2.1.length=n∧iter step (List.replicate n z) s'=(iter step q.2.2.1 q.2.2.2.1).bind fun r=>.ok (q.2.1++r.1,r.2)) (fun q=>q.2.2.1.length) (fun q:Nat×List α×List α×σ×List Ent=>[(1,pv b o),(3,fv),(34,.int .i64 (n:Nat)),(35,.int .i64 (q.1:Int))]) (fun q=>q.2.2.2.2++(⟨b,true,.cells (c.setIfInBounds o (.slice (some ⟨bb,0,none⟩) n n)) el (0,0)⟩::F)) ?_ (0,[],(List.replicate n z),s',L'++[⟨bb,true,.cells (rowV (fun _:Unit=>[.int .i64 0]) (List.replicate n ())).toArray 3 (0,0)⟩]) ⟨hT0,rfl,by simp only[List.length_replicate];omega,by cases iter step (List.replicate n z) s'<;>rfl⟩
   rintro⟨i,dn,td,s2,L2⟩ ⟨hT,hdl,hn,hit⟩ ih
   dsimp only at hT hdl hn hit ih ⊢
   cases td with
   | nil=>
     have hi0:i=n:=by simpa using hn
     subst hi0
     repeat' (first|refine Ag rfl ?_|refine Al ?_|refine An ?_|refine Az rfl ?_|refine Bl rfl ?_|refine Bp Tryz.func148 rfl (fun w_ hi_=>?_)|refine Ab 7 ?_;try refine Zv (A7 rfl rfl Y2) ?_;try refine Aa N0 ?_)
     refine⟨_,Bo (by rw[hl,hit];simp only[iter,Out.bind,List.append_nil];rfl) ⟨rfl,_,L2,hT,rfl⟩,?_⟩
     rw[hset]
     exact hi_.pick (F:=F) (Take.join Y7 Y6) Y5
   | cons x td=>
     have hlt:(i:Int) < (n:Nat):=by simp only[List.length_cons] at hn;omega
     rw[hl,hit,iter] at hf
     have hnf:=Out.nf (Out.nf hf)
     repeat' (first|refine Ag rfl ?_|refine Aj rfl ?_|refine Al ?_|refine An ?_|refine A5 rfl ?_|refine A6 ?_|refine AH ?_|refine AB ?_|refine Ab 7 ?_;try refine Zv (A7 rfl rfl Y2) ?_;try refine Aa N0 ?_|refine Ab 8 ?_;try refine Zm rfl (Za rfl (Aa N0 ?_))|refine Ab 9 ?_;try refine Zm rfl (Zm rfl (Zv (Ah rfl) (Zv (Ac U59 rfl rfl Y0 Y4) ?_)));try refine Zm rfl (Zv (Am U59 sz3 rfl rfl Y9 Y9) ?_);try((refine wo_dyn (pre:=L2) Y7 (CallR.fv rfl rfl (hgo _) hen) rfl rfl (each (⟨b,true,.cells (c.setIfInBounds o (.slice (some ⟨bb,0,none⟩) n n)) el (0,0)⟩::F) (fun e h=>.tail _ h) bb 0 n dn x td s2 L2 (by rw[show dn.length+(td.length+1)=n by simp only[List.length_cons] at hn;omega];exact hT) (0+(i:Int).toNat*1) Y9 hnf) (fun e=>AR Tryz.func148 (by rw[hl,hit];simp only[iter,e,Out.bind]) Y5) ?_;rintro⟨a,s3⟩ e3 v post ⟨rfl,hT3⟩)<;>try refine Aa N0 ?_)|refine Ab 10 ?_;try refine Zv (AD rfl rfl Y9 Y9) ?_;try refine Zm rfl (Aa N0 ?_))
     refine A1 Y10 (ih (i+1,dn++[a],td,s3,post) ⟨by rw[show(dn.length+(td.length+1))=n by simp only[List.length_cons] at hn;omega] at hT3;exact hT3,by simp only[List.length_append,List.length_cons,List.length_nil];omega,by simp only[List.length_cons] at hn ⊢;omega,?_⟩ Y28)
     rw[hit]
     simp only[iter,e3,Out.bind]
     cases iter step td s3<;>simp[Out.bind]
theorem list_when_c {α:Type} {b o m cap sz:Nat} {a0:Option Addr} {c:Array Value} {el:TypeId} (hc:c[o]?=some (.slice a0 m cap)) (l:List α) (hml:l.length=m) (z:α) (step:α→σ→Out (α×σ)) (hsz:sz=1∨sz=2∨sz=4)
 (fv:Value) (f:FuncId) (gv:Value→List Value) (hgo:∀p,GoesTo Tryz.prog fv [p] f (gv p)) (hen:Enters Tryz.prog f) (T:Value→List α→List α→σ→List Ent→Prop) (Lx:List Ent)
 (hm:(∀n' s',cd.κ.num m sz s=.ok (n',s')→n'=m)∨l=[]∧Lx=[])
 (start:∀s' L',cd.κ.num m sz s=.ok ((m:Int),s')→cd.St s' L'→T (.slice a0 m cap) [] l s' (L'++Lx))
 (startN:∀(n:Nat) s' L' bb,cd.κ.num m sz s=.ok ((n:Int),s')→0 < n→cd.St s' L'→T (.slice (some ⟨bb,0,none⟩) n n) [] (List.replicate n z) s' (L'++[⟨bb,true,.cells (rowV (fun _:Unit=>[str [],.int .i64 0]) (List.replicate n ())).toArray 75 (0,0)⟩]))
 (room:∀n' s',cd.κ.num m sz s=.ok (n',s')→n'≤65535) (hm4:m < 4294967296)
 (ata:∀hv d x r s L,T hv d (x::r) s L→∃bb off cp,hv=.slice (some ⟨bb,off,none⟩) (d.length+(r.length+1)) cp)
 (each:∀F2,(∀e∈F,e∈F2)→∀bb off cp d x r s L,T (.slice (some ⟨bb,off,none⟩) (d.length+(r.length+1)) cp) d (x::r) s L→∀q,q=off+d.length*2→step x s≠.full→SLF Tryz.prog S w0 F2 f (gv (pv bb q)) L (MoO (step x s) fun a v post=>v=unitV∧T (.slice (some ⟨bb,off,none⟩) (d.length+(r.length+1)) cp) (d++[a.1]) r a.2 post))
 (hf:lst cd.κ sz z step l s≠.full):
 SLF Tryz.prog S w0 F 149 [wkV cd,pv b o,.int .i64 (sz:Int),fv] (L++(Lx++[⟨b,true,.cells c el (0,0)⟩])) (MoO (lst cd.κ sz z step l s) fun a v post=>v=unitV∧∃hv Lr,T hv a.1 [] a.2 Lr∧post=Lr++[⟨b,true,.cells (c.setIfInBounds o hv) el (0,0)⟩]):=by
 refine AE fun w hi=>?_
 simp only[List.append_assoc,List.cons_append,List.nil_append] at hi
 have hlt:o < c.size:=by rw[Array.getElem?_eq_some_iff] at hc;exact hc.1
 have hset:c.setIfInBounds o (.slice a0 m cap)=c:=by
  rw[Array.getElem?_eq_some_iff] at hc
  obtain⟨h1,h2⟩:=hc
  rw[Array.setIfInBounds_def,dif_pos h1,←h2]
  simp
 subst hml
 have hf':=hf
 unfold lst at hf'
 cases hnum:cd.κ.num (l.length:Int) sz s with
 | full=>exact absurd hnum (Out.nf hf')
 | bad=>
   refine Ak Tryz.func149 rfl rfl (hi) ?_
   repeat' (first|refine Ag rfl ?_|refine Aj rfl ?_|refine Al ?_|refine An ?_|refine Ab 0 ?_;try refine AL rfl rfl rfl rfl (fun b_ hb_=>?_);try refine Aa N0 ?_|refine Ab 1 ?_;try refine Zm rfl (Zv (Ah rfl) (Zv (Ac U66 rfl rfl Y0 Y4) ?_));try refine Zv (Ap rfl U66 rfl) ?_;try refine A8 Cl rfl rfl rfl rfl (fun b_ hb_=>?_);try refine AT rfl rfl rfl sz3 Y3 rfl rfl ?_;try refine Aa N0 ?_|refine Ab 2 ?_;try refine Zf Bd rfl (Zv (Ac U111 rfl rfl Y0 Y4) ?_);try refine Zm rfl ?_;try((refine BT cd (sz:=sz) (n:=(l.length:Int)) Y7 Y6 rfl rfl rfl rfl rfl rfl (by repeat(first|exact hE|apply cd.envC|apply cd.envA)) hs hsz (Out.nf hf) (fun e=>AR Tryz.func149 (by simp only[lst,e,Out.bind]) Y5) (fun n2 s2 e1 L' hs'=>?_);rw[hnum] at e1;cases e1)<;>try refine Aa N0 ?_))
 | ok r=>
 obtain⟨n',s'⟩:=r
 have hroom:=room _ _ hnum
 by_cases hneg:n' < 0
 · have hr:lst cd.κ sz z step l s=.bad:=by simp only[lst,hnum,Out.bind,if_pos hneg]
   refine Ak Tryz.func149 rfl rfl (hi) ?_
   repeat' (first|refine Ag rfl ?_|refine Aj rfl ?_|refine Al ?_|refine An ?_|refine Ab 0 ?_;try refine AL rfl rfl rfl rfl (fun b_ hb_=>?_);try refine Aa N0 ?_|refine Ab 1 ?_;try refine Zm rfl (Zv (Ah rfl) (Zv (Ac U66 rfl rfl Y0 Y4) ?_));try refine Zv (Ap rfl U66 rfl) ?_;try refine A8 Cl rfl rfl rfl rfl (fun b_ hb_=>?_);try refine AT rfl rfl rfl sz3 Y3 rfl rfl ?_;try refine Aa N0 ?_|refine Ab 2 ?_;try refine Zf Bd rfl (Zv (Ac U111 rfl rfl Y0 Y4) ?_);try refine Zm rfl ?_;try((refine BT cd (sz:=sz) (n:=(l.length:Int)) Y7 Y6 rfl rfl rfl rfl rfl rfl (by repeat(first|exact hE|apply cd.envC|apply cd.envA)) hs hsz (Out.nf hf) (fun e=>by rw[hnum] at e;cases e) (fun n2 s2 e1 L' hs'=>?_);rw[hnum] at e1;cases e1)<;>try refine Aa N0 ?_)|refine Ab 3 ?_;try refine Zv (Ac U3 rfl rfl Y0 Y4) ?_;try refine Zv (Bj rfl rfl Y2) ?_;try((refine AU (Take.nil _) (CallR.val rfl en79) rfl rfl (Cb false) (fun e=>AR Tryz.func149 hr Y5) ?_;rintro u e v post ⟨rfl,rfl⟩;cases e)<;>try refine Aa N0 ?_))
 by_cases hsame:n'=l.length
 · subst hsame
   have hl:lst cd.κ sz z step l s=iter step l s':=by simp only[lst,hnum,Out.bind,if_neg hneg,if_true]
   refine Ak Tryz.func149 rfl rfl (hi) ?_
   repeat' (first|refine Ag rfl ?_|refine Aj rfl ?_|refine Al ?_|refine An ?_|refine Az rfl ?_|refine A6 ?_|refine AB ?_|refine Ab 0 ?_;try refine AL rfl rfl rfl rfl (fun b_ hb_=>?_);try refine Aa N0 ?_|refine Ab 1 ?_;try refine Zm rfl (Zv (Ah rfl) (Zv (Ac U66 rfl rfl Y0 Y4) ?_));try refine Zv (Ap rfl U66 rfl) ?_;try refine A8 Cl rfl rfl rfl rfl (fun b_ hb_=>?_);try refine AT rfl rfl rfl sz3 Y3 rfl rfl ?_;try refine Aa N0 ?_|refine Ab 2 ?_;try refine Zf Bd rfl (Zv (Ac U111 rfl rfl Y0 Y4) ?_);try refine Zm rfl ?_;try((refine BT cd (sz:=sz) (n:=(l.length:Int)) Y7 Y6 rfl rfl rfl rfl rfl rfl (by repeat(first|exact hE|apply cd.envC|apply cd.envA)) hs hsz (Out.nf hf) (fun e=>by rw[hnum] at e;cases e) (fun n2 s2 e1 L' hs'=>?_);rw[hnum] at e1;cases e1)<;>try refine Aa N0 ?_)|refine Ab 3 ?_;try refine Zv (Ac U3 rfl rfl Y0 Y4) ?_;try refine Zv (Bj rfl rfl Y2) ?_;try((refine AU (Take.nil _) (CallR.val rfl en79) rfl rfl (Cb true) (fun e=>by cases e) ?_;rintro u e v post ⟨rfl,rfl⟩)<;>try refine Aa N0 ?_)|refine BL 4 rfl mixed Y1 ?_;try refine A3 (Ac U3 rfl rfl Y0 Y4) rfl rfl ?_;try refine A3 (Ai rfl) rfl rfl (A3 (Ah rfl) rfl rfl (A3 (Ac U66 rfl rfl Y0 Y4) rfl rfl ?_));try refine A3 (Ap rfl U66 rfl) rfl rfl (A3 (AN rfl rfl (by first|exact Ax Y9|exact As Y9|exact rfl)) rfl rfl ?_);try refine BJ N0 ?_|refine Ab 6 ?_;try refine Zm rfl (Zv (Ah rfl) (Zv (Ac U66 rfl rfl Y0 Y4) ?_));try refine Zv (Ap rfl U66 rfl) (Zm rfl (Aa N0 ?_)))
   have hT0:=start s' L' hnum hs'
   simp only[List.nil_append]
   refine CX (A:=L'++Lx) (e:=⟨b,true,.cells c el (0,0)⟩) (F:=F) (Take.join Y7 Y7) Y6 Y5 ?_
   refine A1 (E':=(fun q:Nat×List α×List α×σ×List Ent=>[(1,pv b o),(3,fv),(34,.int .i64 (l.length:Nat)),(35,.int .i64 (q.1:Int))]) (0,[],l,s',L'++Lx)) Y14 ?_
   refine Bb (fun q:Nat×List α×List α×σ×List Ent=>T (.slice a0 l.length cap) q.2.1 q.2.2.1 q.2.2.2.1 q.2.2.2.2∧q.2.1.length=q.1∧q.1+q.2.2.1.length=l.length∧iter step l s'=(iter step q.2.2.1 q.2.2.2.1).bind fun r=>.ok (q.2.1++r.1,r.2)) (fun q=>q.2.2.1.length) (fun q:Nat×List α×List α×σ×List Ent=>[(1,pv b o),(3,fv),(34,.int .i64 (l.length:Nat)),(35,.int .i64 (q.1:Int))]) (fun q=>q.2.2.2.2++(⟨b,true,.cells c el (0,0)⟩::F)) ?_ (0,[],l,s',L'++Lx) ⟨hT0,rfl,by simp only[List.length_replicate];omega,by cases iter step l s'<;>rfl⟩
   rintro⟨i,dn,td,s2,L2⟩ ⟨hT,hdl,hn,hit⟩ ih
   dsimp only at hT hdl hn hit ih ⊢
   cases td with
   | nil=>
     have hi0:i=l.length:=by simpa using hn
     subst hi0
     repeat' (first|refine Ag rfl ?_|refine Al ?_|refine An ?_|refine Az rfl ?_|refine Bl rfl ?_|refine Bp Tryz.func149 rfl (fun w_ hi_=>?_)|refine Ab 7 ?_;try refine Zv (A7 rfl rfl Y2) ?_;try refine Aa N0 ?_)
     refine⟨_,Bo (by rw[hl,hit];simp only[iter,Out.bind,List.append_nil];rfl) ⟨rfl,_,L2,hT,rfl⟩,?_⟩
     rw[hset]
     exact hi_.pick (F:=F) (Take.join Y7 Y6) Y5
   | cons x td=>
     have hlt:(i:Int) < (l.length:Nat):=by simp only[List.length_cons] at hn;omega
     obtain⟨bb2,off2,cp2,hva⟩:=ata _ _ _ _ _ _ hT
     have hva2:=hva
     rw[show dn.length+(td.length+1)=l.length by simp only[List.length_cons] at hn;omega] at hva2
     cases hva2
     rw[hl,hit,iter] at hf
     have hnf:=Out.nf (Out.nf hf)
     repeat' (first|refine Ag rfl ?_|refine Aj rfl ?_|refine Al ?_|refine An ?_|refine A5 rfl ?_|refine A6 ?_|refine AH ?_|refine AB ?_|refine Ab 7 ?_;try refine Zv (A7 rfl rfl Y2) ?_;try refine Aa N0 ?_|refine Ab 8 ?_;try refine Zm rfl (Za rfl (Aa N0 ?_))|refine Ab 9 ?_;try refine Zm rfl (Zm rfl (Zv (Ah rfl) (Zv (Ac U66 rfl rfl Y0 Y4) ?_)));try refine Zm rfl (Zv (Am U66 sz75 rfl rfl Y9 Y9) ?_);try((refine wo_dyn (pre:=L2) Y7 (CallR.fv rfl rfl (hgo _) hen) rfl rfl (each (⟨b,true,.cells c el (0,0)⟩::F) (fun e h=>.tail _ h) bb2 off2 cap dn x td s2 L2 (by rw[show dn.length+(td.length+1)=l.length by simp only[List.length_cons] at hn;omega];exact hT) (off2+(i:Int).toNat*2) Y9 hnf) (fun e=>AR Tryz.func149 (by rw[hl,hit];simp only[iter,e,Out.bind]) Y5) ?_;rintro⟨a,s3⟩ e3 v post ⟨rfl,hT3⟩)<;>try refine Aa N0 ?_)|refine Ab 10 ?_;try refine Zv (AD rfl rfl Y9 Y9) ?_;try refine Zm rfl (Aa N0 ?_))
     refine A1 Y10 (ih (i+1,dn++[a],td,s3,post) ⟨by rw[show(dn.length+(td.length+1))=l.length by simp only[List.length_cons] at hn;omega] at hT3;exact hT3,by simp only[List.length_append,List.length_cons,List.length_nil];omega,by simp only[List.length_cons] at hn ⊢;omega,?_⟩ Y28)
     rw[hit]
     simp only[iter,e3,Out.bind]
     cases iter step td s3<;>simp[Out.bind]
 · obtain ⟨rfl,rfl⟩:=hm.resolve_left (fun h=>hsame (h _ _ hnum))
   obtain⟨n,rfl⟩:=Int.eq_ofNat_of_zero_le (show 0≤n' by omega)
   have hn0:0 < n:=by simp only[List.length_nil] at hsame;omega
   have hl:lst cd.κ sz z step [] s=iter step (List.replicate n z) s':=by simp only[lst,hnum,Out.bind,if_neg hneg,if_neg hsame];rfl
   refine Ak Tryz.func149 rfl rfl (hi) ?_
   have hnum0:cd.κ.num 0 sz s=.ok ((n:Int),s'):=hnum
   repeat' (first|refine Ag rfl ?_|refine Aj rfl ?_|refine Al ?_|refine An ?_|refine A5 rfl ?_|refine A6 ?_|refine Ab 0 ?_;try refine AL rfl rfl rfl rfl (fun b_ hb_=>?_);try refine Aa N0 ?_|refine Ab 1 ?_;try refine Zm rfl (Zv (Ah rfl) (Zv (Ac U66 rfl rfl Y0 Y4) ?_));try refine Zv (Ap rfl U66 rfl) ?_;try refine A8 Cl rfl rfl rfl rfl (fun b_ hb_=>?_);try refine AT rfl rfl rfl sz3 Y3 rfl rfl ?_;try refine Aa N0 ?_|refine Ab 2 ?_;try refine Zf Bd rfl (Zv (Ac U111 rfl rfl Y0 Y4) ?_);try refine Zm rfl ?_;try((refine BT cd (sz:=sz) (n:=(0:Int)) Y7 Y6 rfl rfl rfl rfl rfl rfl (by repeat(first|exact hE|apply cd.envC|apply cd.envA)) hs hsz (Out.nf hf) (fun e=>by rw[hnum0] at e;cases e) (fun n2 s2 e1 L' hs'=>?_);rw[hnum0] at e1;cases e1)<;>try refine Aa N0 ?_)|refine Ab 3 ?_;try refine Zv (Ac U3 rfl rfl Y0 Y4) ?_;try refine Zv (Bj rfl rfl Y2) ?_;try((refine AU (Take.nil _) (CallR.val rfl en79) rfl rfl (Cb true) (fun e=>by cases e) ?_;rintro u e v post ⟨rfl,rfl⟩)<;>try refine Aa N0 ?_)|refine BL 4 rfl mixed Y1 ?_;try refine A3 (Ac U3 rfl rfl Y0 Y4) rfl rfl ?_;try refine A3 (Ai rfl) rfl rfl (A3 (Ah rfl) rfl rfl (A3 (Ac U66 rfl rfl Y0 Y4) rfl rfl ?_));try refine A3 (Ap rfl U66 rfl) rfl rfl (A3 (AN rfl rfl (by first|exact Ax Y9|exact As Y9|exact rfl)) rfl rfl ?_);try refine BJ N0 ?_|refine Ab 5 ?_;try refine Zm rfl (Zv (Ac U3 rfl rfl Y0 Y4) ?_);try((refine C4 (n:=n) (zs:= #[str [],.int .i64 0]) rfl rfl U66 inf75 rfl rfl rfl rfl Y22 hn0 (show _*n≤_ by simp only[Tryz.t75];omega) Y9 rfl rfl (fun bb hbb=>?_))<;>try refine Zv (Ah rfl) ?_;try((refine AK rfl rfl rfl sz66 Y3 hlt (.inr (Nat.zero_le _)) rfl rfl ?_;have hgt:(c.setIfInBounds o (.slice (some ⟨bb,0,none⟩) n n))[o]?=some (.slice (some ⟨bb,0,none⟩) n n):=by simp[hlt])<;>try refine Aa N0 ?_))|refine Ab 6 ?_;try refine Zm rfl (Zv (Ah rfl) (Zv (Ac U66 rfl rfl Y0 Y4) ?_));try refine Zv (Ap rfl U66 rfl) (Zm rfl (Aa N0 ?_)))
   have hT0:=startN n s' L' bb hnum hn0 hs'
   have hset2:∀v u,(c.setIfInBounds o v).setIfInBounds o u=c.setIfInBounds o u:=fun v u=>by simp
   simp only[List.nil_append]
   have hset:(c.setIfInBounds o (.slice (some ⟨bb,0,none⟩) n n))=(c.setIfInBounds o (.slice (some ⟨bb,0,none⟩) n n)):=rfl
   refine CX (A:=L'++[⟨bb,true,.cells (rowV (fun _:Unit=>[str [],.int .i64 0]) (List.replicate n ())).toArray 75 (0,0)⟩]) (e:=⟨b,true,.cells (c.setIfInBounds o (.slice (some ⟨bb,0,none⟩) n n)) el (0,0)⟩) (F:=F) (Take.join Y7 Y6) Y6 Y5 ?_
   refine A1 (E':=(fun q:Nat×List α×List α×σ×List Ent=>[(1,pv b o),(3,fv),(34,.int .i64 (n:Nat)),(35,.int .i64 (q.1:Int))]) (0,[],(List.replicate n z),s',L'++[⟨bb,true,.cells (rowV (fun _:Unit=>[str [],.int .i64 0]) (List.replicate n ())).toArray 75 (0,0)⟩])) Y14 ?_
   refine Bb (fun q:Nat×List α×List α×σ×List Ent=>T (.slice (some ⟨bb,0,none⟩) n n) q.2.1 q.2.2.1 q.2.2.2.1 q.2.2.2.2∧q.2.1.length=q.1∧q.1+q.2.2.1.length=n∧iter step (List.replicate n z) s'=(iter step q.2.2.1 q.2.2.2.1).bind fun r=>.ok (q.2.1++r.1,r.2)) (fun q=>q.2.2.1.length) (fun q:Nat×List α×List α×σ×List Ent=>[(1,pv b o),(3,fv),(34,.int .i64 (n:Nat)),(35,.int .i64 (q.1:Int))]) (fun q=>q.2.2.2.2++(⟨b,true,.cells (c.setIfInBounds o (.slice (some ⟨bb,0,none⟩) n n)) el (0,0)⟩::F)) ?_ (0,[],(List.replicate n z),s',L'++[⟨bb,true,.cells (rowV (fun _:Unit=>[str [],.int .i64 0]) (List.replicate n ())).toArray 75 (0,0)⟩]) ⟨hT0,rfl,by simp only[List.length_replicate];omega,by cases iter step (List.replicate n z) s'<;>rfl⟩
   rintro⟨i,dn,td,s2,L2⟩ ⟨hT,hdl,hn,hit⟩ ih
   dsimp only at hT hdl hn hit ih ⊢
   cases td with
   | nil=>
     have hi0:i=n:=by simpa using hn
     subst hi0
     repeat' (first|refine Ag rfl ?_|refine Al ?_|refine An ?_|refine Az rfl ?_|refine Bl rfl ?_|refine Bp Tryz.func149 rfl (fun w_ hi_=>?_)|refine Ab 7 ?_;try refine Zv (A7 rfl rfl Y2) ?_;try refine Aa N0 ?_)
     refine⟨_,Bo (by rw[hl,hit];simp only[iter,Out.bind,List.append_nil];rfl) ⟨rfl,_,L2,hT,rfl⟩,?_⟩
     rw[hset]
     exact hi_.pick (F:=F) (Take.join Y7 Y6) Y5
   | cons x td=>
     have hlt:(i:Int) < (n:Nat):=by simp only[List.length_cons] at hn;omega
     rw[hl,hit,iter] at hf
     have hnf:=Out.nf (Out.nf hf)
     repeat' (first|refine Ag rfl ?_|refine Aj rfl ?_|refine Al ?_|refine An ?_|refine A5 rfl ?_|refine A6 ?_|refine AH ?_|refine AB ?_|refine Ab 7 ?_;try refine Zv (A7 rfl rfl Y2) ?_;try refine Aa N0 ?_|refine Ab 8 ?_;try refine Zm rfl (Za rfl (Aa N0 ?_))|refine Ab 9 ?_;try refine Zm rfl (Zm rfl (Zv (Ah rfl) (Zv (Ac U66 rfl rfl Y0 Y4) ?_)));try refine Zm rfl (Zv (Am U66 sz75 rfl rfl Y9 Y9) ?_);try((refine wo_dyn (pre:=L2) Y7 (CallR.fv rfl rfl (hgo _) hen) rfl rfl (each (⟨b,true,.cells (c.setIfInBounds o (.slice (some ⟨bb,0,none⟩) n n)) el (0,0)⟩::F) (fun e h=>.tail _ h) bb 0 n dn x td s2 L2 (by rw[show dn.length+(td.length+1)=n by simp only[List.length_cons] at hn;omega];exact hT) (0+(i:Int).toNat*2) Y9 hnf) (fun e=>AR Tryz.func149 (by rw[hl,hit];simp only[iter,e,Out.bind]) Y5) ?_;rintro⟨a,s3⟩ e3 v post ⟨rfl,hT3⟩)<;>try refine Aa N0 ?_)|refine Ab 10 ?_;try refine Zv (AD rfl rfl Y9 Y9) ?_;try refine Zm rfl (Aa N0 ?_))
     refine A1 Y10 (ih (i+1,dn++[a],td,s3,post) ⟨by rw[show(dn.length+(td.length+1))=n by simp only[List.length_cons] at hn;omega] at hT3;exact hT3,by simp only[List.length_append,List.length_cons,List.length_nil];omega,by simp only[List.length_cons] at hn ⊢;omega,?_⟩ Y28)
     rw[hit]
     simp only[iter,e3,Out.bind]
     cases iter step td s3<;>simp[Out.bind]
theorem list_ins_c {α:Type} {b o m cap sz:Nat} {a0:Option Addr} {c:Array Value} {el:TypeId} (hc:c[o]?=some (.slice a0 m cap)) (l:List α) (hml:l.length=m) (z:α) (step:α→σ→Out (α×σ)) (hsz:sz=1∨sz=2∨sz=4)
 (fv:Value) (f:FuncId) (gv:Value→List Value) (hgo:∀p,GoesTo Tryz.prog fv [p] f (gv p)) (hen:Enters Tryz.prog f) (T:Value→List α→List α→σ→List Ent→Prop) (Lx:List Ent)
 (hm:(∀n' s',cd.κ.num m sz s=.ok (n',s')→n'=m)∨l=[]∧Lx=[])
 (start:∀s' L',cd.κ.num m sz s=.ok ((m:Int),s')→cd.St s' L'→T (.slice a0 m cap) [] l s' (L'++Lx))
 (startN:∀(n:Nat) s' L' bb,cd.κ.num m sz s=.ok ((n:Int),s')→0 < n→cd.St s' L'→T (.slice (some ⟨bb,0,none⟩) n n) [] (List.replicate n z) s' (L'++[⟨bb,true,.cells (rowV (fun _:Unit=>(insC ins0 (.slice none 0 0))) (List.replicate n ())).toArray 73 (0,0)⟩]))
 (room:∀n' s',cd.κ.num m sz s=.ok (n',s')→n'≤65535) (hm4:m < 4294967296)
 (ata:∀hv d x r s L,T hv d (x::r) s L→∃bb off cp,hv=.slice (some ⟨bb,off,none⟩) (d.length+(r.length+1)) cp)
 (each:∀F2,(∀e∈F,e∈F2)→∀bb off cp d x r s L,T (.slice (some ⟨bb,off,none⟩) (d.length+(r.length+1)) cp) d (x::r) s L→∀q,q=off+d.length*8→step x s≠.full→SLF Tryz.prog S w0 F2 f (gv (pv bb q)) L (MoO (step x s) fun a v post=>v=unitV∧T (.slice (some ⟨bb,off,none⟩) (d.length+(r.length+1)) cp) (d++[a.1]) r a.2 post))
 (hf:lst cd.κ sz z step l s≠.full):
 SLF Tryz.prog S w0 F 95 [wkV cd,pv b o,.int .i64 (sz:Int),fv] (L++(Lx++[⟨b,true,.cells c el (0,0)⟩])) (MoO (lst cd.κ sz z step l s) fun a v post=>v=unitV∧∃hv Lr,T hv a.1 [] a.2 Lr∧post=Lr++[⟨b,true,.cells (c.setIfInBounds o hv) el (0,0)⟩]):=by
 refine AE fun w hi=>?_
 simp only[List.append_assoc,List.cons_append,List.nil_append] at hi
 have hlt:o < c.size:=by rw[Array.getElem?_eq_some_iff] at hc;exact hc.1
 have hset:c.setIfInBounds o (.slice a0 m cap)=c:=by
  rw[Array.getElem?_eq_some_iff] at hc
  obtain⟨h1,h2⟩:=hc
  rw[Array.setIfInBounds_def,dif_pos h1,←h2]
  simp
 subst hml
 have hf':=hf
 unfold lst at hf'
 cases hnum:cd.κ.num (l.length:Int) sz s with
 | full=>exact absurd hnum (Out.nf hf')
 | bad=>
   refine Ak Tryz.func95 rfl rfl (hi) ?_
   repeat' (first|refine Ag rfl ?_|refine Aj rfl ?_|refine Al ?_|refine An ?_|refine Ab 0 ?_;try refine AL rfl rfl rfl rfl (fun b_ hb_=>?_);try refine Aa N0 ?_|refine Ab 1 ?_;try refine Zm rfl (Zv (Ah rfl) (Zv (Ac U65 rfl rfl Y0 Y4) ?_));try refine Zv (Ap rfl U65 rfl) ?_;try refine A8 Cl rfl rfl rfl rfl (fun b_ hb_=>?_);try refine AT rfl rfl rfl sz3 Y3 rfl rfl ?_;try refine Aa N0 ?_|refine Ab 2 ?_;try refine Zf Bd rfl (Zv (Ac U111 rfl rfl Y0 Y4) ?_);try refine Zm rfl ?_;try((refine BT cd (sz:=sz) (n:=(l.length:Int)) Y7 Y6 rfl rfl rfl rfl rfl rfl (by repeat(first|exact hE|apply cd.envC|apply cd.envA)) hs hsz (Out.nf hf) (fun e=>AR Tryz.func95 (by simp only[lst,e,Out.bind]) Y5) (fun n2 s2 e1 L' hs'=>?_);rw[hnum] at e1;cases e1)<;>try refine Aa N0 ?_))
 | ok r=>
 obtain⟨n',s'⟩:=r
 have hroom:=room _ _ hnum
 by_cases hneg:n' < 0
 · have hr:lst cd.κ sz z step l s=.bad:=by simp only[lst,hnum,Out.bind,if_pos hneg]
   refine Ak Tryz.func95 rfl rfl (hi) ?_
   repeat' (first|refine Ag rfl ?_|refine Aj rfl ?_|refine Al ?_|refine An ?_|refine Ab 0 ?_;try refine AL rfl rfl rfl rfl (fun b_ hb_=>?_);try refine Aa N0 ?_|refine Ab 1 ?_;try refine Zm rfl (Zv (Ah rfl) (Zv (Ac U65 rfl rfl Y0 Y4) ?_));try refine Zv (Ap rfl U65 rfl) ?_;try refine A8 Cl rfl rfl rfl rfl (fun b_ hb_=>?_);try refine AT rfl rfl rfl sz3 Y3 rfl rfl ?_;try refine Aa N0 ?_|refine Ab 2 ?_;try refine Zf Bd rfl (Zv (Ac U111 rfl rfl Y0 Y4) ?_);try refine Zm rfl ?_;try((refine BT cd (sz:=sz) (n:=(l.length:Int)) Y7 Y6 rfl rfl rfl rfl rfl rfl (by repeat(first|exact hE|apply cd.envC|apply cd.envA)) hs hsz (Out.nf hf) (fun e=>by rw[hnum] at e;cases e) (fun n2 s2 e1 L' hs'=>?_);rw[hnum] at e1;cases e1)<;>try refine Aa N0 ?_)|refine Ab 3 ?_;try refine Zv (Ac U3 rfl rfl Y0 Y4) ?_;try refine Zv (Bj rfl rfl Y2) ?_;try((refine AU (Take.nil _) (CallR.val rfl en79) rfl rfl (Cb false) (fun e=>AR Tryz.func95 hr Y5) ?_;rintro u e v post ⟨rfl,rfl⟩;cases e)<;>try refine Aa N0 ?_))
 by_cases hsame:n'=l.length
 · subst hsame
   have hl:lst cd.κ sz z step l s=iter step l s':=by simp only[lst,hnum,Out.bind,if_neg hneg,if_true]
   refine Ak Tryz.func95 rfl rfl (hi) ?_
   repeat' (first|refine Ag rfl ?_|refine Aj rfl ?_|refine Al ?_|refine An ?_|refine Az rfl ?_|refine A6 ?_|refine AB ?_|refine Ab 0 ?_;try refine AL rfl rfl rfl rfl (fun b_ hb_=>?_);try refine Aa N0 ?_|refine Ab 1 ?_;try refine Zm rfl (Zv (Ah rfl) (Zv (Ac U65 rfl rfl Y0 Y4) ?_));try refine Zv (Ap rfl U65 rfl) ?_;try refine A8 Cl rfl rfl rfl rfl (fun b_ hb_=>?_);try refine AT rfl rfl rfl sz3 Y3 rfl rfl ?_;try refine Aa N0 ?_|refine Ab 2 ?_;try refine Zf Bd rfl (Zv (Ac U111 rfl rfl Y0 Y4) ?_);try refine Zm rfl ?_;try((refine BT cd (sz:=sz) (n:=(l.length:Int)) Y7 Y6 rfl rfl rfl rfl rfl rfl (by repeat(first|exact hE|apply cd.envC|apply cd.envA)) hs hsz (Out.nf hf) (fun e=>by rw[hnum] at e;cases e) (fun n2 s2 e1 L' hs'=>?_);rw[hnum] at e1;cases e1)<;>try refine Aa N0 ?_)|refine Ab 3 ?_;try refine Zv (Ac U3 rfl rfl Y0 Y4) ?_;try refine Zv (Bj rfl rfl Y2) ?_;try((refine AU (Take.nil _) (CallR.val rfl en79) rfl rfl (Cb true) (fun e=>by cases e) ?_;rintro u e v post ⟨rfl,rfl⟩)<;>try refine Aa N0 ?_)|refine BL 4 rfl mixed Y1 ?_;try refine A3 (Ac U3 rfl rfl Y0 Y4) rfl rfl ?_;try refine A3 (Ai rfl) rfl rfl (A3 (Ah rfl) rfl rfl (A3 (Ac U65 rfl rfl Y0 Y4) rfl rfl ?_));try refine A3 (Ap rfl U65 rfl) rfl rfl (A3 (AN rfl rfl (by first|exact Ax Y9|exact As Y9|exact rfl)) rfl rfl ?_);try refine BJ N0 ?_|refine Ab 6 ?_;try refine Zm rfl (Zv (Ah rfl) (Zv (Ac U65 rfl rfl Y0 Y4) ?_));try refine Zv (Ap rfl U65 rfl) (Zm rfl (Aa N0 ?_)))
   have hT0:=start s' L' hnum hs'
   simp only[List.nil_append]
   refine CX (A:=L'++Lx) (e:=⟨b,true,.cells c el (0,0)⟩) (F:=F) (Take.join Y7 Y7) Y6 Y5 ?_
   refine A1 (E':=(fun q:Nat×List α×List α×σ×List Ent=>[(1,pv b o),(3,fv),(34,.int .i64 (l.length:Nat)),(35,.int .i64 (q.1:Int))]) (0,[],l,s',L'++Lx)) Y14 ?_
   refine Bb (fun q:Nat×List α×List α×σ×List Ent=>T (.slice a0 l.length cap) q.2.1 q.2.2.1 q.2.2.2.1 q.2.2.2.2∧q.2.1.length=q.1∧q.1+q.2.2.1.length=l.length∧iter step l s'=(iter step q.2.2.1 q.2.2.2.1).bind fun r=>.ok (q.2.1++r.1,r.2)) (fun q=>q.2.2.1.length) (fun q:Nat×List α×List α×σ×List Ent=>[(1,pv b o),(3,fv),(34,.int .i64 (l.length:Nat)),(35,.int .i64 (q.1:Int))]) (fun q=>q.2.2.2.2++(⟨b,true,.cells c el (0,0)⟩::F)) ?_ (0,[],l,s',L'++Lx) ⟨hT0,rfl,by simp only[List.length_replicate];omega,by cases iter step l s'<;>rfl⟩
   rintro⟨i,dn,td,s2,L2⟩ ⟨hT,hdl,hn,hit⟩ ih
   dsimp only at hT hdl hn hit ih ⊢
   cases td with
   | nil=>
     have hi0:i=l.length:=by simpa using hn
     subst hi0
     repeat' (first|refine Ag rfl ?_|refine Al ?_|refine An ?_|refine Az rfl ?_|refine Bl rfl ?_|refine Bp Tryz.func95 rfl (fun w_ hi_=>?_)|refine Ab 7 ?_;try refine Zv (A7 rfl rfl Y2) ?_;try refine Aa N0 ?_)
     refine⟨_,Bo (by rw[hl,hit];simp only[iter,Out.bind,List.append_nil];rfl) ⟨rfl,_,L2,hT,rfl⟩,?_⟩
     rw[hset]
     exact hi_.pick (F:=F) (Take.join Y7 Y6) Y5
   | cons x td=>
     have hlt:(i:Int) < (l.length:Nat):=by simp only[List.length_cons] at hn;omega
     obtain⟨bb2,off2,cp2,hva⟩:=ata _ _ _ _ _ _ hT
     have hva2:=hva
     rw[show dn.length+(td.length+1)=l.length by simp only[List.length_cons] at hn;omega] at hva2
     cases hva2
     rw[hl,hit,iter] at hf
     have hnf:=Out.nf (Out.nf hf)
     repeat' (first|refine Ag rfl ?_|refine Aj rfl ?_|refine Al ?_|refine An ?_|refine A5 rfl ?_|refine A6 ?_|refine AH ?_|refine AB ?_|refine Ab 7 ?_;try refine Zv (A7 rfl rfl Y2) ?_;try refine Aa N0 ?_|refine Ab 8 ?_;try refine Zm rfl (Za rfl (Aa N0 ?_))|refine Ab 9 ?_;try refine Zm rfl (Zm rfl (Zv (Ah rfl) (Zv (Ac U65 rfl rfl Y0 Y4) ?_)));try refine Zm rfl (Zv (Am U65 sz73 rfl rfl Y9 Y9) ?_);try((refine wo_dyn (pre:=L2) Y7 (CallR.fv rfl rfl (hgo _) hen) rfl rfl (each (⟨b,true,.cells c el (0,0)⟩::F) (fun e h=>.tail _ h) bb2 off2 cap dn x td s2 L2 (by rw[show dn.length+(td.length+1)=l.length by simp only[List.length_cons] at hn;omega];exact hT) (off2+(i:Int).toNat*8) Y9 hnf) (fun e=>AR Tryz.func95 (by rw[hl,hit];simp only[iter,e,Out.bind]) Y5) ?_;rintro⟨a,s3⟩ e3 v post ⟨rfl,hT3⟩)<;>try refine Aa N0 ?_)|refine Ab 10 ?_;try refine Zv (AD rfl rfl Y9 Y9) ?_;try refine Zm rfl (Aa N0 ?_))
     refine A1 Y10 (ih (i+1,dn++[a],td,s3,post) ⟨by rw[show(dn.length+(td.length+1))=l.length by simp only[List.length_cons] at hn;omega] at hT3;exact hT3,by simp only[List.length_append,List.length_cons,List.length_nil];omega,by simp only[List.length_cons] at hn ⊢;omega,?_⟩ Y28)
     rw[hit]
     simp only[iter,e3,Out.bind]
     cases iter step td s3<;>simp[Out.bind]
 · obtain ⟨rfl,rfl⟩:=hm.resolve_left (fun h=>hsame (h _ _ hnum))
   obtain⟨n,rfl⟩:=Int.eq_ofNat_of_zero_le (show 0≤n' by omega)
   have hn0:0 < n:=by simp only[List.length_nil] at hsame;omega
   have hl:lst cd.κ sz z step [] s=iter step (List.replicate n z) s':=by simp only[lst,hnum,Out.bind,if_neg hneg,if_neg hsame];rfl
   refine Ak Tryz.func95 rfl rfl (hi) ?_
   have hnum0:cd.κ.num 0 sz s=.ok ((n:Int),s'):=hnum
   repeat' (first|refine Ag rfl ?_|refine Aj rfl ?_|refine Al ?_|refine An ?_|refine A5 rfl ?_|refine A6 ?_|refine Ab 0 ?_;try refine AL rfl rfl rfl rfl (fun b_ hb_=>?_);try refine Aa N0 ?_|refine Ab 1 ?_;try refine Zm rfl (Zv (Ah rfl) (Zv (Ac U65 rfl rfl Y0 Y4) ?_));try refine Zv (Ap rfl U65 rfl) ?_;try refine A8 Cl rfl rfl rfl rfl (fun b_ hb_=>?_);try refine AT rfl rfl rfl sz3 Y3 rfl rfl ?_;try refine Aa N0 ?_|refine Ab 2 ?_;try refine Zf Bd rfl (Zv (Ac U111 rfl rfl Y0 Y4) ?_);try refine Zm rfl ?_;try((refine BT cd (sz:=sz) (n:=(0:Int)) Y7 Y6 rfl rfl rfl rfl rfl rfl (by repeat(first|exact hE|apply cd.envC|apply cd.envA)) hs hsz (Out.nf hf) (fun e=>by rw[hnum0] at e;cases e) (fun n2 s2 e1 L' hs'=>?_);rw[hnum0] at e1;cases e1)<;>try refine Aa N0 ?_)|refine Ab 3 ?_;try refine Zv (Ac U3 rfl rfl Y0 Y4) ?_;try refine Zv (Bj rfl rfl Y2) ?_;try((refine AU (Take.nil _) (CallR.val rfl en79) rfl rfl (Cb true) (fun e=>by cases e) ?_;rintro u e v post ⟨rfl,rfl⟩)<;>try refine Aa N0 ?_)|refine BL 4 rfl mixed Y1 ?_;try refine A3 (Ac U3 rfl rfl Y0 Y4) rfl rfl ?_;try refine A3 (Ai rfl) rfl rfl (A3 (Ah rfl) rfl rfl (A3 (Ac U65 rfl rfl Y0 Y4) rfl rfl ?_));try refine A3 (Ap rfl U65 rfl) rfl rfl (A3 (AN rfl rfl (by first|exact Ax Y9|exact As Y9|exact rfl)) rfl rfl ?_);try refine BJ N0 ?_|refine Ab 5 ?_;try refine Zm rfl (Zv (Ac U3 rfl rfl Y0 Y4) ?_);try((refine C4 (n:=n) (zs:=(insC ins0 (.slice none 0 0)).toArray) rfl rfl U65 inf73 rfl rfl rfl rfl Y22 hn0 (show _*n≤_ by simp only[Tryz.t73];omega) Y9 rfl rfl (fun bb hbb=>?_))<;>try refine Zv (Ah rfl) ?_;try((refine AK rfl rfl rfl sz65 Y3 hlt (.inr (Nat.zero_le _)) rfl rfl ?_;have hgt:(c.setIfInBounds o (.slice (some ⟨bb,0,none⟩) n n))[o]?=some (.slice (some ⟨bb,0,none⟩) n n):=by simp[hlt])<;>try refine Aa N0 ?_))|refine Ab 6 ?_;try refine Zm rfl (Zv (Ah rfl) (Zv (Ac U65 rfl rfl Y0 Y4) ?_));try refine Zv (Ap rfl U65 rfl) (Zm rfl (Aa N0 ?_)))
   have hT0:=startN n s' L' bb hnum hn0 hs'
   have hset2:∀v u,(c.setIfInBounds o v).setIfInBounds o u=c.setIfInBounds o u:=fun v u=>by simp
   simp only[List.nil_append]
   have hset:(c.setIfInBounds o (.slice (some ⟨bb,0,none⟩) n n))=(c.setIfInBounds o (.slice (some ⟨bb,0,none⟩) n n)):=rfl
   refine CX (A:=L'++[⟨bb,true,.cells (rowV (fun _:Unit=>(insC ins0 (.slice none 0 0))) (List.replicate n ())).toArray 73 (0,0)⟩]) (e:=⟨b,true,.cells (c.setIfInBounds o (.slice (some ⟨bb,0,none⟩) n n)) el (0,0)⟩) (F:=F) (Take.join Y7 Y6) Y6 Y5 ?_
   refine A1 (E':=(fun q:Nat×List α×List α×σ×List Ent=>[(1,pv b o),(3,fv),(34,.int .i64 (n:Nat)),(35,.int .i64 (q.1:Int))]) (0,[],(List.replicate n z),s',L'++[⟨bb,true,.cells (rowV (fun _:Unit=>(insC ins0 (.slice none 0 0))) (List.replicate n ())).toArray 73 (0,0)⟩])) Y14 ?_
   refine Bb (fun q:Nat×List α×List α×σ×List Ent=>T (.slice (some ⟨bb,0,none⟩) n n) q.2.1 q.2.2.1 q.2.2.2.1 q.2.2.2.2∧q.2.1.length=q.1∧q.1+q.2.2.1.length=n∧iter step (List.replicate n z) s'=(iter step q.2.2.1 q.2.2.2.1).bind fun r=>.ok (q.2.1++r.1,r.2)) (fun q=>q.2.2.1.length) (fun q:Nat×List α×List α×σ×List Ent=>[(1,pv b o),(3,fv),(34,.int .i64 (n:Nat)),(35,.int .i64 (q.1:Int))]) (fun q=>q.2.2.2.2++(⟨b,true,.cells (c.setIfInBounds o (.slice (some ⟨bb,0,none⟩) n n)) el (0,0)⟩::F)) ?_ (0,[],(List.replicate n z),s',L'++[⟨bb,true,.cells (rowV (fun _:Unit=>(insC ins0 (.slice none 0 0))) (List.replicate n ())).toArray 73 (0,0)⟩]) ⟨hT0,rfl,by simp only[List.length_replicate];omega,by cases iter step (List.replicate n z) s'<;>rfl⟩
   rintro⟨i,dn,td,s2,L2⟩ ⟨hT,hdl,hn,hit⟩ ih
   dsimp only at hT hdl hn hit ih ⊢
   cases td with
   | nil=>
     have hi0:i=n:=by simpa using hn
     subst hi0
     repeat' (first|refine Ag rfl ?_|refine Al ?_|refine An ?_|refine Az rfl ?_|refine Bl rfl ?_|refine Bp Tryz.func95 rfl (fun w_ hi_=>?_)|refine Ab 7 ?_;try refine Zv (A7 rfl rfl Y2) ?_;try refine Aa N0 ?_)
     refine⟨_,Bo (by rw[hl,hit];simp only[iter,Out.bind,List.append_nil];rfl) ⟨rfl,_,L2,hT,rfl⟩,?_⟩
     rw[hset]
     exact hi_.pick (F:=F) (Take.join Y7 Y6) Y5
   | cons x td=>
     have hlt:(i:Int) < (n:Nat):=by simp only[List.length_cons] at hn;omega
     rw[hl,hit,iter] at hf
     have hnf:=Out.nf (Out.nf hf)
     repeat' (first|refine Ag rfl ?_|refine Aj rfl ?_|refine Al ?_|refine An ?_|refine A5 rfl ?_|refine A6 ?_|refine AH ?_|refine AB ?_|refine Ab 7 ?_;try refine Zv (A7 rfl rfl Y2) ?_;try refine Aa N0 ?_|refine Ab 8 ?_;try refine Zm rfl (Za rfl (Aa N0 ?_))|refine Ab 9 ?_;try refine Zm rfl (Zm rfl (Zv (Ah rfl) (Zv (Ac U65 rfl rfl Y0 Y4) ?_)));try refine Zm rfl (Zv (Am U65 sz73 rfl rfl Y9 Y9) ?_);try((refine wo_dyn (pre:=L2) Y7 (CallR.fv rfl rfl (hgo _) hen) rfl rfl (each (⟨b,true,.cells (c.setIfInBounds o (.slice (some ⟨bb,0,none⟩) n n)) el (0,0)⟩::F) (fun e h=>.tail _ h) bb 0 n dn x td s2 L2 (by rw[show dn.length+(td.length+1)=n by simp only[List.length_cons] at hn;omega];exact hT) (0+(i:Int).toNat*8) Y9 hnf) (fun e=>AR Tryz.func95 (by rw[hl,hit];simp only[iter,e,Out.bind]) Y5) ?_;rintro⟨a,s3⟩ e3 v post ⟨rfl,hT3⟩)<;>try refine Aa N0 ?_)|refine Ab 10 ?_;try refine Zv (AD rfl rfl Y9 Y9) ?_;try refine Zm rfl (Aa N0 ?_))
     refine A1 Y10 (ih (i+1,dn++[a],td,s3,post) ⟨by rw[show(dn.length+(td.length+1))=n by simp only[List.length_cons] at hn;omega] at hT3;exact hT3,by simp only[List.length_append,List.length_cons,List.length_nil];omega,by simp only[List.length_cons] at hn ⊢;omega,?_⟩ Y28)
     rw[hit]
     simp only[iter,e3,Out.bind]
     cases iter step td s3<;>simp[Out.bind]
theorem list_blk_c {α:Type} {b o m cap sz:Nat} {a0:Option Addr} {c:Array Value} {el:TypeId} (hc:c[o]?=some (.slice a0 m cap)) (l:List α) (hml:l.length=m) (z:α) (step:α→σ→Out (α×σ)) (hsz:sz=1∨sz=2∨sz=4)
 (fv:Value) (f:FuncId) (gv:Value→List Value) (hgo:∀p,GoesTo Tryz.prog fv [p] f (gv p)) (hen:Enters Tryz.prog f) (T:Value→List α→List α→σ→List Ent→Prop) (Lx:List Ent)
 (hm:(∀n' s',cd.κ.num m sz s=.ok (n',s')→n'=m)∨l=[]∧Lx=[])
 (start:∀s' L',cd.κ.num m sz s=.ok ((m:Int),s')→cd.St s' L'→T (.slice a0 m cap) [] l s' (L'++Lx))
 (startN:∀(n:Nat) s' L' bb,cd.κ.num m sz s=.ok ((n:Int),s')→0 < n→cd.St s' L'→T (.slice (some ⟨bb,0,none⟩) n n) [] (List.replicate n z) s' (L'++[⟨bb,true,.cells (rowV (fun _:Unit=>(.slice none 0 0::endC end0 (.slice none 0 0) (.slice none 0 0))) (List.replicate n ())).toArray 70 (0,0)⟩]))
 (room:∀n' s',cd.κ.num m sz s=.ok (n',s')→n'≤65535) (hm4:m < 4294967296)
 (ata:∀hv d x r s L,T hv d (x::r) s L→∃bb off cp,hv=.slice (some ⟨bb,off,none⟩) (d.length+(r.length+1)) cp)
 (each:∀F2,(∀e∈F,e∈F2)→∀bb off cp d x r s L,T (.slice (some ⟨bb,off,none⟩) (d.length+(r.length+1)) cp) d (x::r) s L→∀q,q=off+d.length*10→step x s≠.full→SLF Tryz.prog S w0 F2 f (gv (pv bb q)) L (MoO (step x s) fun a v post=>v=unitV∧T (.slice (some ⟨bb,off,none⟩) (d.length+(r.length+1)) cp) (d++[a.1]) r a.2 post))
 (hf:lst cd.κ sz z step l s≠.full):
 SLF Tryz.prog S w0 F 93 [wkV cd,pv b o,.int .i64 (sz:Int),fv] (L++(Lx++[⟨b,true,.cells c el (0,0)⟩])) (MoO (lst cd.κ sz z step l s) fun a v post=>v=unitV∧∃hv Lr,T hv a.1 [] a.2 Lr∧post=Lr++[⟨b,true,.cells (c.setIfInBounds o hv) el (0,0)⟩]):=by
 refine AE fun w hi=>?_
 simp only[List.append_assoc,List.cons_append,List.nil_append] at hi
 have hlt:o < c.size:=by rw[Array.getElem?_eq_some_iff] at hc;exact hc.1
 have hset:c.setIfInBounds o (.slice a0 m cap)=c:=by
  rw[Array.getElem?_eq_some_iff] at hc
  obtain⟨h1,h2⟩:=hc
  rw[Array.setIfInBounds_def,dif_pos h1,←h2]
  simp
 subst hml
 have hf':=hf
 unfold lst at hf'
 cases hnum:cd.κ.num (l.length:Int) sz s with
 | full=>exact absurd hnum (Out.nf hf')
 | bad=>
   refine Ak Tryz.func93 rfl rfl (hi) ?_
   repeat' (first|refine Ag rfl ?_|refine Aj rfl ?_|refine Al ?_|refine An ?_|refine Ab 0 ?_;try refine AL rfl rfl rfl rfl (fun b_ hb_=>?_);try refine Aa N0 ?_|refine Ab 1 ?_;try refine Zm rfl (Zv (Ah rfl) (Zv (Ac U24 rfl rfl Y0 Y4) ?_));try refine Zv (Ap rfl U24 rfl) ?_;try refine A8 Cl rfl rfl rfl rfl (fun b_ hb_=>?_);try refine AT rfl rfl rfl sz3 Y3 rfl rfl ?_;try refine Aa N0 ?_|refine Ab 2 ?_;try refine Zf Bd rfl (Zv (Ac U111 rfl rfl Y0 Y4) ?_);try refine Zm rfl ?_;try((refine BT cd (sz:=sz) (n:=(l.length:Int)) Y7 Y6 rfl rfl rfl rfl rfl rfl (by repeat(first|exact hE|apply cd.envC|apply cd.envA)) hs hsz (Out.nf hf) (fun e=>AR Tryz.func93 (by simp only[lst,e,Out.bind]) Y5) (fun n2 s2 e1 L' hs'=>?_);rw[hnum] at e1;cases e1)<;>try refine Aa N0 ?_))
 | ok r=>
 obtain⟨n',s'⟩:=r
 have hroom:=room _ _ hnum
 by_cases hneg:n' < 0
 · have hr:lst cd.κ sz z step l s=.bad:=by simp only[lst,hnum,Out.bind,if_pos hneg]
   refine Ak Tryz.func93 rfl rfl (hi) ?_
   repeat' (first|refine Ag rfl ?_|refine Aj rfl ?_|refine Al ?_|refine An ?_|refine Ab 0 ?_;try refine AL rfl rfl rfl rfl (fun b_ hb_=>?_);try refine Aa N0 ?_|refine Ab 1 ?_;try refine Zm rfl (Zv (Ah rfl) (Zv (Ac U24 rfl rfl Y0 Y4) ?_));try refine Zv (Ap rfl U24 rfl) ?_;try refine A8 Cl rfl rfl rfl rfl (fun b_ hb_=>?_);try refine AT rfl rfl rfl sz3 Y3 rfl rfl ?_;try refine Aa N0 ?_|refine Ab 2 ?_;try refine Zf Bd rfl (Zv (Ac U111 rfl rfl Y0 Y4) ?_);try refine Zm rfl ?_;try((refine BT cd (sz:=sz) (n:=(l.length:Int)) Y7 Y6 rfl rfl rfl rfl rfl rfl (by repeat(first|exact hE|apply cd.envC|apply cd.envA)) hs hsz (Out.nf hf) (fun e=>by rw[hnum] at e;cases e) (fun n2 s2 e1 L' hs'=>?_);rw[hnum] at e1;cases e1)<;>try refine Aa N0 ?_)|refine Ab 3 ?_;try refine Zv (Ac U3 rfl rfl Y0 Y4) ?_;try refine Zv (Bj rfl rfl Y2) ?_;try((refine AU (Take.nil _) (CallR.val rfl en79) rfl rfl (Cb false) (fun e=>AR Tryz.func93 hr Y5) ?_;rintro u e v post ⟨rfl,rfl⟩;cases e)<;>try refine Aa N0 ?_))
 by_cases hsame:n'=l.length
 · subst hsame
   have hl:lst cd.κ sz z step l s=iter step l s':=by simp only[lst,hnum,Out.bind,if_neg hneg,if_true]
   refine Ak Tryz.func93 rfl rfl (hi) ?_
   repeat' (first|refine Ag rfl ?_|refine Aj rfl ?_|refine Al ?_|refine An ?_|refine Az rfl ?_|refine A6 ?_|refine AB ?_|refine Ab 0 ?_;try refine AL rfl rfl rfl rfl (fun b_ hb_=>?_);try refine Aa N0 ?_|refine Ab 1 ?_;try refine Zm rfl (Zv (Ah rfl) (Zv (Ac U24 rfl rfl Y0 Y4) ?_));try refine Zv (Ap rfl U24 rfl) ?_;try refine A8 Cl rfl rfl rfl rfl (fun b_ hb_=>?_);try refine AT rfl rfl rfl sz3 Y3 rfl rfl ?_;try refine Aa N0 ?_|refine Ab 2 ?_;try refine Zf Bd rfl (Zv (Ac U111 rfl rfl Y0 Y4) ?_);try refine Zm rfl ?_;try((refine BT cd (sz:=sz) (n:=(l.length:Int)) Y7 Y6 rfl rfl rfl rfl rfl rfl (by repeat(first|exact hE|apply cd.envC|apply cd.envA)) hs hsz (Out.nf hf) (fun e=>by rw[hnum] at e;cases e) (fun n2 s2 e1 L' hs'=>?_);rw[hnum] at e1;cases e1)<;>try refine Aa N0 ?_)|refine Ab 3 ?_;try refine Zv (Ac U3 rfl rfl Y0 Y4) ?_;try refine Zv (Bj rfl rfl Y2) ?_;try((refine AU (Take.nil _) (CallR.val rfl en79) rfl rfl (Cb true) (fun e=>by cases e) ?_;rintro u e v post ⟨rfl,rfl⟩)<;>try refine Aa N0 ?_)|refine BL 4 rfl mixed Y1 ?_;try refine A3 (Ac U3 rfl rfl Y0 Y4) rfl rfl ?_;try refine A3 (Ai rfl) rfl rfl (A3 (Ah rfl) rfl rfl (A3 (Ac U24 rfl rfl Y0 Y4) rfl rfl ?_));try refine A3 (Ap rfl U24 rfl) rfl rfl (A3 (AN rfl rfl (by first|exact Ax Y9|exact As Y9|exact rfl)) rfl rfl ?_);try refine BJ N0 ?_|refine Ab 6 ?_;try refine Zm rfl (Zv (Ah rfl) (Zv (Ac U24 rfl rfl Y0 Y4) ?_));try refine Zv (Ap rfl U24 rfl) (Zm rfl (Aa N0 ?_)))
   have hT0:=start s' L' hnum hs'
   simp only[List.nil_append]
   refine CX (A:=L'++Lx) (e:=⟨b,true,.cells c el (0,0)⟩) (F:=F) (Take.join Y7 Y7) Y6 Y5 ?_
   refine A1 (E':=(fun q:Nat×List α×List α×σ×List Ent=>[(1,pv b o),(3,fv),(34,.int .i64 (l.length:Nat)),(35,.int .i64 (q.1:Int))]) (0,[],l,s',L'++Lx)) Y14 ?_
   refine Bb (fun q:Nat×List α×List α×σ×List Ent=>T (.slice a0 l.length cap) q.2.1 q.2.2.1 q.2.2.2.1 q.2.2.2.2∧q.2.1.length=q.1∧q.1+q.2.2.1.length=l.length∧iter step l s'=(iter step q.2.2.1 q.2.2.2.1).bind fun r=>.ok (q.2.1++r.1,r.2)) (fun q=>q.2.2.1.length) (fun q:Nat×List α×List α×σ×List Ent=>[(1,pv b o),(3,fv),(34,.int .i64 (l.length:Nat)),(35,.int .i64 (q.1:Int))]) (fun q=>q.2.2.2.2++(⟨b,true,.cells c el (0,0)⟩::F)) ?_ (0,[],l,s',L'++Lx) ⟨hT0,rfl,by simp only[List.length_replicate];omega,by cases iter step l s'<;>rfl⟩
   rintro⟨i,dn,td,s2,L2⟩ ⟨hT,hdl,hn,hit⟩ ih
   dsimp only at hT hdl hn hit ih ⊢
   cases td with
   | nil=>
     have hi0:i=l.length:=by simpa using hn
     subst hi0
     repeat' (first|refine Ag rfl ?_|refine Al ?_|refine An ?_|refine Az rfl ?_|refine Bl rfl ?_|refine Bp Tryz.func93 rfl (fun w_ hi_=>?_)|refine Ab 7 ?_;try refine Zv (A7 rfl rfl Y2) ?_;try refine Aa N0 ?_)
     refine⟨_,Bo (by rw[hl,hit];simp only[iter,Out.bind,List.append_nil];rfl) ⟨rfl,_,L2,hT,rfl⟩,?_⟩
     rw[hset]
     exact hi_.pick (F:=F) (Take.join Y7 Y6) Y5
   | cons x td=>
     have hlt:(i:Int) < (l.length:Nat):=by simp only[List.length_cons] at hn;omega
     obtain⟨bb2,off2,cp2,hva⟩:=ata _ _ _ _ _ _ hT
     have hva2:=hva
     rw[show dn.length+(td.length+1)=l.length by simp only[List.length_cons] at hn;omega] at hva2
     cases hva2
     rw[hl,hit,iter] at hf
     have hnf:=Out.nf (Out.nf hf)
     repeat' (first|refine Ag rfl ?_|refine Aj rfl ?_|refine Al ?_|refine An ?_|refine A5 rfl ?_|refine A6 ?_|refine AH ?_|refine AB ?_|refine Ab 7 ?_;try refine Zv (A7 rfl rfl Y2) ?_;try refine Aa N0 ?_|refine Ab 8 ?_;try refine Zm rfl (Za rfl (Aa N0 ?_))|refine Ab 9 ?_;try refine Zm rfl (Zm rfl (Zv (Ah rfl) (Zv (Ac U24 rfl rfl Y0 Y4) ?_)));try refine Zm rfl (Zv (Am U24 sz70 rfl rfl Y9 Y9) ?_);try((refine wo_dyn (pre:=L2) Y7 (CallR.fv rfl rfl (hgo _) hen) rfl rfl (each (⟨b,true,.cells c el (0,0)⟩::F) (fun e h=>.tail _ h) bb2 off2 cap dn x td s2 L2 (by rw[show dn.length+(td.length+1)=l.length by simp only[List.length_cons] at hn;omega];exact hT) (off2+(i:Int).toNat*10) Y9 hnf) (fun e=>AR Tryz.func93 (by rw[hl,hit];simp only[iter,e,Out.bind]) Y5) ?_;rintro⟨a,s3⟩ e3 v post ⟨rfl,hT3⟩)<;>try refine Aa N0 ?_)|refine Ab 10 ?_;try refine Zv (AD rfl rfl Y9 Y9) ?_;try refine Zm rfl (Aa N0 ?_))
     refine A1 Y10 (ih (i+1,dn++[a],td,s3,post) ⟨by rw[show(dn.length+(td.length+1))=l.length by simp only[List.length_cons] at hn;omega] at hT3;exact hT3,by simp only[List.length_append,List.length_cons,List.length_nil];omega,by simp only[List.length_cons] at hn ⊢;omega,?_⟩ Y28)
     rw[hit]
     simp only[iter,e3,Out.bind]
     cases iter step td s3<;>simp[Out.bind]
 · obtain ⟨rfl,rfl⟩:=hm.resolve_left (fun h=>hsame (h _ _ hnum))
   obtain⟨n,rfl⟩:=Int.eq_ofNat_of_zero_le (show 0≤n' by omega)
   have hn0:0 < n:=by simp only[List.length_nil] at hsame;omega
   have hl:lst cd.κ sz z step [] s=iter step (List.replicate n z) s':=by simp only[lst,hnum,Out.bind,if_neg hneg,if_neg hsame];rfl
   refine Ak Tryz.func93 rfl rfl (hi) ?_
   have hnum0:cd.κ.num 0 sz s=.ok ((n:Int),s'):=hnum
   repeat' (first|refine Ag rfl ?_|refine Aj rfl ?_|refine Al ?_|refine An ?_|refine A5 rfl ?_|refine A6 ?_|refine Ab 0 ?_;try refine AL rfl rfl rfl rfl (fun b_ hb_=>?_);try refine Aa N0 ?_|refine Ab 1 ?_;try refine Zm rfl (Zv (Ah rfl) (Zv (Ac U24 rfl rfl Y0 Y4) ?_));try refine Zv (Ap rfl U24 rfl) ?_;try refine A8 Cl rfl rfl rfl rfl (fun b_ hb_=>?_);try refine AT rfl rfl rfl sz3 Y3 rfl rfl ?_;try refine Aa N0 ?_|refine Ab 2 ?_;try refine Zf Bd rfl (Zv (Ac U111 rfl rfl Y0 Y4) ?_);try refine Zm rfl ?_;try((refine BT cd (sz:=sz) (n:=(0:Int)) Y7 Y6 rfl rfl rfl rfl rfl rfl (by repeat(first|exact hE|apply cd.envC|apply cd.envA)) hs hsz (Out.nf hf) (fun e=>by rw[hnum0] at e;cases e) (fun n2 s2 e1 L' hs'=>?_);rw[hnum0] at e1;cases e1)<;>try refine Aa N0 ?_)|refine Ab 3 ?_;try refine Zv (Ac U3 rfl rfl Y0 Y4) ?_;try refine Zv (Bj rfl rfl Y2) ?_;try((refine AU (Take.nil _) (CallR.val rfl en79) rfl rfl (Cb true) (fun e=>by cases e) ?_;rintro u e v post ⟨rfl,rfl⟩)<;>try refine Aa N0 ?_)|refine BL 4 rfl mixed Y1 ?_;try refine A3 (Ac U3 rfl rfl Y0 Y4) rfl rfl ?_;try refine A3 (Ai rfl) rfl rfl (A3 (Ah rfl) rfl rfl (A3 (Ac U24 rfl rfl Y0 Y4) rfl rfl ?_));try refine A3 (Ap rfl U24 rfl) rfl rfl (A3 (AN rfl rfl (by first|exact Ax Y9|exact As Y9|exact rfl)) rfl rfl ?_);try refine BJ N0 ?_|refine Ab 5 ?_;try refine Zm rfl (Zv (Ac U3 rfl rfl Y0 Y4) ?_);try((refine C4 (n:=n) (zs:=(.slice none 0 0::endC end0 (.slice none 0 0) (.slice none 0 0)).toArray) rfl rfl U24 inf70 rfl rfl rfl rfl Y22 hn0 (show _*n≤_ by simp only[Tryz.t70];omega) Y9 rfl rfl (fun bb hbb=>?_))<;>try refine Zv (Ah rfl) ?_;try((refine AK rfl rfl rfl sz24 Y3 hlt (.inr (Nat.zero_le _)) rfl rfl ?_;have hgt:(c.setIfInBounds o (.slice (some ⟨bb,0,none⟩) n n))[o]?=some (.slice (some ⟨bb,0,none⟩) n n):=by simp[hlt])<;>try refine Aa N0 ?_))|refine Ab 6 ?_;try refine Zm rfl (Zv (Ah rfl) (Zv (Ac U24 rfl rfl Y0 Y4) ?_));try refine Zv (Ap rfl U24 rfl) (Zm rfl (Aa N0 ?_)))
   have hT0:=startN n s' L' bb hnum hn0 hs'
   have hset2:∀v u,(c.setIfInBounds o v).setIfInBounds o u=c.setIfInBounds o u:=fun v u=>by simp
   simp only[List.nil_append]
   have hset:(c.setIfInBounds o (.slice (some ⟨bb,0,none⟩) n n))=(c.setIfInBounds o (.slice (some ⟨bb,0,none⟩) n n)):=rfl
   refine CX (A:=L'++[⟨bb,true,.cells (rowV (fun _:Unit=>(.slice none 0 0::endC end0 (.slice none 0 0) (.slice none 0 0))) (List.replicate n ())).toArray 70 (0,0)⟩]) (e:=⟨b,true,.cells (c.setIfInBounds o (.slice (some ⟨bb,0,none⟩) n n)) el (0,0)⟩) (F:=F) (Take.join Y7 Y6) Y6 Y5 ?_
   refine A1 (E':=(fun q:Nat×List α×List α×σ×List Ent=>[(1,pv b o),(3,fv),(34,.int .i64 (n:Nat)),(35,.int .i64 (q.1:Int))]) (0,[],(List.replicate n z),s',L'++[⟨bb,true,.cells (rowV (fun _:Unit=>(.slice none 0 0::endC end0 (.slice none 0 0) (.slice none 0 0))) (List.replicate n ())).toArray 70 (0,0)⟩])) Y14 ?_
   refine Bb (fun q:Nat×List α×List α×σ×List Ent=>T (.slice (some ⟨bb,0,none⟩) n n) q.2.1 q.2.2.1 q.2.2.2.1 q.2.2.2.2∧q.2.1.length=q.1∧q.1+q.2.2.1.length=n∧iter step (List.replicate n z) s'=(iter step q.2.2.1 q.2.2.2.1).bind fun r=>.ok (q.2.1++r.1,r.2)) (fun q=>q.2.2.1.length) (fun q:Nat×List α×List α×σ×List Ent=>[(1,pv b o),(3,fv),(34,.int .i64 (n:Nat)),(35,.int .i64 (q.1:Int))]) (fun q=>q.2.2.2.2++(⟨b,true,.cells (c.setIfInBounds o (.slice (some ⟨bb,0,none⟩) n n)) el (0,0)⟩::F)) ?_ (0,[],(List.replicate n z),s',L'++[⟨bb,true,.cells (rowV (fun _:Unit=>(.slice none 0 0::endC end0 (.slice none 0 0) (.slice none 0 0))) (List.replicate n ())).toArray 70 (0,0)⟩]) ⟨hT0,rfl,by simp only[List.length_replicate];omega,by cases iter step (List.replicate n z) s'<;>rfl⟩
   rintro⟨i,dn,td,s2,L2⟩ ⟨hT,hdl,hn,hit⟩ ih
   dsimp only at hT hdl hn hit ih ⊢
   cases td with
   | nil=>
     have hi0:i=n:=by simpa using hn
     subst hi0
     repeat' (first|refine Ag rfl ?_|refine Al ?_|refine An ?_|refine Az rfl ?_|refine Bl rfl ?_|refine Bp Tryz.func93 rfl (fun w_ hi_=>?_)|refine Ab 7 ?_;try refine Zv (A7 rfl rfl Y2) ?_;try refine Aa N0 ?_)
     refine⟨_,Bo (by rw[hl,hit];simp only[iter,Out.bind,List.append_nil];rfl) ⟨rfl,_,L2,hT,rfl⟩,?_⟩
     rw[hset]
     exact hi_.pick (F:=F) (Take.join Y7 Y6) Y5
   | cons x td=>
     have hlt:(i:Int) < (n:Nat):=by simp only[List.length_cons] at hn;omega
     rw[hl,hit,iter] at hf
     have hnf:=Out.nf (Out.nf hf)
     repeat' (first|refine Ag rfl ?_|refine Aj rfl ?_|refine Al ?_|refine An ?_|refine A5 rfl ?_|refine A6 ?_|refine AH ?_|refine AB ?_|refine Ab 7 ?_;try refine Zv (A7 rfl rfl Y2) ?_;try refine Aa N0 ?_|refine Ab 8 ?_;try refine Zm rfl (Za rfl (Aa N0 ?_))|refine Ab 9 ?_;try refine Zm rfl (Zm rfl (Zv (Ah rfl) (Zv (Ac U24 rfl rfl Y0 Y4) ?_)));try refine Zm rfl (Zv (Am U24 sz70 rfl rfl Y9 Y9) ?_);try((refine wo_dyn (pre:=L2) Y7 (CallR.fv rfl rfl (hgo _) hen) rfl rfl (each (⟨b,true,.cells (c.setIfInBounds o (.slice (some ⟨bb,0,none⟩) n n)) el (0,0)⟩::F) (fun e h=>.tail _ h) bb 0 n dn x td s2 L2 (by rw[show dn.length+(td.length+1)=n by simp only[List.length_cons] at hn;omega];exact hT) (0+(i:Int).toNat*10) Y9 hnf) (fun e=>AR Tryz.func93 (by rw[hl,hit];simp only[iter,e,Out.bind]) Y5) ?_;rintro⟨a,s3⟩ e3 v post ⟨rfl,hT3⟩)<;>try refine Aa N0 ?_)|refine Ab 10 ?_;try refine Zv (AD rfl rfl Y9 Y9) ?_;try refine Zm rfl (Aa N0 ?_))
     refine A1 Y10 (ih (i+1,dn++[a],td,s3,post) ⟨by rw[show(dn.length+(td.length+1))=n by simp only[List.length_cons] at hn;omega] at hT3;exact hT3,by simp only[List.length_append,List.length_cons,List.length_nil];omega,by simp only[List.length_cons] at hn ⊢;omega,?_⟩ Y28)
     rw[hit]
     simp only[iter,e3,Out.bind]
     cases iter step td s3<;>simp[Out.bind]
end
end Go.Sl
namespace Go.Sl
open Go Go.RowKit Go.Shelf Go.Proofs
attribute [local irreducible] Calls
structure Cod.Keep {S:Nat→Prop} {w0:World} {σ:Type} (cd:Cod S w0 σ):Prop where
 k:cd.K
 num:∀n sz s n' s',cd.κ.num n sz s=.ok (n',s')→n'=n
 txt:∀n s n' s',cd.κ.txt n s=.ok (n',s')→n'=n
def Cod.Small {S:Nat→Prop} {w0:World} {σ:Type} (cd:Cod S w0 σ):Prop:=∀(m:Nat) sz s n' s',sz=1∨sz=2→m≤65535→cd.κ.num (m:Int) sz s=.ok (n',s')→n'≤65535
theorem intsV_len (l:List Int):(intsV l).length=l.length:=by simp[intsV]
theorem intsV_app (l m:List Int):intsV (l++m)=intsV l++intsV m:=by simp[intsV]
theorem Db (l:List (Bs×Int)):(whensV l).length=l.length*2:=by
 induction l with
 | nil=>rfl
 | cons p l ih=>simp only[whensV,List.flatMap_cons,List.length_append,List.length_cons,List.length_nil] at ih ⊢;omega
theorem whensV_app (l m:List (Bs×Int)):whensV (l++m)=whensV l++whensV m:=by simp[whensV]
section
variable {C:Cx} {S:Nat→Prop} {w0:World} {k:List Item} {D:List Deferred} {E:List (Nat×Value)} {H F1 F2 L:List Ent} {d:Option Tmp} {t:TypeId} {p:String} {af:Array Edge} {g:Option (Nat×Bool)} {ops:Array Oper} {rest:List Oper}
theorem wo_callP {α:Type} {r:Out α} {G:α→Value→List Ent→Prop} {c:Call} {f:FuncId} {vs:List Value} {b:Nat} {cs:Array Value} {el:TypeId} (tL:Take H L F1) (tP:Take F1 [⟨b,true,.cells cs el (0,0)⟩] F2) (hc:CallR C D E ⟨d,.call c,t,p,af,g⟩ f vs) (hg:guardOk E ops ⟨d,.call c,t,p,af,g⟩=some true) (hd:dstOk d C.n=true)
 (h:SLF C.P S w0 F2 f vs (L++[⟨b,true,.cells cs el (0,0)⟩]) (MoO r G)) (hn:r=.bad→WP C S w0 badE D [] F2)
 (hk:∀a,r=.ok a→∀v post,G a v post→WO C S w0 ops rest k D (putE d v E) (post++F2)):WO C S w0 ops (⟨d,.call c,t,p,af,g⟩::rest) k D E H:=AU (tL.join tP) hc hg hd h hn hk
end
section
variable {S:Nat→Prop} {w0:World}
theorem SlK.cons {F:List Ent} {e:Ent} {cells:List Value} {n:Nat} {v:Value} (h:SlK S w0 F cells n v):SlK S w0 (e::F) cells n v:=h.up fun _ h=>.tail _ h
theorem SlK.app {F A:List Ent} {cells:List Value} {n:Nat} {v:Value} (h:SlK S w0 F cells n v):SlK S w0 (A++F) cells n v:=h.up fun _ h=>List.mem_append_right _ h
theorem SlK.own {cells rst:List Value} {n cap:Nat} {b:Nat} {el:TypeId} {F:List Ent} (hc:n≤cap):SlK S w0 (⟨b,true,.cells (cells++rst).toArray el (0,0)⟩::F) cells n (.slice (some ⟨b,0,none⟩) n cap):=
 ⟨_,cap,rfl,hc,.inr ⟨b,0,rfl,fun i h=>Kn.of (.head _) (by rw[List.getElem?_toArray,List.getElem?_append_left Y9,Nat.zero_add,List.getElem?_eq_getElem h])⟩⟩
theorem SlK.own0 {cells:List Value} {n cap:Nat} {b:Nat} {el:TypeId} {F:List Ent} (hc:n≤cap):SlK S w0 (⟨b,true,.cells cells.toArray el (0,0)⟩::F) cells n (.slice (some ⟨b,0,none⟩) n cap):=by
 have:=SlK.own (S:=S) (w0:=w0) (cells:=cells) (rst:=[]) (n:=n) (cap:=cap) (b:=b) (el:=el) (F:=F) hc
 rwa [List.append_nil] at this
def ListT {σ:Type} (cd:Cod S w0 σ) {α:Type} (V:List α→List Value) (el:TypeId) (l0:List α) (hv0 hv:Value) (d r:List α) (s:σ) (L:List Ent):Prop:=
 ∃ Ls,cd.St s Ls∧((L=Ls∧hv=hv0∧d++r=l0∧(l0=[]∨cd.Keep)) ∨
  ∃bb,L=Ls++[⟨bb,true,.cells (V (d++r)).toArray el (0,0)⟩]∧hv=.slice (some ⟨bb,0,none⟩) (d.length+r.length) (d.length+r.length))
variable {σ:Type} (cd:Cod S w0 σ) {F:List Ent} {s:σ} {L:List Ent}
theorem ListT.done {α:Type} {V:List α→List Value} {el:TypeId} {l0:List α} {hv0 hv:Value} {d:List α} (h:ListT cd V el l0 hv0 hv d [] s L):∃Ls X,cd.St s Ls∧L=Ls++X∧SlS S w0 V X d l0 hv hv0:=by
 obtain⟨Ls,hs,h⟩:=h
 simp only[List.append_nil,List.length_nil,Nat.add_zero] at h
 rcases h with⟨rfl,rfl,rfl,_⟩|⟨bb,rfl,rfl⟩
 · exact⟨L,[],hs,by simp,.same⟩
 · exact⟨Ls,_,hs,rfl,.of (SlK.own0 (Nat.le_refl _))⟩
theorem ListT.ata {α:Type} {V:List α→List Value} {el:TypeId} (hV:∀x r,V (x::r)≠[]) {l0:List α} {hv0 hv:Value} {d:List α} {x:α} {r:List α} (h:ListT cd V el l0 hv0 hv d (x::r) s L) (hA:SlK S w0 F (V l0) l0.length hv0) (hVa:∀l m,V (l++m)=V l++V m):∃bb off cp,hv=.slice (some ⟨bb,off,none⟩) (d.length+(r.length+1)) cp:=by
 obtain⟨Ls,hs,h⟩:=h
 rcases h with⟨rfl,rfl,rfl,_⟩|⟨bb,rfl,rfl⟩
 · obtain ⟨a,cap,rfl,hc,h⟩:=hA
   obtain⟨b,off,rfl,_⟩:=h.resolve_left (by rw[hVa];simp[hV])
   exact⟨b,off,cap,by simp⟩
 · exact⟨bb,0,_,rfl⟩
variable (hE:cd.env F) (hs:cd.St s L)
include hE hs
theorem ints_c {b o cap:Nat} {a:Option Addr} {c:Array Value} {el:TypeId} (l:List Int) (hc:c[o]?=some (.slice a l.length cap)) (hA:ArgsK S w0 F l (.slice a l.length cap)) (hm:cd.Keep∨l=[]) (hsm:cd.Small) (hl:l.length≤65535) (hf:lst cd.κ 1 0 (fun n=>cd.κ.num n 2) l s≠.full):
 SLF Tryz.prog S w0 F 148 [wkV cd,pv b o,.int .i64 1,.func (.func 147) #[wkV cd] #[]] (L++[⟨b,true,.cells c el (0,0)⟩]) (MoO (lst cd.κ 1 0 (fun n=>cd.κ.num n 2) l s) fun q v post=>v=unitV∧∃hv Ls X,cd.St q.2 Ls∧post=(Ls++X)++[⟨b,true,.cells (c.setIfInBounds o hv) el (0,0)⟩]∧SlS S w0 intsV X q.1 l hv (.slice a l.length cap)):=by
 have := list_int_c cd (F:=F) hE hs (b:=b) (el:=el) (sz:=1) hc l rfl 0 (fun n=>cd.κ.num n 2) (.inl rfl) (.func (.func 147) #[wkV cd] #[]) 147 (fun p=>[wkV cd,p]) (fun p=>.fn _ _ _ _ _ rfl) en147 (ListT cd intsV 3 l (.slice a l.length cap)) []
  (hm.imp (fun h n' s' e=>h.num _ _ _ _ _ e) (fun h=>⟨h,rfl⟩))
  (fun s' L' e h=>⟨L',h,.inl ⟨by simp,rfl,rfl,hm.symm⟩⟩)
  (fun n s' L' bb e h0 h=>⟨L',h,.inr ⟨bb,by
   have:∀n:Nat,rowV (fun _:Unit=>[Value.int .i64 0]) (List.replicate n ())=intsV (List.replicate n 0):=by
    intro n;induction n with
    | zero=>rfl
    | succ n ih=>simp only[List.replicate_succ,rowV,intsV,List.flatMap_cons,List.map_cons] at ih ⊢;rw[ih];rfl
   rw[this];simp,by simp⟩⟩)
  (fun n' s' e=>hsm _ _ _ _ _ (.inl rfl) hl e) Y9
  (fun hv d x r s L h=>h.ata cd (by intro x r;simp[intsV]) hA intsV_app)
  (fun F2 hF2 bb off cp d x r s L h q hq hf=>by
   obtain⟨Ls,hLs,h⟩:=h
   rcases h with⟨rfl,hh,hl0,hkeep⟩|⟨bb',rfl,he⟩
   · have hkp:=hkeep.resolve_left (by rw[←hl0];simp)
     have hkx:Kn S w0 F2 bb q (.int .i64 x):=by
      obtain⟨a',cp',e1,_,h3⟩:=hA
      rw[←hh] at e1
      simp only[Value.slice.injEq] at e1
      obtain⟨rfl,_,rfl⟩:=e1
      rw[←hl0] at h3
      obtain⟨b',off',e2,h4⟩:=h3.resolve_left (by simp[intsV])
      cases e2
      have h5:=h4 d.length (by simp[intsV])
      simp only[intsV,List.map_append,List.map_cons] at h5
      rw[List.getElem_append_right Y26] at h5
      rw[hq,Nat.mul_one]
      exact(by simpa using h5:Kn S w0 F _ _ _).mono hF2
     have hp:=CA cd (Lp:=[]) (Lp':=fun _=>[]) (cd.envU _ _ hF2 hE) hLs hf (fun n' s' e=>by obtain rfl:=hkp.num _ _ _ _ _ e;exact .kn hkp.k hkx)
     rw[List.append_nil] at hp
     refine hp.mono fun e post hq2=>BI hq2 id ?_
     rintro⟨n',s'⟩ v p e ⟨rfl,L',hL',rfl⟩
     obtain rfl:=hkp.num _ _ _ _ _ e
     exact⟨_,e,rfl,L',hL',.inl ⟨by simp,hh,by simpa using hl0,.inr hkp⟩⟩
   · simp only[Value.slice.injEq,Option.some.injEq,Addr.mk.injEq,and_true] at he
     obtain⟨⟨rfl,rfl⟩,_,rfl⟩:=he
     have hp:=CA cd (b:=bb) (o:=q) (Lp':=fun n'=>[⟨bb,true,.cells ((intsV (d++x::r)).toArray.setIfInBounds q (.int .i64 n')) 3 (0,0)⟩]) (cd.envU _ _ hF2 hE) hLs hf (fun n' s' e=>.own (intsV (d++x::r)).toArray 3 _ (by subst hq;simp[intsV]))
     refine hp.mono fun e post hq2=>BI hq2 id ?_
     rintro⟨n',s'⟩ v p e ⟨rfl,L',hL',rfl⟩
     refine⟨_,e,rfl,L',hL',.inr ⟨bb,?_,by simp[Nat.add_assoc,Nat.add_comm 1]⟩⟩
     have:(intsV (d++x::r)).toArray.setIfInBounds q (.int .i64 n')=(intsV (d++[n']++r)).toArray:=by
      subst hq
      rw[List.setIfInBounds_toArray]
      simp[intsV]
     rw[this])
  hf
 refine this.mono fun e post h=>BI h id ?_
 rintro⟨l',s'⟩ v p e ⟨rfl,hv,Lr,hT,rfl⟩
 obtain⟨Ls,X,h1,rfl,h2⟩:=hT.done cd
 exact⟨_,e,rfl,hv,Ls,X,h1,rfl,h2⟩
theorem given_c {A B:List Value} {b:Nat} {x:EndM} {av wv:Value} {el:TypeId} (hA:ArgsK S w0 F x.args av) (hW:WhensK S w0 F x.ws wv) (hm:cd.Keep∨x.args=[]) (hsm:cd.Small) (hl:x.args.length≤65535) (hf:ltE cd.κ .given x s≠.full):
 SLF Tryz.prog S w0 F 136 [wkV cd,pv b A.length] (L++[⟨b,true,.cells (A++(endC x av wv++B)).toArray el (0,0)⟩]) (MoO (ltE cd.κ .given x s) fun a v post=>v=unitV∧∃L' X av' wv',cd.St a.2 L'∧post=L'++(⟨b,true,.cells (A++(endC a.1 av' wv'++B)).toArray el (0,0)⟩::X)∧SlS S w0 intsV X a.1.args x.args av' av∧SlS S w0 whensV X a.1.ws x.ws wv' wv):=by
 refine AE fun w hi=>?_
 simp only[List.append_assoc,List.cons_append,List.nil_append] at hi
 have hA':=hA
 obtain⟨a,cap,rfl,hcap,hk⟩:=hA
 have g6:((A++(endC x (.slice a x.args.length cap) wv++B)).toArray)[A.length+6]?=some (.slice a x.args.length cap):=BD (j:=6) (R:=endC x (.slice a x.args.length cap) wv) (show 6 < 9 by decide) rfl
 have st:∀u,((A++(endC x (.slice a x.args.length cap) wv++B)).toArray).setIfInBounds (A.length+6) u=(A++(endC x u wv++B)).toArray:=fun u=>BH (R:=endC x (.slice a x.args.length cap) wv) (show 6 < 9 by decide) u
 refine Ak Tryz.func136 rfl rfl (hi) ?_
 repeat' (first|refine Ag rfl ?_|refine Aj rfl ?_|refine Al ?_|refine An ?_|refine Bp Tryz.func136 rfl (fun w_ hi_=>?_)|refine Ab 0 ?_;try refine AL rfl rfl rfl rfl (fun b_ hb_=>?_);try refine Aa N3 ?_|refine Bg (id:=1) 6 rfl mixed Y1 ?_;try refine A4 (AW U113 rfl BB rfl Y0 Y15) rfl rfl ?_;try refine A4 (Ai rfl) rfl rfl (A4 (Ah rfl) rfl rfl (A4 (Ad fo68_6 rfl) rfl rfl (A4 (AW U113 rfl BB rfl Y0 Y15) rfl rfl ?_)));try refine A4 (Bm rfl rfl) rfl rfl (Bf ?_);try((refine wo_callP Y7 Y6 (CallR.val rfl en148) rfl rfl (ints_c cd (by repeat(first|exact hE|apply cd.envC|apply cd.envA)) hs x.args g6 hA'.cons hm hsm hl (Out.nf hf)) (fun e=>AR Tryz.func136 (by simp only[ltE,e,Out.bind]) Y5) ?_;rintro⟨l',s'⟩ e1 v post ⟨rfl,hv,Ls,X,h1,rfl,h2⟩)<;>try refine Aa N3 ?_))
 rw[st] at hi_
 refine⟨_,Bo (by simp only[ltE,e1,Out.bind];rfl) ⟨rfl,Ls,X++[⟨b_,true,.cells (wkV cd).cells 113 (0,0)⟩],hv,wv,h1,rfl,?_,?_⟩,?_⟩
 · exact h2.up fun e h=>List.mem_append_left _ h
 · exact .same
 · have:=hi_
   simp only[List.append_assoc,List.cons_append,List.nil_append] at this ⊢
   exact this.perm (List.Perm.append_left _ List.perm_middle)
end
end Go.Sl
namespace Go.Sl
open Go Go.RowKit Go.Shelf Go.Proofs
attribute [local irreducible] Calls
section
variable {C:Cx} {S:Nat→Prop} {w0:World} {k:List Item} {D:List Deferred} {E:List (Nat×Value)} {H F1 F2 L:List Ent} {d:Option Tmp} {t:TypeId} {p:String} {af:Array Edge} {g:Option (Nat×Bool)} {x:Operand} {ops:Array Oper} {rest:List Oper} {σ:Type}
theorem wo_txtK (cd:Cod S w0 σ) {s:σ} {xs:Array Operand} {aty:Array TypeId} {b o:Nat} {n:Bs} (tL:Take H L F1) (hx:opv E x=some (.iface cd.it cd.iv)) (hxs:opvs E xs.toList=some [pv b o])
 (hkn:Kn S w0 F1 b o (str n)) (hkp:cd.Keep) (hP:C.P=Tryz.prog) (hg:guardOk E ops ⟨d,.call {callee:=.invoke x "trestle/code.text",args:=xs,argTypes:=aty},t,p,af,g⟩=some true) (hd:dstOk d C.n=true) (he:cd.env F1) (hs:cd.St s L) (hf:cd.κ.txt n s≠.full)
 (hbad:cd.κ.txt n s=.bad→WP C S w0 badE D [] F1)
 (hk:∀s',cd.κ.txt n s=.ok (n,s')→∀L',cd.St s' L'→WO C S w0 ops rest k D (putE d unitV E) (L'++F1)):
 WO C S w0 ops (⟨d,.call {callee:=.invoke x "trestle/code.text",args:=xs,argTypes:=aty},t,p,af,g⟩::rest) k D E H:=by
 have h:=cd.txt F1 s L b o n [] (fun _=>[]) he hs hf (fun n' s' e=>by obtain rfl:=hkp.txt _ _ _ _ e;exact .kn hkp.k hkn)
 rw[List.append_nil] at h
 refine AU tL (CallR.inv hx hxs (hP▸cd.mT) (hP▸cd.eT)) hg hd (hP▸h) hbad ?_
 rintro⟨n',s'⟩ e v post ⟨rfl,L',h1,rfl⟩
 obtain rfl:=hkp.txt _ _ _ _ e
 rw[List.append_nil]
 exact hk s' e L' h1
end
section
variable {S:Nat→Prop} {w0:World} {σ:Type} (cd:Cod S w0 σ) {F:List Ent} {s:σ} {L:List Ent} (hE:cd.env F) (hs:cd.St s L)
include hE hs
theorem place_k {b o:Nat} {n:Int} (hf:cd.κ.num n 2 s≠.full) (hkp:cd.Keep) (hkn:Kn S w0 F b o (.int .i64 n)):
 SLF Tryz.prog S w0 F 147 [wkV cd,pv b o] L (MoO (cd.κ.num n 2 s) fun a v post=>v=unitV∧a.1=n∧cd.St a.2 post):=by
 have h:=CA cd (Lp:=[]) (Lp':=fun _=>[]) hE hs hf (fun n' s' e=>by obtain rfl:=hkp.num _ _ _ _ _ e;exact .kn hkp.k hkn)
 rw[List.append_nil] at h
 refine h.mono fun e post h=>BI h id ?_
 rintro⟨n',s'⟩ v p e ⟨rfl,L',h1,rfl⟩
 exact⟨_,e,rfl,hkp.num _ _ _ _ _ e,by simpa using h1⟩
theorem when_o {b q bw:Nat} {h:Bs×Int} {c:Array Value} {el:TypeId} (hw:Kn S w0 F bw 0 (.iface cd.it cd.iv)) (h0:c[q]?=some (str h.1)) (h1:c[q+1]?=some (.int .i64 h.2)) (hf:codeWhen cd.κ h s≠.full):
 SLF Tryz.prog S w0 F 150 [pv b q,pv bw 0] (L++[⟨b,true,.cells c el (0,0)⟩]) (MoO (codeWhen cd.κ h s) fun a v post=>v=unitV∧∃L',cd.St a.2 L'∧post=L'++[⟨b,true,.cells ((c.setIfInBounds q (str a.1.1)).setIfInBounds (q+1) (.int .i64 a.1.2)) el (0,0)⟩]):=by
 refine AE fun w hi=>?_
 simp only[List.append_assoc,List.cons_append,List.nil_append] at hi
 have h1':∀v,(c.setIfInBounds q v)[q+1]?=some (.int .i64 h.2):=fun v=>by rw[Array.getElem?_setIfInBounds_ne Y9];exact h1
 refine Ak Tryz.func150 rfl rfl (hi) ?_
 repeat' (first|refine Ag rfl ?_|refine Aj rfl ?_|refine Al ?_|refine An ?_|refine Bp Tryz.func150 rfl (fun w_ hi_=>?_)|refine Bg (id:=0) 7 rfl mixed Y1 ?_;try refine A4 (Ad Bd rfl) rfl rfl (A4 (A2 U111 rfl rfl (by repeat(first|exact hw|apply Kn.cons|apply Kn.app))) rfl rfl ?_);try refine A4 (Ai rfl) rfl rfl (A4 (Ah rfl) rfl rfl (A4 (Ad fo75_0 rfl) rfl rfl (A4 (AX rfl) rfl rfl (A4 (Ai rfl) rfl rfl (Bf ?_)))));try((refine wo_txt cd Y7 Y6 rfl rfl h0 rfl rfl rfl (by repeat(first|exact hE|apply cd.envC|apply cd.envA)) hs (Out.nf hf) (fun e=>AR Tryz.func150 (by simp only[codeWhen,e,Out.bind]) Y5) (fun n' s' e1 L' hs'=>?_);have hf2:=Out.nf_at hf e1;dsimp only at hf2)<;>try refine Aa [0,1] ?_)|refine Bg (id:=1) 4 rfl mixed Y1 ?_;try((refine A4 (AJ (cs:= #[.iface cd.it cd.iv]) U113 rfl BB rfl (fun j h=>by obtain rfl:j=0:=(by simpa using h);exact(by repeat(first|exact hw|apply Kn.cons|apply Kn.app))) rfl) rfl rfl ?_)<;>try refine A4 (Ai rfl) rfl rfl (A4 (Ah rfl) rfl rfl (A4 (Ad fo75_1 rfl) rfl rfl (Bf ?_)));try((refine CJ cd (o:=q+1) (gv:=fun n=>.int .i64 n) Y7 Y6 (CallR.val rfl en147) rfl rfl (CA cd (by repeat(first|exact hE|apply cd.envC|apply cd.envA)) hs' (Out.nf hf2) (fun n' s' _=>.own _ _ _ (h1' _))) (fun e=>AR Tryz.func150 (by simp only[codeWhen,e1,e,Out.bind]) Y5) (fun n2 s2 e2 L2 hs2=>?_))<;>try refine Aa [0,1] ?_)))
 exact⟨_,Bo (by simp only[codeWhen,e1,e2,Out.bind];rfl) ⟨rfl,L2,hs2,rfl⟩,hi_.pick (F:=F) (Take.join Y7 Y6) Y5⟩
theorem when_k {b q bw:Nat} {h:Bs×Int} (hkp:cd.Keep) (hw:Kn S w0 F bw 0 (.iface cd.it cd.iv)) (h0:Kn S w0 F b q (str h.1)) (h1:Kn S w0 F b (q+1) (.int .i64 h.2)) (hf:codeWhen cd.κ h s≠.full):
 SLF Tryz.prog S w0 F 150 [pv b q,pv bw 0] L (MoO (codeWhen cd.κ h s) fun a v post=>v=unitV∧a.1=h∧cd.St a.2 post):=by
 refine AE fun w hi=>?_
 refine Ak Tryz.func150 rfl rfl (hi) ?_
 repeat' (first|refine Ag rfl ?_|refine Aj rfl ?_|refine Al ?_|refine An ?_|refine Bp Tryz.func150 rfl (fun w_ hi_=>?_)|refine Bg (id:=0) 7 rfl mixed Y1 ?_;try refine A4 (Ad Bd rfl) rfl rfl (A4 (A2 U111 rfl rfl (by repeat(first|exact hw|apply Kn.cons|apply Kn.app))) rfl rfl ?_);try refine A4 (Ai rfl) rfl rfl (A4 (Ah rfl) rfl rfl (A4 (Ad fo75_0 rfl) rfl rfl (A4 (AX rfl) rfl rfl (A4 (Ai rfl) rfl rfl (Bf ?_)))));try((refine wo_txtK cd Y7 rfl rfl h0 hkp rfl rfl rfl (by repeat(first|exact hE|apply cd.envC|apply cd.envA)) hs (Out.nf hf) (fun e=>AR Tryz.func150 (by simp only[codeWhen,e,Out.bind]) Y5) (fun s' e1 L' hs'=>?_);have hf2:=Out.nf_at hf e1;dsimp only at hf2)<;>try refine Aa [0,1] ?_)|refine Bg (id:=1) 4 rfl mixed Y1 ?_;try((refine A4 (AJ (cs:= #[.iface cd.it cd.iv]) U113 rfl BB rfl (fun j h=>by obtain rfl:j=0:=(by simpa using h);exact(by repeat(first|exact hw|apply Kn.cons|apply Kn.app))) rfl) rfl rfl ?_)<;>try refine A4 (Ai rfl) rfl rfl (A4 (Ah rfl) rfl rfl (A4 (Ad fo75_1 rfl) rfl rfl (Bf ?_)));try((refine AU Y7 (CallR.val rfl en147) rfl rfl (place_k cd (by repeat(first|exact hE|apply cd.envC|apply cd.envA)) hs' (Out.nf hf2) hkp h1) (fun e=>AR Tryz.func150 (by simp only[codeWhen,e1,e,Out.bind]) Y5) ?_;rintro⟨n2,s2⟩ e2 v post ⟨rfl,rfl,hs2⟩)<;>try refine Aa [0,1] ?_)))
 exact⟨_,Bo (by simp only[codeWhen,e1,e2,Out.bind];rfl) ⟨rfl,rfl,hs2⟩,hi_⟩
omit hE hs in
theorem whensV_row (l:List (Bs×Int)):whensV l=rowV (fun p:Bs×Int=>[str p.1,.int .i64 p.2]) l:=rfl
omit hE hs in
theorem whens_get (d r:List (Bs×Int)) (x:Bs×Int) (i:Nat) (hi:i < 2):(whensV (d++x::r))[d.length*2+i]?=[str x.1,Value.int .i64 x.2][i]?:=by
 rw[whensV_row,C9 (m:=2) _ (fun _=>rfl) (d++x::r) d.length i Y26 hi]
 simp
omit hE hs in
theorem whens_set (d r:List (Bs×Int)) (x x':Bs×Int):(((whensV (d++x::r)).toArray.setIfInBounds (d.length*2) (str x'.1)).setIfInBounds (d.length*2+1) (.int .i64 x'.2))=(whensV (d++[x']++r)).toArray:=by
 have e1:whensV (d++x::r)=whensV d++([str x.1,.int .i64 x.2]++whensV r):=by simp[whensV]
 have e2:whensV (d++[x']++r)=whensV d++([str x'.1,.int .i64 x'.2]++whensV r):=by simp[whensV]
 rw[e1,e2]
 have h0:=BH (A:=whensV d) (R:=[str x.1,.int .i64 x.2]) (B:=whensV r) (j:=0) Y26 (str x'.1)
 have h1:=BH (A:=whensV d) (R:=[str x'.1,.int .i64 x.2]) (B:=whensV r) (j:=1) Y26 (.int .i64 x'.2)
 rw[Db] at h0 h1
 simp only[Nat.add_zero,List.set_cons_zero,List.set_cons_succ] at h0 h1
 rw[h0,h1]
theorem whens_c {b o cap bw:Nat} {a:Option Addr} {c:Array Value} {el:TypeId} (l:List (Bs×Int)) (hw:Kn S w0 F bw 0 (.iface cd.it cd.iv)) (hc:c[o]?=some (.slice a l.length cap)) (hA:WhensK S w0 F l (.slice a l.length cap)) (hm:cd.Keep∨l=[]) (hsm:cd.Small) (hl:l.length≤65535) (hf:lst cd.κ 1 ([],0) (codeWhen cd.κ) l s≠.full):
 SLF Tryz.prog S w0 F 149 [wkV cd,pv b o,.int .i64 1,.func (.func 150) #[] #[pv bw 0]] (L++[⟨b,true,.cells c el (0,0)⟩]) (MoO (lst cd.κ 1 ([],0) (codeWhen cd.κ) l s) fun q v post=>v=unitV∧∃hv Ls X,cd.St q.2 Ls∧post=(Ls++X)++[⟨b,true,.cells (c.setIfInBounds o hv) el (0,0)⟩]∧SlS S w0 whensV X q.1 l hv (.slice a l.length cap)):=by
 have := list_when_c cd (F:=F) hE hs (b:=b) (el:=el) (sz:=1) hc l rfl ([],0) (codeWhen cd.κ) (.inl rfl) (.func (.func 150) #[] #[pv bw 0]) 150 (fun p=>[p,pv bw 0]) (fun p=>.fn _ _ _ _ _ rfl) en150 (ListT cd whensV 75 l (.slice a l.length cap)) []
  (hm.imp (fun h n' s' e=>h.num _ _ _ _ _ e) (fun h=>⟨h,rfl⟩))
  (fun s' L' e h=>⟨L',h,.inl ⟨by simp,rfl,rfl,hm.symm⟩⟩)
  (fun n s' L' bb e h0 h=>⟨L',h,.inr ⟨bb,by
   have:∀n:Nat,rowV (fun _:Unit=>[str [],Value.int .i64 0]) (List.replicate n ())=whensV (List.replicate n ([],0)):=by
    intro n;induction n with
    | zero=>rfl
    | succ n ih=>simp only[List.replicate_succ,rowV,whensV,List.flatMap_cons] at ih ⊢;rw[ih]
   rw[this];simp,by simp⟩⟩)
  (fun n' s' e=>hsm _ _ _ _ _ (.inl rfl) hl e) Y9
  (fun hv d x r s L h=>h.ata cd (by intro x r;simp[whensV]) hA whensV_app)
  (fun F2 hF2 bb off cp d x r s L h q hq hf=>by
   obtain⟨Ls,hLs,h⟩:=h
   rcases h with⟨rfl,hh,hl0,hkeep⟩|⟨bb',rfl,he⟩
   · have hkp:=hkeep.resolve_left (by rw[←hl0];simp)
     have hkx:∀i,i < 2→∀v,[str x.1,Value.int .i64 x.2][i]?=some v→Kn S w0 F2 bb (q+i) v:=by
      intro i hi2 v hv
      obtain⟨a',cp',e1,_,h3⟩:=hA
      rw[←hh] at e1
      simp only[Value.slice.injEq] at e1
      obtain⟨rfl,_,rfl⟩:=e1
      rw[←hl0] at h3
      have hlen:d.length*2+i < (whensV (d++x::r)).length:=by rw[Db];simp;omega
      obtain⟨b',off',e2,h4⟩:=h3.resolve_left (by intro h;rw[h] at hlen;simp at hlen)
      cases e2
      have h5:=h4 (d.length*2+i) hlen
      have h6:=whens_get d r x i hi2
      rw[List.getElem?_eq_getElem hlen,hv] at h6
      rw[Option.some.inj h6] at h5
      rw[hq,Nat.add_assoc]
      exact h5.mono hF2
     have hp:=when_k cd (cd.envU _ _ hF2 hE) hLs hkp (hw.mono hF2) (by simpa using hkx 0 Y9 _ rfl) (hkx 1 Y9 _ rfl) hf
     refine hp.mono fun e post hq2=>BI hq2 id ?_
     rintro⟨n',s'⟩ v p e ⟨rfl,rfl,hL'⟩
     exact⟨_,e,rfl,p,hL',.inl ⟨rfl,hh,by simpa using hl0,.inr hkp⟩⟩
   · simp only[Value.slice.injEq,Option.some.injEq,Addr.mk.injEq,and_true] at he
     obtain⟨⟨rfl,rfl⟩,_,rfl⟩:=he
     have h0:(whensV (d++x::r)).toArray[q]?=some (str x.1):=by
      have:=whens_get d r x 0 Y9
      rw[hq,Nat.zero_add,List.getElem?_toArray];simpa using this
     have h1:(whensV (d++x::r)).toArray[q+1]?=some (.int .i64 x.2):=by
      have:=whens_get d r x 1 Y9
      rw[hq,Nat.zero_add,List.getElem?_toArray];simpa using this
     have hp:=when_o cd (cd.envU _ _ hF2 hE) hLs (b:=bb) (el:=75) (hw.mono hF2) h0 h1 hf
     refine hp.mono fun e post hq2=>BI hq2 id ?_
     rintro⟨n',s'⟩ v p e ⟨rfl,L',hL',rfl⟩
     refine⟨_,e,rfl,L',hL',.inr ⟨bb,?_,by simp[Nat.add_assoc,Nat.add_comm 1]⟩⟩
     rw[hq,Nat.zero_add,whens_set])
  hf
 refine this.mono fun e post h=>BI h id ?_
 rintro⟨l',s'⟩ v p e ⟨rfl,hv,Lr,hT,rfl⟩
 obtain⟨Ls,X,h1,rfl,h2⟩:=hT.done cd
 exact⟨_,e,rfl,hv,Ls,X,h1,rfl,h2⟩
theorem handlers_c {A B:List Value} {b:Nat} {x:EndM} {av wv:Value} {el:TypeId} (hA:ArgsK S w0 F x.args av) (hW:WhensK S w0 F x.ws wv) (hm:cd.Keep∨x.ws=[]) (hsm:cd.Small) (hl:x.ws.length≤65535) (hf:ltE cd.κ .handlers x s≠.full):
 SLF Tryz.prog S w0 F 137 [wkV cd,pv b A.length] (L++[⟨b,true,.cells (A++(endC x av wv++B)).toArray el (0,0)⟩]) (MoO (ltE cd.κ .handlers x s) fun a v post=>v=unitV∧∃L' X av' wv',cd.St a.2 L'∧post=L'++(⟨b,true,.cells (A++(endC a.1 av' wv'++B)).toArray el (0,0)⟩::X)∧SlS S w0 intsV X a.1.args x.args av' av∧SlS S w0 whensV X a.1.ws x.ws wv' wv):=by
 refine AE fun w hi=>?_
 simp only[List.append_assoc,List.cons_append,List.nil_append] at hi
 have hW':=hW
 obtain⟨a,cap,rfl,hcap,hk⟩:=hW
 have g7:((A++(endC x av (.slice a x.ws.length cap)++B)).toArray)[A.length+7]?=some (.slice a x.ws.length cap):=BD (j:=7) (R:=endC x av (.slice a x.ws.length cap)) (show 7 < 9 by decide) rfl
 have st:∀u,((A++(endC x av (.slice a x.ws.length cap)++B)).toArray).setIfInBounds (A.length+7) u=(A++(endC x av u++B)).toArray:=fun u=>BH (R:=endC x av (.slice a x.ws.length cap)) (show 7 < 9 by decide) u
 have g8:∀wv,((A++(endC x av wv++B)).toArray)[A.length+8]?=some (.int .i64 x.ot):=fun wv=>BD (j:=8) (R:=endC x av wv) (show 8 < 9 by decide) rfl
 have st8:∀wv u,((A++(endC x av wv++B)).toArray).setIfInBounds (A.length+8) u=(A++((endC x av wv).set 8 u++B)).toArray:=fun wv u=>BH (R:=endC x av wv) (show 8 < 9 by decide) u
 refine Ak Tryz.func137 rfl rfl (hi) ?_
 repeat' (first|refine Ag rfl ?_|refine Aj rfl ?_|refine Al ?_|refine An ?_|refine Bp Tryz.func137 rfl (fun w_ hi_=>?_)|refine Ab 0 ?_;try refine AL rfl rfl rfl rfl (fun b_ hb_=>?_);try refine Aa N3 ?_|refine Bg (id:=1) 5 rfl mixed Y1 ?_;try refine A4 (AW U113 rfl BB rfl Y0 Y15) rfl rfl ?_;try refine A4 (Ai rfl) rfl rfl (A4 (Ah rfl) rfl rfl (A4 (Ad fo68_7 rfl) rfl rfl (A4 (Bm rfl rfl) rfl rfl (Bf ?_))));try((refine wo_callP Y7 Y6 (CallR.val rfl en149) rfl rfl (whens_c cd (bw:=b_) (by repeat(first|exact hE|apply cd.envC|apply cd.envA)) hs x.ws (Kn.of (.head _) rfl) g7 hW'.cons hm hsm hl (Out.nf hf)) (fun e=>AR Tryz.func137 (by simp only[ltE,e,Out.bind]) Y5) ?_;rintro⟨l',s'⟩ e1 v post ⟨rfl,hv,Ls,X,h1,rfl,h2⟩;have hf2:=Out.nf_at hf e1;dsimp only at hf2;rw[st];simp only[List.append_assoc,List.cons_append,List.nil_append])<;>try refine Aa N3 ?_)|refine Bg (id:=2) 4 rfl mixed Y1 ?_;try refine A4 (AW U113 rfl BB rfl Y0 Y15) rfl rfl ?_;try refine A4 (Ai rfl) rfl rfl (A4 (Ah rfl) rfl rfl (A4 (Ad fo68_8 rfl) rfl rfl (Bf ?_)));try((refine CJ cd (L:=Ls) (o:=A.length+8) (gv:=fun n=>.int .i64 n) Y7 Y6 (CallR.val rfl en147) rfl rfl (CA cd (by repeat(first|exact hE|apply cd.envC|apply cd.envA)) h1 (Out.nf hf2) (fun n' s' _=>.own _ _ _ (g8 _))) (fun e=>AR Tryz.func137 (by simp only[ltE,e1,e,Out.bind]) Y5) (fun n2 s2 e2 L2 hs2=>?_))<;>try refine Aa N3 ?_))
 rw[st8] at hi_
 refine⟨_,Bo (by simp only[ltE,e1,e2,Out.bind];rfl) ⟨rfl,L2,X++[⟨b_,true,.cells (wkV cd).cells 113 (0,0)⟩],av,hv,hs2,rfl,?_,?_⟩,?_⟩
 · exact .same
 · exact h2.up fun e h=>List.mem_append_left _ h
 · exact hi_.pick (ps:=L2++(_::(X++[_]))) (F:=F) (Take.join Y7 (.cons Y30 (Take.join Y7 Y6))) Y5
end
end Go.Sl
namespace Go.Sl
open Go Go.RowKit Go.Shelf Go.Proofs
attribute [local irreducible] Calls
def fnI:LI→FuncId
 | .to=>121
 | .a=>123
 | .b=>125
 | .lo=>122
 | .hi=>124
 | .one=>130
 | .sh=>126
 | .fi=>128
 | .me=>129
 | .gl=>127
def fnE:LJ→FuncId
 | .target=>131
 | .other=>133
 | .first=>132
 | .second=>139
 | .raised=>134
 | .called=>135
 | .asked=>138
 | .given=>136
 | .code=>140
 | .handlers=>137
def rowOf {α:Type} (n:Nat) (f:α→FuncId) (ls:List α):Value:=.agg (ls.map (fun l=>Value.func (.func (f l)) #[] #[])++List.replicate (n - ls.length) Value.nilFunc).toArray
def partTab:List (Int×Value):=formTab.map fun p=>(p.1,rowOf 3 fnI p.2)
def formTabE:List (Int×List LJ):=[(1,[.target]),(2,[.first,.target,.other]),(3,[.first]),(4,[.raised]),(5,[.called,.given,.first,.target,.handlers]),(6,[.asked,.given,.first,.target,.handlers]),(7,[.first,.second,.target,.handlers]),(8,[.first,.target,.handlers]),(9,[.code])]
def pieceTab:List (Int×Value):=formTabE.map fun p=>(p.1,rowOf 5 fnE p.2)
theorem parts_c:SL Tryz.prog 88 [] [] fun e post=>∃v,e=.returned v∧∃mb,v=.map (some mb)∧post=[⟨mb,true,mapBO partTab⟩]:=by
 intro S w0 F w hi
 simp only[List.nil_append] at hi
 refine Ak Tryz.func88 rfl rfl (hi) ?_
 repeat' (first|refine Ag rfl ?_|refine Aj rfl ?_|refine Al ?_|refine An ?_|refine A5 rfl ?_|refine Az rfl ?_|refine A6 ?_|refine AH ?_|refine AB ?_|refine Bl rfl ?_|refine w_loop' ?_|refine w_inLoop ?_|refine AM Tryz.func88 rfl (fun w_ hi_=>?_)|refine Ab 0 ?_;try refine Za rfl (Aa N22 ?_)|refine Ab 1 ?_;try((refine wo_makeMapB rfl rfl (fun b_ hb_=>?_))<;>try refine Zv (AY (vs:=[(0,.func (.func _) #[] #[]),(1,.func (.func _) #[] #[])]) (cs:= #[.func (.func _) #[] #[],.func (.func _) #[] #[],.nilFunc]) U174 CT AS rfl rfl rfl) ?_;try((refine BU U114 U5 rfl rfl rfl rfl Y23 rfl rfl ?_)<;>try refine Zv (AY (vs:=[(0,.func (.func _) #[] #[])]) (cs:= #[.func (.func _) #[] #[],.nilFunc,.nilFunc]) U174 CT AS rfl rfl rfl) ?_;try((refine BU U114 U5 rfl rfl rfl rfl Y23 rfl rfl ?_)<;>try refine Zv (AY (vs:=[(0,.func (.func _) #[] #[]),(1,.func (.func _) #[] #[]),(2,.func (.func _) #[] #[])]) (cs:= #[.func (.func _) #[] #[],.func (.func _) #[] #[],.func (.func _) #[] #[]]) U174 CT AS rfl rfl rfl) ?_;try((refine BU U114 U5 rfl rfl rfl rfl Y23 rfl rfl ?_)<;>try refine Zv (AY (vs:=[(0,.func (.func _) #[] #[]),(1,.func (.func _) #[] #[])]) (cs:= #[.func (.func _) #[] #[],.func (.func _) #[] #[],.nilFunc]) U174 CT AS rfl rfl rfl) ?_;try((refine BU U114 U5 rfl rfl rfl rfl Y23 rfl rfl ?_)<;>try refine Zv (AY (vs:=[(0,.func (.func _) #[] #[]),(1,.func (.func _) #[] #[])]) (cs:= #[.func (.func _) #[] #[],.func (.func _) #[] #[],.nilFunc]) U174 CT AS rfl rfl rfl) ?_;try((refine BU U114 U5 rfl rfl rfl rfl Y23 rfl rfl ?_)<;>try refine Zv (AY (vs:=[(0,.func (.func _) #[] #[]),(1,.func (.func _) #[] #[])]) (cs:= #[.func (.func _) #[] #[],.func (.func _) #[] #[],.nilFunc]) U174 CT AS rfl rfl rfl) ?_;try((refine BU U114 U5 rfl rfl rfl rfl Y23 rfl rfl ?_)<;>try refine Zv (AY (vs:=[(0,.func (.func _) #[] #[]),(1,.func (.func _) #[] #[])]) (cs:= #[.func (.func _) #[] #[],.func (.func _) #[] #[],.nilFunc]) U174 CT AS rfl rfl rfl) ?_;try((refine BU U114 U5 rfl rfl rfl rfl Y23 rfl rfl ?_)<;>try refine Zv (AY (vs:=[(0,.func (.func _) #[] #[]),(1,.func (.func _) #[] #[]),(2,.func (.func _) #[] #[])]) (cs:= #[.func (.func _) #[] #[],.func (.func _) #[] #[],.func (.func _) #[] #[]]) U174 CT AS rfl rfl rfl) ?_;try((refine BU U114 U5 rfl rfl rfl rfl Y23 rfl rfl ?_)<;>try refine Zv (AY (vs:=[(0,.func (.func _) #[] #[]),(1,.func (.func _) #[] #[]),(2,.func (.func _) #[] #[])]) (cs:= #[.func (.func _) #[] #[],.func (.func _) #[] #[],.func (.func _) #[] #[]]) U174 CT AS rfl rfl rfl) ?_;try((refine BU U114 U5 rfl rfl rfl rfl Y23 rfl rfl ?_)<;>try refine Zv (AY (vs:=[(0,.func (.func _) #[] #[]),(1,.func (.func _) #[] #[]),(2,.func (.func _) #[] #[])]) (cs:= #[.func (.func _) #[] #[],.func (.func _) #[] #[],.func (.func _) #[] #[]]) U174 CT AS rfl rfl rfl) ?_;try((refine BU U114 U5 rfl rfl rfl rfl Y23 rfl rfl ?_)<;>try refine Zv (AY (vs:=[(0,.func (.func _) #[] #[]),(1,.func (.func _) #[] #[]),(2,.func (.func _) #[] #[])]) (cs:= #[.func (.func _) #[] #[],.func (.func _) #[] #[],.func (.func _) #[] #[]]) U174 CT AS rfl rfl rfl) ?_;try((refine BU U114 U5 rfl rfl rfl rfl Y23 rfl rfl ?_)<;>try refine Zv (AY (vs:=[(0,.func (.func _) #[] #[]),(1,.func (.func _) #[] #[]),(2,.func (.func _) #[] #[])]) (cs:= #[.func (.func _) #[] #[],.func (.func _) #[] #[],.func (.func _) #[] #[]]) U174 CT AS rfl rfl rfl) ?_;try((refine BU U114 U5 rfl rfl rfl rfl Y23 rfl rfl ?_)<;>try refine Zv (AY (vs:=[(0,.func (.func _) #[] #[]),(1,.func (.func _) #[] #[]),(2,.func (.func _) #[] #[])]) (cs:= #[.func (.func _) #[] #[],.func (.func _) #[] #[],.func (.func _) #[] #[]]) U174 CT AS rfl rfl rfl) ?_;try((refine BU U114 U5 rfl rfl rfl rfl Y23 rfl rfl ?_)<;>try refine Zv (AY (vs:=[(0,.func (.func _) #[] #[]),(1,.func (.func _) #[] #[])]) (cs:= #[.func (.func _) #[] #[],.func (.func _) #[] #[],.nilFunc]) U174 CT AS rfl rfl rfl) ?_;try((refine BU U114 U5 rfl rfl rfl rfl Y23 rfl rfl ?_)<;>try refine Zm rfl (Za rfl (Aa N22 ?_)))))))))))))))))|refine Ab 2 ?_;try((refine B2 (sz:=1) (vs:=[(0,.int .u8 2),(1,.int .u8 11),(2,.int .u8 36)]) (cs:= #[.int .u8 2,.int .u8 11,.int .u8 36]) U22 inf5 rfl rfl rfl rfl rfl (by rw[show Array.range (3*1)= #[0,1,2] by decide];simp[Instr.fill,Value.cells]) rfl rfl (fun bb_ hbb_=>?_))<;>try refine Zv (Ap rfl U22 rfl) (Zm rfl (Aa N22 ?_)))|refine Ab 3 ?_;try refine Zv (A7 rfl rfl Y2) ?_;try refine Aa N22 ?_|refine Ab 4 ?_;try refine Zv (Am U22 sz5 rfl rfl Y9 Y9) ?_;try refine Zv (Ac U5 rfl rfl Y0 Y4) ?_;try refine Za rfl (Aa N22 ?_)|refine Ab 5 ?_;try refine Zm rfl (Zm rfl (Zv (AY (vs:=[(0,.func (.func _) #[] #[]),(1,.func (.func _) #[] #[])]) (cs:= #[.func (.func _) #[] #[],.func (.func _) #[] #[],.nilFunc]) U174 CT AS rfl rfl rfl) ?_));try((refine wo_updB U114 U5 rfl rfl rfl rfl Y23 rfl rfl ?_)<;>try refine Aa N22 ?_)|refine Ab 6 ?_;try refine Zv (AD rfl rfl Y9 Y9) ?_;try refine Zm rfl (Aa N22 ?_)|refine Ab 7 ?_;try((refine B2 (sz:=1) (vs:=[(0,.int .u8 3),(1,.int .u8 4),(2,.int .u8 5),(3,.int .u8 6),(4,.int .u8 7),(5,.int .u8 8),(6,.int .u8 9),(7,.int .u8 10),(8,.int .u8 34)]) (cs:= #[.int .u8 3,.int .u8 4,.int .u8 5,.int .u8 6,.int .u8 7,.int .u8 8,.int .u8 9,.int .u8 10,.int .u8 34]) U22 inf5 rfl rfl rfl rfl rfl (by rw[show Array.range (9*1)= #[0,1,2,3,4,5,6,7,8] by decide];simp[Instr.fill,Value.cells]) rfl rfl (fun bb_ hbb_=>?_))<;>try refine Zv (Ap rfl U22 rfl) (Zm rfl (Aa N22 ?_)))|refine Ab 8 ?_;try refine Zv (A7 rfl rfl Y2) ?_;try refine Aa N22 ?_|refine Ab 9 ?_;try refine Zv (Am U22 sz5 rfl rfl Y9 Y9) ?_;try refine Zv (Ac U5 rfl rfl Y0 Y4) ?_;try refine Za rfl (Aa N22 ?_)|refine Ab 10 ?_;try refine Zm rfl (Zm rfl (Zv (AY (vs:=[(0,.func (.func _) #[] #[]),(1,.func (.func _) #[] #[]),(2,.func (.func _) #[] #[])]) (cs:= #[.func (.func _) #[] #[],.func (.func _) #[] #[],.func (.func _) #[] #[]]) U174 CT AS rfl rfl rfl) ?_));try((refine wo_updB U114 U5 rfl rfl rfl rfl Y23 rfl rfl ?_)<;>try refine Aa N22 ?_)|refine Ab 11 ?_;try refine Zv (AD rfl rfl Y9 Y9) ?_;try refine Zm rfl (Aa N22 ?_)|refine Ab 12 ?_;try((refine B2 (sz:=1) (vs:=[(0,.int .u8 21),(1,.int .u8 22),(2,.int .u8 40),(3,.int .u8 50),(4,.int .u8 51),(5,.int .u8 52),(6,.int .u8 53),(7,.int .u8 54)]) (cs:= #[.int .u8 21,.int .u8 22,.int .u8 40,.int .u8 50,.int .u8 51,.int .u8 52,.int .u8 53,.int .u8 54]) U22 inf5 rfl rfl rfl rfl rfl (by rw[show Array.range (8*1)= #[0,1,2,3,4,5,6,7] by decide];simp[Instr.fill,Value.cells]) rfl rfl (fun bb_ hbb_=>?_))<;>try refine Zv (Ap rfl U22 rfl) (Zm rfl (Aa N22 ?_)))|refine Ab 13 ?_;try refine Zv (A7 rfl rfl Y2) ?_;try refine Aa N22 ?_|refine Ab 14 ?_;try refine Zv (Am U22 sz5 rfl rfl Y9 Y9) ?_;try refine Zv (Ac U5 rfl rfl Y0 Y4) ?_;try refine Za rfl (Aa N22 ?_)|refine Ab 15 ?_;try refine Zm rfl (Zm rfl (Zv (AY (vs:=[(0,.func (.func _) #[] #[])]) (cs:= #[.func (.func _) #[] #[],.nilFunc,.nilFunc]) U174 CT AS rfl rfl rfl) ?_));try((refine wo_updB U114 U5 rfl rfl rfl rfl Y23 rfl rfl ?_)<;>try refine Aa N22 ?_)|refine Ab 16 ?_;try refine Zv (AD rfl rfl Y9 Y9) ?_;try refine Zm rfl (Aa N22 ?_)|refine Ab 17 ?_;try refine Zm rfl (Za rfl (Aa N22 ?_)))
 exact⟨[⟨b_,true,mapBO partTab⟩],⟨_,rfl,b_,rfl,rfl⟩,hi_.pick (F:=F) Y6 Y5⟩
theorem pieces_c:SL Tryz.prog 89 [] [] fun e post=>∃v,e=.returned v∧∃mb,v=.map (some mb)∧post=[⟨mb,true,mapBO pieceTab⟩]:=by
 intro S w0 F w hi
 simp only[List.nil_append] at hi
 refine Ak Tryz.func89 rfl rfl (hi) ?_
 repeat' (first|refine Ag rfl ?_|refine Aj rfl ?_|refine Al ?_|refine An ?_|refine AM Tryz.func89 rfl (fun w_ hi_=>?_)|refine Ab 0 ?_;try refine Za rfl (Aa [0] ?_)|refine Ab 1 ?_;try((refine wo_makeMapB rfl rfl (fun b_ hb_=>?_))<;>try refine Zv (AY (vs:=[(0,.func (.func _) #[] #[])]) (cs:= #[.func (.func _) #[] #[],.nilFunc,.nilFunc,.nilFunc,.nilFunc]) U190 sz189 AV rfl rfl rfl) ?_;try((refine BU U115 U5 rfl rfl rfl rfl Y23 rfl rfl ?_)<;>try refine Zv (AY (vs:=[(0,.func (.func _) #[] #[]),(1,.func (.func _) #[] #[]),(2,.func (.func _) #[] #[])]) (cs:= #[.func (.func _) #[] #[],.func (.func _) #[] #[],.func (.func _) #[] #[],.nilFunc,.nilFunc]) U190 sz189 AV rfl rfl rfl) ?_;try((refine BU U115 U5 rfl rfl rfl rfl Y23 rfl rfl ?_)<;>try refine Zv (AY (vs:=[(0,.func (.func _) #[] #[])]) (cs:= #[.func (.func _) #[] #[],.nilFunc,.nilFunc,.nilFunc,.nilFunc]) U190 sz189 AV rfl rfl rfl) ?_;try((refine BU U115 U5 rfl rfl rfl rfl Y23 rfl rfl ?_)<;>try refine Zv (AY (vs:=[(0,.func (.func _) #[] #[])]) (cs:= #[.func (.func _) #[] #[],.nilFunc,.nilFunc,.nilFunc,.nilFunc]) U190 sz189 AV rfl rfl rfl) ?_;try((refine BU U115 U5 rfl rfl rfl rfl Y23 rfl rfl ?_)<;>try refine Zv (AY (vs:=[(0,.func (.func _) #[] #[]),(1,.func (.func _) #[] #[]),(2,.func (.func _) #[] #[]),(3,.func (.func _) #[] #[]),(4,.func (.func _) #[] #[])]) (cs:= #[.func (.func _) #[] #[],.func (.func _) #[] #[],.func (.func _) #[] #[],.func (.func _) #[] #[],.func (.func _) #[] #[]]) U190 sz189 AV rfl rfl rfl) ?_;try((refine BU U115 U5 rfl rfl rfl rfl Y23 rfl rfl ?_)<;>try refine Zv (AY (vs:=[(0,.func (.func _) #[] #[]),(1,.func (.func _) #[] #[]),(2,.func (.func _) #[] #[]),(3,.func (.func _) #[] #[]),(4,.func (.func _) #[] #[])]) (cs:= #[.func (.func _) #[] #[],.func (.func _) #[] #[],.func (.func _) #[] #[],.func (.func _) #[] #[],.func (.func _) #[] #[]]) U190 sz189 AV rfl rfl rfl) ?_;try((refine BU U115 U5 rfl rfl rfl rfl Y23 rfl rfl ?_)<;>try refine Zv (AY (vs:=[(0,.func (.func _) #[] #[]),(1,.func (.func _) #[] #[]),(2,.func (.func _) #[] #[]),(3,.func (.func _) #[] #[])]) (cs:= #[.func (.func _) #[] #[],.func (.func _) #[] #[],.func (.func _) #[] #[],.func (.func _) #[] #[],.nilFunc]) U190 sz189 AV rfl rfl rfl) ?_;try((refine BU U115 U5 rfl rfl rfl rfl Y23 rfl rfl ?_)<;>try refine Zv (AY (vs:=[(0,.func (.func _) #[] #[]),(1,.func (.func _) #[] #[]),(2,.func (.func _) #[] #[])]) (cs:= #[.func (.func _) #[] #[],.func (.func _) #[] #[],.func (.func _) #[] #[],.nilFunc,.nilFunc]) U190 sz189 AV rfl rfl rfl) ?_;try((refine BU U115 U5 rfl rfl rfl rfl Y23 rfl rfl ?_)<;>try refine Zv (AY (vs:=[(0,.func (.func _) #[] #[])]) (cs:= #[.func (.func _) #[] #[],.nilFunc,.nilFunc,.nilFunc,.nilFunc]) U190 sz189 AV rfl rfl rfl) ?_;try((refine BU U115 U5 rfl rfl rfl rfl Y23 rfl rfl ?_)<;>try refine Zm rfl (Za rfl (Aa [0] ?_)))))))))))))
 exact⟨[⟨b_,true,mapBO pieceTab⟩],⟨_,rfl,b_,rfl,rfl⟩,hi_.pick (F:=F) Y6 Y5⟩
end Go.Sl
namespace Go.Sl
open Go Go.RowKit Go.Shelf Go.Proofs
attribute [local irreducible] Calls
theorem AP {C:Cx} {S:Nat→Prop} {w0:World} {D:List Deferred} {E:List (Nat×Value)} {H:List Ent} {d:Option Tmp} {t t':TypeId} {p:String} {af:Array Edge} {g:Option (Nat×Bool)} {x y:Operand} {mb:Nat} {kt et:TypeId} {ti:TypeInfo} {zv v:Value} {l:List (Int×Value)} {q q':Int} {rw_:Bool} (hr:l.find? (fun p=>p.1 == q)=some (q',v)) (hu':C.P.underlying t'=some (.map kt et)) (hk:C.P.underlying kt=some (.int .u8)) (hti:C.P.info? et=some ti) (hz:ti.zero=some zv) (hx:opv E x=some (.map (some mb))) (hy:opv E y=some (.int .u8 q))
 (hm:(⟨mb,rw_,mapBO l⟩:Ent)∈H):OpV C S w0 H D E ⟨d,.lookup t' x y true,t,p,af,g⟩ (.tuple #[v,.bool true]):=by
 have:=ov_lookB (C:=C) (S:=S) (w0:=w0) (H:=H) (D:=D) (d:=d) (t:=t) (p:=p) (af:=af) (g:=g) hu' hk hti hz hx hy hm
 rw[hr] at this;exact this
theorem ov_lookBF {C:Cx} {S:Nat→Prop} {w0:World} {D:List Deferred} {E:List (Nat×Value)} {H:List Ent} {d:Option Tmp} {t t':TypeId} {p:String} {af:Array Edge} {g:Option (Nat×Bool)} {x y:Operand} {mb:Nat} {kt et:TypeId} {ti:TypeInfo} {zv:Value} {l:List (Int×Value)} {q:Int} {rw_:Bool} (hr:l.find? (fun p=>p.1 == q)=none) (hu':C.P.underlying t'=some (.map kt et)) (hk:C.P.underlying kt=some (.int .u8)) (hti:C.P.info? et=some ti) (hz:ti.zero=some zv) (hx:opv E x=some (.map (some mb))) (hy:opv E y=some (.int .u8 q))
 (hm:(⟨mb,rw_,mapBO l⟩:Ent)∈H):OpV C S w0 H D E ⟨d,.lookup t' x y true,t,p,af,g⟩ (.tuple #[zv,.bool false]):=by
 have:=ov_lookB (C:=C) (S:=S) (w0:=w0) (H:=H) (D:=D) (d:=d) (t:=t) (p:=p) (af:=af) (g:=g) hu' hk hti hz hx hy hm
 rw[hr] at this;exact this
theorem part_find {op:Int} {ls:List LI} (h:formI op=some ls):∃q,partTab.find? (fun p=>p.1 == op)=some (q,rowOf 3 fnI ls):=by
 unfold formI at h
 rw[Option.map_eq_some_iff] at h
 obtain⟨r,h1,rfl⟩:=h
 refine⟨r.1,?_⟩
 rw[partTab,List.find?_map]
 have:((fun p:Int×Value=>p.1 == op) ∘ fun p:Int×List LI=>(p.1,rowOf 3 fnI p.2))=fun p=>p.1 == op:=rfl
 rw[this,h1];rfl
theorem part_findN {op:Int} (h:formI op=none):partTab.find? (fun p=>p.1 == op)=none:=by
 unfold formI at h
 rw[Option.map_eq_none_iff] at h
 rw[partTab,List.find?_map]
 have:((fun p:Int×Value=>p.1 == op) ∘ fun p:Int×List LI=>(p.1,rowOf 3 fnI p.2))=fun p=>p.1 == op:=rfl
 rw[this,h];rfl
theorem formE_tab (kd:Int):formE kd=(formTabE.find? fun p=>p.1 == kd).map (·.2):=by
 unfold formE
 have hb:∀n:Int,(n == kd)=decide (kd=n):=fun n=>by rw[Bool.eq_iff_iff];simp;exact eq_comm
 simp only[formTabE,List.find?_cons,hb]
 repeat(split;· rename_i h;simp[h])
 rename_i h1 h2 h3 h4 h5 h6 h7 h8 h9
 simp[h1,h2,h3,h4,h5,h6,h7,h8,h9]
theorem piece_find {op:Int} {ls:List LJ} (h:formE op=some ls):∃q,pieceTab.find? (fun p=>p.1 == op)=some (q,rowOf 5 fnE ls):=by
 rw[formE_tab,Option.map_eq_some_iff] at h
 obtain⟨r,h1,rfl⟩:=h
 refine⟨r.1,?_⟩
 rw[pieceTab,List.find?_map]
 have:((fun p:Int×Value=>p.1 == op) ∘ fun p:Int×List LJ=>(p.1,rowOf 5 fnE p.2))=fun p=>p.1 == op:=rfl
 rw[this,h1];rfl
theorem piece_findN {op:Int} (h:formE op=none):pieceTab.find? (fun p=>p.1 == op)=none:=by
 rw[formE_tab,Option.map_eq_none_iff] at h
 rw[pieceTab,List.find?_map]
 have:((fun p:Int×Value=>p.1 == op) ∘ fun p:Int×List LJ=>(p.1,rowOf 5 fnE p.2))=fun p=>p.1 == op:=rfl
 rw[this,h];rfl
theorem formI_ok {op:Int} {ls:List LI} (h:formI op=some ls):ls.length≤3∧ls.Nodup:=by
 unfold formI at h
 rw[Option.map_eq_some_iff] at h
 obtain⟨r,h1,rfl⟩:=h
 have:=List.mem_of_find?_eq_some h1
 have hall:∀r∈formTab,r.2.length≤3∧r.2.Nodup:=by decide
 exact hall _ this
theorem formE_ok {op:Int} {ls:List LJ} (h:formE op=some ls):ls.length≤5∧ls.Nodup:=by
 rw[formE_tab,Option.map_eq_some_iff] at h
 obtain⟨r,h1,rfl⟩:=h
 have:=List.mem_of_find?_eq_some h1
 have hall:∀r∈formTabE,r.2.length≤5∧r.2.Nodup:=by decide
 exact hall _ this
theorem row_at3 {α:Type} {f:α→FuncId} {ls:List α} {n i:Nat} (hl:ls.length≤n) (hi:i < ls.length):((ls.map (fun l=>Value.func (.func (f l)) #[] #[])++List.replicate (n - ls.length) Value.nilFunc).toArray)[i]?=some (.func (.func (f ls[i])) #[] #[]):=by
 rw[List.getElem?_toArray,List.getElem?_append_left (by simpa using hi)];simp[hi]
theorem row_nil {α:Type} {f:α→FuncId} {ls:List α} {n i:Nat} (hi:ls.length≤i) (hn:i < n):((ls.map (fun l=>Value.func (.func (f l)) #[] #[])++List.replicate (n - ls.length) Value.nilFunc).toArray)[i]?=some .nilFunc:=by
 rw[List.getElem?_toArray,List.getElem?_append_right (by simpa using hi),List.getElem?_replicate,if_pos (by simp only[List.length_map];omega)]
theorem row_ok {α:Type} {f:α→FuncId} {ls:List α} {n:Nat}:((ls.map (fun l=>Value.func (.func (f l)) #[] #[])++List.replicate (n - ls.length) Value.nilFunc).toArray).toList.all okCell=true:=by
 simp[okCell]
theorem row_size {α:Type} {f:α→FuncId} {ls:List α} {n:Nat} (hl:ls.length≤n):((ls.map (fun l=>Value.func (.func (f l)) #[] #[])++List.replicate (n - ls.length) Value.nilFunc).toArray).size=n:=by
 simp;omega
section
variable {S:Nat→Prop} {w0:World} {σ:Type} (cd:Cod S w0 σ)
theorem kindI_c {F:List Ent} {b o:Nat}:SLF Tryz.prog S w0 F 189 [.agg #[pv b o]] [] fun e post=>e=.returned (pv b o)∧post=[]:=by
 refine AE fun w hi=>?_
 refine Ak Tryz.func189 rfl rfl (hi) ?_
 repeat' (first|refine Ag rfl ?_|refine Aj rfl ?_|refine Al ?_|refine An ?_|refine AM Tryz.func189 rfl (fun w_ hi_=>?_)|refine Ab 0 ?_;try refine AL rfl rfl rfl rfl (fun b_ hb_=>?_);try refine Za rfl (Aa N3 ?_)|refine Ab 1 ?_;try refine Zf fo162_0 rfl (Zv (Ac U159 rfl rfl Y0 Y4) ?_);try refine Zv (Ah rfl) (Zf Cc rfl (Za rfl (Aa N3 ?_))))
 exact⟨[],⟨rfl,rfl⟩,hi_.pick (ps:=[]) (F:=F) (Take.nil _) Y5⟩
theorem kindE_c {F:List Ent} {b o:Nat}:SLF Tryz.prog S w0 F 190 [.agg #[pv b o]] [] fun e post=>e=.returned (pv b o)∧post=[]:=by
 refine AE fun w hi=>?_
 refine Ak Tryz.func190 rfl rfl (hi) ?_
 repeat' (first|refine Ag rfl ?_|refine Aj rfl ?_|refine Al ?_|refine An ?_|refine AM Tryz.func190 rfl (fun w_ hi_=>?_)|refine Ab 0 ?_;try refine AL rfl rfl rfl rfl (fun b_ hb_=>?_);try refine Za rfl (Aa N3 ?_)|refine Ab 1 ?_;try refine Zf fo166_0 rfl (Zv (Ac U164 rfl rfl Y0 Y4) ?_);try refine Zv (Ah rfl) (Zf BY rfl (Za rfl (Aa N3 ?_))))
 exact⟨[],⟨rfl,rfl⟩,hi_.pick (ps:=[]) (F:=F) (Take.nil _) Y5⟩
theorem metI:metTo Tryz.prog 162 "trestle/code.kind" = some 189:=by kernel_rfl
theorem metE:metTo Tryz.prog 166 "trestle/code.kind" = some 190:=by kernel_rfl
abbrev tabV (mp mq:Nat):Value:=.agg #[.iface cd.it cd.iv,.map (some mp),.map (some mq)]
theorem with_c {F:List Ent} {it:TypeId} {iv:Value}:SLF Tryz.prog S w0 F 62 [.iface it iv] [] fun e post=>∃v,e=.returned v∧∃mp mq,v=.agg #[.iface it iv,.map (some mp),.map (some mq)]∧post=[⟨mp,true,mapBO partTab⟩,⟨mq,true,mapBO pieceTab⟩]:=by
 refine AE fun w hi=>?_
 simp only[List.nil_append] at hi
 refine Ak Tryz.func62 rfl rfl (hi) ?_
 repeat' (first|refine Ag rfl ?_|refine Aj rfl ?_|refine Al ?_|refine An ?_|refine C5 Tryz.func62 (.cellA rfl U117 rfl inf117 Y13 rfl (.nil)) (fun w_ hi_=>?_)|refine Ab 0 ?_;try refine A8 inf117 rfl rfl rfl rfl (fun b_ hb_=>?_);try refine Aa N19 ?_|refine Ab 1 ?_;try refine Zm rfl (Zv (Bq (vs:=[(0,.iface it iv)]) (cs:= #[.iface it iv]) pl113 BB rfl rfl rfl) ?_);try((refine wo_callR (pre:=[]) (Take.nil _) rfl en88 rfl rfl parts_c ?_;rintro v post ⟨mp,rfl,rfl⟩)<;>try((refine wo_callR (pre:=[]) (Take.nil _) rfl en89 rfl rfl pieces_c ?_;rintro v post ⟨mq,rfl,rfl⟩)<;>try refine Zv (Bq (vs:=[(0,.agg #[.iface it iv]),(1,.map (some mp)),(2,.map (some mq))]) (cs:= #[.iface it iv,.map (some mp),.map (some mq)]) pl117 inf117 rfl rfl rfl) ?_;try refine AI rfl rfl rfl sz117 Y3 Y15 rfl rfl ?_;try refine Aa N19 ?_)))
 exact⟨_,⟨_,rfl,mp,mq,rfl,rfl⟩,hi_.pick (F:=F) Y6 Y5⟩
variable {F:List Ent} {s:σ} {L:List Ent} (hE:cd.env F) (hs:cd.St s L)
include hE hs
theorem let_c (l:LI) {A B:List Value} {b:Nat} {x:InsM} {av:Value} {el:TypeId} (hA:ArgsK S w0 F x.args av) (hm:cd.Keep∨(l=.one→x.args=[])) (hf:ltI cd.κ l x s≠.full):
 SLF Tryz.prog S w0 F (fnI l) [wkV cd,pv b A.length] (L++[⟨b,true,.cells (A++(insC x av++B)).toArray el (0,0)⟩]) (MoO (ltI cd.κ l x s) fun a v post=>v=unitV∧∃L' X av',cd.St a.2 L'∧post=L'++(⟨b,true,.cells (A++(insC a.1 av'++B)).toArray el (0,0)⟩::X)∧SlS S w0 intsV X a.1.args x.args av' av):=by
 by_cases h1:l=.one
 · subst h1
   exact ione_c cd hE hs hA (hm.symm.imp (fun h=>by rw[h rfl];simp) (fun h=>⟨h.k,fun n s n' s' e=>h.num _ _ _ _ _ e⟩)) hf
 · have base:SLF Tryz.prog S w0 F (fnI l) [wkV cd,pv b A.length] (L++[⟨b,true,.cells (A++(insC x av++B)).toArray el (0,0)⟩]) (MoO (ltI cd.κ l x s) fun a v post=>v=unitV∧∃L',cd.St a.2 L'∧post=L'++[⟨b,true,.cells (A++(insC a.1 av++B)).toArray el (0,0)⟩]):=by
    cases l with
    | to=>exact ito_c cd hE hs hf
    | a=>exact ia_c cd hE hs hf
    | b=>exact ib_c cd hE hs hf
    | lo=>exact ilo_c cd hE hs hf
    | hi=>exact ihi_c cd hE hs hf
    | one=>exact absurd rfl h1
    | sh=>exact ish_c cd hE hs hf
    | fi=>exact ifi_c cd hE hs hf
    | me=>exact ime_c cd hE hs hf
    | gl=>exact igl_c cd hE hs hf
   have keep:∀a,ltI cd.κ l x s=.ok a→a.1.args=x.args:=by
    intro a e
    cases l with
    | one=>exact absurd rfl h1
    | _ =>
      simp only[ltI] at e
      revert e
      generalize cd.κ.num _ _ _=r
      generalize cd.κ.ref _ _ _=r2
      first
       | (cases r<;>simp only[Out.bind]<;>intro e<;>cases e<;>rfl)
       | (cases r2<;>simp only[Out.bind]<;>intro e<;>cases e<;>rfl)
   refine base.mono fun e post h=>BI h id ?_
   rintro a v p e ⟨rfl,L',h2,rfl⟩
   exact⟨_,e,rfl,L',[],av,h2,rfl,by rw[keep a e];exact .same⟩
theorem lte_c (l:LJ) {A B:List Value} {b:Nat} {x:EndM} {av wv:Value} {el:TypeId} (hA:ArgsK S w0 F x.args av) (hW:WhensK S w0 F x.ws wv) (hm:cd.Keep∨((l=.given→x.args=[])∧(l=.handlers→x.ws=[]))) (hsm:cd.Small) (hl1:x.args.length≤65535) (hl2:x.ws.length≤65535) (hf:ltE cd.κ l x s≠.full):
 SLF Tryz.prog S w0 F (fnE l) [wkV cd,pv b A.length] (L++[⟨b,true,.cells (A++(endC x av wv++B)).toArray el (0,0)⟩]) (MoO (ltE cd.κ l x s) fun a v post=>v=unitV∧∃L' X av' wv',cd.St a.2 L'∧post=L'++(⟨b,true,.cells (A++(endC a.1 av' wv'++B)).toArray el (0,0)⟩::X)∧SlS S w0 intsV X a.1.args x.args av' av∧SlS S w0 whensV X a.1.ws x.ws wv' wv):=by
 by_cases h1:l=.given
 · subst h1
   exact given_c cd hE hs hA hW (hm.imp id fun h=>h.1 rfl) hsm hl1 hf
 by_cases h2:l=.handlers
 · subst h2
   exact handlers_c cd hE hs hA hW (hm.imp id fun h=>h.2 rfl) hsm hl2 hf
 · have base:SLF Tryz.prog S w0 F (fnE l) [wkV cd,pv b A.length] (L++[⟨b,true,.cells (A++(endC x av wv++B)).toArray el (0,0)⟩]) (MoO (ltE cd.κ l x s) fun a v post=>v=unitV∧∃L',cd.St a.2 L'∧post=L'++[⟨b,true,.cells (A++(endC a.1 av wv++B)).toArray el (0,0)⟩]):=by
    cases l with
    | target=>exact etarget_c cd hE hs hf
    | other=>exact eother_c cd hE hs hf
    | first=>exact efirst_c cd hE hs hf
    | second=>exact esecond_c cd hE hs hf
    | raised=>exact eraised_c cd hE hs hf
    | called=>exact ecalled_c cd hE hs hf
    | asked=>exact easked_c cd hE hs hf
    | given=>exact absurd rfl h1
    | code=>exact ecode_c cd hE hs hf
    | handlers=>exact absurd rfl h2
   have keep:∀a,ltE cd.κ l x s=.ok a→a.1.args=x.args∧a.1.ws=x.ws:=by
    intro a e
    cases l with
    | given=>exact absurd rfl h1
    | handlers=>exact absurd rfl h2
    | _ =>
      simp only[ltE] at e
      revert e
      generalize cd.κ.num _ _ _=r
      generalize cd.κ.ref _ _ _=r2
      generalize cd.κ.txt _ _=r3
      first
       | (cases r<;>simp only[Out.bind]<;>intro e<;>cases e<;>exact⟨rfl,rfl⟩)
       | (cases r2<;>simp only[Out.bind]<;>intro e<;>cases e<;>exact⟨rfl,rfl⟩)
       | (cases r3<;>simp only[Out.bind]<;>intro e<;>cases e<;>exact⟨rfl,rfl⟩)
   refine base.mono fun e post h=>BI h id ?_
   rintro a v p e ⟨rfl,L',h2,rfl⟩
   exact⟨_,e,rfl,L',[],av,wv,h2,rfl,by rw[(keep a e).1];exact .same,by rw[(keep a e).2];exact .same⟩
end
end Go.Sl
namespace Go.Sl
open Go Go.RowKit Go.Shelf Go.Proofs
attribute [local irreducible] Calls
section
variable {C:Cx} {S:Nat→Prop} {w0:World} {k:List Item} {D:List Deferred} {E:List (Nat×Value)} {H F1 F2 L:List Ent} {d:Option Tmp} {t:TypeId} {p:String} {af:Array Edge} {g:Option (Nat×Bool)} {ops:Array Oper} {rest:List Oper} {v:Value}
theorem ov_kindQ {c:Call} {f:FuncId} {vs:List Value} (hc:CallR C D E ⟨d,.call c,t,p,af,g⟩ f vs) (h:SLF C.P S w0 H f vs [] fun e post=>e=.returned v∧post=[]):OpV C S w0 H D E ⟨d,.call c,t,p,af,g⟩ v:=Aw hc h
theorem wo_dynP {α:Type} {r:Out α} {G:α→Value→List Ent→Prop} {c:Call} {f:FuncId} {vs:List Value} {b:Nat} {cs:Array Value} {el:TypeId} (tL:Take H L F1) (tP:Take F1 [⟨b,true,.cells cs el (0,0)⟩] F2) (hc:CallR C D E ⟨d,.call c,t,p,af,g⟩ f vs) (hg:guardOk E ops ⟨d,.call c,t,p,af,g⟩=some true) (hd:dstOk d C.n=true)
 (h:SLF C.P S w0 F2 f vs (L++[⟨b,true,.cells cs el (0,0)⟩]) (MoO r G)) (hn:r=.bad→WP C S w0 badE D [] F2)
 (hk:∀a,r=.ok a→∀v post,G a v post→WO C S w0 ops rest k D (putE d v E) (post++F2)):WO C S w0 ops (⟨d,.call c,t,p,af,g⟩::rest) k D E H:=wo_callP tL tP hc hg hd h hn hk
end
theorem Br {C:Cx} {S:Nat→Prop} {w0:World} {D:List Deferred} {E:List (Nat×Value)} {H:List Ent} {d:Option Tmp} {t:TypeId} {p:String} {af:Array Edge} {g:Option (Nat×Bool)} {x y:Operand} {mb:Nat} {q:Int} {rw_:Bool} {l:List (Int×Value)} (hr:l.find? (fun p=>p.1 == q)=none) (hP:C.P=Tryz.prog) (hx:opv E x=some (.map (some mb))) (hy:opv E y=some (.int .u8 q))
 (hm:(⟨mb,rw_,mapBO l⟩:Ent)∈H):OpV C S w0 H D E ⟨d,.lookup 114 x y true,t,p,af,g⟩ (.tuple #[.agg #[.nilFunc,.nilFunc,.nilFunc],.bool false]):=
 ov_lookBF (ti:=Tryz.t174) (kt:=5) (et:=174) hr (hP▸U114) (hP▸U5) (hP▸AS) rfl hx hy hm
theorem Bt {C:Cx} {S:Nat→Prop} {w0:World} {D:List Deferred} {E:List (Nat×Value)} {H:List Ent} {d:Option Tmp} {t:TypeId} {p:String} {af:Array Edge} {g:Option (Nat×Bool)} {x y:Operand} {mb:Nat} {q:Int} {rw_:Bool} {l:List (Int×Value)} (hr:l.find? (fun p=>p.1 == q)=none) (hP:C.P=Tryz.prog) (hx:opv E x=some (.map (some mb))) (hy:opv E y=some (.int .u8 q))
 (hm:(⟨mb,rw_,mapBO l⟩:Ent)∈H):OpV C S w0 H D E ⟨d,.lookup 115 x y true,t,p,af,g⟩ (.tuple #[.agg #[.nilFunc,.nilFunc,.nilFunc,.nilFunc,.nilFunc],.bool false]):=
 ov_lookBF (ti:=Tryz.t190) (kt:=5) (et:=190) hr (hP▸U115) (hP▸U5) (hP▸AV) rfl hx hy hm
theorem w_cutK {C:Cx} {S:Nat→Prop} {w0:World} {k:List Item} {D:List Deferred} {E:List (Nat×Value)} {H:List Ent} {c:Code} {β:Type} (EJ:β→List (Nat×Value)) (HJ:β→List Ent) (rest:∀q,WF C S w0 k D (EJ q) (HJ q)) (body:(∀q,WF C S w0 k D (EJ q) (HJ q))→WF C S w0 (.code c::k) D E H):WF C S w0 (.code c::k) D E H:=body rest
theorem enI (l:LI):Enters Tryz.prog (fnI l):=by
 cases l
 exact en121
 exact en123
 exact en125
 exact en122
 exact en124
 exact en130
 exact en126
 exact en128
 exact en129
 exact en127
theorem enE (l:LJ):Enters Tryz.prog (fnE l):=by
 cases l
 exact en131
 exact en133
 exact en132
 exact en139
 exact en134
 exact en135
 exact en138
 exact en136
 exact en140
 exact en137
theorem Out.bind_ok {α β:Type} {r:Out α} {g:α→Out β} {b:β} (h:r.bind g=.ok b):∃a,r=.ok a∧g a=.ok b:=by
 cases r with
 | ok a=>exact⟨a,rfl,h⟩
 | bad=>cases h
 | full=>cases h
theorem lt_keepI {σ:Type} (κ:Kd σ) {l:LI} {x x':InsM} {s s':σ} (h1:l≠.one) (e:ltI κ l x s=.ok (x',s')):x'.args=x.args:=by
 cases l with
 | one=>exact absurd rfl h1
 | _=>obtain⟨a,h2,h3⟩:=Out.bind_ok e;cases h3;rfl
theorem lt_keepA {σ:Type} (κ:Kd σ) {l:LJ} {x x':EndM} {s s':σ} (h1:l≠.given) (e:ltE κ l x s=.ok (x',s')):x'.args=x.args:=by
 cases l with
 | given=>exact absurd rfl h1
 | handlers=>
   obtain⟨a,h2,h3⟩:=Out.bind_ok e
   obtain⟨a2,h4,h5⟩:=Out.bind_ok h3
   cases h5;rfl
 | _=>obtain⟨a,h2,h3⟩:=Out.bind_ok e;cases h3;rfl
theorem lt_keepW {σ:Type} (κ:Kd σ) {l:LJ} {x x':EndM} {s s':σ} (h1:l≠.handlers) (e:ltE κ l x s=.ok (x',s')):x'.ws=x.ws:=by
 cases l with
 | handlers=>exact absurd rfl h1
 | _=>obtain⟨a,h2,h3⟩:=Out.bind_ok e;cases h3;rfl
theorem iter_len {σ α:Type} (step:α→σ→Out (α×σ)):∀(l:List α) (s:σ) (l':List α) (s':σ),iter step l s=.ok (l',s')→l'.length=l.length
 | [],s,l',s',e=>by cases e;rfl
 | x :: r,s,l',s',e=>by
   obtain⟨q,h1,e⟩:=Out.bind_ok e
   obtain⟨q2,h2,e⟩:=Out.bind_ok e
   cases e
   simp[iter_len step r q.2 q2.1 q2.2 h2]
theorem lst_len {S:Nat→Prop} {w0:World} {σ α:Type} (cd:Cod S w0 σ) (hsm:cd.Small) {sz:Nat} (hsz:sz=1∨sz=2) {z:α} {step:α→σ→Out (α×σ)} {l l':List α} {s s':σ} (hl:l.length≤65535) (e:lst cd.κ sz z step l s=.ok (l',s')):l'.length≤65535:=by
 obtain⟨r,h1,e⟩:=Out.bind_ok e
 have hr:=hsm l.length sz s r.1 r.2 hsz hl h1
 split at e
 · cases e
 · have:=iter_len _ _ _ _ _ e
   rw[this]
   split
   · exact hl
   · simp;omega
theorem lt_lenA {S:Nat→Prop} {w0:World} {σ:Type} (cd:Cod S w0 σ) (hsm:cd.Small) {l:LJ} {x x':EndM} {s s':σ} (hl:x.args.length≤65535) (e:ltE cd.κ l x s=.ok (x',s')):x'.args.length≤65535:=by
 by_cases h1:l=.given
 · subst h1
   obtain⟨r,h2,h3⟩:=Out.bind_ok e
   cases h3
   exact lst_len cd hsm (.inl rfl) hl h2
 · rw[lt_keepA cd.κ h1 e];exact hl
theorem lt_lenW {S:Nat→Prop} {w0:World} {σ:Type} (cd:Cod S w0 σ) (hsm:cd.Small) {l:LJ} {x x':EndM} {s s':σ} (hl:x.ws.length≤65535) (e:ltE cd.κ l x s=.ok (x',s')):x'.ws.length≤65535:=by
 by_cases h1:l=.handlers
 · subst h1
   obtain⟨r,h2,h3⟩:=Out.bind_ok e
   obtain⟨r2,h4,h5⟩:=Out.bind_ok h3
   cases h5
   exact lst_len cd hsm (.inl rfl) hl h2
 · rw[lt_keepW cd.κ h1 e];exact hl
section
variable {S:Nat→Prop} {w0:World} {σ:Type} (cd:Cod S w0 σ) {F:List Ent} {s:σ} {L:List Ent} (hE:cd.env F) (hs:cd.St s L)
include hE hs
theorem itemI_c {A B:List Value} {b mp mq:Nat} {x:InsM} {av:Value} {el:TypeId} (hA:ArgsK S w0 F x.args av) (hm:cd.Keep∨x.args=[]) (hop0:0≤x.op) (hop1:x.op≤255) (hmp:(⟨mp,true,mapBO partTab⟩:Ent)∈F) (hf:codeIns cd.κ x s≠.full):
 SLF Tryz.prog S w0 F 97 [tabV cd mp mq,.iface 162 (.agg #[pv b A.length])] (L++[⟨b,true,.cells (A++(insC x av++B)).toArray el (0,0)⟩]) (MoO (codeIns cd.κ x s) fun a v post=>v=unitV∧∃L' X av',cd.St a.2 L'∧post=L'++(⟨b,true,.cells (A++(insC a.1 av'++B)).toArray el (0,0)⟩::X)∧SlS S w0 intsV X a.1.args x.args av' av):=by
 refine AE fun w hi=>?_
 simp only[List.append_assoc,List.cons_append,List.nil_append] at hi
 have g0:((A++(insC x av++B)).toArray)[A.length]?=some (.int .u8 x.op):=BD (j:=0) (R:=insC x av) (show 0 < 8 by decide) rfl
 have st0:∀n,((A++(insC x av++B)).toArray).setIfInBounds A.length (.int .u8 n)=(A++(insC {x with op:=n} av++B)).toArray:=fun n=>BH (j:=0) (R:=insC x av) (show 0 < 8 by decide) _
 have g0n:∀n,((A++(insC {x with op:=n} av++B)).toArray)[A.length+0]?=some (.int .u8 n):=fun n=>BD (j:=0) (R:=insC {x with op:=n} av) (show 0 < 8 by decide) rfl
 cases hsm0:small cd.κ x.op s with
 | full=>exact absurd hsm0 (Out.nf hf)
 | bad=>
   have hr:codeIns cd.κ x s=.bad:=by simp only[codeIns,hsm0,Out.bind]
   refine Ak Tryz.func97 rfl rfl (hi) ?_
   repeat' (first|refine Ag rfl ?_|refine Al ?_|refine An ?_|refine Ab 0 ?_;try refine AL rfl rfl rfl rfl (fun bt hbt=>?_);try refine Aa N1 ?_|refine Bg (id:=1) 4 rfl mixed Y1 ?_;try refine A4 (Ad Co rfl) rfl rfl ?_;try((refine A4 (B5 (cs:= #[.iface cd.it cd.iv]) U113 rfl BB rfl Y0 rfl Y31 (fun j hj=>by(obtain rfl:j=0:=(by(have:j < 1:=hj);omega));rfl)) rfl rfl ?_)<;>try refine A4 (Ai rfl) rfl rfl (A4 (ov_kindQ (CallR.inv rfl rfl metI en189) kindI_c) rfl rfl (Bf ?_));try((refine CJ cd (o:=A.length) (gv:=fun n=>.int .u8 n) Y7 Y6 (CallR.val rfl en90) rfl rfl (small_c cd (by repeat(first|exact hE|apply cd.envC|apply cd.envA)) hs hop0 hop1 g0 (Out.nf hf)) (fun e=>AR Tryz.func97 hr Y5) (fun n' s' e1 L' hs'=>?_);rw[hsm0] at e1;cases e1)<;>try refine Aa N1 ?_)))
 | ok r=>
 obtain⟨op',s1⟩:=r
 have g0':=g0n op'
 cases hfo:formI op' with
 | none=>
   have hr:codeIns cd.κ x s=.bad:=by simp only[codeIns,hsm0,Out.bind,hfo]
   have hlk:=part_findN hfo
   refine Ak Tryz.func97 rfl rfl (hi) ?_
   repeat' (first|refine Ag rfl ?_|refine Aj rfl ?_|refine Al ?_|refine An ?_|refine A5 rfl ?_|refine A6 ?_|refine Ab 0 ?_;try refine AL rfl rfl rfl rfl (fun bt hbt=>?_);try refine Aa N1 ?_|refine Bg (id:=1) 4 rfl mixed Y1 ?_;try refine A4 (Ad Co rfl) rfl rfl ?_;try((refine A4 (B5 (cs:= #[.iface cd.it cd.iv]) U113 rfl BB rfl Y0 rfl Y31 (fun j hj=>by(obtain rfl:j=0:=(by(have:j < 1:=hj);omega));rfl)) rfl rfl ?_)<;>try refine A4 (Ai rfl) rfl rfl (A4 (ov_kindQ (CallR.inv rfl rfl metI en189) kindI_c) rfl rfl (Bf ?_));try((refine CJ cd (o:=A.length) (gv:=fun n=>.int .u8 n) Y7 Y6 (CallR.val rfl en90) rfl rfl (small_c cd (by repeat(first|exact hE|apply cd.envC|apply cd.envA)) hs hop0 hop1 g0 (Out.nf hf)) (fun e=>by rw[hsm0] at e;cases e) (fun n' s' e1 L' hs'=>?_);rw[hsm0] at e1;cases e1;rw[st0])<;>try refine Aa N1 ?_))|refine Ab 2 ?_;try refine Zm rfl (Aa N1 ?_)|refine Ab 3 ?_;try refine Zv (ov_assertT U162 rfl rfl) (Zv (Ae rfl rfl) (Zv (Ae rfl rfl) (Aa N1 ?_)))|refine Ab 4 ?_;try refine A8 inf162 rfl rfl rfl rfl (fun bi hbi=>?_);try refine AI rfl rfl rfl sz162 Y3 Y15 rfl rfl ?_;try refine Aa N1 ?_|refine Cy (m:=14) 5 rfl mixed rfl ?_;try refine Zt 0 rfl (fun _=>Ad fo117_1 rfl) (Zt 2 rfl (fun _=>Ad fo162_0 rfl) ?_);try refine Cg 1 3 11 Y1 ?_ ?_ ?_<;>(first|show WI _ _ _ _ _ _ 1 _ _ _ _;try refine Ao rfl (Ac U114 rfl rfl Y0 Y4) rfl rfl rfl ?_;try refine AC 3 11 Y1 ?_ ?_<;>(first|show WI _ _ _ _ _ _ 3 _ _ _ _;try refine Ao rfl (Ac U159 rfl rfl Y0 Y4) rfl rfl rfl ?_;try refine AC 4 11 Y1 ?_ ?_<;>(first|show WI _ _ _ _ _ _ 4 _ _ _ _;try refine Ao rfl (Ah rfl) rfl rfl rfl (Zt 5 rfl (fun _=>Ad Cc rfl) ?_);try refine AC 6 11 Y1 ?_ ?_<;>(first|show WI _ _ _ _ _ _ 6 _ _ _ _;try refine Ao rfl (Ac U5 rfl rfl Y0 Y4) rfl rfl rfl ?_;try refine AC 7 11 Y1 ?_ ?_<;>(first|show WI _ _ _ _ _ _ 7 _ _ _ _;try refine Ao rfl (Br hlk rfl rfl rfl Y0) rfl rfl rfl ?_;try refine Zt 8 rfl (fun _=>Ai rfl) (Zt 9 rfl (fun _=>Ae rfl rfl) (Zt 10 rfl (fun _=>Ae rfl rfl) (Af 11 Y1 ?_)))<;>try refine AF rfl AS rfl rfl rfl rfl rfl (fun ba hba=>?_);try refine Af 12 Y1 ?_<;>try refine Au rfl rfl rfl rfl B3 Y3 Y15 rfl rfl rfl ?_;try refine Zt 13 rfl (fun _=>Aq rfl) (Ar N1 Y1 ?_)|show WI _ _ _ _ _ _ 11 _ _ _ _;try refine AF rfl AS rfl rfl rfl rfl rfl (fun ba hba=>?_);try refine Af 7 Y1 ?_<;>try refine Ao rfl (Br hlk rfl rfl rfl Y0) rfl rfl rfl ?_;try refine Zt 8 rfl (fun _=>Ai rfl) (Zt 9 rfl (fun _=>Ae rfl rfl) (Zt 10 rfl (fun _=>Ae rfl rfl) (Af 12 Y1 ?_)))<;>try refine Au rfl rfl rfl rfl B3 Y3 Y15 rfl rfl rfl ?_;try refine Zt 13 rfl (fun _=>Aq rfl) (Ar N1 Y1 ?_))|show WI _ _ _ _ _ _ 11 _ _ _ _;try refine AF rfl AS rfl rfl rfl rfl rfl (fun ba hba=>?_);try refine Af 6 Y1 ?_<;>try refine Ao rfl (Ac U5 rfl rfl Y0 Y4) rfl rfl rfl ?_;try refine Af 7 Y1 ?_<;>try refine Ao rfl (Br hlk rfl rfl rfl Y0) rfl rfl rfl ?_;try refine Zt 8 rfl (fun _=>Ai rfl) (Zt 9 rfl (fun _=>Ae rfl rfl) (Zt 10 rfl (fun _=>Ae rfl rfl) (Af 12 Y1 ?_)))<;>try refine Au rfl rfl rfl rfl B3 Y3 Y15 rfl rfl rfl ?_;try refine Zt 13 rfl (fun _=>Aq rfl) (Ar N1 Y1 ?_))|show WI _ _ _ _ _ _ 11 _ _ _ _;try refine AF rfl AS rfl rfl rfl rfl rfl (fun ba hba=>?_);try refine Af 4 Y1 ?_<;>try refine Ao rfl (Ah rfl) rfl rfl rfl (Zt 5 rfl (fun _=>Ad Cc rfl) (Af 6 Y1 ?_))<;>try refine Ao rfl (Ac U5 rfl rfl Y0 Y4) rfl rfl rfl ?_;try refine Af 7 Y1 ?_<;>try refine Ao rfl (Br hlk rfl rfl rfl Y0) rfl rfl rfl ?_;try refine Zt 8 rfl (fun _=>Ai rfl) (Zt 9 rfl (fun _=>Ae rfl rfl) (Zt 10 rfl (fun _=>Ae rfl rfl) (Af 12 Y1 ?_)))<;>try refine Au rfl rfl rfl rfl B3 Y3 Y15 rfl rfl rfl ?_;try refine Zt 13 rfl (fun _=>Aq rfl) (Ar N1 Y1 ?_))|show WI _ _ _ _ _ _ 11 _ _ _ _;try refine AF rfl AS rfl rfl rfl rfl rfl (fun ba hba=>?_);try refine Af 3 Y1 ?_<;>try refine Ao rfl (Ac U159 rfl rfl Y0 Y4) rfl rfl rfl ?_;try refine Af 4 Y1 ?_<;>try refine Ao rfl (Ah rfl) rfl rfl rfl (Zt 5 rfl (fun _=>Ad Cc rfl) (Af 6 Y1 ?_))<;>try refine Ao rfl (Ac U5 rfl rfl Y0 Y4) rfl rfl rfl ?_;try refine Af 7 Y1 ?_<;>try refine Ao rfl (Br hlk rfl rfl rfl Y0) rfl rfl rfl ?_;try refine Zt 8 rfl (fun _=>Ai rfl) (Zt 9 rfl (fun _=>Ae rfl rfl) (Zt 10 rfl (fun _=>Ae rfl rfl) (Af 12 Y1 ?_)))<;>try refine Au rfl rfl rfl rfl B3 Y3 Y15 rfl rfl rfl ?_;try refine Zt 13 rfl (fun _=>Aq rfl) (Ar N1 Y1 ?_))|show WI _ _ _ _ _ _ 3 _ _ _ _;try refine Ao rfl (Ac U159 rfl rfl Y0 Y4) rfl rfl rfl ?_;try refine Cg 1 4 11 Y1 ?_ ?_ ?_<;>(first|show WI _ _ _ _ _ _ 1 _ _ _ _;try refine Ao rfl (Ac U114 rfl rfl Y0 Y4) rfl rfl rfl ?_;try refine AC 4 11 Y1 ?_ ?_<;>(first|show WI _ _ _ _ _ _ 4 _ _ _ _;try refine Ao rfl (Ah rfl) rfl rfl rfl (Zt 5 rfl (fun _=>Ad Cc rfl) ?_);try refine AC 6 11 Y1 ?_ ?_<;>(first|show WI _ _ _ _ _ _ 6 _ _ _ _;try refine Ao rfl (Ac U5 rfl rfl Y0 Y4) rfl rfl rfl ?_;try refine AC 7 11 Y1 ?_ ?_<;>(first|show WI _ _ _ _ _ _ 7 _ _ _ _;try refine Ao rfl (Br hlk rfl rfl rfl Y0) rfl rfl rfl ?_;try refine Zt 8 rfl (fun _=>Ai rfl) (Zt 9 rfl (fun _=>Ae rfl rfl) (Zt 10 rfl (fun _=>Ae rfl rfl) (Af 11 Y1 ?_)))<;>try refine AF rfl AS rfl rfl rfl rfl rfl (fun ba hba=>?_);try refine Af 12 Y1 ?_<;>try refine Au rfl rfl rfl rfl B3 Y3 Y15 rfl rfl rfl ?_;try refine Zt 13 rfl (fun _=>Aq rfl) (Ar N1 Y1 ?_)|show WI _ _ _ _ _ _ 11 _ _ _ _;try refine AF rfl AS rfl rfl rfl rfl rfl (fun ba hba=>?_);try refine Af 7 Y1 ?_<;>try refine Ao rfl (Br hlk rfl rfl rfl Y0) rfl rfl rfl ?_;try refine Zt 8 rfl (fun _=>Ai rfl) (Zt 9 rfl (fun _=>Ae rfl rfl) (Zt 10 rfl (fun _=>Ae rfl rfl) (Af 12 Y1 ?_)))<;>try refine Au rfl rfl rfl rfl B3 Y3 Y15 rfl rfl rfl ?_;try refine Zt 13 rfl (fun _=>Aq rfl) (Ar N1 Y1 ?_))|show WI _ _ _ _ _ _ 11 _ _ _ _;try refine AF rfl AS rfl rfl rfl rfl rfl (fun ba hba=>?_);try refine Af 6 Y1 ?_<;>try refine Ao rfl (Ac U5 rfl rfl Y0 Y4) rfl rfl rfl ?_;try refine Af 7 Y1 ?_<;>try refine Ao rfl (Br hlk rfl rfl rfl Y0) rfl rfl rfl ?_;try refine Zt 8 rfl (fun _=>Ai rfl) (Zt 9 rfl (fun _=>Ae rfl rfl) (Zt 10 rfl (fun _=>Ae rfl rfl) (Af 12 Y1 ?_)))<;>try refine Au rfl rfl rfl rfl B3 Y3 Y15 rfl rfl rfl ?_;try refine Zt 13 rfl (fun _=>Aq rfl) (Ar N1 Y1 ?_))|show WI _ _ _ _ _ _ 11 _ _ _ _;try refine AF rfl AS rfl rfl rfl rfl rfl (fun ba hba=>?_);try refine Af 4 Y1 ?_<;>try refine Ao rfl (Ah rfl) rfl rfl rfl (Zt 5 rfl (fun _=>Ad Cc rfl) (Af 6 Y1 ?_))<;>try refine Ao rfl (Ac U5 rfl rfl Y0 Y4) rfl rfl rfl ?_;try refine Af 7 Y1 ?_<;>try refine Ao rfl (Br hlk rfl rfl rfl Y0) rfl rfl rfl ?_;try refine Zt 8 rfl (fun _=>Ai rfl) (Zt 9 rfl (fun _=>Ae rfl rfl) (Zt 10 rfl (fun _=>Ae rfl rfl) (Af 12 Y1 ?_)))<;>try refine Au rfl rfl rfl rfl B3 Y3 Y15 rfl rfl rfl ?_;try refine Zt 13 rfl (fun _=>Aq rfl) (Ar N1 Y1 ?_))|show WI _ _ _ _ _ _ 4 _ _ _ _;try refine Ao rfl (Ah rfl) rfl rfl rfl (Zt 5 rfl (fun _=>Ad Cc rfl) ?_);try refine Cg 1 6 11 Y1 ?_ ?_ ?_<;>(first|show WI _ _ _ _ _ _ 1 _ _ _ _;try refine Ao rfl (Ac U114 rfl rfl Y0 Y4) rfl rfl rfl ?_;try refine AC 6 11 Y1 ?_ ?_<;>(first|show WI _ _ _ _ _ _ 6 _ _ _ _;try refine Ao rfl (Ac U5 rfl rfl Y0 Y4) rfl rfl rfl ?_;try refine AC 7 11 Y1 ?_ ?_<;>(first|show WI _ _ _ _ _ _ 7 _ _ _ _;try refine Ao rfl (Br hlk rfl rfl rfl Y0) rfl rfl rfl ?_;try refine Zt 8 rfl (fun _=>Ai rfl) (Zt 9 rfl (fun _=>Ae rfl rfl) (Zt 10 rfl (fun _=>Ae rfl rfl) (Af 11 Y1 ?_)))<;>try refine AF rfl AS rfl rfl rfl rfl rfl (fun ba hba=>?_);try refine Af 12 Y1 ?_<;>try refine Au rfl rfl rfl rfl B3 Y3 Y15 rfl rfl rfl ?_;try refine Zt 13 rfl (fun _=>Aq rfl) (Ar N1 Y1 ?_)|show WI _ _ _ _ _ _ 11 _ _ _ _;try refine AF rfl AS rfl rfl rfl rfl rfl (fun ba hba=>?_);try refine Af 7 Y1 ?_<;>try refine Ao rfl (Br hlk rfl rfl rfl Y0) rfl rfl rfl ?_;try refine Zt 8 rfl (fun _=>Ai rfl) (Zt 9 rfl (fun _=>Ae rfl rfl) (Zt 10 rfl (fun _=>Ae rfl rfl) (Af 12 Y1 ?_)))<;>try refine Au rfl rfl rfl rfl B3 Y3 Y15 rfl rfl rfl ?_;try refine Zt 13 rfl (fun _=>Aq rfl) (Ar N1 Y1 ?_))|show WI _ _ _ _ _ _ 11 _ _ _ _;try refine AF rfl AS rfl rfl rfl rfl rfl (fun ba hba=>?_);try refine Af 6 Y1 ?_<;>try refine Ao rfl (Ac U5 rfl rfl Y0 Y4) rfl rfl rfl ?_;try refine Af 7 Y1 ?_<;>try refine Ao rfl (Br hlk rfl rfl rfl Y0) rfl rfl rfl ?_;try refine Zt 8 rfl (fun _=>Ai rfl) (Zt 9 rfl (fun _=>Ae rfl rfl) (Zt 10 rfl (fun _=>Ae rfl rfl) (Af 12 Y1 ?_)))<;>try refine Au rfl rfl rfl rfl B3 Y3 Y15 rfl rfl rfl ?_;try refine Zt 13 rfl (fun _=>Aq rfl) (Ar N1 Y1 ?_))|show WI _ _ _ _ _ _ 6 _ _ _ _;try refine Ao rfl (Ac U5 rfl rfl Y0 Y4) rfl rfl rfl ?_;try refine AC 1 11 Y1 ?_ ?_<;>(first|show WI _ _ _ _ _ _ 1 _ _ _ _;try refine Ao rfl (Ac U114 rfl rfl Y0 Y4) rfl rfl rfl ?_;try refine AC 7 11 Y1 ?_ ?_<;>(first|show WI _ _ _ _ _ _ 7 _ _ _ _;try refine Ao rfl (Br hlk rfl rfl rfl Y0) rfl rfl rfl ?_;try refine Zt 8 rfl (fun _=>Ai rfl) (Zt 9 rfl (fun _=>Ae rfl rfl) (Zt 10 rfl (fun _=>Ae rfl rfl) (Af 11 Y1 ?_)))<;>try refine AF rfl AS rfl rfl rfl rfl rfl (fun ba hba=>?_);try refine Af 12 Y1 ?_<;>try refine Au rfl rfl rfl rfl B3 Y3 Y15 rfl rfl rfl ?_;try refine Zt 13 rfl (fun _=>Aq rfl) (Ar N1 Y1 ?_)|show WI _ _ _ _ _ _ 11 _ _ _ _;try refine AF rfl AS rfl rfl rfl rfl rfl (fun ba hba=>?_);try refine Af 7 Y1 ?_<;>try refine Ao rfl (Br hlk rfl rfl rfl Y0) rfl rfl rfl ?_;try refine Zt 8 rfl (fun _=>Ai rfl) (Zt 9 rfl (fun _=>Ae rfl rfl) (Zt 10 rfl (fun _=>Ae rfl rfl) (Af 12 Y1 ?_)))<;>try refine Au rfl rfl rfl rfl B3 Y3 Y15 rfl rfl rfl ?_;try refine Zt 13 rfl (fun _=>Aq rfl) (Ar N1 Y1 ?_))|show WI _ _ _ _ _ _ 11 _ _ _ _;try refine AF rfl AS rfl rfl rfl rfl rfl (fun ba hba=>?_);try refine Af 1 Y1 ?_<;>try refine Ao rfl (Ac U114 rfl rfl Y0 Y4) rfl rfl rfl ?_;try refine Af 7 Y1 ?_<;>try refine Ao rfl (Br hlk rfl rfl rfl Y0) rfl rfl rfl ?_;try refine Zt 8 rfl (fun _=>Ai rfl) (Zt 9 rfl (fun _=>Ae rfl rfl) (Zt 10 rfl (fun _=>Ae rfl rfl) (Af 12 Y1 ?_)))<;>try refine Au rfl rfl rfl rfl B3 Y3 Y15 rfl rfl rfl ?_;try refine Zt 13 rfl (fun _=>Aq rfl) (Ar N1 Y1 ?_))|show WI _ _ _ _ _ _ 11 _ _ _ _;try refine AF rfl AS rfl rfl rfl rfl rfl (fun ba hba=>?_);try refine AC 1 6 Y1 ?_ ?_<;>(first|show WI _ _ _ _ _ _ 1 _ _ _ _;try refine Ao rfl (Ac U114 rfl rfl Y0 Y4) rfl rfl rfl ?_;try refine Af 6 Y1 ?_<;>try refine Ao rfl (Ac U5 rfl rfl Y0 Y4) rfl rfl rfl ?_;try refine Af 7 Y1 ?_<;>try refine Ao rfl (Br hlk rfl rfl rfl Y0) rfl rfl rfl ?_;try refine Zt 8 rfl (fun _=>Ai rfl) (Zt 9 rfl (fun _=>Ae rfl rfl) (Zt 10 rfl (fun _=>Ae rfl rfl) (Af 12 Y1 ?_)))<;>try refine Au rfl rfl rfl rfl B3 Y3 Y15 rfl rfl rfl ?_;try refine Zt 13 rfl (fun _=>Aq rfl) (Ar N1 Y1 ?_)|show WI _ _ _ _ _ _ 6 _ _ _ _;try refine Ao rfl (Ac U5 rfl rfl Y0 Y4) rfl rfl rfl ?_;try refine Af 1 Y1 ?_<;>try refine Ao rfl (Ac U114 rfl rfl Y0 Y4) rfl rfl rfl ?_;try refine Af 7 Y1 ?_<;>try refine Ao rfl (Br hlk rfl rfl rfl Y0) rfl rfl rfl ?_;try refine Zt 8 rfl (fun _=>Ai rfl) (Zt 9 rfl (fun _=>Ae rfl rfl) (Zt 10 rfl (fun _=>Ae rfl rfl) (Af 12 Y1 ?_)))<;>try refine Au rfl rfl rfl rfl B3 Y3 Y15 rfl rfl rfl ?_;try refine Zt 13 rfl (fun _=>Aq rfl) (Ar N1 Y1 ?_)))|show WI _ _ _ _ _ _ 11 _ _ _ _;try refine AF rfl AS rfl rfl rfl rfl rfl (fun ba hba=>?_);try refine AC 1 4 Y1 ?_ ?_<;>(first|show WI _ _ _ _ _ _ 1 _ _ _ _;try refine Ao rfl (Ac U114 rfl rfl Y0 Y4) rfl rfl rfl ?_;try refine Af 4 Y1 ?_<;>try refine Ao rfl (Ah rfl) rfl rfl rfl (Zt 5 rfl (fun _=>Ad Cc rfl) (Af 6 Y1 ?_))<;>try refine Ao rfl (Ac U5 rfl rfl Y0 Y4) rfl rfl rfl ?_;try refine Af 7 Y1 ?_<;>try refine Ao rfl (Br hlk rfl rfl rfl Y0) rfl rfl rfl ?_;try refine Zt 8 rfl (fun _=>Ai rfl) (Zt 9 rfl (fun _=>Ae rfl rfl) (Zt 10 rfl (fun _=>Ae rfl rfl) (Af 12 Y1 ?_)))<;>try refine Au rfl rfl rfl rfl B3 Y3 Y15 rfl rfl rfl ?_;try refine Zt 13 rfl (fun _=>Aq rfl) (Ar N1 Y1 ?_)|show WI _ _ _ _ _ _ 4 _ _ _ _;try refine Ao rfl (Ah rfl) rfl rfl rfl (Zt 5 rfl (fun _=>Ad Cc rfl) ?_);try refine AC 1 6 Y1 ?_ ?_<;>(first|show WI _ _ _ _ _ _ 1 _ _ _ _;try refine Ao rfl (Ac U114 rfl rfl Y0 Y4) rfl rfl rfl ?_;try refine Af 6 Y1 ?_<;>try refine Ao rfl (Ac U5 rfl rfl Y0 Y4) rfl rfl rfl ?_;try refine Af 7 Y1 ?_<;>try refine Ao rfl (Br hlk rfl rfl rfl Y0) rfl rfl rfl ?_;try refine Zt 8 rfl (fun _=>Ai rfl) (Zt 9 rfl (fun _=>Ae rfl rfl) (Zt 10 rfl (fun _=>Ae rfl rfl) (Af 12 Y1 ?_)))<;>try refine Au rfl rfl rfl rfl B3 Y3 Y15 rfl rfl rfl ?_;try refine Zt 13 rfl (fun _=>Aq rfl) (Ar N1 Y1 ?_)|show WI _ _ _ _ _ _ 6 _ _ _ _;try refine Ao rfl (Ac U5 rfl rfl Y0 Y4) rfl rfl rfl ?_;try refine Af 1 Y1 ?_<;>try refine Ao rfl (Ac U114 rfl rfl Y0 Y4) rfl rfl rfl ?_;try refine Af 7 Y1 ?_<;>try refine Ao rfl (Br hlk rfl rfl rfl Y0) rfl rfl rfl ?_;try refine Zt 8 rfl (fun _=>Ai rfl) (Zt 9 rfl (fun _=>Ae rfl rfl) (Zt 10 rfl (fun _=>Ae rfl rfl) (Af 12 Y1 ?_)))<;>try refine Au rfl rfl rfl rfl B3 Y3 Y15 rfl rfl rfl ?_;try refine Zt 13 rfl (fun _=>Aq rfl) (Ar N1 Y1 ?_))))|show WI _ _ _ _ _ _ 11 _ _ _ _;try refine AF rfl AS rfl rfl rfl rfl rfl (fun ba hba=>?_);try refine AC 1 3 Y1 ?_ ?_<;>(first|show WI _ _ _ _ _ _ 1 _ _ _ _;try refine Ao rfl (Ac U114 rfl rfl Y0 Y4) rfl rfl rfl ?_;try refine Af 3 Y1 ?_<;>try refine Ao rfl (Ac U159 rfl rfl Y0 Y4) rfl rfl rfl ?_;try refine Af 4 Y1 ?_<;>try refine Ao rfl (Ah rfl) rfl rfl rfl (Zt 5 rfl (fun _=>Ad Cc rfl) (Af 6 Y1 ?_))<;>try refine Ao rfl (Ac U5 rfl rfl Y0 Y4) rfl rfl rfl ?_;try refine Af 7 Y1 ?_<;>try refine Ao rfl (Br hlk rfl rfl rfl Y0) rfl rfl rfl ?_;try refine Zt 8 rfl (fun _=>Ai rfl) (Zt 9 rfl (fun _=>Ae rfl rfl) (Zt 10 rfl (fun _=>Ae rfl rfl) (Af 12 Y1 ?_)))<;>try refine Au rfl rfl rfl rfl B3 Y3 Y15 rfl rfl rfl ?_;try refine Zt 13 rfl (fun _=>Aq rfl) (Ar N1 Y1 ?_)|show WI _ _ _ _ _ _ 3 _ _ _ _;try refine Ao rfl (Ac U159 rfl rfl Y0 Y4) rfl rfl rfl ?_;try refine AC 1 4 Y1 ?_ ?_<;>(first|show WI _ _ _ _ _ _ 1 _ _ _ _;try refine Ao rfl (Ac U114 rfl rfl Y0 Y4) rfl rfl rfl ?_;try refine Af 4 Y1 ?_<;>try refine Ao rfl (Ah rfl) rfl rfl rfl (Zt 5 rfl (fun _=>Ad Cc rfl) (Af 6 Y1 ?_))<;>try refine Ao rfl (Ac U5 rfl rfl Y0 Y4) rfl rfl rfl ?_;try refine Af 7 Y1 ?_<;>try refine Ao rfl (Br hlk rfl rfl rfl Y0) rfl rfl rfl ?_;try refine Zt 8 rfl (fun _=>Ai rfl) (Zt 9 rfl (fun _=>Ae rfl rfl) (Zt 10 rfl (fun _=>Ae rfl rfl) (Af 12 Y1 ?_)))<;>try refine Au rfl rfl rfl rfl B3 Y3 Y15 rfl rfl rfl ?_;try refine Zt 13 rfl (fun _=>Aq rfl) (Ar N1 Y1 ?_)|show WI _ _ _ _ _ _ 4 _ _ _ _;try refine Ao rfl (Ah rfl) rfl rfl rfl (Zt 5 rfl (fun _=>Ad Cc rfl) ?_);try refine AC 1 6 Y1 ?_ ?_<;>(first|show WI _ _ _ _ _ _ 1 _ _ _ _;try refine Ao rfl (Ac U114 rfl rfl Y0 Y4) rfl rfl rfl ?_;try refine Af 6 Y1 ?_<;>try refine Ao rfl (Ac U5 rfl rfl Y0 Y4) rfl rfl rfl ?_;try refine Af 7 Y1 ?_<;>try refine Ao rfl (Br hlk rfl rfl rfl Y0) rfl rfl rfl ?_;try refine Zt 8 rfl (fun _=>Ai rfl) (Zt 9 rfl (fun _=>Ae rfl rfl) (Zt 10 rfl (fun _=>Ae rfl rfl) (Af 12 Y1 ?_)))<;>try refine Au rfl rfl rfl rfl B3 Y3 Y15 rfl rfl rfl ?_;try refine Zt 13 rfl (fun _=>Aq rfl) (Ar N1 Y1 ?_)|show WI _ _ _ _ _ _ 6 _ _ _ _;try refine Ao rfl (Ac U5 rfl rfl Y0 Y4) rfl rfl rfl ?_;try refine Af 1 Y1 ?_<;>try refine Ao rfl (Ac U114 rfl rfl Y0 Y4) rfl rfl rfl ?_;try refine Af 7 Y1 ?_<;>try refine Ao rfl (Br hlk rfl rfl rfl Y0) rfl rfl rfl ?_;try refine Zt 8 rfl (fun _=>Ai rfl) (Zt 9 rfl (fun _=>Ae rfl rfl) (Zt 10 rfl (fun _=>Ae rfl rfl) (Af 12 Y1 ?_)))<;>try refine Au rfl rfl rfl rfl B3 Y3 Y15 rfl rfl rfl ?_;try refine Zt 13 rfl (fun _=>Aq rfl) (Ar N1 Y1 ?_)))))|refine Ab 6 ?_;try refine Zm rfl ?_;try((refine AU (Take.nil _) (CallR.val rfl en79) rfl rfl (Cb false) (fun e=>AR Tryz.func97 hr Y5) ?_;rintro u e v post ⟨rfl,rfl⟩;cases e)<;>try refine Aa N1 ?_))
 | some ls=>
 obtain⟨hl,hnd⟩:=formI_ok hfo
 obtain⟨q0,hlk⟩:=part_find hfo
 have hr:codeIns cd.κ x s=runs (ltI cd.κ) ls {x with op:=op'} s1:=by simp only[codeIns,hsm0,Out.bind,hfo]
 have hrok:=row_ok (f:=fnI) (ls:=ls) (n:=3)
 have hrsz:=row_size (f:=fnI) hl
 have hrat:=fun i (h:i < ls.length)=>row_at3 (f:=fnI) hl h
 have hrnil:=fun i (h:ls.length≤i) (hn:i < 3)=>row_nil (f:=fnI) h hn
 unfold rowOf at hlk
 generalize ((ls.map (fun l=>Value.func (.func (fnI l)) #[] #[])++List.replicate (3 - ls.length) Value.nilFunc).toArray)=cs at *
 rw[hr] at hf
 refine Ak Tryz.func97 rfl rfl (hi) ?_
 repeat' (first|refine Ag rfl ?_|refine Aj rfl ?_|refine Al ?_|refine An ?_|refine A5 rfl ?_|refine A6 ?_|refine Ab 0 ?_;try refine AL rfl rfl rfl rfl (fun bt hbt=>?_);try refine Aa N1 ?_|refine Bg (id:=1) 4 rfl mixed Y1 ?_;try refine A4 (Ad Co rfl) rfl rfl ?_;try((refine A4 (B5 (cs:= #[.iface cd.it cd.iv]) U113 rfl BB rfl Y0 rfl Y31 (fun j hj=>by(obtain rfl:j=0:=(by(have:j < 1:=hj);omega));rfl)) rfl rfl ?_)<;>try refine A4 (Ai rfl) rfl rfl (A4 (ov_kindQ (CallR.inv rfl rfl metI en189) kindI_c) rfl rfl (Bf ?_));try((refine CJ cd (o:=A.length) (gv:=fun n=>.int .u8 n) Y7 Y6 (CallR.val rfl en90) rfl rfl (small_c cd (by repeat(first|exact hE|apply cd.envC|apply cd.envA)) hs hop0 hop1 g0 (by rw[hsm0];simp)) (fun e=>by rw[hsm0] at e;cases e) (fun n' s' e1 L' hs'=>?_);rw[hsm0] at e1;cases e1;rw[st0])<;>try refine Aa N1 ?_))|refine Ab 2 ?_;try refine Zm rfl (Aa N1 ?_)|refine Ab 3 ?_;try refine Zv (ov_assertT U162 rfl rfl) (Zv (Ae rfl rfl) (Zv (Ae rfl rfl) (Aa N1 ?_)))|refine Ab 4 ?_;try refine A8 inf162 rfl rfl rfl rfl (fun bi hbi=>?_);try refine AI rfl rfl rfl sz162 Y3 Y15 rfl rfl ?_;try refine Aa N1 ?_)
 refine w_cutK (β:=Nat) (fun q=>[(2,pv bt 0),(4,pv bi 0),(5,pv q 0),(6,.bool true)]) (fun q=>⟨q,true,.cells cs 174 (0,0)⟩::⟨bi,true,.cells #[pv b A.length] 162 (0,0)⟩::(L'++(⟨b,true,.cells (A++(insC {x with op:=op'} av++B)).toArray el (0,0)⟩::⟨bt,true,.cells (tabV cd mp mq).cells 117 (0,0)⟩::F))) ?_ ?_
 rotate_left
 · intro cut
   repeat' (first|refine Ag rfl ?_|refine Aj rfl ?_|refine Al ?_|refine Cy (m:=14) 5 rfl mixed rfl ?_;try refine Zt 0 rfl (fun _=>Ad fo117_1 rfl) (Zt 2 rfl (fun _=>Ad fo162_0 rfl) ?_);try refine Cg 1 3 11 Y1 ?_ ?_ ?_<;>(first|show WI _ _ _ _ _ _ 1 _ _ _ _;try refine Ao rfl (Ac U114 rfl rfl Y0 Y4) rfl rfl rfl ?_;try refine AC 3 11 Y1 ?_ ?_<;>(first|show WI _ _ _ _ _ _ 3 _ _ _ _;try refine Ao rfl (Ac U159 rfl rfl Y0 Y4) rfl rfl rfl ?_;try refine AC 4 11 Y1 ?_ ?_<;>(first|show WI _ _ _ _ _ _ 4 _ _ _ _;try refine Ao rfl (Ah rfl) rfl rfl rfl (Zt 5 rfl (fun _=>Ad Cc rfl) ?_);try refine AC 6 11 Y1 ?_ ?_<;>(first|show WI _ _ _ _ _ _ 6 _ _ _ _;try refine Ao rfl (Ac U5 rfl rfl Y0 Y4) rfl rfl rfl ?_;try refine AC 7 11 Y1 ?_ ?_<;>(first|show WI _ _ _ _ _ _ 7 _ _ _ _;try refine Ao rfl (AP hlk U114 U5 AS rfl rfl rfl Y0) rfl rfl rfl ?_;try refine Zt 8 rfl (fun _=>Ai rfl) (Zt 9 rfl (fun _=>Ae rfl rfl) (Zt 10 rfl (fun _=>Ae rfl rfl) (Af 11 Y1 ?_)))<;>try refine AF rfl AS rfl rfl rfl rfl rfl (fun ba hba=>?_);try refine Af 12 Y1 ?_<;>try((refine Au rfl rfl rfl hrok (by rw[hrsz];exact B3) Y3 (by rw[hrsz];rfl) rfl rfl rfl ?_)<;>try refine Zt 13 rfl (fun _=>Aq rfl) (Ar N1 Y1 ?_))|show WI _ _ _ _ _ _ 11 _ _ _ _;try refine AF rfl AS rfl rfl rfl rfl rfl (fun ba hba=>?_);try refine Af 7 Y1 ?_<;>try refine Ao rfl (AP hlk U114 U5 AS rfl rfl rfl Y0) rfl rfl rfl ?_;try refine Zt 8 rfl (fun _=>Ai rfl) (Zt 9 rfl (fun _=>Ae rfl rfl) (Zt 10 rfl (fun _=>Ae rfl rfl) (Af 12 Y1 ?_)))<;>try((refine Au rfl rfl rfl hrok (by rw[hrsz];exact B3) Y3 (by rw[hrsz];rfl) rfl rfl rfl ?_)<;>try refine Zt 13 rfl (fun _=>Aq rfl) (Ar N1 Y1 ?_)))|show WI _ _ _ _ _ _ 11 _ _ _ _;try refine AF rfl AS rfl rfl rfl rfl rfl (fun ba hba=>?_);try refine Af 6 Y1 ?_<;>try refine Ao rfl (Ac U5 rfl rfl Y0 Y4) rfl rfl rfl ?_;try refine Af 7 Y1 ?_<;>try refine Ao rfl (AP hlk U114 U5 AS rfl rfl rfl Y0) rfl rfl rfl ?_;try refine Zt 8 rfl (fun _=>Ai rfl) (Zt 9 rfl (fun _=>Ae rfl rfl) (Zt 10 rfl (fun _=>Ae rfl rfl) (Af 12 Y1 ?_)))<;>try((refine Au rfl rfl rfl hrok (by rw[hrsz];exact B3) Y3 (by rw[hrsz];rfl) rfl rfl rfl ?_)<;>try refine Zt 13 rfl (fun _=>Aq rfl) (Ar N1 Y1 ?_)))|show WI _ _ _ _ _ _ 11 _ _ _ _;try refine AF rfl AS rfl rfl rfl rfl rfl (fun ba hba=>?_);try refine Af 4 Y1 ?_<;>try refine Ao rfl (Ah rfl) rfl rfl rfl (Zt 5 rfl (fun _=>Ad Cc rfl) (Af 6 Y1 ?_))<;>try refine Ao rfl (Ac U5 rfl rfl Y0 Y4) rfl rfl rfl ?_;try refine Af 7 Y1 ?_<;>try refine Ao rfl (AP hlk U114 U5 AS rfl rfl rfl Y0) rfl rfl rfl ?_;try refine Zt 8 rfl (fun _=>Ai rfl) (Zt 9 rfl (fun _=>Ae rfl rfl) (Zt 10 rfl (fun _=>Ae rfl rfl) (Af 12 Y1 ?_)))<;>try((refine Au rfl rfl rfl hrok (by rw[hrsz];exact B3) Y3 (by rw[hrsz];rfl) rfl rfl rfl ?_)<;>try refine Zt 13 rfl (fun _=>Aq rfl) (Ar N1 Y1 ?_)))|show WI _ _ _ _ _ _ 11 _ _ _ _;try refine AF rfl AS rfl rfl rfl rfl rfl (fun ba hba=>?_);try refine Af 3 Y1 ?_<;>try refine Ao rfl (Ac U159 rfl rfl Y0 Y4) rfl rfl rfl ?_;try refine Af 4 Y1 ?_<;>try refine Ao rfl (Ah rfl) rfl rfl rfl (Zt 5 rfl (fun _=>Ad Cc rfl) (Af 6 Y1 ?_))<;>try refine Ao rfl (Ac U5 rfl rfl Y0 Y4) rfl rfl rfl ?_;try refine Af 7 Y1 ?_<;>try refine Ao rfl (AP hlk U114 U5 AS rfl rfl rfl Y0) rfl rfl rfl ?_;try refine Zt 8 rfl (fun _=>Ai rfl) (Zt 9 rfl (fun _=>Ae rfl rfl) (Zt 10 rfl (fun _=>Ae rfl rfl) (Af 12 Y1 ?_)))<;>try((refine Au rfl rfl rfl hrok (by rw[hrsz];exact B3) Y3 (by rw[hrsz];rfl) rfl rfl rfl ?_)<;>try refine Zt 13 rfl (fun _=>Aq rfl) (Ar N1 Y1 ?_)))|show WI _ _ _ _ _ _ 3 _ _ _ _;try refine Ao rfl (Ac U159 rfl rfl Y0 Y4) rfl rfl rfl ?_;try refine Cg 1 4 11 Y1 ?_ ?_ ?_<;>(first|show WI _ _ _ _ _ _ 1 _ _ _ _;try refine Ao rfl (Ac U114 rfl rfl Y0 Y4) rfl rfl rfl ?_;try refine AC 4 11 Y1 ?_ ?_<;>(first|show WI _ _ _ _ _ _ 4 _ _ _ _;try refine Ao rfl (Ah rfl) rfl rfl rfl (Zt 5 rfl (fun _=>Ad Cc rfl) ?_);try refine AC 6 11 Y1 ?_ ?_<;>(first|show WI _ _ _ _ _ _ 6 _ _ _ _;try refine Ao rfl (Ac U5 rfl rfl Y0 Y4) rfl rfl rfl ?_;try refine AC 7 11 Y1 ?_ ?_<;>(first|show WI _ _ _ _ _ _ 7 _ _ _ _;try refine Ao rfl (AP hlk U114 U5 AS rfl rfl rfl Y0) rfl rfl rfl ?_;try refine Zt 8 rfl (fun _=>Ai rfl) (Zt 9 rfl (fun _=>Ae rfl rfl) (Zt 10 rfl (fun _=>Ae rfl rfl) (Af 11 Y1 ?_)))<;>try refine AF rfl AS rfl rfl rfl rfl rfl (fun ba hba=>?_);try refine Af 12 Y1 ?_<;>try((refine Au rfl rfl rfl hrok (by rw[hrsz];exact B3) Y3 (by rw[hrsz];rfl) rfl rfl rfl ?_)<;>try refine Zt 13 rfl (fun _=>Aq rfl) (Ar N1 Y1 ?_))|show WI _ _ _ _ _ _ 11 _ _ _ _;try refine AF rfl AS rfl rfl rfl rfl rfl (fun ba hba=>?_);try refine Af 7 Y1 ?_<;>try refine Ao rfl (AP hlk U114 U5 AS rfl rfl rfl Y0) rfl rfl rfl ?_;try refine Zt 8 rfl (fun _=>Ai rfl) (Zt 9 rfl (fun _=>Ae rfl rfl) (Zt 10 rfl (fun _=>Ae rfl rfl) (Af 12 Y1 ?_)))<;>try((refine Au rfl rfl rfl hrok (by rw[hrsz];exact B3) Y3 (by rw[hrsz];rfl) rfl rfl rfl ?_)<;>try refine Zt 13 rfl (fun _=>Aq rfl) (Ar N1 Y1 ?_)))|show WI _ _ _ _ _ _ 11 _ _ _ _;try refine AF rfl AS rfl rfl rfl rfl rfl (fun ba hba=>?_);try refine Af 6 Y1 ?_<;>try refine Ao rfl (Ac U5 rfl rfl Y0 Y4) rfl rfl rfl ?_;try refine Af 7 Y1 ?_<;>try refine Ao rfl (AP hlk U114 U5 AS rfl rfl rfl Y0) rfl rfl rfl ?_;try refine Zt 8 rfl (fun _=>Ai rfl) (Zt 9 rfl (fun _=>Ae rfl rfl) (Zt 10 rfl (fun _=>Ae rfl rfl) (Af 12 Y1 ?_)))<;>try((refine Au rfl rfl rfl hrok (by rw[hrsz];exact B3) Y3 (by rw[hrsz];rfl) rfl rfl rfl ?_)<;>try refine Zt 13 rfl (fun _=>Aq rfl) (Ar N1 Y1 ?_)))|show WI _ _ _ _ _ _ 11 _ _ _ _;try refine AF rfl AS rfl rfl rfl rfl rfl (fun ba hba=>?_);try refine Af 4 Y1 ?_<;>try refine Ao rfl (Ah rfl) rfl rfl rfl (Zt 5 rfl (fun _=>Ad Cc rfl) (Af 6 Y1 ?_))<;>try refine Ao rfl (Ac U5 rfl rfl Y0 Y4) rfl rfl rfl ?_;try refine Af 7 Y1 ?_<;>try refine Ao rfl (AP hlk U114 U5 AS rfl rfl rfl Y0) rfl rfl rfl ?_;try refine Zt 8 rfl (fun _=>Ai rfl) (Zt 9 rfl (fun _=>Ae rfl rfl) (Zt 10 rfl (fun _=>Ae rfl rfl) (Af 12 Y1 ?_)))<;>try((refine Au rfl rfl rfl hrok (by rw[hrsz];exact B3) Y3 (by rw[hrsz];rfl) rfl rfl rfl ?_)<;>try refine Zt 13 rfl (fun _=>Aq rfl) (Ar N1 Y1 ?_)))|show WI _ _ _ _ _ _ 4 _ _ _ _;try refine Ao rfl (Ah rfl) rfl rfl rfl (Zt 5 rfl (fun _=>Ad Cc rfl) ?_);try refine Cg 1 6 11 Y1 ?_ ?_ ?_<;>(first|show WI _ _ _ _ _ _ 1 _ _ _ _;try refine Ao rfl (Ac U114 rfl rfl Y0 Y4) rfl rfl rfl ?_;try refine AC 6 11 Y1 ?_ ?_<;>(first|show WI _ _ _ _ _ _ 6 _ _ _ _;try refine Ao rfl (Ac U5 rfl rfl Y0 Y4) rfl rfl rfl ?_;try refine AC 7 11 Y1 ?_ ?_<;>(first|show WI _ _ _ _ _ _ 7 _ _ _ _;try refine Ao rfl (AP hlk U114 U5 AS rfl rfl rfl Y0) rfl rfl rfl ?_;try refine Zt 8 rfl (fun _=>Ai rfl) (Zt 9 rfl (fun _=>Ae rfl rfl) (Zt 10 rfl (fun _=>Ae rfl rfl) (Af 11 Y1 ?_)))<;>try refine AF rfl AS rfl rfl rfl rfl rfl (fun ba hba=>?_);try refine Af 12 Y1 ?_<;>try((refine Au rfl rfl rfl hrok (by rw[hrsz];exact B3) Y3 (by rw[hrsz];rfl) rfl rfl rfl ?_)<;>try refine Zt 13 rfl (fun _=>Aq rfl) (Ar N1 Y1 ?_))|show WI _ _ _ _ _ _ 11 _ _ _ _;try refine AF rfl AS rfl rfl rfl rfl rfl (fun ba hba=>?_);try refine Af 7 Y1 ?_<;>try refine Ao rfl (AP hlk U114 U5 AS rfl rfl rfl Y0) rfl rfl rfl ?_;try refine Zt 8 rfl (fun _=>Ai rfl) (Zt 9 rfl (fun _=>Ae rfl rfl) (Zt 10 rfl (fun _=>Ae rfl rfl) (Af 12 Y1 ?_)))<;>try((refine Au rfl rfl rfl hrok (by rw[hrsz];exact B3) Y3 (by rw[hrsz];rfl) rfl rfl rfl ?_)<;>try refine Zt 13 rfl (fun _=>Aq rfl) (Ar N1 Y1 ?_)))|show WI _ _ _ _ _ _ 11 _ _ _ _;try refine AF rfl AS rfl rfl rfl rfl rfl (fun ba hba=>?_);try refine Af 6 Y1 ?_<;>try refine Ao rfl (Ac U5 rfl rfl Y0 Y4) rfl rfl rfl ?_;try refine Af 7 Y1 ?_<;>try refine Ao rfl (AP hlk U114 U5 AS rfl rfl rfl Y0) rfl rfl rfl ?_;try refine Zt 8 rfl (fun _=>Ai rfl) (Zt 9 rfl (fun _=>Ae rfl rfl) (Zt 10 rfl (fun _=>Ae rfl rfl) (Af 12 Y1 ?_)))<;>try((refine Au rfl rfl rfl hrok (by rw[hrsz];exact B3) Y3 (by rw[hrsz];rfl) rfl rfl rfl ?_)<;>try refine Zt 13 rfl (fun _=>Aq rfl) (Ar N1 Y1 ?_)))|show WI _ _ _ _ _ _ 6 _ _ _ _;try refine Ao rfl (Ac U5 rfl rfl Y0 Y4) rfl rfl rfl ?_;try refine AC 1 11 Y1 ?_ ?_<;>(first|show WI _ _ _ _ _ _ 1 _ _ _ _;try refine Ao rfl (Ac U114 rfl rfl Y0 Y4) rfl rfl rfl ?_;try refine AC 7 11 Y1 ?_ ?_<;>(first|show WI _ _ _ _ _ _ 7 _ _ _ _;try refine Ao rfl (AP hlk U114 U5 AS rfl rfl rfl Y0) rfl rfl rfl ?_;try refine Zt 8 rfl (fun _=>Ai rfl) (Zt 9 rfl (fun _=>Ae rfl rfl) (Zt 10 rfl (fun _=>Ae rfl rfl) (Af 11 Y1 ?_)))<;>try refine AF rfl AS rfl rfl rfl rfl rfl (fun ba hba=>?_);try refine Af 12 Y1 ?_<;>try((refine Au rfl rfl rfl hrok (by rw[hrsz];exact B3) Y3 (by rw[hrsz];rfl) rfl rfl rfl ?_)<;>try refine Zt 13 rfl (fun _=>Aq rfl) (Ar N1 Y1 ?_))|show WI _ _ _ _ _ _ 11 _ _ _ _;try refine AF rfl AS rfl rfl rfl rfl rfl (fun ba hba=>?_);try refine Af 7 Y1 ?_<;>try refine Ao rfl (AP hlk U114 U5 AS rfl rfl rfl Y0) rfl rfl rfl ?_;try refine Zt 8 rfl (fun _=>Ai rfl) (Zt 9 rfl (fun _=>Ae rfl rfl) (Zt 10 rfl (fun _=>Ae rfl rfl) (Af 12 Y1 ?_)))<;>try((refine Au rfl rfl rfl hrok (by rw[hrsz];exact B3) Y3 (by rw[hrsz];rfl) rfl rfl rfl ?_)<;>try refine Zt 13 rfl (fun _=>Aq rfl) (Ar N1 Y1 ?_)))|show WI _ _ _ _ _ _ 11 _ _ _ _;try refine AF rfl AS rfl rfl rfl rfl rfl (fun ba hba=>?_);try refine Af 1 Y1 ?_<;>try refine Ao rfl (Ac U114 rfl rfl Y0 Y4) rfl rfl rfl ?_;try refine Af 7 Y1 ?_<;>try refine Ao rfl (AP hlk U114 U5 AS rfl rfl rfl Y0) rfl rfl rfl ?_;try refine Zt 8 rfl (fun _=>Ai rfl) (Zt 9 rfl (fun _=>Ae rfl rfl) (Zt 10 rfl (fun _=>Ae rfl rfl) (Af 12 Y1 ?_)))<;>try((refine Au rfl rfl rfl hrok (by rw[hrsz];exact B3) Y3 (by rw[hrsz];rfl) rfl rfl rfl ?_)<;>try refine Zt 13 rfl (fun _=>Aq rfl) (Ar N1 Y1 ?_)))|show WI _ _ _ _ _ _ 11 _ _ _ _;try refine AF rfl AS rfl rfl rfl rfl rfl (fun ba hba=>?_);try refine AC 1 6 Y1 ?_ ?_<;>(first|show WI _ _ _ _ _ _ 1 _ _ _ _;try refine Ao rfl (Ac U114 rfl rfl Y0 Y4) rfl rfl rfl ?_;try refine Af 6 Y1 ?_<;>try refine Ao rfl (Ac U5 rfl rfl Y0 Y4) rfl rfl rfl ?_;try refine Af 7 Y1 ?_<;>try refine Ao rfl (AP hlk U114 U5 AS rfl rfl rfl Y0) rfl rfl rfl ?_;try refine Zt 8 rfl (fun _=>Ai rfl) (Zt 9 rfl (fun _=>Ae rfl rfl) (Zt 10 rfl (fun _=>Ae rfl rfl) (Af 12 Y1 ?_)))<;>try((refine Au rfl rfl rfl hrok (by rw[hrsz];exact B3) Y3 (by rw[hrsz];rfl) rfl rfl rfl ?_)<;>try refine Zt 13 rfl (fun _=>Aq rfl) (Ar N1 Y1 ?_))|show WI _ _ _ _ _ _ 6 _ _ _ _;try refine Ao rfl (Ac U5 rfl rfl Y0 Y4) rfl rfl rfl ?_;try refine Af 1 Y1 ?_<;>try refine Ao rfl (Ac U114 rfl rfl Y0 Y4) rfl rfl rfl ?_;try refine Af 7 Y1 ?_<;>try refine Ao rfl (AP hlk U114 U5 AS rfl rfl rfl Y0) rfl rfl rfl ?_;try refine Zt 8 rfl (fun _=>Ai rfl) (Zt 9 rfl (fun _=>Ae rfl rfl) (Zt 10 rfl (fun _=>Ae rfl rfl) (Af 12 Y1 ?_)))<;>try((refine Au rfl rfl rfl hrok (by rw[hrsz];exact B3) Y3 (by rw[hrsz];rfl) rfl rfl rfl ?_)<;>try refine Zt 13 rfl (fun _=>Aq rfl) (Ar N1 Y1 ?_))))|show WI _ _ _ _ _ _ 11 _ _ _ _;try refine AF rfl AS rfl rfl rfl rfl rfl (fun ba hba=>?_);try refine AC 1 4 Y1 ?_ ?_<;>(first|show WI _ _ _ _ _ _ 1 _ _ _ _;try refine Ao rfl (Ac U114 rfl rfl Y0 Y4) rfl rfl rfl ?_;try refine Af 4 Y1 ?_<;>try refine Ao rfl (Ah rfl) rfl rfl rfl (Zt 5 rfl (fun _=>Ad Cc rfl) (Af 6 Y1 ?_))<;>try refine Ao rfl (Ac U5 rfl rfl Y0 Y4) rfl rfl rfl ?_;try refine Af 7 Y1 ?_<;>try refine Ao rfl (AP hlk U114 U5 AS rfl rfl rfl Y0) rfl rfl rfl ?_;try refine Zt 8 rfl (fun _=>Ai rfl) (Zt 9 rfl (fun _=>Ae rfl rfl) (Zt 10 rfl (fun _=>Ae rfl rfl) (Af 12 Y1 ?_)))<;>try((refine Au rfl rfl rfl hrok (by rw[hrsz];exact B3) Y3 (by rw[hrsz];rfl) rfl rfl rfl ?_)<;>try refine Zt 13 rfl (fun _=>Aq rfl) (Ar N1 Y1 ?_))|show WI _ _ _ _ _ _ 4 _ _ _ _;try refine Ao rfl (Ah rfl) rfl rfl rfl (Zt 5 rfl (fun _=>Ad Cc rfl) ?_);try refine AC 1 6 Y1 ?_ ?_<;>(first|show WI _ _ _ _ _ _ 1 _ _ _ _;try refine Ao rfl (Ac U114 rfl rfl Y0 Y4) rfl rfl rfl ?_;try refine Af 6 Y1 ?_<;>try refine Ao rfl (Ac U5 rfl rfl Y0 Y4) rfl rfl rfl ?_;try refine Af 7 Y1 ?_<;>try refine Ao rfl (AP hlk U114 U5 AS rfl rfl rfl Y0) rfl rfl rfl ?_;try refine Zt 8 rfl (fun _=>Ai rfl) (Zt 9 rfl (fun _=>Ae rfl rfl) (Zt 10 rfl (fun _=>Ae rfl rfl) (Af 12 Y1 ?_)))<;>try((refine Au rfl rfl rfl hrok (by rw[hrsz];exact B3) Y3 (by rw[hrsz];rfl) rfl rfl rfl ?_)<;>try refine Zt 13 rfl (fun _=>Aq rfl) (Ar N1 Y1 ?_))|show WI _ _ _ _ _ _ 6 _ _ _ _;try refine Ao rfl (Ac U5 rfl rfl Y0 Y4) rfl rfl rfl ?_;try refine Af 1 Y1 ?_<;>try refine Ao rfl (Ac U114 rfl rfl Y0 Y4) rfl rfl rfl ?_;try refine Af 7 Y1 ?_<;>try refine Ao rfl (AP hlk U114 U5 AS rfl rfl rfl Y0) rfl rfl rfl ?_;try refine Zt 8 rfl (fun _=>Ai rfl) (Zt 9 rfl (fun _=>Ae rfl rfl) (Zt 10 rfl (fun _=>Ae rfl rfl) (Af 12 Y1 ?_)))<;>try((refine Au rfl rfl rfl hrok (by rw[hrsz];exact B3) Y3 (by rw[hrsz];rfl) rfl rfl rfl ?_)<;>try refine Zt 13 rfl (fun _=>Aq rfl) (Ar N1 Y1 ?_)))))|show WI _ _ _ _ _ _ 11 _ _ _ _;try refine AF rfl AS rfl rfl rfl rfl rfl (fun ba hba=>?_);try refine AC 1 3 Y1 ?_ ?_<;>(first|show WI _ _ _ _ _ _ 1 _ _ _ _;try refine Ao rfl (Ac U114 rfl rfl Y0 Y4) rfl rfl rfl ?_;try refine Af 3 Y1 ?_<;>try refine Ao rfl (Ac U159 rfl rfl Y0 Y4) rfl rfl rfl ?_;try refine Af 4 Y1 ?_<;>try refine Ao rfl (Ah rfl) rfl rfl rfl (Zt 5 rfl (fun _=>Ad Cc rfl) (Af 6 Y1 ?_))<;>try refine Ao rfl (Ac U5 rfl rfl Y0 Y4) rfl rfl rfl ?_;try refine Af 7 Y1 ?_<;>try refine Ao rfl (AP hlk U114 U5 AS rfl rfl rfl Y0) rfl rfl rfl ?_;try refine Zt 8 rfl (fun _=>Ai rfl) (Zt 9 rfl (fun _=>Ae rfl rfl) (Zt 10 rfl (fun _=>Ae rfl rfl) (Af 12 Y1 ?_)))<;>try((refine Au rfl rfl rfl hrok (by rw[hrsz];exact B3) Y3 (by rw[hrsz];rfl) rfl rfl rfl ?_)<;>try refine Zt 13 rfl (fun _=>Aq rfl) (Ar N1 Y1 ?_))|show WI _ _ _ _ _ _ 3 _ _ _ _;try refine Ao rfl (Ac U159 rfl rfl Y0 Y4) rfl rfl rfl ?_;try refine AC 1 4 Y1 ?_ ?_<;>(first|show WI _ _ _ _ _ _ 1 _ _ _ _;try refine Ao rfl (Ac U114 rfl rfl Y0 Y4) rfl rfl rfl ?_;try refine Af 4 Y1 ?_<;>try refine Ao rfl (Ah rfl) rfl rfl rfl (Zt 5 rfl (fun _=>Ad Cc rfl) (Af 6 Y1 ?_))<;>try refine Ao rfl (Ac U5 rfl rfl Y0 Y4) rfl rfl rfl ?_;try refine Af 7 Y1 ?_<;>try refine Ao rfl (AP hlk U114 U5 AS rfl rfl rfl Y0) rfl rfl rfl ?_;try refine Zt 8 rfl (fun _=>Ai rfl) (Zt 9 rfl (fun _=>Ae rfl rfl) (Zt 10 rfl (fun _=>Ae rfl rfl) (Af 12 Y1 ?_)))<;>try((refine Au rfl rfl rfl hrok (by rw[hrsz];exact B3) Y3 (by rw[hrsz];rfl) rfl rfl rfl ?_)<;>try refine Zt 13 rfl (fun _=>Aq rfl) (Ar N1 Y1 ?_))|show WI _ _ _ _ _ _ 4 _ _ _ _;try refine Ao rfl (Ah rfl) rfl rfl rfl (Zt 5 rfl (fun _=>Ad Cc rfl) ?_);try refine AC 1 6 Y1 ?_ ?_<;>(first|show WI _ _ _ _ _ _ 1 _ _ _ _;try refine Ao rfl (Ac U114 rfl rfl Y0 Y4) rfl rfl rfl ?_;try refine Af 6 Y1 ?_<;>try refine Ao rfl (Ac U5 rfl rfl Y0 Y4) rfl rfl rfl ?_;try refine Af 7 Y1 ?_<;>try refine Ao rfl (AP hlk U114 U5 AS rfl rfl rfl Y0) rfl rfl rfl ?_;try refine Zt 8 rfl (fun _=>Ai rfl) (Zt 9 rfl (fun _=>Ae rfl rfl) (Zt 10 rfl (fun _=>Ae rfl rfl) (Af 12 Y1 ?_)))<;>try((refine Au rfl rfl rfl hrok (by rw[hrsz];exact B3) Y3 (by rw[hrsz];rfl) rfl rfl rfl ?_)<;>try refine Zt 13 rfl (fun _=>Aq rfl) (Ar N1 Y1 ?_))|show WI _ _ _ _ _ _ 6 _ _ _ _;try refine Ao rfl (Ac U5 rfl rfl Y0 Y4) rfl rfl rfl ?_;try refine Af 1 Y1 ?_<;>try refine Ao rfl (Ac U114 rfl rfl Y0 Y4) rfl rfl rfl ?_;try refine Af 7 Y1 ?_<;>try refine Ao rfl (AP hlk U114 U5 AS rfl rfl rfl Y0) rfl rfl rfl ?_;try refine Zt 8 rfl (fun _=>Ai rfl) (Zt 9 rfl (fun _=>Ae rfl rfl) (Zt 10 rfl (fun _=>Ae rfl rfl) (Af 12 Y1 ?_)))<;>try((refine Au rfl rfl rfl hrok (by rw[hrsz];exact B3) Y3 (by rw[hrsz];rfl) rfl rfl rfl ?_)<;>try refine Zt 13 rfl (fun _=>Aq rfl) (Ar N1 Y1 ?_)))))))
   all_goals exact A1 Y10 (cut _)
 intro ba
 repeat' (first|refine Ag rfl ?_|refine Aj rfl ?_|refine Al ?_|refine An ?_|refine A6 ?_|refine Ab 6 ?_;try refine Zm rfl ?_;try((refine AU (Take.nil _) (CallR.val rfl en79) rfl rfl (Cb true) (fun e=>by cases e) ?_;rintro u e v post ⟨rfl,rfl⟩)<;>try refine Aa N1 ?_)|refine Ab 7 ?_;try((refine Zv (AW U174 rfl AS rfl Y0 (by rw[hrsz];rfl)) ?_)<;>try refine Zm rfl (Aa N1 ?_)))
 try simp only[List.append_assoc,List.cons_append,List.nil_append]
 refine w_pick (ps:=L'++([⟨b,true,.cells (A++(insC {x with op:=op'} av++B)).toArray el (0,0)⟩,⟨bi,true,.cells #[pv b A.length] 162 (0,0)⟩,⟨bt,true,.cells (tabV cd mp mq).cells 117 (0,0)⟩]:List Ent)) (F:=F) (Take.join Y7 Y6) Y5 ?_
 simp only[List.append_assoc,List.cons_append,List.nil_append]
 refine A1 (E':=(fun q:Nat×List _×InsM×σ×List Ent×List Ent×Value=>[(2,pv bt 0),(4,pv bi 0),(36,.agg cs),(37,.int .i64 (q.1:Int))]) (0,ls,{x with op:=op'},s1,L',[],av)) Y14 ?_
 refine Bb (fun q:Nat×List _×InsM×σ×List Ent×List Ent×Value=>q.1≤3∧q.2.1=ls.drop q.1∧runs (ltI cd.κ) ls {x with op:=op'} s1=runs (ltI cd.κ) q.2.1 q.2.2.1 q.2.2.2.1∧cd.St q.2.2.2.1 q.2.2.2.2.1∧SlS S w0 intsV q.2.2.2.2.2.1 q.2.2.1.args x.args q.2.2.2.2.2.2 av∧(cd.Keep∨(LI.one∈q.2.1→q.2.2.1.args=[]))) (fun q=>3 - q.1) (fun q:Nat×List _×InsM×σ×List Ent×List Ent×Value=>[(2,pv bt 0),(4,pv bi 0),(36,.agg cs),(37,.int .i64 (q.1:Int))]) (fun q=>q.2.2.2.2.1++(⟨b,true,.cells (A++(insC q.2.2.1 q.2.2.2.2.2.2++B)).toArray el (0,0)⟩::(q.2.2.2.2.2.1++(⟨bi,true,.cells #[pv b A.length] 162 (0,0)⟩::⟨bt,true,.cells (tabV cd mp mq).cells 117 (0,0)⟩::F)))) ?_ (0,ls,{x with op:=op'},s1,L',[],av) ⟨Nat.zero_le _,rfl,rfl,hs',.same,hm.imp id (fun h _=>h)⟩
 rintro⟨i,rs,xi,si,Li,Xi,avi⟩ ⟨h1,h2,h3,h4,h5,h7⟩ ih
 dsimp only at h1 h2 h3 h4 h5 h7 ih ⊢
 by_cases hi3:i < 3
 · by_cases hil:i < ls.length
   · have hdr:ls.drop i=ls[i]::ls.drop (i+1):=List.drop_eq_getElem_cons hil
     have hndr:(ls.drop i).Nodup:=(List.drop_sublist i ls).nodup hnd
     rw[hdr] at h2
     have hcell:cs[(i:Int).toNat*1]?=some (.func (.func (fnI ls[i])) #[] #[]):=by rw[show(i:Int).toNat*1=i by omega];exact hrat i hil
     obtain⟨l,hl⟩:∃l,ls[i]=l:=⟨_,rfl⟩
     rw[hl] at h2 hcell hdr
     subst h2
     have hnf:ltI cd.κ l xi si≠.full:=by rw[h3] at hf;exact Out.nf (g:=fun q=>runs (ltI cd.κ) (ls.drop (i+1)) q.1 q.2) hf
     repeat' (first|refine Ag rfl ?_|refine Aj rfl ?_|refine Al ?_|refine An ?_|refine A5 rfl ?_|refine A6 ?_|refine AH ?_|refine AB ?_|refine Ab 8 ?_;try refine Zv (A7 rfl rfl Y2) ?_;try refine Aa N1 ?_|refine Ab 9 ?_;try refine Zv (ov_indexV U174 CT U173 rfl rfl rfl Y9 Y9 hcell) ?_;try refine Za rfl (Aa N1 ?_)|refine Ab 10 ?_;try refine Zm rfl (Zv (ov_neqFn U173 rfl rfl) (Aa N1 ?_))|refine Ab 11 ?_;try refine Zm rfl (Zf Co rfl ?_);try((refine Zv (B5 (cs:= #[.iface cd.it cd.iv]) U113 rfl BB rfl Y0 rfl Y31 (fun j hj=>by(obtain rfl:j=0:=(by(have:j < 1:=hj);omega));rfl)) ?_)<;>try refine Zf fo162_0 rfl (Zv (Ac U159 rfl rfl Y0 Y4) ?_);try((refine wo_dynP Y7 Y6 (CallR.fv rfl rfl (.fn _ _ _ _ _ rfl) (enI l)) rfl rfl (let_c cd (by repeat(first|exact hE|apply cd.envC|apply cd.envA)) h4 l (h5.kn hA.cons.cons) (h7.imp id (fun h e=>h (by rw[e];exact .head _))) hnf) (fun e=>AR Tryz.func97 (by rw[hr,h3];simp only[runs,e,Out.bind]) Y5) ?_;rintro⟨x',s'⟩ e3 v post ⟨rfl,L',X',av',k1,rfl,k2⟩)<;>try refine Aa N1 ?_))|refine Ab 12 ?_;try refine Zv (AD rfl rfl Y9 Y9) ?_;try refine Zm rfl (Aa N1 ?_))
     simp only[List.append_assoc,List.cons_append,List.nil_append] at ih ⊢
     have hm2:cd.Keep∨(LI.one∈ls.drop (i+1)→x'.args=[]):=by
      refine h7.imp id (fun h hmem=>?_)
      have hne:l≠LI.one:=by rintro rfl;exact absurd hmem (by rw[hdr] at hndr;exact(List.nodup_cons.1 hndr).1)
      rw[lt_keepI cd.κ hne e3]
      exact h (.tail _ hmem)
     have h3':runs (ltI cd.κ) ls {x with op:=op'} s1=runs (ltI cd.κ) (ls.drop (i+1)) x' s':=by rw[h3];simp only[runs,e3,Out.bind]
     have:=ih (i+1,ls.drop (i+1),x',s',L',X'++Xi,av') ⟨by simp only;omega,rfl,h3',k1,k2.trans h5,hm2⟩ (by simp only;omega)
     simp only[List.append_assoc] at this
     refine A1 Y10 this
   · have hcell:cs[(i:Int).toNat*1]?=some .nilFunc:=by rw[show(i:Int).toNat*1=i by omega];exact hrnil i Y9 hi3
     have hd0:ls.drop i=[]:=List.drop_eq_nil_of_le Y9
     have hd1:ls.drop (i+1)=[]:=List.drop_eq_nil_of_le Y9
     repeat' (first|refine Ag rfl ?_|refine Aj rfl ?_|refine Al ?_|refine An ?_|refine A5 rfl ?_|refine Az rfl ?_|refine A6 ?_|refine AH ?_|refine AB ?_|refine Ab 8 ?_;try refine Zv (A7 rfl rfl Y2) ?_;try refine Aa N1 ?_|refine Ab 9 ?_;try refine Zv (ov_indexV U174 CT U173 rfl rfl rfl Y9 Y9 hcell) ?_;try refine Za rfl (Aa N1 ?_)|refine Ab 10 ?_;try refine Zm rfl (Zv (ov_neqFnN U173 rfl rfl) (Aa N1 ?_))|refine Ab 12 ?_;try refine Zv (AD rfl rfl Y9 Y9) ?_;try refine Zm rfl (Aa N1 ?_))
     refine A1 Y10 (ih (i+1,rs,xi,si,Li,Xi,avi) ⟨by simp only;omega,by simp only;rw[h2,hd0,hd1],h3,h4,h5,h7⟩ (by simp only;omega))
 · have hd0:ls.drop i=[]:=List.drop_eq_nil_of_le Y9
   rw[h2,hd0] at h3
   repeat' (first|refine Ag rfl ?_|refine Al ?_|refine An ?_|refine Az rfl ?_|refine AH ?_|refine Bl rfl ?_|refine Bp Tryz.func97 rfl (fun w_ hi_=>?_)|refine Ab 8 ?_;try refine Zv (A7 rfl rfl Y2) ?_;try refine Aa N1 ?_)
   refine⟨_,Bo (by rw[hr,h3];rfl) ⟨rfl,Li,Xi++[⟨bi,true,.cells #[pv b A.length] 162 (0,0)⟩,⟨bt,true,.cells (tabV cd mp mq).cells 117 (0,0)⟩],avi,h4,rfl,h5.up fun e h=>List.mem_append_left _ h⟩,?_⟩
   have:=hi_
   simp only[List.append_assoc,List.cons_append,List.nil_append] at this ⊢
   exact this
end
end Go.Sl
namespace Go.Sl
open Go Go.RowKit Go.Shelf Go.Proofs
attribute [local irreducible] Calls
section
variable {S:Nat→Prop} {w0:World} {σ:Type} (cd:Cod S w0 σ) {F:List Ent} {s:σ} {L:List Ent} (hE:cd.env F) (hs:cd.St s L)
include hE hs
theorem itemE_c {A B:List Value} {b mp mq:Nat} {x:EndM} {av wv:Value} {el:TypeId} (hA:ArgsK S w0 F x.args av) (hW:WhensK S w0 F x.ws wv) (hm:cd.Keep∨(x.args=[]∧x.ws=[])) (hsm:cd.Small) (hl1:x.args.length≤65535) (hl2:x.ws.length≤65535) (hop0:0≤x.kd) (hop1:x.kd≤255) (hmp:(⟨mq,true,mapBO pieceTab⟩:Ent)∈F) (hf:codeEnd cd.κ x s≠.full):
 SLF Tryz.prog S w0 F 97 [tabV cd mp mq,.iface 166 (.agg #[pv b A.length])] (L++[⟨b,true,.cells (A++(endC x av wv++B)).toArray el (0,0)⟩]) (MoO (codeEnd cd.κ x s) fun a v post=>v=unitV∧∃L' X av' wv',cd.St a.2 L'∧post=L'++(⟨b,true,.cells (A++(endC a.1 av' wv'++B)).toArray el (0,0)⟩::X)∧SlS S w0 intsV X a.1.args x.args av' av∧SlS S w0 whensV X a.1.ws x.ws wv' wv):=by
 refine AE fun w hi=>?_
 simp only[List.append_assoc,List.cons_append,List.nil_append] at hi
 have g0:((A++(endC x av wv++B)).toArray)[A.length]?=some (.int .u8 x.kd):=BD (j:=0) (R:=endC x av wv) (show 0 < 9 by decide) rfl
 have st0:∀n,((A++(endC x av wv++B)).toArray).setIfInBounds A.length (.int .u8 n)=(A++(endC {x with kd:=n} av wv++B)).toArray:=fun n=>BH (j:=0) (R:=endC x av wv) (show 0 < 9 by decide) _
 have g0n:∀n,((A++(endC {x with kd:=n} av wv++B)).toArray)[A.length+0]?=some (.int .u8 n):=fun n=>BD (j:=0) (R:=endC {x with kd:=n} av wv) (show 0 < 9 by decide) rfl
 cases hsm0:small cd.κ x.kd s with
 | full=>exact absurd hsm0 (Out.nf hf)
 | bad=>
   have hr:codeEnd cd.κ x s=.bad:=by simp only[codeEnd,hsm0,Out.bind]
   refine Ak Tryz.func97 rfl rfl (hi) ?_
   repeat' (first|refine Ag rfl ?_|refine Al ?_|refine An ?_|refine Ab 0 ?_;try refine AL rfl rfl rfl rfl (fun bt hbt=>?_);try refine Aa N1 ?_|refine Bg (id:=1) 4 rfl mixed Y1 ?_;try refine A4 (Ad Co rfl) rfl rfl ?_;try((refine A4 (B5 (cs:= #[.iface cd.it cd.iv]) U113 rfl BB rfl Y0 rfl Y31 (fun j hj=>by(obtain rfl:j=0:=(by(have:j < 1:=hj);omega));rfl)) rfl rfl ?_)<;>try refine A4 (Ai rfl) rfl rfl (A4 (ov_kindQ (CallR.inv rfl rfl metE en190) kindE_c) rfl rfl (Bf ?_));try((refine CJ cd (o:=A.length) (gv:=fun n=>.int .u8 n) Y7 Y6 (CallR.val rfl en90) rfl rfl (small_c cd (by repeat(first|exact hE|apply cd.envC|apply cd.envA)) hs hop0 hop1 g0 (Out.nf hf)) (fun e=>AR Tryz.func97 hr Y5) (fun n' s' e1 L' hs'=>?_);rw[hsm0] at e1;cases e1)<;>try refine Aa N1 ?_)))
 | ok r=>
 obtain⟨op',s1⟩:=r
 have g0':=g0n op'
 cases hfo:formE op' with
 | none=>
   have hr:codeEnd cd.κ x s=.bad:=by simp only[codeEnd,hsm0,Out.bind,hfo]
   have hlk:=piece_findN hfo
   refine Ak Tryz.func97 rfl rfl (hi) ?_
   repeat' (first|refine Ag rfl ?_|refine Aj rfl ?_|refine Al ?_|refine An ?_|refine A5 rfl ?_|refine Az rfl ?_|refine A6 ?_|refine Ab 0 ?_;try refine AL rfl rfl rfl rfl (fun bt hbt=>?_);try refine Aa N1 ?_|refine Bg (id:=1) 4 rfl mixed Y1 ?_;try refine A4 (Ad Co rfl) rfl rfl ?_;try((refine A4 (B5 (cs:= #[.iface cd.it cd.iv]) U113 rfl BB rfl Y0 rfl Y31 (fun j hj=>by(obtain rfl:j=0:=(by(have:j < 1:=hj);omega));rfl)) rfl rfl ?_)<;>try refine A4 (Ai rfl) rfl rfl (A4 (ov_kindQ (CallR.inv rfl rfl metE en190) kindE_c) rfl rfl (Bf ?_));try((refine CJ cd (o:=A.length) (gv:=fun n=>.int .u8 n) Y7 Y6 (CallR.val rfl en90) rfl rfl (small_c cd (by repeat(first|exact hE|apply cd.envC|apply cd.envA)) hs hop0 hop1 g0 (Out.nf hf)) (fun e=>by rw[hsm0] at e;cases e) (fun n' s' e1 L' hs'=>?_);rw[hsm0] at e1;cases e1;rw[st0])<;>try refine Aa N1 ?_))|refine Ab 2 ?_;try refine Zm rfl (Aa N1 ?_)|refine Ab 3 ?_;try refine Zv (ov_assertF U162 rfl inf162 rfl rfl Y22) ?_;try refine Zv (Ae rfl rfl) (Zv (Ae rfl rfl) (Aa N1 ?_))|refine Ab 13 ?_;try refine Zv (ov_assertT U166 rfl rfl) (Zv (Ae rfl rfl) (Zv (Ae rfl rfl) (Aa N1 ?_)))|refine Ab 14 ?_;try refine A8 inf166 rfl rfl rfl rfl (fun bi hbi=>?_);try refine AI rfl rfl rfl sz166 Y3 Y15 rfl rfl ?_;try refine Aa N1 ?_|refine Cy (m:=14) 15 rfl mixed rfl ?_;try refine Zt 0 rfl (fun _=>Ad fo117_2 rfl) (Zt 2 rfl (fun _=>Ad fo166_0 rfl) ?_);try refine Cg 1 3 11 Y1 ?_ ?_ ?_<;>(first|show WI _ _ _ _ _ _ 1 _ _ _ _;try refine Ao rfl (Ac U115 rfl rfl Y0 Y4) rfl rfl rfl ?_;try refine AC 3 11 Y1 ?_ ?_<;>(first|show WI _ _ _ _ _ _ 3 _ _ _ _;try refine Ao rfl (Ac U164 rfl rfl Y0 Y4) rfl rfl rfl ?_;try refine AC 4 11 Y1 ?_ ?_<;>(first|show WI _ _ _ _ _ _ 4 _ _ _ _;try refine Ao rfl (Ah rfl) rfl rfl rfl (Zt 5 rfl (fun _=>Ad BY rfl) ?_);try refine AC 6 11 Y1 ?_ ?_<;>(first|show WI _ _ _ _ _ _ 6 _ _ _ _;try refine Ao rfl (Ac U5 rfl rfl Y0 Y4) rfl rfl rfl ?_;try refine AC 7 11 Y1 ?_ ?_<;>(first|show WI _ _ _ _ _ _ 7 _ _ _ _;try refine Ao rfl (Bt hlk rfl rfl rfl Y0) rfl rfl rfl ?_;try refine Zt 8 rfl (fun _=>Ai rfl) (Zt 9 rfl (fun _=>Ae rfl rfl) (Zt 10 rfl (fun _=>Ae rfl rfl) (Af 11 Y1 ?_)))<;>try refine AF rfl AV rfl rfl rfl rfl rfl (fun ba hba=>?_);try refine Af 12 Y1 ?_<;>try refine Au rfl rfl rfl rfl B7 Y3 Y15 rfl rfl rfl ?_;try refine Zt 13 rfl (fun _=>Aq rfl) (Ar N1 Y1 ?_)|show WI _ _ _ _ _ _ 11 _ _ _ _;try refine AF rfl AV rfl rfl rfl rfl rfl (fun ba hba=>?_);try refine Af 7 Y1 ?_<;>try refine Ao rfl (Bt hlk rfl rfl rfl Y0) rfl rfl rfl ?_;try refine Zt 8 rfl (fun _=>Ai rfl) (Zt 9 rfl (fun _=>Ae rfl rfl) (Zt 10 rfl (fun _=>Ae rfl rfl) (Af 12 Y1 ?_)))<;>try refine Au rfl rfl rfl rfl B7 Y3 Y15 rfl rfl rfl ?_;try refine Zt 13 rfl (fun _=>Aq rfl) (Ar N1 Y1 ?_))|show WI _ _ _ _ _ _ 11 _ _ _ _;try refine AF rfl AV rfl rfl rfl rfl rfl (fun ba hba=>?_);try refine Af 6 Y1 ?_<;>try refine Ao rfl (Ac U5 rfl rfl Y0 Y4) rfl rfl rfl ?_;try refine Af 7 Y1 ?_<;>try refine Ao rfl (Bt hlk rfl rfl rfl Y0) rfl rfl rfl ?_;try refine Zt 8 rfl (fun _=>Ai rfl) (Zt 9 rfl (fun _=>Ae rfl rfl) (Zt 10 rfl (fun _=>Ae rfl rfl) (Af 12 Y1 ?_)))<;>try refine Au rfl rfl rfl rfl B7 Y3 Y15 rfl rfl rfl ?_;try refine Zt 13 rfl (fun _=>Aq rfl) (Ar N1 Y1 ?_))|show WI _ _ _ _ _ _ 11 _ _ _ _;try refine AF rfl AV rfl rfl rfl rfl rfl (fun ba hba=>?_);try refine Af 4 Y1 ?_<;>try refine Ao rfl (Ah rfl) rfl rfl rfl (Zt 5 rfl (fun _=>Ad BY rfl) (Af 6 Y1 ?_))<;>try refine Ao rfl (Ac U5 rfl rfl Y0 Y4) rfl rfl rfl ?_;try refine Af 7 Y1 ?_<;>try refine Ao rfl (Bt hlk rfl rfl rfl Y0) rfl rfl rfl ?_;try refine Zt 8 rfl (fun _=>Ai rfl) (Zt 9 rfl (fun _=>Ae rfl rfl) (Zt 10 rfl (fun _=>Ae rfl rfl) (Af 12 Y1 ?_)))<;>try refine Au rfl rfl rfl rfl B7 Y3 Y15 rfl rfl rfl ?_;try refine Zt 13 rfl (fun _=>Aq rfl) (Ar N1 Y1 ?_))|show WI _ _ _ _ _ _ 11 _ _ _ _;try refine AF rfl AV rfl rfl rfl rfl rfl (fun ba hba=>?_);try refine Af 3 Y1 ?_<;>try refine Ao rfl (Ac U164 rfl rfl Y0 Y4) rfl rfl rfl ?_;try refine Af 4 Y1 ?_<;>try refine Ao rfl (Ah rfl) rfl rfl rfl (Zt 5 rfl (fun _=>Ad BY rfl) (Af 6 Y1 ?_))<;>try refine Ao rfl (Ac U5 rfl rfl Y0 Y4) rfl rfl rfl ?_;try refine Af 7 Y1 ?_<;>try refine Ao rfl (Bt hlk rfl rfl rfl Y0) rfl rfl rfl ?_;try refine Zt 8 rfl (fun _=>Ai rfl) (Zt 9 rfl (fun _=>Ae rfl rfl) (Zt 10 rfl (fun _=>Ae rfl rfl) (Af 12 Y1 ?_)))<;>try refine Au rfl rfl rfl rfl B7 Y3 Y15 rfl rfl rfl ?_;try refine Zt 13 rfl (fun _=>Aq rfl) (Ar N1 Y1 ?_))|show WI _ _ _ _ _ _ 3 _ _ _ _;try refine Ao rfl (Ac U164 rfl rfl Y0 Y4) rfl rfl rfl ?_;try refine Cg 1 4 11 Y1 ?_ ?_ ?_<;>(first|show WI _ _ _ _ _ _ 1 _ _ _ _;try refine Ao rfl (Ac U115 rfl rfl Y0 Y4) rfl rfl rfl ?_;try refine AC 4 11 Y1 ?_ ?_<;>(first|show WI _ _ _ _ _ _ 4 _ _ _ _;try refine Ao rfl (Ah rfl) rfl rfl rfl (Zt 5 rfl (fun _=>Ad BY rfl) ?_);try refine AC 6 11 Y1 ?_ ?_<;>(first|show WI _ _ _ _ _ _ 6 _ _ _ _;try refine Ao rfl (Ac U5 rfl rfl Y0 Y4) rfl rfl rfl ?_;try refine AC 7 11 Y1 ?_ ?_<;>(first|show WI _ _ _ _ _ _ 7 _ _ _ _;try refine Ao rfl (Bt hlk rfl rfl rfl Y0) rfl rfl rfl ?_;try refine Zt 8 rfl (fun _=>Ai rfl) (Zt 9 rfl (fun _=>Ae rfl rfl) (Zt 10 rfl (fun _=>Ae rfl rfl) (Af 11 Y1 ?_)))<;>try refine AF rfl AV rfl rfl rfl rfl rfl (fun ba hba=>?_);try refine Af 12 Y1 ?_<;>try refine Au rfl rfl rfl rfl B7 Y3 Y15 rfl rfl rfl ?_;try refine Zt 13 rfl (fun _=>Aq rfl) (Ar N1 Y1 ?_)|show WI _ _ _ _ _ _ 11 _ _ _ _;try refine AF rfl AV rfl rfl rfl rfl rfl (fun ba hba=>?_);try refine Af 7 Y1 ?_<;>try refine Ao rfl (Bt hlk rfl rfl rfl Y0) rfl rfl rfl ?_;try refine Zt 8 rfl (fun _=>Ai rfl) (Zt 9 rfl (fun _=>Ae rfl rfl) (Zt 10 rfl (fun _=>Ae rfl rfl) (Af 12 Y1 ?_)))<;>try refine Au rfl rfl rfl rfl B7 Y3 Y15 rfl rfl rfl ?_;try refine Zt 13 rfl (fun _=>Aq rfl) (Ar N1 Y1 ?_))|show WI _ _ _ _ _ _ 11 _ _ _ _;try refine AF rfl AV rfl rfl rfl rfl rfl (fun ba hba=>?_);try refine Af 6 Y1 ?_<;>try refine Ao rfl (Ac U5 rfl rfl Y0 Y4) rfl rfl rfl ?_;try refine Af 7 Y1 ?_<;>try refine Ao rfl (Bt hlk rfl rfl rfl Y0) rfl rfl rfl ?_;try refine Zt 8 rfl (fun _=>Ai rfl) (Zt 9 rfl (fun _=>Ae rfl rfl) (Zt 10 rfl (fun _=>Ae rfl rfl) (Af 12 Y1 ?_)))<;>try refine Au rfl rfl rfl rfl B7 Y3 Y15 rfl rfl rfl ?_;try refine Zt 13 rfl (fun _=>Aq rfl) (Ar N1 Y1 ?_))|show WI _ _ _ _ _ _ 11 _ _ _ _;try refine AF rfl AV rfl rfl rfl rfl rfl (fun ba hba=>?_);try refine Af 4 Y1 ?_<;>try refine Ao rfl (Ah rfl) rfl rfl rfl (Zt 5 rfl (fun _=>Ad BY rfl) (Af 6 Y1 ?_))<;>try refine Ao rfl (Ac U5 rfl rfl Y0 Y4) rfl rfl rfl ?_;try refine Af 7 Y1 ?_<;>try refine Ao rfl (Bt hlk rfl rfl rfl Y0) rfl rfl rfl ?_;try refine Zt 8 rfl (fun _=>Ai rfl) (Zt 9 rfl (fun _=>Ae rfl rfl) (Zt 10 rfl (fun _=>Ae rfl rfl) (Af 12 Y1 ?_)))<;>try refine Au rfl rfl rfl rfl B7 Y3 Y15 rfl rfl rfl ?_;try refine Zt 13 rfl (fun _=>Aq rfl) (Ar N1 Y1 ?_))|show WI _ _ _ _ _ _ 4 _ _ _ _;try refine Ao rfl (Ah rfl) rfl rfl rfl (Zt 5 rfl (fun _=>Ad BY rfl) ?_);try refine Cg 1 6 11 Y1 ?_ ?_ ?_<;>(first|show WI _ _ _ _ _ _ 1 _ _ _ _;try refine Ao rfl (Ac U115 rfl rfl Y0 Y4) rfl rfl rfl ?_;try refine AC 6 11 Y1 ?_ ?_<;>(first|show WI _ _ _ _ _ _ 6 _ _ _ _;try refine Ao rfl (Ac U5 rfl rfl Y0 Y4) rfl rfl rfl ?_;try refine AC 7 11 Y1 ?_ ?_<;>(first|show WI _ _ _ _ _ _ 7 _ _ _ _;try refine Ao rfl (Bt hlk rfl rfl rfl Y0) rfl rfl rfl ?_;try refine Zt 8 rfl (fun _=>Ai rfl) (Zt 9 rfl (fun _=>Ae rfl rfl) (Zt 10 rfl (fun _=>Ae rfl rfl) (Af 11 Y1 ?_)))<;>try refine AF rfl AV rfl rfl rfl rfl rfl (fun ba hba=>?_);try refine Af 12 Y1 ?_<;>try refine Au rfl rfl rfl rfl B7 Y3 Y15 rfl rfl rfl ?_;try refine Zt 13 rfl (fun _=>Aq rfl) (Ar N1 Y1 ?_)|show WI _ _ _ _ _ _ 11 _ _ _ _;try refine AF rfl AV rfl rfl rfl rfl rfl (fun ba hba=>?_);try refine Af 7 Y1 ?_<;>try refine Ao rfl (Bt hlk rfl rfl rfl Y0) rfl rfl rfl ?_;try refine Zt 8 rfl (fun _=>Ai rfl) (Zt 9 rfl (fun _=>Ae rfl rfl) (Zt 10 rfl (fun _=>Ae rfl rfl) (Af 12 Y1 ?_)))<;>try refine Au rfl rfl rfl rfl B7 Y3 Y15 rfl rfl rfl ?_;try refine Zt 13 rfl (fun _=>Aq rfl) (Ar N1 Y1 ?_))|show WI _ _ _ _ _ _ 11 _ _ _ _;try refine AF rfl AV rfl rfl rfl rfl rfl (fun ba hba=>?_);try refine Af 6 Y1 ?_<;>try refine Ao rfl (Ac U5 rfl rfl Y0 Y4) rfl rfl rfl ?_;try refine Af 7 Y1 ?_<;>try refine Ao rfl (Bt hlk rfl rfl rfl Y0) rfl rfl rfl ?_;try refine Zt 8 rfl (fun _=>Ai rfl) (Zt 9 rfl (fun _=>Ae rfl rfl) (Zt 10 rfl (fun _=>Ae rfl rfl) (Af 12 Y1 ?_)))<;>try refine Au rfl rfl rfl rfl B7 Y3 Y15 rfl rfl rfl ?_;try refine Zt 13 rfl (fun _=>Aq rfl) (Ar N1 Y1 ?_))|show WI _ _ _ _ _ _ 6 _ _ _ _;try refine Ao rfl (Ac U5 rfl rfl Y0 Y4) rfl rfl rfl ?_;try refine AC 1 11 Y1 ?_ ?_<;>(first|show WI _ _ _ _ _ _ 1 _ _ _ _;try refine Ao rfl (Ac U115 rfl rfl Y0 Y4) rfl rfl rfl ?_;try refine AC 7 11 Y1 ?_ ?_<;>(first|show WI _ _ _ _ _ _ 7 _ _ _ _;try refine Ao rfl (Bt hlk rfl rfl rfl Y0) rfl rfl rfl ?_;try refine Zt 8 rfl (fun _=>Ai rfl) (Zt 9 rfl (fun _=>Ae rfl rfl) (Zt 10 rfl (fun _=>Ae rfl rfl) (Af 11 Y1 ?_)))<;>try refine AF rfl AV rfl rfl rfl rfl rfl (fun ba hba=>?_);try refine Af 12 Y1 ?_<;>try refine Au rfl rfl rfl rfl B7 Y3 Y15 rfl rfl rfl ?_;try refine Zt 13 rfl (fun _=>Aq rfl) (Ar N1 Y1 ?_)|show WI _ _ _ _ _ _ 11 _ _ _ _;try refine AF rfl AV rfl rfl rfl rfl rfl (fun ba hba=>?_);try refine Af 7 Y1 ?_<;>try refine Ao rfl (Bt hlk rfl rfl rfl Y0) rfl rfl rfl ?_;try refine Zt 8 rfl (fun _=>Ai rfl) (Zt 9 rfl (fun _=>Ae rfl rfl) (Zt 10 rfl (fun _=>Ae rfl rfl) (Af 12 Y1 ?_)))<;>try refine Au rfl rfl rfl rfl B7 Y3 Y15 rfl rfl rfl ?_;try refine Zt 13 rfl (fun _=>Aq rfl) (Ar N1 Y1 ?_))|show WI _ _ _ _ _ _ 11 _ _ _ _;try refine AF rfl AV rfl rfl rfl rfl rfl (fun ba hba=>?_);try refine Af 1 Y1 ?_<;>try refine Ao rfl (Ac U115 rfl rfl Y0 Y4) rfl rfl rfl ?_;try refine Af 7 Y1 ?_<;>try refine Ao rfl (Bt hlk rfl rfl rfl Y0) rfl rfl rfl ?_;try refine Zt 8 rfl (fun _=>Ai rfl) (Zt 9 rfl (fun _=>Ae rfl rfl) (Zt 10 rfl (fun _=>Ae rfl rfl) (Af 12 Y1 ?_)))<;>try refine Au rfl rfl rfl rfl B7 Y3 Y15 rfl rfl rfl ?_;try refine Zt 13 rfl (fun _=>Aq rfl) (Ar N1 Y1 ?_))|show WI _ _ _ _ _ _ 11 _ _ _ _;try refine AF rfl AV rfl rfl rfl rfl rfl (fun ba hba=>?_);try refine AC 1 6 Y1 ?_ ?_<;>(first|show WI _ _ _ _ _ _ 1 _ _ _ _;try refine Ao rfl (Ac U115 rfl rfl Y0 Y4) rfl rfl rfl ?_;try refine Af 6 Y1 ?_<;>try refine Ao rfl (Ac U5 rfl rfl Y0 Y4) rfl rfl rfl ?_;try refine Af 7 Y1 ?_<;>try refine Ao rfl (Bt hlk rfl rfl rfl Y0) rfl rfl rfl ?_;try refine Zt 8 rfl (fun _=>Ai rfl) (Zt 9 rfl (fun _=>Ae rfl rfl) (Zt 10 rfl (fun _=>Ae rfl rfl) (Af 12 Y1 ?_)))<;>try refine Au rfl rfl rfl rfl B7 Y3 Y15 rfl rfl rfl ?_;try refine Zt 13 rfl (fun _=>Aq rfl) (Ar N1 Y1 ?_)|show WI _ _ _ _ _ _ 6 _ _ _ _;try refine Ao rfl (Ac U5 rfl rfl Y0 Y4) rfl rfl rfl ?_;try refine Af 1 Y1 ?_<;>try refine Ao rfl (Ac U115 rfl rfl Y0 Y4) rfl rfl rfl ?_;try refine Af 7 Y1 ?_<;>try refine Ao rfl (Bt hlk rfl rfl rfl Y0) rfl rfl rfl ?_;try refine Zt 8 rfl (fun _=>Ai rfl) (Zt 9 rfl (fun _=>Ae rfl rfl) (Zt 10 rfl (fun _=>Ae rfl rfl) (Af 12 Y1 ?_)))<;>try refine Au rfl rfl rfl rfl B7 Y3 Y15 rfl rfl rfl ?_;try refine Zt 13 rfl (fun _=>Aq rfl) (Ar N1 Y1 ?_)))|show WI _ _ _ _ _ _ 11 _ _ _ _;try refine AF rfl AV rfl rfl rfl rfl rfl (fun ba hba=>?_);try refine AC 1 4 Y1 ?_ ?_<;>(first|show WI _ _ _ _ _ _ 1 _ _ _ _;try refine Ao rfl (Ac U115 rfl rfl Y0 Y4) rfl rfl rfl ?_;try refine Af 4 Y1 ?_<;>try refine Ao rfl (Ah rfl) rfl rfl rfl (Zt 5 rfl (fun _=>Ad BY rfl) (Af 6 Y1 ?_))<;>try refine Ao rfl (Ac U5 rfl rfl Y0 Y4) rfl rfl rfl ?_;try refine Af 7 Y1 ?_<;>try refine Ao rfl (Bt hlk rfl rfl rfl Y0) rfl rfl rfl ?_;try refine Zt 8 rfl (fun _=>Ai rfl) (Zt 9 rfl (fun _=>Ae rfl rfl) (Zt 10 rfl (fun _=>Ae rfl rfl) (Af 12 Y1 ?_)))<;>try refine Au rfl rfl rfl rfl B7 Y3 Y15 rfl rfl rfl ?_;try refine Zt 13 rfl (fun _=>Aq rfl) (Ar N1 Y1 ?_)|show WI _ _ _ _ _ _ 4 _ _ _ _;try refine Ao rfl (Ah rfl) rfl rfl rfl (Zt 5 rfl (fun _=>Ad BY rfl) ?_);try refine AC 1 6 Y1 ?_ ?_<;>(first|show WI _ _ _ _ _ _ 1 _ _ _ _;try refine Ao rfl (Ac U115 rfl rfl Y0 Y4) rfl rfl rfl ?_;try refine Af 6 Y1 ?_<;>try refine Ao rfl (Ac U5 rfl rfl Y0 Y4) rfl rfl rfl ?_;try refine Af 7 Y1 ?_<;>try refine Ao rfl (Bt hlk rfl rfl rfl Y0) rfl rfl rfl ?_;try refine Zt 8 rfl (fun _=>Ai rfl) (Zt 9 rfl (fun _=>Ae rfl rfl) (Zt 10 rfl (fun _=>Ae rfl rfl) (Af 12 Y1 ?_)))<;>try refine Au rfl rfl rfl rfl B7 Y3 Y15 rfl rfl rfl ?_;try refine Zt 13 rfl (fun _=>Aq rfl) (Ar N1 Y1 ?_)|show WI _ _ _ _ _ _ 6 _ _ _ _;try refine Ao rfl (Ac U5 rfl rfl Y0 Y4) rfl rfl rfl ?_;try refine Af 1 Y1 ?_<;>try refine Ao rfl (Ac U115 rfl rfl Y0 Y4) rfl rfl rfl ?_;try refine Af 7 Y1 ?_<;>try refine Ao rfl (Bt hlk rfl rfl rfl Y0) rfl rfl rfl ?_;try refine Zt 8 rfl (fun _=>Ai rfl) (Zt 9 rfl (fun _=>Ae rfl rfl) (Zt 10 rfl (fun _=>Ae rfl rfl) (Af 12 Y1 ?_)))<;>try refine Au rfl rfl rfl rfl B7 Y3 Y15 rfl rfl rfl ?_;try refine Zt 13 rfl (fun _=>Aq rfl) (Ar N1 Y1 ?_))))|show WI _ _ _ _ _ _ 11 _ _ _ _;try refine AF rfl AV rfl rfl rfl rfl rfl (fun ba hba=>?_);try refine AC 1 3 Y1 ?_ ?_<;>(first|show WI _ _ _ _ _ _ 1 _ _ _ _;try refine Ao rfl (Ac U115 rfl rfl Y0 Y4) rfl rfl rfl ?_;try refine Af 3 Y1 ?_<;>try refine Ao rfl (Ac U164 rfl rfl Y0 Y4) rfl rfl rfl ?_;try refine Af 4 Y1 ?_<;>try refine Ao rfl (Ah rfl) rfl rfl rfl (Zt 5 rfl (fun _=>Ad BY rfl) (Af 6 Y1 ?_))<;>try refine Ao rfl (Ac U5 rfl rfl Y0 Y4) rfl rfl rfl ?_;try refine Af 7 Y1 ?_<;>try refine Ao rfl (Bt hlk rfl rfl rfl Y0) rfl rfl rfl ?_;try refine Zt 8 rfl (fun _=>Ai rfl) (Zt 9 rfl (fun _=>Ae rfl rfl) (Zt 10 rfl (fun _=>Ae rfl rfl) (Af 12 Y1 ?_)))<;>try refine Au rfl rfl rfl rfl B7 Y3 Y15 rfl rfl rfl ?_;try refine Zt 13 rfl (fun _=>Aq rfl) (Ar N1 Y1 ?_)|show WI _ _ _ _ _ _ 3 _ _ _ _;try refine Ao rfl (Ac U164 rfl rfl Y0 Y4) rfl rfl rfl ?_;try refine AC 1 4 Y1 ?_ ?_<;>(first|show WI _ _ _ _ _ _ 1 _ _ _ _;try refine Ao rfl (Ac U115 rfl rfl Y0 Y4) rfl rfl rfl ?_;try refine Af 4 Y1 ?_<;>try refine Ao rfl (Ah rfl) rfl rfl rfl (Zt 5 rfl (fun _=>Ad BY rfl) (Af 6 Y1 ?_))<;>try refine Ao rfl (Ac U5 rfl rfl Y0 Y4) rfl rfl rfl ?_;try refine Af 7 Y1 ?_<;>try refine Ao rfl (Bt hlk rfl rfl rfl Y0) rfl rfl rfl ?_;try refine Zt 8 rfl (fun _=>Ai rfl) (Zt 9 rfl (fun _=>Ae rfl rfl) (Zt 10 rfl (fun _=>Ae rfl rfl) (Af 12 Y1 ?_)))<;>try refine Au rfl rfl rfl rfl B7 Y3 Y15 rfl rfl rfl ?_;try refine Zt 13 rfl (fun _=>Aq rfl) (Ar N1 Y1 ?_)|show WI _ _ _ _ _ _ 4 _ _ _ _;try refine Ao rfl (Ah rfl) rfl rfl rfl (Zt 5 rfl (fun _=>Ad BY rfl) ?_);try refine AC 1 6 Y1 ?_ ?_<;>(first|show WI _ _ _ _ _ _ 1 _ _ _ _;try refine Ao rfl (Ac U115 rfl rfl Y0 Y4) rfl rfl rfl ?_;try refine Af 6 Y1 ?_<;>try refine Ao rfl (Ac U5 rfl rfl Y0 Y4) rfl rfl rfl ?_;try refine Af 7 Y1 ?_<;>try refine Ao rfl (Bt hlk rfl rfl rfl Y0) rfl rfl rfl ?_;try refine Zt 8 rfl (fun _=>Ai rfl) (Zt 9 rfl (fun _=>Ae rfl rfl) (Zt 10 rfl (fun _=>Ae rfl rfl) (Af 12 Y1 ?_)))<;>try refine Au rfl rfl rfl rfl B7 Y3 Y15 rfl rfl rfl ?_;try refine Zt 13 rfl (fun _=>Aq rfl) (Ar N1 Y1 ?_)|show WI _ _ _ _ _ _ 6 _ _ _ _;try refine Ao rfl (Ac U5 rfl rfl Y0 Y4) rfl rfl rfl ?_;try refine Af 1 Y1 ?_<;>try refine Ao rfl (Ac U115 rfl rfl Y0 Y4) rfl rfl rfl ?_;try refine Af 7 Y1 ?_<;>try refine Ao rfl (Bt hlk rfl rfl rfl Y0) rfl rfl rfl ?_;try refine Zt 8 rfl (fun _=>Ai rfl) (Zt 9 rfl (fun _=>Ae rfl rfl) (Zt 10 rfl (fun _=>Ae rfl rfl) (Af 12 Y1 ?_)))<;>try refine Au rfl rfl rfl rfl B7 Y3 Y15 rfl rfl rfl ?_;try refine Zt 13 rfl (fun _=>Aq rfl) (Ar N1 Y1 ?_)))))|refine Ab 16 ?_;try refine Zm rfl ?_;try((refine AU (Take.nil _) (CallR.val rfl en79) rfl rfl (Cb false) (fun e=>AR Tryz.func97 hr Y5) ?_;rintro u e v post ⟨rfl,rfl⟩;cases e)<;>try refine Aa N1 ?_))
 | some ls=>
 obtain⟨hl,hnd⟩:=formE_ok hfo
 obtain⟨q0,hlk⟩:=piece_find hfo
 have hr:codeEnd cd.κ x s=runs (ltE cd.κ) ls {x with kd:=op'} s1:=by simp only[codeEnd,hsm0,Out.bind,hfo]
 have hrok:=row_ok (f:=fnE) (ls:=ls) (n:=5)
 have hrsz:=row_size (f:=fnE) hl
 have hrat:=fun i (h:i < ls.length)=>row_at3 (f:=fnE) hl h
 have hrnil:=fun i (h:ls.length≤i) (hn:i < 5)=>row_nil (f:=fnE) h hn
 unfold rowOf at hlk
 generalize ((ls.map (fun l=>Value.func (.func (fnE l)) #[] #[])++List.replicate (5 - ls.length) Value.nilFunc).toArray)=cs at *
 rw[hr] at hf
 refine Ak Tryz.func97 rfl rfl (hi) ?_
 repeat' (first|refine Ag rfl ?_|refine Aj rfl ?_|refine Al ?_|refine An ?_|refine A5 rfl ?_|refine Az rfl ?_|refine A6 ?_|refine Ab 0 ?_;try refine AL rfl rfl rfl rfl (fun bt hbt=>?_);try refine Aa N1 ?_|refine Bg (id:=1) 4 rfl mixed Y1 ?_;try refine A4 (Ad Co rfl) rfl rfl ?_;try((refine A4 (B5 (cs:= #[.iface cd.it cd.iv]) U113 rfl BB rfl Y0 rfl Y31 (fun j hj=>by(obtain rfl:j=0:=(by(have:j < 1:=hj);omega));rfl)) rfl rfl ?_)<;>try refine A4 (Ai rfl) rfl rfl (A4 (ov_kindQ (CallR.inv rfl rfl metE en190) kindE_c) rfl rfl (Bf ?_));try((refine CJ cd (o:=A.length) (gv:=fun n=>.int .u8 n) Y7 Y6 (CallR.val rfl en90) rfl rfl (small_c cd (by repeat(first|exact hE|apply cd.envC|apply cd.envA)) hs hop0 hop1 g0 (by rw[hsm0];simp)) (fun e=>by rw[hsm0] at e;cases e) (fun n' s' e1 L' hs'=>?_);rw[hsm0] at e1;cases e1;rw[st0])<;>try refine Aa N1 ?_))|refine Ab 2 ?_;try refine Zm rfl (Aa N1 ?_)|refine Ab 3 ?_;try refine Zv (ov_assertF U162 rfl inf162 rfl rfl Y22) ?_;try refine Zv (Ae rfl rfl) (Zv (Ae rfl rfl) (Aa N1 ?_))|refine Ab 13 ?_;try refine Zv (ov_assertT U166 rfl rfl) (Zv (Ae rfl rfl) (Zv (Ae rfl rfl) (Aa N1 ?_)))|refine Ab 14 ?_;try refine A8 inf166 rfl rfl rfl rfl (fun bi hbi=>?_);try refine AI rfl rfl rfl sz166 Y3 Y15 rfl rfl ?_;try refine Aa N1 ?_)
 refine w_cutK (β:=Nat) (fun q=>[(2,pv bt 0),(9,pv bi 0),(10,pv q 0),(11,.bool true)]) (fun q=>⟨q,true,.cells cs 190 (0,0)⟩::⟨bi,true,.cells #[pv b A.length] 166 (0,0)⟩::(L'++(⟨b,true,.cells (A++(endC {x with kd:=op'} av wv++B)).toArray el (0,0)⟩::⟨bt,true,.cells (tabV cd mp mq).cells 117 (0,0)⟩::F))) ?_ ?_
 rotate_left
 · intro cut
   repeat' (first|refine Ag rfl ?_|refine Aj rfl ?_|refine Al ?_|refine Cy (m:=14) 15 rfl mixed rfl ?_;try refine Zt 0 rfl (fun _=>Ad fo117_2 rfl) (Zt 2 rfl (fun _=>Ad fo166_0 rfl) ?_);try refine Cg 1 3 11 Y1 ?_ ?_ ?_<;>(first|show WI _ _ _ _ _ _ 1 _ _ _ _;try refine Ao rfl (Ac U115 rfl rfl Y0 Y4) rfl rfl rfl ?_;try refine AC 3 11 Y1 ?_ ?_<;>(first|show WI _ _ _ _ _ _ 3 _ _ _ _;try refine Ao rfl (Ac U164 rfl rfl Y0 Y4) rfl rfl rfl ?_;try refine AC 4 11 Y1 ?_ ?_<;>(first|show WI _ _ _ _ _ _ 4 _ _ _ _;try refine Ao rfl (Ah rfl) rfl rfl rfl (Zt 5 rfl (fun _=>Ad BY rfl) ?_);try refine AC 6 11 Y1 ?_ ?_<;>(first|show WI _ _ _ _ _ _ 6 _ _ _ _;try refine Ao rfl (Ac U5 rfl rfl Y0 Y4) rfl rfl rfl ?_;try refine AC 7 11 Y1 ?_ ?_<;>(first|show WI _ _ _ _ _ _ 7 _ _ _ _;try refine Ao rfl (AP hlk U115 U5 AV rfl rfl rfl Y0) rfl rfl rfl ?_;try refine Zt 8 rfl (fun _=>Ai rfl) (Zt 9 rfl (fun _=>Ae rfl rfl) (Zt 10 rfl (fun _=>Ae rfl rfl) (Af 11 Y1 ?_)))<;>try refine AF rfl AV rfl rfl rfl rfl rfl (fun ba hba=>?_);try refine Af 12 Y1 ?_<;>try((refine Au rfl rfl rfl hrok (by rw[hrsz];exact B7) Y3 (by rw[hrsz];rfl) rfl rfl rfl ?_)<;>try refine Zt 13 rfl (fun _=>Aq rfl) (Ar N1 Y1 ?_))|show WI _ _ _ _ _ _ 11 _ _ _ _;try refine AF rfl AV rfl rfl rfl rfl rfl (fun ba hba=>?_);try refine Af 7 Y1 ?_<;>try refine Ao rfl (AP hlk U115 U5 AV rfl rfl rfl Y0) rfl rfl rfl ?_;try refine Zt 8 rfl (fun _=>Ai rfl) (Zt 9 rfl (fun _=>Ae rfl rfl) (Zt 10 rfl (fun _=>Ae rfl rfl) (Af 12 Y1 ?_)))<;>try((refine Au rfl rfl rfl hrok (by rw[hrsz];exact B7) Y3 (by rw[hrsz];rfl) rfl rfl rfl ?_)<;>try refine Zt 13 rfl (fun _=>Aq rfl) (Ar N1 Y1 ?_)))|show WI _ _ _ _ _ _ 11 _ _ _ _;try refine AF rfl AV rfl rfl rfl rfl rfl (fun ba hba=>?_);try refine Af 6 Y1 ?_<;>try refine Ao rfl (Ac U5 rfl rfl Y0 Y4) rfl rfl rfl ?_;try refine Af 7 Y1 ?_<;>try refine Ao rfl (AP hlk U115 U5 AV rfl rfl rfl Y0) rfl rfl rfl ?_;try refine Zt 8 rfl (fun _=>Ai rfl) (Zt 9 rfl (fun _=>Ae rfl rfl) (Zt 10 rfl (fun _=>Ae rfl rfl) (Af 12 Y1 ?_)))<;>try((refine Au rfl rfl rfl hrok (by rw[hrsz];exact B7) Y3 (by rw[hrsz];rfl) rfl rfl rfl ?_)<;>try refine Zt 13 rfl (fun _=>Aq rfl) (Ar N1 Y1 ?_)))|show WI _ _ _ _ _ _ 11 _ _ _ _;try refine AF rfl AV rfl rfl rfl rfl rfl (fun ba hba=>?_);try refine Af 4 Y1 ?_<;>try refine Ao rfl (Ah rfl) rfl rfl rfl (Zt 5 rfl (fun _=>Ad BY rfl) (Af 6 Y1 ?_))<;>try refine Ao rfl (Ac U5 rfl rfl Y0 Y4) rfl rfl rfl ?_;try refine Af 7 Y1 ?_<;>try refine Ao rfl (AP hlk U115 U5 AV rfl rfl rfl Y0) rfl rfl rfl ?_;try refine Zt 8 rfl (fun _=>Ai rfl) (Zt 9 rfl (fun _=>Ae rfl rfl) (Zt 10 rfl (fun _=>Ae rfl rfl) (Af 12 Y1 ?_)))<;>try((refine Au rfl rfl rfl hrok (by rw[hrsz];exact B7) Y3 (by rw[hrsz];rfl) rfl rfl rfl ?_)<;>try refine Zt 13 rfl (fun _=>Aq rfl) (Ar N1 Y1 ?_)))|show WI _ _ _ _ _ _ 11 _ _ _ _;try refine AF rfl AV rfl rfl rfl rfl rfl (fun ba hba=>?_);try refine Af 3 Y1 ?_<;>try refine Ao rfl (Ac U164 rfl rfl Y0 Y4) rfl rfl rfl ?_;try refine Af 4 Y1 ?_<;>try refine Ao rfl (Ah rfl) rfl rfl rfl (Zt 5 rfl (fun _=>Ad BY rfl) (Af 6 Y1 ?_))<;>try refine Ao rfl (Ac U5 rfl rfl Y0 Y4) rfl rfl rfl ?_;try refine Af 7 Y1 ?_<;>try refine Ao rfl (AP hlk U115 U5 AV rfl rfl rfl Y0) rfl rfl rfl ?_;try refine Zt 8 rfl (fun _=>Ai rfl) (Zt 9 rfl (fun _=>Ae rfl rfl) (Zt 10 rfl (fun _=>Ae rfl rfl) (Af 12 Y1 ?_)))<;>try((refine Au rfl rfl rfl hrok (by rw[hrsz];exact B7) Y3 (by rw[hrsz];rfl) rfl rfl rfl ?_)<;>try refine Zt 13 rfl (fun _=>Aq rfl) (Ar N1 Y1 ?_)))|show WI _ _ _ _ _ _ 3 _ _ _ _;try refine Ao rfl (Ac U164 rfl rfl Y0 Y4) rfl rfl rfl ?_;try refine Cg 1 4 11 Y1 ?_ ?_ ?_<;>(first|show WI _ _ _ _ _ _ 1 _ _ _ _;try refine Ao rfl (Ac U115 rfl rfl Y0 Y4) rfl rfl rfl ?_;try refine AC 4 11 Y1 ?_ ?_<;>(first|show WI _ _ _ _ _ _ 4 _ _ _ _;try refine Ao rfl (Ah rfl) rfl rfl rfl (Zt 5 rfl (fun _=>Ad BY rfl) ?_);try refine AC 6 11 Y1 ?_ ?_<;>(first|show WI _ _ _ _ _ _ 6 _ _ _ _;try refine Ao rfl (Ac U5 rfl rfl Y0 Y4) rfl rfl rfl ?_;try refine AC 7 11 Y1 ?_ ?_<;>(first|show WI _ _ _ _ _ _ 7 _ _ _ _;try refine Ao rfl (AP hlk U115 U5 AV rfl rfl rfl Y0) rfl rfl rfl ?_;try refine Zt 8 rfl (fun _=>Ai rfl) (Zt 9 rfl (fun _=>Ae rfl rfl) (Zt 10 rfl (fun _=>Ae rfl rfl) (Af 11 Y1 ?_)))<;>try refine AF rfl AV rfl rfl rfl rfl rfl (fun ba hba=>?_);try refine Af 12 Y1 ?_<;>try((refine Au rfl rfl rfl hrok (by rw[hrsz];exact B7) Y3 (by rw[hrsz];rfl) rfl rfl rfl ?_)<;>try refine Zt 13 rfl (fun _=>Aq rfl) (Ar N1 Y1 ?_))|show WI _ _ _ _ _ _ 11 _ _ _ _;try refine AF rfl AV rfl rfl rfl rfl rfl (fun ba hba=>?_);try refine Af 7 Y1 ?_<;>try refine Ao rfl (AP hlk U115 U5 AV rfl rfl rfl Y0) rfl rfl rfl ?_;try refine Zt 8 rfl (fun _=>Ai rfl) (Zt 9 rfl (fun _=>Ae rfl rfl) (Zt 10 rfl (fun _=>Ae rfl rfl) (Af 12 Y1 ?_)))<;>try((refine Au rfl rfl rfl hrok (by rw[hrsz];exact B7) Y3 (by rw[hrsz];rfl) rfl rfl rfl ?_)<;>try refine Zt 13 rfl (fun _=>Aq rfl) (Ar N1 Y1 ?_)))|show WI _ _ _ _ _ _ 11 _ _ _ _;try refine AF rfl AV rfl rfl rfl rfl rfl (fun ba hba=>?_);try refine Af 6 Y1 ?_<;>try refine Ao rfl (Ac U5 rfl rfl Y0 Y4) rfl rfl rfl ?_;try refine Af 7 Y1 ?_<;>try refine Ao rfl (AP hlk U115 U5 AV rfl rfl rfl Y0) rfl rfl rfl ?_;try refine Zt 8 rfl (fun _=>Ai rfl) (Zt 9 rfl (fun _=>Ae rfl rfl) (Zt 10 rfl (fun _=>Ae rfl rfl) (Af 12 Y1 ?_)))<;>try((refine Au rfl rfl rfl hrok (by rw[hrsz];exact B7) Y3 (by rw[hrsz];rfl) rfl rfl rfl ?_)<;>try refine Zt 13 rfl (fun _=>Aq rfl) (Ar N1 Y1 ?_)))|show WI _ _ _ _ _ _ 11 _ _ _ _;try refine AF rfl AV rfl rfl rfl rfl rfl (fun ba hba=>?_);try refine Af 4 Y1 ?_<;>try refine Ao rfl (Ah rfl) rfl rfl rfl (Zt 5 rfl (fun _=>Ad BY rfl) (Af 6 Y1 ?_))<;>try refine Ao rfl (Ac U5 rfl rfl Y0 Y4) rfl rfl rfl ?_;try refine Af 7 Y1 ?_<;>try refine Ao rfl (AP hlk U115 U5 AV rfl rfl rfl Y0) rfl rfl rfl ?_;try refine Zt 8 rfl (fun _=>Ai rfl) (Zt 9 rfl (fun _=>Ae rfl rfl) (Zt 10 rfl (fun _=>Ae rfl rfl) (Af 12 Y1 ?_)))<;>try((refine Au rfl rfl rfl hrok (by rw[hrsz];exact B7) Y3 (by rw[hrsz];rfl) rfl rfl rfl ?_)<;>try refine Zt 13 rfl (fun _=>Aq rfl) (Ar N1 Y1 ?_)))|show WI _ _ _ _ _ _ 4 _ _ _ _;try refine Ao rfl (Ah rfl) rfl rfl rfl (Zt 5 rfl (fun _=>Ad BY rfl) ?_);try refine Cg 1 6 11 Y1 ?_ ?_ ?_<;>(first|show WI _ _ _ _ _ _ 1 _ _ _ _;try refine Ao rfl (Ac U115 rfl rfl Y0 Y4) rfl rfl rfl ?_;try refine AC 6 11 Y1 ?_ ?_<;>(first|show WI _ _ _ _ _ _ 6 _ _ _ _;try refine Ao rfl (Ac U5 rfl rfl Y0 Y4) rfl rfl rfl ?_;try refine AC 7 11 Y1 ?_ ?_<;>(first|show WI _ _ _ _ _ _ 7 _ _ _ _;try refine Ao rfl (AP hlk U115 U5 AV rfl rfl rfl Y0) rfl rfl rfl ?_;try refine Zt 8 rfl (fun _=>Ai rfl) (Zt 9 rfl (fun _=>Ae rfl rfl) (Zt 10 rfl (fun _=>Ae rfl rfl) (Af 11 Y1 ?_)))<;>try refine AF rfl AV rfl rfl rfl rfl rfl (fun ba hba=>?_);try refine Af 12 Y1 ?_<;>try((refine Au rfl rfl rfl hrok (by rw[hrsz];exact B7) Y3 (by rw[hrsz];rfl) rfl rfl rfl ?_)<;>try refine Zt 13 rfl (fun _=>Aq rfl) (Ar N1 Y1 ?_))|show WI _ _ _ _ _ _ 11 _ _ _ _;try refine AF rfl AV rfl rfl rfl rfl rfl (fun ba hba=>?_);try refine Af 7 Y1 ?_<;>try refine Ao rfl (AP hlk U115 U5 AV rfl rfl rfl Y0) rfl rfl rfl ?_;try refine Zt 8 rfl (fun _=>Ai rfl) (Zt 9 rfl (fun _=>Ae rfl rfl) (Zt 10 rfl (fun _=>Ae rfl rfl) (Af 12 Y1 ?_)))<;>try((refine Au rfl rfl rfl hrok (by rw[hrsz];exact B7) Y3 (by rw[hrsz];rfl) rfl rfl rfl ?_)<;>try refine Zt 13 rfl (fun _=>Aq rfl) (Ar N1 Y1 ?_)))|show WI _ _ _ _ _ _ 11 _ _ _ _;try refine AF rfl AV rfl rfl rfl rfl rfl (fun ba hba=>?_);try refine Af 6 Y1 ?_<;>try refine Ao rfl (Ac U5 rfl rfl Y0 Y4) rfl rfl rfl ?_;try refine Af 7 Y1 ?_<;>try refine Ao rfl (AP hlk U115 U5 AV rfl rfl rfl Y0) rfl rfl rfl ?_;try refine Zt 8 rfl (fun _=>Ai rfl) (Zt 9 rfl (fun _=>Ae rfl rfl) (Zt 10 rfl (fun _=>Ae rfl rfl) (Af 12 Y1 ?_)))<;>try((refine Au rfl rfl rfl hrok (by rw[hrsz];exact B7) Y3 (by rw[hrsz];rfl) rfl rfl rfl ?_)<;>try refine Zt 13 rfl (fun _=>Aq rfl) (Ar N1 Y1 ?_)))|show WI _ _ _ _ _ _ 6 _ _ _ _;try refine Ao rfl (Ac U5 rfl rfl Y0 Y4) rfl rfl rfl ?_;try refine AC 1 11 Y1 ?_ ?_<;>(first|show WI _ _ _ _ _ _ 1 _ _ _ _;try refine Ao rfl (Ac U115 rfl rfl Y0 Y4) rfl rfl rfl ?_;try refine AC 7 11 Y1 ?_ ?_<;>(first|show WI _ _ _ _ _ _ 7 _ _ _ _;try refine Ao rfl (AP hlk U115 U5 AV rfl rfl rfl Y0) rfl rfl rfl ?_;try refine Zt 8 rfl (fun _=>Ai rfl) (Zt 9 rfl (fun _=>Ae rfl rfl) (Zt 10 rfl (fun _=>Ae rfl rfl) (Af 11 Y1 ?_)))<;>try refine AF rfl AV rfl rfl rfl rfl rfl (fun ba hba=>?_);try refine Af 12 Y1 ?_<;>try((refine Au rfl rfl rfl hrok (by rw[hrsz];exact B7) Y3 (by rw[hrsz];rfl) rfl rfl rfl ?_)<;>try refine Zt 13 rfl (fun _=>Aq rfl) (Ar N1 Y1 ?_))|show WI _ _ _ _ _ _ 11 _ _ _ _;try refine AF rfl AV rfl rfl rfl rfl rfl (fun ba hba=>?_);try refine Af 7 Y1 ?_<;>try refine Ao rfl (AP hlk U115 U5 AV rfl rfl rfl Y0) rfl rfl rfl ?_;try refine Zt 8 rfl (fun _=>Ai rfl) (Zt 9 rfl (fun _=>Ae rfl rfl) (Zt 10 rfl (fun _=>Ae rfl rfl) (Af 12 Y1 ?_)))<;>try((refine Au rfl rfl rfl hrok (by rw[hrsz];exact B7) Y3 (by rw[hrsz];rfl) rfl rfl rfl ?_)<;>try refine Zt 13 rfl (fun _=>Aq rfl) (Ar N1 Y1 ?_)))|show WI _ _ _ _ _ _ 11 _ _ _ _;try refine AF rfl AV rfl rfl rfl rfl rfl (fun ba hba=>?_);try refine Af 1 Y1 ?_<;>try refine Ao rfl (Ac U115 rfl rfl Y0 Y4) rfl rfl rfl ?_;try refine Af 7 Y1 ?_<;>try refine Ao rfl (AP hlk U115 U5 AV rfl rfl rfl Y0) rfl rfl rfl ?_;try refine Zt 8 rfl (fun _=>Ai rfl) (Zt 9 rfl (fun _=>Ae rfl rfl) (Zt 10 rfl (fun _=>Ae rfl rfl) (Af 12 Y1 ?_)))<;>try((refine Au rfl rfl rfl hrok (by rw[hrsz];exact B7) Y3 (by rw[hrsz];rfl) rfl rfl rfl ?_)<;>try refine Zt 13 rfl (fun _=>Aq rfl) (Ar N1 Y1 ?_)))|show WI _ _ _ _ _ _ 11 _ _ _ _;try refine AF rfl AV rfl rfl rfl rfl rfl (fun ba hba=>?_);try refine AC 1 6 Y1 ?_ ?_<;>(first|show WI _ _ _ _ _ _ 1 _ _ _ _;try refine Ao rfl (Ac U115 rfl rfl Y0 Y4) rfl rfl rfl ?_;try refine Af 6 Y1 ?_<;>try refine Ao rfl (Ac U5 rfl rfl Y0 Y4) rfl rfl rfl ?_;try refine Af 7 Y1 ?_<;>try refine Ao rfl (AP hlk U115 U5 AV rfl rfl rfl Y0) rfl rfl rfl ?_;try refine Zt 8 rfl (fun _=>Ai rfl) (Zt 9 rfl (fun _=>Ae rfl rfl) (Zt 10 rfl (fun _=>Ae rfl rfl) (Af 12 Y1 ?_)))<;>try((refine Au rfl rfl rfl hrok (by rw[hrsz];exact B7) Y3 (by rw[hrsz];rfl) rfl rfl rfl ?_)<;>try refine Zt 13 rfl (fun _=>Aq rfl) (Ar N1 Y1 ?_))|show WI _ _ _ _ _ _ 6 _ _ _ _;try refine Ao rfl (Ac U5 rfl rfl Y0 Y4) rfl rfl rfl ?_;try refine Af 1 Y1 ?_<;>try refine Ao rfl (Ac U115 rfl rfl Y0 Y4) rfl rfl rfl ?_;try refine Af 7 Y1 ?_<;>try refine Ao rfl (AP hlk U115 U5 AV rfl rfl rfl Y0) rfl rfl rfl ?_;try refine Zt 8 rfl (fun _=>Ai rfl) (Zt 9 rfl (fun _=>Ae rfl rfl) (Zt 10 rfl (fun _=>Ae rfl rfl) (Af 12 Y1 ?_)))<;>try((refine Au rfl rfl rfl hrok (by rw[hrsz];exact B7) Y3 (by rw[hrsz];rfl) rfl rfl rfl ?_)<;>try refine Zt 13 rfl (fun _=>Aq rfl) (Ar N1 Y1 ?_))))|show WI _ _ _ _ _ _ 11 _ _ _ _;try refine AF rfl AV rfl rfl rfl rfl rfl (fun ba hba=>?_);try refine AC 1 4 Y1 ?_ ?_<;>(first|show WI _ _ _ _ _ _ 1 _ _ _ _;try refine Ao rfl (Ac U115 rfl rfl Y0 Y4) rfl rfl rfl ?_;try refine Af 4 Y1 ?_<;>try refine Ao rfl (Ah rfl) rfl rfl rfl (Zt 5 rfl (fun _=>Ad BY rfl) (Af 6 Y1 ?_))<;>try refine Ao rfl (Ac U5 rfl rfl Y0 Y4) rfl rfl rfl ?_;try refine Af 7 Y1 ?_<;>try refine Ao rfl (AP hlk U115 U5 AV rfl rfl rfl Y0) rfl rfl rfl ?_;try refine Zt 8 rfl (fun _=>Ai rfl) (Zt 9 rfl (fun _=>Ae rfl rfl) (Zt 10 rfl (fun _=>Ae rfl rfl) (Af 12 Y1 ?_)))<;>try((refine Au rfl rfl rfl hrok (by rw[hrsz];exact B7) Y3 (by rw[hrsz];rfl) rfl rfl rfl ?_)<;>try refine Zt 13 rfl (fun _=>Aq rfl) (Ar N1 Y1 ?_))|show WI _ _ _ _ _ _ 4 _ _ _ _;try refine Ao rfl (Ah rfl) rfl rfl rfl (Zt 5 rfl (fun _=>Ad BY rfl) ?_);try refine AC 1 6 Y1 ?_ ?_<;>(first|show WI _ _ _ _ _ _ 1 _ _ _ _;try refine Ao rfl (Ac U115 rfl rfl Y0 Y4) rfl rfl rfl ?_;try refine Af 6 Y1 ?_<;>try refine Ao rfl (Ac U5 rfl rfl Y0 Y4) rfl rfl rfl ?_;try refine Af 7 Y1 ?_<;>try refine Ao rfl (AP hlk U115 U5 AV rfl rfl rfl Y0) rfl rfl rfl ?_;try refine Zt 8 rfl (fun _=>Ai rfl) (Zt 9 rfl (fun _=>Ae rfl rfl) (Zt 10 rfl (fun _=>Ae rfl rfl) (Af 12 Y1 ?_)))<;>try((refine Au rfl rfl rfl hrok (by rw[hrsz];exact B7) Y3 (by rw[hrsz];rfl) rfl rfl rfl ?_)<;>try refine Zt 13 rfl (fun _=>Aq rfl) (Ar N1 Y1 ?_))|show WI _ _ _ _ _ _ 6 _ _ _ _;try refine Ao rfl (Ac U5 rfl rfl Y0 Y4) rfl rfl rfl ?_;try refine Af 1 Y1 ?_<;>try refine Ao rfl (Ac U115 rfl rfl Y0 Y4) rfl rfl rfl ?_;try refine Af 7 Y1 ?_<;>try refine Ao rfl (AP hlk U115 U5 AV rfl rfl rfl Y0) rfl rfl rfl ?_;try refine Zt 8 rfl (fun _=>Ai rfl) (Zt 9 rfl (fun _=>Ae rfl rfl) (Zt 10 rfl (fun _=>Ae rfl rfl) (Af 12 Y1 ?_)))<;>try((refine Au rfl rfl rfl hrok (by rw[hrsz];exact B7) Y3 (by rw[hrsz];rfl) rfl rfl rfl ?_)<;>try refine Zt 13 rfl (fun _=>Aq rfl) (Ar N1 Y1 ?_)))))|show WI _ _ _ _ _ _ 11 _ _ _ _;try refine AF rfl AV rfl rfl rfl rfl rfl (fun ba hba=>?_);try refine AC 1 3 Y1 ?_ ?_<;>(first|show WI _ _ _ _ _ _ 1 _ _ _ _;try refine Ao rfl (Ac U115 rfl rfl Y0 Y4) rfl rfl rfl ?_;try refine Af 3 Y1 ?_<;>try refine Ao rfl (Ac U164 rfl rfl Y0 Y4) rfl rfl rfl ?_;try refine Af 4 Y1 ?_<;>try refine Ao rfl (Ah rfl) rfl rfl rfl (Zt 5 rfl (fun _=>Ad BY rfl) (Af 6 Y1 ?_))<;>try refine Ao rfl (Ac U5 rfl rfl Y0 Y4) rfl rfl rfl ?_;try refine Af 7 Y1 ?_<;>try refine Ao rfl (AP hlk U115 U5 AV rfl rfl rfl Y0) rfl rfl rfl ?_;try refine Zt 8 rfl (fun _=>Ai rfl) (Zt 9 rfl (fun _=>Ae rfl rfl) (Zt 10 rfl (fun _=>Ae rfl rfl) (Af 12 Y1 ?_)))<;>try((refine Au rfl rfl rfl hrok (by rw[hrsz];exact B7) Y3 (by rw[hrsz];rfl) rfl rfl rfl ?_)<;>try refine Zt 13 rfl (fun _=>Aq rfl) (Ar N1 Y1 ?_))|show WI _ _ _ _ _ _ 3 _ _ _ _;try refine Ao rfl (Ac U164 rfl rfl Y0 Y4) rfl rfl rfl ?_;try refine AC 1 4 Y1 ?_ ?_<;>(first|show WI _ _ _ _ _ _ 1 _ _ _ _;try refine Ao rfl (Ac U115 rfl rfl Y0 Y4) rfl rfl rfl ?_;try refine Af 4 Y1 ?_<;>try refine Ao rfl (Ah rfl) rfl rfl rfl (Zt 5 rfl (fun _=>Ad BY rfl) (Af 6 Y1 ?_))<;>try refine Ao rfl (Ac U5 rfl rfl Y0 Y4) rfl rfl rfl ?_;try refine Af 7 Y1 ?_<;>try refine Ao rfl (AP hlk U115 U5 AV rfl rfl rfl Y0) rfl rfl rfl ?_;try refine Zt 8 rfl (fun _=>Ai rfl) (Zt 9 rfl (fun _=>Ae rfl rfl) (Zt 10 rfl (fun _=>Ae rfl rfl) (Af 12 Y1 ?_)))<;>try((refine Au rfl rfl rfl hrok (by rw[hrsz];exact B7) Y3 (by rw[hrsz];rfl) rfl rfl rfl ?_)<;>try refine Zt 13 rfl (fun _=>Aq rfl) (Ar N1 Y1 ?_))|show WI _ _ _ _ _ _ 4 _ _ _ _;try refine Ao rfl (Ah rfl) rfl rfl rfl (Zt 5 rfl (fun _=>Ad BY rfl) ?_);try refine AC 1 6 Y1 ?_ ?_<;>(first|show WI _ _ _ _ _ _ 1 _ _ _ _;try refine Ao rfl (Ac U115 rfl rfl Y0 Y4) rfl rfl rfl ?_;try refine Af 6 Y1 ?_<;>try refine Ao rfl (Ac U5 rfl rfl Y0 Y4) rfl rfl rfl ?_;try refine Af 7 Y1 ?_<;>try refine Ao rfl (AP hlk U115 U5 AV rfl rfl rfl Y0) rfl rfl rfl ?_;try refine Zt 8 rfl (fun _=>Ai rfl) (Zt 9 rfl (fun _=>Ae rfl rfl) (Zt 10 rfl (fun _=>Ae rfl rfl) (Af 12 Y1 ?_)))<;>try((refine Au rfl rfl rfl hrok (by rw[hrsz];exact B7) Y3 (by rw[hrsz];rfl) rfl rfl rfl ?_)<;>try refine Zt 13 rfl (fun _=>Aq rfl) (Ar N1 Y1 ?_))|show WI _ _ _ _ _ _ 6 _ _ _ _;try refine Ao rfl (Ac U5 rfl rfl Y0 Y4) rfl rfl rfl ?_;try refine Af 1 Y1 ?_<;>try refine Ao rfl (Ac U115 rfl rfl Y0 Y4) rfl rfl rfl ?_;try refine Af 7 Y1 ?_<;>try refine Ao rfl (AP hlk U115 U5 AV rfl rfl rfl Y0) rfl rfl rfl ?_;try refine Zt 8 rfl (fun _=>Ai rfl) (Zt 9 rfl (fun _=>Ae rfl rfl) (Zt 10 rfl (fun _=>Ae rfl rfl) (Af 12 Y1 ?_)))<;>try((refine Au rfl rfl rfl hrok (by rw[hrsz];exact B7) Y3 (by rw[hrsz];rfl) rfl rfl rfl ?_)<;>try refine Zt 13 rfl (fun _=>Aq rfl) (Ar N1 Y1 ?_)))))))
   all_goals exact A1 Y10 (cut _)
 intro ba
 repeat' (first|refine Ag rfl ?_|refine Aj rfl ?_|refine Al ?_|refine An ?_|refine A6 ?_|refine Ab 16 ?_;try refine Zm rfl ?_;try((refine AU (Take.nil _) (CallR.val rfl en79) rfl rfl (Cb true) (fun e=>by cases e) ?_;rintro u e v post ⟨rfl,rfl⟩)<;>try refine Aa N1 ?_)|refine Ab 17 ?_;try((refine Zv (AW U190 rfl AV rfl Y0 (by rw[hrsz];rfl)) ?_)<;>try refine Zm rfl (Aa N1 ?_)))
 try simp only[List.append_assoc,List.cons_append,List.nil_append]
 refine w_pick (ps:=L'++([⟨b,true,.cells (A++(endC {x with kd:=op'} av wv++B)).toArray el (0,0)⟩,⟨bi,true,.cells #[pv b A.length] 166 (0,0)⟩,⟨bt,true,.cells (tabV cd mp mq).cells 117 (0,0)⟩]:List Ent)) (F:=F) (Take.join Y7 Y6) Y5 ?_
 simp only[List.append_assoc,List.cons_append,List.nil_append]
 refine A1 (E':=(fun q:Nat×List _×EndM×σ×List Ent×List Ent×(Value×Value)=>[(2,pv bt 0),(9,pv bi 0),(65,.agg cs),(66,.int .i64 (q.1:Int))]) (0,ls,{x with kd:=op'},s1,L',[],(av,wv))) Y14 ?_
 refine Bb (fun q:Nat×List _×EndM×σ×List Ent×List Ent×(Value×Value)=>q.1≤5∧q.2.1=ls.drop q.1∧runs (ltE cd.κ) ls {x with kd:=op'} s1=runs (ltE cd.κ) q.2.1 q.2.2.1 q.2.2.2.1∧cd.St q.2.2.2.1 q.2.2.2.2.1∧SlS S w0 intsV q.2.2.2.2.2.1 q.2.2.1.args x.args q.2.2.2.2.2.2.1 av∧SlS S w0 whensV q.2.2.2.2.2.1 q.2.2.1.ws x.ws q.2.2.2.2.2.2.2 wv∧(cd.Keep∨((LJ.given∈q.2.1→q.2.2.1.args=[])∧(LJ.handlers∈q.2.1→q.2.2.1.ws=[])))∧q.2.2.1.args.length≤65535∧q.2.2.1.ws.length≤65535) (fun q=>5 - q.1) (fun q:Nat×List _×EndM×σ×List Ent×List Ent×(Value×Value)=>[(2,pv bt 0),(9,pv bi 0),(65,.agg cs),(66,.int .i64 (q.1:Int))]) (fun q=>q.2.2.2.2.1++(⟨b,true,.cells (A++(endC q.2.2.1 q.2.2.2.2.2.2.1 q.2.2.2.2.2.2.2++B)).toArray el (0,0)⟩::(q.2.2.2.2.2.1++(⟨bi,true,.cells #[pv b A.length] 166 (0,0)⟩::⟨bt,true,.cells (tabV cd mp mq).cells 117 (0,0)⟩::F)))) ?_ (0,ls,{x with kd:=op'},s1,L',[],(av,wv)) ⟨Nat.zero_le _,rfl,rfl,hs',.same,.same,hm.imp id (fun h=>⟨fun _=>h.1,fun _=>h.2⟩),hl1,hl2⟩
 rintro⟨i,rs,xi,si,Li,Xi,avi,wvi⟩ ⟨h1,h2,h3,h4,h5,h6,h7,h8,h9⟩ ih
 dsimp only at h1 h2 h3 h4 h5 h7 ih ⊢
 by_cases hi3:i < 5
 · by_cases hil:i < ls.length
   · have hdr:ls.drop i=ls[i]::ls.drop (i+1):=List.drop_eq_getElem_cons hil
     have hndr:(ls.drop i).Nodup:=(List.drop_sublist i ls).nodup hnd
     rw[hdr] at h2
     have hcell:cs[(i:Int).toNat*1]?=some (.func (.func (fnE ls[i])) #[] #[]):=by rw[show(i:Int).toNat*1=i by omega];exact hrat i hil
     obtain⟨l,hl⟩:∃l,ls[i]=l:=⟨_,rfl⟩
     rw[hl] at h2 hcell hdr
     subst h2
     have hnf:ltE cd.κ l xi si≠.full:=by rw[h3] at hf;exact Out.nf (g:=fun q=>runs (ltE cd.κ) (ls.drop (i+1)) q.1 q.2) hf
     repeat' (first|refine Ag rfl ?_|refine Aj rfl ?_|refine Al ?_|refine An ?_|refine A5 rfl ?_|refine A6 ?_|refine AH ?_|refine AB ?_|refine Ab 18 ?_;try refine Zv (A7 rfl rfl Y2) ?_;try refine Aa N1 ?_|refine Ab 19 ?_;try refine Zv (ov_indexV U190 sz189 U189 rfl rfl rfl Y9 Y9 hcell) ?_;try refine Za rfl (Aa N1 ?_)|refine Ab 20 ?_;try refine Zm rfl (Zv (ov_neqFn U189 rfl rfl) (Aa N1 ?_))|refine Ab 21 ?_;try refine Zm rfl (Zf Co rfl ?_);try((refine Zv (B5 (cs:= #[.iface cd.it cd.iv]) U113 rfl BB rfl Y0 rfl Y31 (fun j hj=>by(obtain rfl:j=0:=(by(have:j < 1:=hj);omega));rfl)) ?_)<;>try refine Zf fo166_0 rfl (Zv (Ac U164 rfl rfl Y0 Y4) ?_);try((refine wo_dynP Y7 Y6 (CallR.fv rfl rfl (.fn _ _ _ _ _ rfl) (enE l)) rfl rfl (lte_c cd (by repeat(first|exact hE|apply cd.envC|apply cd.envA)) h4 l (h5.kn hA.cons.cons) (h6.kn hW.cons.cons) (h7.imp id (fun h=>⟨fun e=>h.1 (by rw[e];exact .head _),fun e=>h.2 (by rw[e];exact .head _)⟩)) hsm h8 h9 hnf) (fun e=>AR Tryz.func97 (by rw[hr,h3];simp only[runs,e,Out.bind]) Y5) ?_;rintro⟨x',s'⟩ e3 v post ⟨rfl,L',X',av',wv',k1,rfl,k2,k3⟩)<;>try refine Aa N1 ?_))|refine Ab 22 ?_;try refine Zv (AD rfl rfl Y9 Y9) ?_;try refine Zm rfl (Aa N1 ?_))
     simp only[List.append_assoc,List.cons_append,List.nil_append] at ih ⊢
     have hm2:cd.Keep∨((LJ.given∈ls.drop (i+1)→x'.args=[])∧(LJ.handlers∈ls.drop (i+1)→x'.ws=[])):=by
      refine h7.imp id (fun h=>⟨fun hmem=>?_,fun hmem=>?_⟩)
      · have hne:l≠LJ.given:=by rintro rfl;exact absurd hmem (by rw[hdr] at hndr;exact(List.nodup_cons.1 hndr).1)
        rw[lt_keepA cd.κ hne e3]
        exact h.1 (.tail _ hmem)
      · have hne:l≠LJ.handlers:=by rintro rfl;exact absurd hmem (by rw[hdr] at hndr;exact(List.nodup_cons.1 hndr).1)
        rw[lt_keepW cd.κ hne e3]
        exact h.2 (.tail _ hmem)
     have h3':runs (ltE cd.κ) ls {x with kd:=op'} s1=runs (ltE cd.κ) (ls.drop (i+1)) x' s':=by rw[h3];simp only[runs,e3,Out.bind]
     have:=ih (i+1,ls.drop (i+1),x',s',L',X'++Xi,av',wv') ⟨by simp only;omega,rfl,h3',k1,k2.trans h5,k3.trans h6,hm2,lt_lenA cd hsm h8 e3,lt_lenW cd hsm h9 e3⟩ (by simp only;omega)
     simp only[List.append_assoc] at this
     refine A1 Y10 this
   · have hcell:cs[(i:Int).toNat*1]?=some .nilFunc:=by rw[show(i:Int).toNat*1=i by omega];exact hrnil i Y9 hi3
     have hd0:ls.drop i=[]:=List.drop_eq_nil_of_le Y9
     have hd1:ls.drop (i+1)=[]:=List.drop_eq_nil_of_le Y9
     repeat' (first|refine Ag rfl ?_|refine Aj rfl ?_|refine Al ?_|refine An ?_|refine A5 rfl ?_|refine Az rfl ?_|refine A6 ?_|refine AH ?_|refine AB ?_|refine Ab 18 ?_;try refine Zv (A7 rfl rfl Y2) ?_;try refine Aa N1 ?_|refine Ab 19 ?_;try refine Zv (ov_indexV U190 sz189 U189 rfl rfl rfl Y9 Y9 hcell) ?_;try refine Za rfl (Aa N1 ?_)|refine Ab 20 ?_;try refine Zm rfl (Zv (ov_neqFnN U189 rfl rfl) (Aa N1 ?_))|refine Ab 22 ?_;try refine Zv (AD rfl rfl Y9 Y9) ?_;try refine Zm rfl (Aa N1 ?_))
     refine A1 Y10 (ih (i+1,rs,xi,si,Li,Xi,avi,wvi) ⟨by simp only;omega,by simp only;rw[h2,hd0,hd1],h3,h4,h5,h6,h7,h8,h9⟩ (by simp only;omega))
 · have hd0:ls.drop i=[]:=List.drop_eq_nil_of_le Y9
   rw[h2,hd0] at h3
   repeat' (first|refine Ag rfl ?_|refine Al ?_|refine An ?_|refine Az rfl ?_|refine AH ?_|refine Bl rfl ?_|refine Bp Tryz.func97 rfl (fun w_ hi_=>?_)|refine Ab 18 ?_;try refine Zv (A7 rfl rfl Y2) ?_;try refine Aa N1 ?_)
   refine⟨_,Bo (by rw[hr,h3];rfl) ⟨rfl,Li,Xi++[⟨bi,true,.cells #[pv b A.length] 166 (0,0)⟩,⟨bt,true,.cells (tabV cd mp mq).cells 117 (0,0)⟩],avi,wvi,h4,rfl,h5.up fun e h=>List.mem_append_left _ h,h6.up fun e h=>List.mem_append_left _ h⟩,?_⟩
   have:=hi_
   simp only[List.append_assoc,List.cons_append,List.nil_append] at this ⊢
   exact this
end
end Go.Sl
namespace Go.Sl
open Go Go.RowKit Go.Shelf Go.Proofs
attribute [local irreducible] Calls
theorem frameO {α:Type} {P:Program} {S:Nat→Prop} {w0:World} {F A:List Ent} {f:FuncId} {vs:List Value} {pre:List Ent} {r:Out α} {G:α→Value→List Ent→Prop} (h:SLF P S w0 (A++F) f vs pre (MoO r G)):SLF P S w0 F f vs (pre++A) (MoO r fun a v post=>∃p,G a v p∧post=p++A):=by
 unfold SLF at *
 intro w hi
 refine(h w (by rwa [List.append_assoc] at hi)).mono ?_
 rintro e w' ⟨post,hq,hi2⟩
 cases r with
 | ok a=>obtain⟨v,rfl,hg⟩:=hq;exact⟨post++A,⟨v,rfl,post,hg,rfl⟩,by rwa [List.append_assoc]⟩
 | bad=>obtain⟨rfl,rfl⟩:=hq;exact⟨[],⟨rfl,rfl⟩,hi2.subset (List.sublist_append_right _ _)⟩
 | full=>exact hq.elim
def TabK {S:Nat→Prop} {w0:World} {σ:Type} (cd:Cod S w0 σ) (F:List Ent) (bt mp mq:Nat):Prop:=
 (∃rw fz,(⟨bt,rw,.cells #[.iface cd.it cd.iv,.map (some mp),.map (some mq)] 117 fz⟩:Ent)∈F)∧(⟨mp,true,mapBO partTab⟩:Ent)∈F∧(⟨mq,true,mapBO pieceTab⟩:Ent)∈F
theorem TabK.up {S:Nat→Prop} {w0:World} {σ:Type} {cd:Cod S w0 σ} {F F':List Ent} {bt mp mq:Nat} (h:TabK cd F bt mp mq) (hu:∀e∈F,e∈F'):TabK cd F' bt mp mq:=by
 obtain⟨⟨rw,fz,h1⟩,h2,h3⟩:=h
 exact⟨⟨rw,fz,hu _ h1⟩,hu _ h2,hu _ h3⟩
section
variable {S:Nat→Prop} {w0:World} {σ:Type} (cd:Cod S w0 σ) {F:List Ent} {s:σ} {L:List Ent} (hE:cd.env F) (hs:cd.St s L)
include hE hs
theorem insf_c {A B:List Value} {b bt mp mq:Nat} {x:InsM} {av:Value} {el:TypeId} (hT:TabK cd F bt mp mq) (hA:ArgsK S w0 F x.args av) (hm:cd.Keep∨x.args=[]) (hop0:0≤x.op) (hop1:x.op≤255) (hf:codeIns cd.κ x s≠.full):
 SLF Tryz.prog S w0 F 96 [pv b A.length,pv bt 0] (L++[⟨b,true,.cells (A++(insC x av++B)).toArray el (0,0)⟩]) (MoO (codeIns cd.κ x s) fun a v post=>v=unitV∧∃L' X av',cd.St a.2 L'∧post=L'++(⟨b,true,.cells (A++(insC a.1 av'++B)).toArray el (0,0)⟩::X)∧SlS S w0 intsV X a.1.args x.args av' av):=by
 refine AE fun w hi=>?_
 simp only[List.append_assoc,List.cons_append,List.nil_append] at hi
 obtain⟨⟨rw_,fz_,hbt⟩,hmp,hmq⟩:=hT
 refine Ak Tryz.func96 rfl rfl (hi) ?_
 repeat' (first|refine Ag rfl ?_|refine Aj rfl ?_|refine Al ?_|refine Bp Tryz.func96 rfl (fun w_ hi_=>?_)|refine Ab 0 ?_;try refine Zv (AW U117 rfl inf117 rfl Y0 rfl) ?_;try refine Zm rfl (Zv (Bq (vs:=[(0,pv b A.length)]) (cs:= #[pv b A.length]) pl162 inf162 rfl rfl rfl) (Zv (CD U162 rfl rfl) ?_));try((refine wo_callP Y7 Y6 (CallR.val rfl en97) rfl rfl (itemI_c cd hE hs hA hm hop0 hop1 hmp hf) (fun e=>AR Tryz.func96 e Y5) ?_;rintro⟨x',s'⟩ e1 v post ⟨rfl,L',X,av',h1,rfl,h2⟩)<;>try refine Aa [0,1] ?_))
 exact⟨_,Bo e1 ⟨rfl,L',X,av',h1,rfl,h2⟩,hi_⟩
def insP (p:InsM×Value):List Value:=insC p.1 p.2
omit hE hs in
theorem C7 (p:InsM×Value):(insP p).length=8:=rfl
def InsT (F:List Ent) (hv:Value) (d r:List InsM) (s:σ) (L:List Ent):Prop:=
 ∃ Ls X,cd.St s Ls∧((d=[]∧r=[]∧L=Ls∧X=[]∧∃a cap,hv=.slice a 0 cap∧0≤cap) ∨
  ∃ bb cap rst dp rp,L=Ls++(⟨bb,true,.cells (rowV insP (dp++rp)++rst).toArray 73 (0,0)⟩::X)∧hv=.slice (some ⟨bb,0,none⟩) (d.length+r.length) cap∧d.length+r.length≤cap∧dp.map Prod.fst=d∧rp.map Prod.fst=r ∧
   (∀p∈dp,ArgsK S w0 (X++F) p.1.args p.2)∧∀p∈rp,ArgsK S w0 F p.1.args p.2∧(0≤p.1.op∧p.1.op≤255)∧(cd.Keep∨p.1.args=[]))
def InsLK (S:Nat→Prop) (w0:World) (G:List Ent) (d:List InsM) (hv:Value):Prop:=∃ps:List (InsM×Value),ps.map Prod.fst=d∧SlK S w0 G (rowV insP ps) d.length hv∧∀p∈ps,ArgsK S w0 G p.1.args p.2
omit hE hs in
theorem InsLK.up {G G':List Ent} {d:List InsM} {hv:Value} (h:InsLK S w0 G d hv) (hu:∀e∈G,e∈G'):InsLK S w0 G' d hv:=by
 obtain⟨ps,h1,h2,h3⟩:=h
 exact⟨ps,h1,h2.up hu,fun p hp=>(h3 p hp).up hu⟩
omit hE hs in
theorem InsT.done {hv:Value} {d:List InsM} (h:InsT cd F hv d [] s L):∃Ls X,cd.St s Ls∧L=Ls++X∧InsLK S w0 (X++F) d hv:=by
 obtain⟨Ls,X,hs,h⟩:=h
 rcases h with⟨rfl,_,rfl,rfl,a,cap,rfl,hc⟩|⟨bb,cap,rst,dp,rp,rfl,rfl,hcap,hd,hr,h1,h2⟩
 · exact⟨L,[],hs,by simp,[],rfl,⟨a,cap,rfl,hc,.inl rfl⟩,fun p hp=>by cases hp⟩
 · obtain rfl:rp=[]:=by simpa using hr
   refine⟨Ls,_,hs,rfl,dp,hd,?_,fun p hp=>(h1 p hp).cons⟩
   simp only[List.append_nil,List.length_nil,Nat.add_zero]
   exact SlK.own hcap
omit hE hs in
theorem InsT.ata {hv:Value} {d:List InsM} {x:InsM} {r:List InsM} (h:InsT cd F hv d (x::r) s L):∃bb off cp,hv=.slice (some ⟨bb,off,none⟩) (d.length+(r.length+1)) cp:=by
 obtain⟨Ls,X,hs,h⟩:=h
 rcases h with⟨_,h,_⟩|⟨bb,cap,rst,dp,rp,rfl,rfl,_⟩
 · cases h
 · exact⟨bb,0,cap,rfl⟩
omit hE hs in
theorem rowV_rep {α:Type} (f:α→List Value) (z:α):∀n:Nat,rowV (fun _:Unit=>f z) (List.replicate n ())=rowV f (List.replicate n z)
 | 0=>rfl
 | n+1=>by have:=rowV_rep f z n;simp only[List.replicate_succ,rowV,List.flatMap_cons] at this ⊢;rw[this]
omit hE hs in
theorem InsT.up {G G':List Ent} {hv:Value} {d r:List InsM} (h:InsT cd G hv d r s L) (hu:∀e∈G,e∈G'):InsT cd G' hv d r s L:=by
 obtain⟨Ls,X,hs,h⟩:=h
 refine⟨Ls,X,hs,h.imp id ?_⟩
 rintro⟨bb,cap,rst,dp,rp,h1,h2,h3,h4,h5,h6,h7⟩
 exact ⟨bb,cap,rst,dp,rp,h1,h2,h3,h4,h5,fun p hp=>(h6 p hp).up fun e h=>by
  rcases List.mem_append.1 h with h|h
  · exact List.mem_append_left _ h
  · exact List.mem_append_right _ (hu e h),fun p hp=>⟨(h7 p hp).1.up hu,(h7 p hp).2⟩⟩
theorem inss_c {b o bt mp mq cap0:Nat} {a0:Option Addr} {c:Array Value} {el:TypeId} {l:List InsM} {Lx G:List Ent} (hG:∀e∈G,e∈F) (hT:TabK cd F bt mp mq) (hc:c[o]?=some (.slice a0 l.length cap0)) (h0:∀s' L',cd.St s' L'→InsT cd G (.slice a0 l.length cap0) [] l s' (L'++Lx)) (hm:cd.Keep∨l=[]∧Lx=[]) (hsm:cd.Small) (hl:l.length≤65535) (hf:lst cd.κ 1 ins0 (codeIns cd.κ) l s≠.full):
 SLF Tryz.prog S w0 F 95 [wkV cd,pv b o,.int .i64 1,.func (.func 96) #[] #[pv bt 0]] (L++(Lx++[⟨b,true,.cells c el (0,0)⟩])) (MoO (lst cd.κ 1 ins0 (codeIns cd.κ) l s) fun q v post=>v=unitV∧∃hv Ls X,cd.St q.2 Ls∧post=(Ls++X)++[⟨b,true,.cells (c.setIfInBounds o hv) el (0,0)⟩]∧InsLK S w0 (X++G) q.1 hv):=by
 have := list_ins_c cd (F:=F) hE hs (b:=b) (el:=el) (sz:=1) hc l rfl ins0 (codeIns cd.κ) (.inl rfl) (.func (.func 96) #[] #[pv bt 0]) 96 (fun p=>[p,pv bt 0]) (fun p=>.fn _ _ _ _ _ rfl) en96 (InsT cd G) Lx
  (hm.imp (fun h n' s' e=>h.num _ _ _ _ _ e) id)
  (fun s' L' e h=>h0 s' L' h)
  (fun n s' L' bb e hn h=>⟨L',[],h,.inr ⟨bb,n,[],[],List.replicate n (ins0,.slice none 0 0),by
   have:=rowV_rep insP (ins0,.slice none 0 0) n
   simp only[List.nil_append,List.append_nil]
   rw[←this];rfl,by simp,by simp,rfl,by simp,fun p hp=>(List.not_mem_nil hp).elim,fun p hp=>by
   obtain⟨_,rfl⟩:=List.mem_replicate.1 hp
   exact⟨⟨none,0,rfl,Nat.le_refl _,.inl rfl⟩,⟨by decide,by decide⟩,.inr rfl⟩⟩⟩)
  (fun n' s' e=>hsm _ _ _ _ _ (.inl rfl) hl e) Y9
  (fun hv d x r s L h=>h.ata cd)
  (fun F2 hF2 bb off cp d x r s L h q hq hf=>by
   obtain⟨Ls,X,hLs,h⟩:=h
   rcases h with⟨_,h,_⟩|⟨bb',cap,rst,dp,rp,rfl,he,hcap,hd,hr,h1,h2⟩
   · cases h
   simp only[Value.slice.injEq,Option.some.injEq,Addr.mk.injEq,and_true] at he
   obtain⟨⟨rfl,rfl⟩,_,rfl⟩:=he
   obtain ⟨p,rp',rfl,rfl,hr'⟩:∃p rp',rp=p::rp'∧p.1=x∧rp'.map Prod.fst=r:=by
    match rp,hr with
    | p::rp',hr=>simp only[List.map_cons,List.cons.injEq] at hr;exact⟨p,rp',rfl,hr.1,hr.2⟩
   obtain⟨k1,⟨k2,k3⟩,k4⟩:=h2 p (.head _)
   have hlen:(rowV insP dp).length=q:=by rw[Ba insP C7,hq,←hd];simp
   have hrow:∀p2:InsM×Value,rowV insP (dp++p2::rp')++rst=rowV insP dp++(insC p2.1 p2.2++(rowV insP rp'++rst)):=fun p2=>by simp[rowV,insP]
   have hp:=frameO (insf_c cd (F:=X++F2) (A:=rowV insP dp) (B:=rowV insP rp'++rst) (b:=bb) (el:=73) (cd.envA (cd.envU _ _ hF2 hE)) hLs (hT.up fun e h=>List.mem_append_right _ (hF2 e h)) (k1.up fun e h=>List.mem_append_right _ (hF2 e (hG e h))) k4 k2 k3 hf)
   rw[hlen,←hrow,List.append_assoc] at hp
   refine hp.mono fun e post hq2=>BI hq2 id ?_
   rintro⟨x',s'⟩ v post e ⟨p3,⟨rfl,L',X',av',hL',rfl,hsl⟩,rfl⟩
   refine⟨_,e,rfl,L',X'++X,hL',.inr ⟨bb,cp,rst,dp++[(x',av')],rp',?_,by simp[Nat.add_assoc,Nat.add_comm 1],by simp at hcap ⊢;omega,by simp[hd],hr',?_,fun p hp=>h2 p (.tail _ hp)⟩⟩
   · rw[←hrow (x',av')];simp
   · intro p2 hp2
     rcases List.mem_append.1 hp2 with h|h
     · exact(h1 p2 h).up fun e h=>by rw[List.append_assoc];exact List.mem_append_right _ h
     · obtain rfl:p2=(x',av'):=by simpa using h
       exact (hsl.kn k1).up fun e h=>by
        rcases List.mem_append.1 h with h|h
        · exact List.mem_append_left _ (List.mem_append_left _ h)
        · exact List.mem_append_right _ h)
  hf
 refine this.mono fun e post h=>BI h id ?_
 rintro⟨l',s'⟩ v p e ⟨rfl,hv,Lr,hT,rfl⟩
 obtain⟨Ls,X,h1,rfl,h2⟩:=hT.done cd
 exact⟨_,e,rfl,hv,Ls,X,h1,rfl,h2⟩
end
end Go.Sl
namespace Go.Sl
open Go Go.RowKit Go.Shelf Go.Proofs
attribute [local irreducible] Calls
section
variable {C:Cx} {S:Nat→Prop} {w0:World} {k:List Item} {D:List Deferred} {E:List (Nat×Value)} {H F1 F2 F3 L Lx:List Ent} {d:Option Tmp} {t:TypeId} {p:String} {af:Array Edge} {g:Option (Nat×Bool)} {ops:Array Oper} {rest:List Oper} {v:Value}
theorem wo_callX {α:Type} {r:Out α} {G:α→Value→List Ent→Prop} {c:Call} {f:FuncId} {vs:List Value} {b:Nat} {cs:Array Value} {el:TypeId} (tL:Take H L F1) (tX:Take F1 Lx F3) (tP:Take F3 [⟨b,true,.cells cs el (0,0)⟩] F2) (hc:CallR C D E ⟨d,.call c,t,p,af,g⟩ f vs) (hg:guardOk E ops ⟨d,.call c,t,p,af,g⟩=some true) (hd:dstOk d C.n=true)
 (h:SLF C.P S w0 F2 f vs (L++(Lx++[⟨b,true,.cells cs el (0,0)⟩])) (MoO r G)) (hn:r=.bad→WP C S w0 badE D [] F2)
 (hk:∀a,r=.ok a→∀v post,G a v post→WO C S w0 ops rest k D (putE d v E) (post++F2)):WO C S w0 ops (⟨d,.call c,t,p,af,g⟩::rest) k D E H:=AU (tL.join (tX.join tP)) hc hg hd h hn hk
end
section
variable {S:Nat→Prop} {w0:World} {σ:Type} (cd:Cod S w0 σ) {F:List Ent} {s:σ} {L:List Ent} (hE:cd.env F) (hs:cd.St s L)
include hE hs
theorem flow1_c {A B:List Value} {b bt mp mq cap0:Nat} {a0:Option Addr} {x:BlkM} {iv av wv:Value} {el:TypeId} {Lx G:List Ent} (hG:∀e∈G,e∈F) (hT:TabK cd F bt mp mq) (hiv:iv=.slice a0 x.ins.length cap0) (h0:∀s' L',cd.St s' L'→InsT cd G iv [] x.ins s' (L'++Lx))
 (hA:ArgsK S w0 F x.en.args av) (hW:WhensK S w0 F x.en.ws wv) (hm:cd.Keep∨(x.ins=[]∧Lx=[])∧x.en.args=[]∧x.en.ws=[]) (hsm:cd.Small) (hl:x.ins.length≤65535) (hl1:x.en.args.length≤65535) (hl2:x.en.ws.length≤65535) (hkd0:0≤x.en.kd) (hkd1:x.en.kd≤255) (hf:codeBlk cd.κ x s≠.full):
 SLF Tryz.prog S w0 F 94 [pv b A.length,pv bt 0] (L++(Lx++[⟨b,true,.cells (A++((iv::endC x.en av wv)++B)).toArray el (0,0)⟩])) (MoO (codeBlk cd.κ x s) fun a v post=>v=unitV∧∃L' X iv' av' wv',cd.St a.2 L'∧post=L'++(⟨b,true,.cells (A++((iv'::endC a.1.en av' wv')++B)).toArray el (0,0)⟩::X)∧InsLK S w0 (X++G) a.1.ins iv'∧SlS S w0 intsV X a.1.en.args x.en.args av' av∧SlS S w0 whensV X a.1.en.ws x.en.ws wv' wv):=by
 refine AE fun w hi=>?_
 simp only[List.append_assoc,List.cons_append,List.nil_append] at hi
 have hT':=hT
 obtain⟨⟨rw_,fz_,hbt⟩,hmp,hmq⟩:=hT
 have c0:∀iv:Value,∀y,(A++(iv::(endC y av wv++B))).toArray[A.length+0]?=some iv:=fun iv y=>by simp
 have st0:∀iv iv':Value,∀y,((A++(iv::(endC y av wv++B))).toArray).setIfInBounds (A.length+0) iv'=(A++(iv'::(endC y av wv++B))).toArray:=fun iv iv' y=>by simp
 have c1:∀iv:Value,∀y,(A++(iv::(endC y av wv++B))).toArray[A.length+1+0]?=some (.int .u8 y.kd):=fun iv y=>by simp[endC]
 have st9:∀iv:Value,∀y v,((A++(iv::(endC y av wv++B))).toArray).setIfInBounds (A.length+1+8) v=(A++(iv::((endC y av wv).set 8 v++B))).toArray:=fun iv y v=>by
  rw[List.setIfInBounds_toArray,List.set_append_right _ _ Y9,show A.length+1+8 - A.length=8+1 by omega,List.set_cons_succ,List.set_append_left _ _ (show 8 < 9 by decide)]
 have l9:∀iv:Value,∀y,A.length+1+8 < (A++(iv::(endC y av wv++B))).toArray.size:=fun iv y=>by simp[endC];omega
 have hre:∀(iv:Value) y av wv,(A++(iv::(endC y av wv++B)))=(A++[iv])++(endC y av wv++B):=fun iv y av wv=>by simp
 have hln:∀iv:Value,(A++[iv]).length=A.length+1:=fun iv=>by simp
 have hitem:=fun {F':List Ent} {s':σ} {L':List Ent} (iv:Value) (hE':cd.env F') (hs':cd.St s' L') (hu:∀e∈F,e∈F') (hf':codeEnd cd.κ (fixOt x.en) s'≠.full)=>(by
  have fx:(fixOt x.en).args=x.en.args∧(fixOt x.en).ws=x.en.ws∧(fixOt x.en).kd=x.en.kd:=by unfold fixOt;split<;>exact⟨rfl,rfl,rfl⟩
  have:=itemE_c cd (F:=F') (A:=A++[iv]) (B:=B) (b:=b) (mp:=mp) (el:=el) hE' hs' (x:=fixOt x.en) (av:=av) (wv:=wv) (by rw[fx.1];exact hA.up hu) (by rw[fx.2.1];exact hW.up hu) (hm.imp id (fun h=>by rw[fx.1,fx.2.1];exact h.2)) hsm (by rw[fx.1];exact hl1) (by rw[fx.2.1];exact hl2) (by rw[fx.2.2];exact hkd0) (by rw[fx.2.2];exact hkd1) (hu _ hmq) hf'
  rw[←hre,hln] at this
  rw[fx.1,fx.2.1] at this
  exact this:SLF Tryz.prog S w0 F' 97 [tabV cd mp mq,.iface 166 (.agg #[pv b (A.length+1)])] (L'++[⟨b,true,.cells (A++(iv::(endC (fixOt x.en) av wv++B))).toArray el (0,0)⟩]) (MoO (codeEnd cd.κ (fixOt x.en) s') fun a v post=>v=unitV∧∃L' X av' wv',cd.St a.2 L'∧post=L'++(⟨b,true,.cells ((A++[iv])++(endC a.1 av' wv'++B)).toArray el (0,0)⟩::X)∧SlS S w0 intsV X a.1.args x.en.args av' av∧SlS S w0 whensV X a.1.ws x.en.ws wv' wv))
 by_cases hk0:x.en.kd=0
 · have hfx:fixOt x.en={x.en with ot:= -1}:=by simp only[fixOt,hk0,if_true]
   refine Ak Tryz.func94 rfl rfl (hi) ?_
   repeat' (first|refine Ag rfl ?_|refine Aj rfl ?_|refine Al ?_|refine An ?_|refine A5 rfl ?_|refine Bp Tryz.func94 rfl (fun w_ hi_=>?_)|refine Ab 0 ?_;try refine Zf Co rfl (Zf Bd rfl (Zv (Ac U111 rfl rfl Y0 Y4) ?_));try((refine wo_blk cd Y7 rfl rfl rfl rfl (by repeat(first|exact hE|apply cd.envC|apply cd.envA)) hs (Out.nf hf) (fun e=>AR Tryz.func94 (by simp only[codeBlk,e,Out.bind]) Y5) (fun s1 e1 L1 hs1=>?_);have hf2:=Out.nf_at hf e1;try dsimp only at hf2)<;>try refine Aa N31 ?_)|refine Bg (id:=1) 6 rfl mixed Y1 ?_;try refine A4 (Ad Co rfl) rfl rfl ?_;try((refine A4 (B5 (cs:= #[.iface cd.it cd.iv]) U113 rfl BB rfl Y0 rfl Y31 (fun j hj=>by(obtain rfl:j=0:=(by(have:j < 1:=hj);omega));rfl)) rfl rfl ?_)<;>try refine A4 (Ai rfl) rfl rfl (A4 (Ah rfl) rfl rfl (A4 (Ad Cv rfl) rfl rfl (A4 (Bm rfl rfl) rfl rfl (Bf ?_))));try((refine wo_callX (L:=L1) (Lx:=Lx) Y7 Y7 Y6 (CallR.val rfl en95) rfl rfl (inss_c cd (l:=x.ins) hE hs1 hG hT' (by rw[c0,hiv]) (by rw[←hiv];exact h0) (hm.imp id (fun h=>h.1)) hsm hl (Out.nf hf2)) (fun e=>AR Tryz.func94 (by simp only[codeBlk,e1,e,Out.bind]) Y5) ?_;rintro⟨ins',s2⟩ e2 v post ⟨rfl,iv',L2,X2,hs2,rfl,hk2⟩;have hf3:=Out.nf_at hf2 e2;try dsimp only at hf3;rw[st0];simp only[List.append_assoc,List.cons_append,List.nil_append];have c1':=c1 iv' x.en;have l9':=l9 iv' x.en)<;>try refine Aa N31 ?_))|refine Ab 2 ?_;try refine Zm rfl (Zv (Ah rfl) (Zf fo70_1 rfl (Zf BY rfl (Zv (Ac U5 rfl rfl Y0 Y4) ?_))));try refine Zv (Ay rfl rfl Y2) ?_;try refine Aa N31 ?_|refine Ab 3 ?_;try refine Zm rfl (Zv (Ah rfl) (Zf fo70_1 rfl (Zf fo68_8 rfl ?_)));try((refine AK rfl rfl rfl sz3 Y3 l9' (.inr (Nat.zero_le _)) rfl rfl ?_;rw[st9,show(endC x.en av wv).set 8 (Value.int .i64 (-1))=endC (fixOt x.en) av wv by rw[hfx];rfl])<;>try refine Aa N31 ?_)|refine Bg (id:=4) 6 rfl mixed Y1 ?_;try refine A4 (AW U117 rfl inf117 rfl Y0 rfl) rfl rfl ?_;try refine A4 (Ai rfl) rfl rfl (A4 (Ah rfl) rfl rfl (A4 (Ad fo70_1 rfl) rfl rfl (A4 (Bq (vs:=[(0,pv b (A.length+1))]) (cs:= #[pv b (A.length+1)]) pl166 inf166 rfl rfl rfl) rfl rfl (A4 (CD U166 rfl rfl) rfl rfl (Bf ?_)))));try((refine wo_callP (L:=L2) Y7 Y6 (CallR.val rfl en97) rfl rfl (hitem iv' (by repeat(first|exact hE|apply cd.envC|apply cd.envA)) hs2 (fun e h=>List.mem_append_right _ h) (Out.nf hf3)) (fun e=>AR Tryz.func94 (by first|simp only[codeBlk,Out.bind,e1,e2,e];done|simp only[codeBlk,Out.bind,e1,e2,hfx,e];done) Y5) ?_;rintro⟨en',s3⟩ e3 v post ⟨rfl,L3,X3,av',wv',hs3,rfl,k3,k4⟩)<;>try refine Aa N31 ?_))
   refine⟨_,Bo (by simp only[codeBlk,Out.bind,e1,e2,e3];rfl) ⟨rfl,L3,X3++X2,iv',av',wv',hs3,rfl,?_,?_,?_⟩,?_⟩
   · exact hk2.up fun e h=>by simp only[List.mem_append] at h ⊢;rcases h with h|h<;>simp[h]
   · exact k3.up fun e h=>List.mem_append_left _ h
   · exact k4.up fun e h=>List.mem_append_left _ h
   · have:=hi_
     simp only[List.append_assoc,List.cons_append,List.nil_append] at this ⊢
     exact this
 · have hfx:fixOt x.en=x.en:=by simp only[fixOt,hk0,if_false]
   rw[hfx] at hitem
   refine Ak Tryz.func94 rfl rfl (hi) ?_
   repeat' (first|refine Ag rfl ?_|refine Aj rfl ?_|refine Al ?_|refine An ?_|refine Az rfl ?_|refine AB ?_|refine Bp Tryz.func94 rfl (fun w_ hi_=>?_)|refine Ab 0 ?_;try refine Zf Co rfl (Zf Bd rfl (Zv (Ac U111 rfl rfl Y0 Y4) ?_));try((refine wo_blk cd Y7 rfl rfl rfl rfl (by repeat(first|exact hE|apply cd.envC|apply cd.envA)) hs (Out.nf hf) (fun e=>AR Tryz.func94 (by simp only[codeBlk,e,Out.bind]) Y5) (fun s1 e1 L1 hs1=>?_);have hf2:=Out.nf_at hf e1;try dsimp only at hf2)<;>try refine Aa N31 ?_)|refine Bg (id:=1) 6 rfl mixed Y1 ?_;try refine A4 (Ad Co rfl) rfl rfl ?_;try((refine A4 (B5 (cs:= #[.iface cd.it cd.iv]) U113 rfl BB rfl Y0 rfl Y31 (fun j hj=>by(obtain rfl:j=0:=(by(have:j < 1:=hj);omega));rfl)) rfl rfl ?_)<;>try refine A4 (Ai rfl) rfl rfl (A4 (Ah rfl) rfl rfl (A4 (Ad Cv rfl) rfl rfl (A4 (Bm rfl rfl) rfl rfl (Bf ?_))));try((refine wo_callX (L:=L1) (Lx:=Lx) Y7 Y7 Y6 (CallR.val rfl en95) rfl rfl (inss_c cd (l:=x.ins) hE hs1 hG hT' (by rw[c0,hiv]) (by rw[←hiv];exact h0) (hm.imp id (fun h=>h.1)) hsm hl (Out.nf hf2)) (fun e=>AR Tryz.func94 (by simp only[codeBlk,e1,e,Out.bind]) Y5) ?_;rintro⟨ins',s2⟩ e2 v post ⟨rfl,iv',L2,X2,hs2,rfl,hk2⟩;have hf3:=Out.nf_at hf2 e2;try dsimp only at hf3;rw[st0];simp only[List.append_assoc,List.cons_append,List.nil_append];have c1':=c1 iv' x.en;rw[hfx] at hf3)<;>try refine Aa N31 ?_))|refine Ab 2 ?_;try refine Zm rfl (Zv (Ah rfl) (Zf fo70_1 rfl (Zf BY rfl (Zv (Ac U5 rfl rfl Y0 Y4) ?_))));try refine Zv (Ay rfl rfl Y2) ?_;try refine Aa N31 ?_|refine Bg (id:=4) 6 rfl mixed Y1 ?_;try refine A4 (AW U117 rfl inf117 rfl Y0 rfl) rfl rfl ?_;try refine A4 (Ai rfl) rfl rfl (A4 (Ah rfl) rfl rfl (A4 (Ad fo70_1 rfl) rfl rfl (A4 (Bq (vs:=[(0,pv b (A.length+1))]) (cs:= #[pv b (A.length+1)]) pl166 inf166 rfl rfl rfl) rfl rfl (A4 (CD U166 rfl rfl) rfl rfl (Bf ?_)))));try((refine wo_callP (L:=L2) Y7 Y6 (CallR.val rfl en97) rfl rfl (hitem iv' (by repeat(first|exact hE|apply cd.envC|apply cd.envA)) hs2 (fun e h=>List.mem_append_right _ h) (Out.nf hf3)) (fun e=>AR Tryz.func94 (by first|simp only[codeBlk,Out.bind,e1,e2,e];done|simp only[codeBlk,Out.bind,e1,e2,hfx,e];done) Y5) ?_;rintro⟨en',s3⟩ e3 v post ⟨rfl,L3,X3,av',wv',hs3,rfl,k3,k4⟩)<;>try refine Aa N31 ?_))
   refine⟨_,Bo (by simp only[codeBlk,Out.bind,e1,e2,hfx,e3];rfl) ⟨rfl,L3,X3++X2,iv',av',wv',hs3,rfl,?_,?_,?_⟩,?_⟩
   · exact hk2.up fun e h=>by simp only[List.mem_append] at h ⊢;rcases h with h|h<;>simp[h]
   · exact k3.up fun e h=>List.mem_append_left _ h
   · exact k4.up fun e h=>List.mem_append_left _ h
   · have:=hi_
     simp only[List.append_assoc,List.cons_append,List.nil_append] at this ⊢
     exact this
end
end Go.Sl
namespace Go.Sl
open Go Go.RowKit Go.Shelf Go.Proofs
attribute [local irreducible] Calls
def regV (l:List Int):List Value:=l.map fun n=>.int .u8 n
def strsV (l:List Bs):List Value:=l.map str
def OwnT {S:Nat→Prop} {w0:World} {σ:Type} (cd:Cod S w0 σ) {α:Type} (V:List α→List Value) (ok:α→Prop) (el:TypeId) (hv:Value) (d r:List α) (s:σ) (L:List Ent):Prop:=
 ∃ Ls,cd.St s Ls∧((d=[]∧r=[]∧L=Ls∧∃a cap,hv=.slice a 0 cap) ∨
  ∃bb cap rst,L=Ls++[⟨bb,true,.cells (V (d++r)++rst).toArray el (0,0)⟩]∧hv=.slice (some ⟨bb,0,none⟩) (d.length+r.length) cap∧d.length+r.length≤cap∧∀x∈r,ok x)
section
variable {S:Nat→Prop} {w0:World} {σ:Type} (cd:Cod S w0 σ) {F:List Ent} {s:σ} {L:List Ent}
theorem OwnT.done {α:Type} {V:List α→List Value} {ok:α→Prop} {el:TypeId} (hV0:V []=[]) {hv:Value} {d:List α} (h:OwnT cd V ok el hv d [] s L):∃Ls X,cd.St s Ls∧L=Ls++X∧SlK S w0 X (V d) d.length hv:=by
 obtain⟨Ls,hs,h⟩:=h
 rcases h with⟨rfl,_,rfl,a,cap,rfl⟩|⟨bb,cap,rst,rfl,rfl,hcap,_⟩
 · exact⟨L,[],hs,by simp,a,cap,rfl,Nat.zero_le _,.inl hV0⟩
 · refine ⟨Ls,_,hs,rfl,?_⟩
   simp only[List.append_nil,List.length_nil,Nat.add_zero] at hcap ⊢
   exact SlK.own hcap
theorem OwnT.ata {α:Type} {V:List α→List Value} {ok:α→Prop} {el:TypeId} {hv:Value} {d:List α} {x:α} {r:List α} (h:OwnT cd V ok el hv d (x::r) s L):∃bb off cp,hv=.slice (some ⟨bb,off,none⟩) (d.length+(r.length+1)) cp:=by
 obtain⟨Ls,hs,h⟩:=h
 rcases h with⟨_,h,_⟩|⟨bb,cap,rst,rfl,rfl,_⟩
 · cases h
 · exact⟨bb,0,cap,rfl⟩
theorem map_set1 {α:Type} (f:α→Value) (d r:List α) (x x':α) (rst:List Value):((d++x::r).map f++rst).toArray.setIfInBounds d.length (f x')=((d++[x']++r).map f++rst).toArray:=by
 rw[List.setIfInBounds_toArray,List.map_append,List.map_cons,List.append_assoc,List.set_append_right _ _ Y26]
 simp
theorem map_get1 {α:Type} (f:α→Value) (d r:List α) (x:α) (rst:List Value):((d++x::r).map f++rst).toArray[d.length]?=some (f x):=by
 rw[List.getElem?_toArray,List.map_append,List.map_cons,List.append_assoc,List.getElem?_append_right Y26]
 simp
theorem rep_map {α:Type} (f:α→Value) (z:α):∀n:Nat,rowV (fun _:Unit=>[f z]) (List.replicate n ())=(List.replicate n z).map f
 | 0=>rfl
 | n+1=>by have:=rep_map f z n;simp only[List.replicate_succ,rowV,List.flatMap_cons,List.map_cons] at this ⊢;rw[this];rfl
variable (hE:cd.env F) (hs:cd.St s L)
include hE hs
theorem regs_c {b o cap0:Nat} {a0:Option Addr} {c:Array Value} {el:TypeId} {l:List Int} {Lx:List Ent} (hc:c[o]?=some (.slice a0 l.length cap0)) (h0:∀s' L',cd.St s' L'→OwnT cd regV (fun n=>0≤n∧n≤255) 5 (.slice a0 l.length cap0) [] l s' (L'++Lx)) (hm:cd.Keep∨l=[]∧Lx=[]) (hsm:cd.Small) (hl:l.length≤65535) (hf:lst cd.κ 2 0 (small cd.κ) l s≠.full):
 SLF Tryz.prog S w0 F 91 [wkV cd,pv b o,.int .i64 2,.func (.func 90) #[wkV cd] #[]] (L++(Lx++[⟨b,true,.cells c el (0,0)⟩])) (MoO (lst cd.κ 2 0 (small cd.κ) l s) fun q v post=>v=unitV∧∃hv Ls X,cd.St q.2 Ls∧post=(Ls++X)++[⟨b,true,.cells (c.setIfInBounds o hv) el (0,0)⟩]∧SlK S w0 X (regV q.1) q.1.length hv):=by
 have :=list_byte_c cd (F:=F) hE hs (b:=b) (el:=el) (sz:=2) hc l rfl 0 (small cd.κ) (.inr (.inl rfl)) (.func (.func 90) #[wkV cd] #[]) 90 (fun p=>[wkV cd,p]) (fun p=>.fn _ _ _ _ _ rfl) en90 (OwnT cd regV (fun n=>0≤n∧n≤255) 5) Lx
  (hm.imp (fun h n' s' e=>h.num _ _ _ _ _ e) id)
  (fun s' L' e h=>h0 s' L' h)
  (fun n s' L' bb e hn h=>⟨L',h,.inr ⟨bb,n,[],by rw[rep_map (fun n=>Value.int .u8 n)];simp[regV],by simp,by simp,fun x hx=>by obtain⟨_,rfl⟩:=List.mem_replicate.1 hx;exact⟨by decide,by decide⟩⟩⟩)
  (fun n' s' e=>hsm _ _ _ _ _ (.inr rfl) hl e) Y9
  (fun hv d x r s L h=>h.ata cd)
  (fun F2 hF2 bb off cp d x r s L h q hq hf=>by
   obtain⟨Ls,hLs,h⟩:=h
   rcases h with⟨_,h,_⟩|⟨bb',cap,rst,rfl,he,hcap,h1⟩
   · cases h
   simp only[Value.slice.injEq,Option.some.injEq,Addr.mk.injEq,and_true] at he
   obtain⟨⟨rfl,rfl⟩,_,rfl⟩:=he
   obtain rfl:q=d.length:=by omega
   have hp:=small_c cd (cd.envU _ _ hF2 hE) hLs (b:=bb) (el:=5) (h1 x (.head _)).1 (h1 x (.head _)).2 (map_get1 (fun n=>Value.int .u8 n) d r x rst) hf
   refine hp.mono fun e post hq2=>BI hq2 id ?_
   rintro⟨n',s'⟩ v p e ⟨rfl,L',hL',rfl⟩
   refine⟨_,e,rfl,L',hL',.inr ⟨bb,cp,rst,?_,by simp[Nat.add_assoc,Nat.add_comm 1],by simp at hcap ⊢;omega,fun y hy=>h1 y (.tail _ hy)⟩⟩
   rw[map_set1 (fun n=>Value.int .u8 n) d r x n' rst];rfl)
  hf
 refine this.mono fun e post h=>BI h id ?_
 rintro⟨l',s'⟩ v p e ⟨rfl,hv,Lr,hT,rfl⟩
 obtain⟨Ls,X,h1,rfl,h2⟩:=hT.done cd rfl
 exact⟨_,e,rfl,hv,Ls,X,h1,rfl,h2⟩
theorem raises_c {b o cap0:Nat} {a0:Option Addr} {c:Array Value} {el:TypeId} {l:List Bs} {Lx:List Ent} (hc:c[o]?=some (.slice a0 l.length cap0)) (h0:∀s' L',cd.St s' L'→OwnT cd strsV (fun _=>True) 9 (.slice a0 l.length cap0) [] l s' (L'++Lx)) (hm:cd.Keep∨l=[]∧Lx=[]) (hsm:cd.Small) (hl:l.length≤65535) (hf:lst cd.κ 1 [] cd.κ.txt l s≠.full):
 SLF Tryz.prog S w0 F 92 [wkV cd,pv b o,.int .i64 1,.func (.method "trestle/code.text") #[.iface cd.it cd.iv] #[]] (L++(Lx++[⟨b,true,.cells c el (0,0)⟩])) (MoO (lst cd.κ 1 [] cd.κ.txt l s) fun q v post=>v=unitV∧∃hv Ls X,cd.St q.2 Ls∧post=(Ls++X)++[⟨b,true,.cells (c.setIfInBounds o hv) el (0,0)⟩]∧SlK S w0 X (strsV q.1) q.1.length hv):=by
 have :=list_text_c cd (F:=F) hE hs (b:=b) (el:=el) (sz:=1) hc l rfl [] cd.κ.txt (.inl rfl) (.func (.method "trestle/code.text") #[.iface cd.it cd.iv] #[]) cd.fT (fun p=>[cd.iv,p]) (fun p=>.met _ _ _ _ _ _ _ cd.mT rfl) cd.eT (OwnT cd strsV (fun _=>True) 9) Lx
  (hm.imp (fun h n' s' e=>h.num _ _ _ _ _ e) id)
  (fun s' L' e h=>h0 s' L' h)
  (fun n s' L' bb e hn h=>⟨L',h,.inr ⟨bb,n,[],by rw[rep_map str];simp[strsV],by simp,by simp,fun x hx=>trivial⟩⟩)
  (fun n' s' e=>hsm _ _ _ _ _ (.inl rfl) hl e) Y9
  (fun hv d x r s L h=>h.ata cd)
  (fun F2 hF2 bb off cp d x r s L h q hq hf=>by
   obtain⟨Ls,hLs,h⟩:=h
   rcases h with⟨_,h,_⟩|⟨bb',cap,rst,rfl,he,hcap,h1⟩
   · cases h
   simp only[Value.slice.injEq,Option.some.injEq,Addr.mk.injEq,and_true] at he
   obtain⟨⟨rfl,rfl⟩,_,rfl⟩:=he
   obtain rfl:q=d.length:=by omega
   have hp:=cd.txt F2 s Ls bb d.length x [⟨bb,true,.cells ((d++x::r).map str++rst).toArray 9 (0,0)⟩] (fun n'=>[⟨bb,true,.cells (((d++x::r).map str++rst).toArray.setIfInBounds d.length (str n')) 9 (0,0)⟩]) (cd.envU _ _ hF2 hE) hLs hf (fun n' s' _=>.own _ _ _ (map_get1 str d r x rst))
   refine hp.mono fun e post hq2=>BI hq2 id ?_
   rintro⟨n',s'⟩ v p e ⟨rfl,L',hL',rfl⟩
   refine⟨_,e,rfl,L',hL',.inr ⟨bb,cp,rst,?_,by simp[Nat.add_assoc,Nat.add_comm 1],by simp at hcap ⊢;omega,fun y hy=>trivial⟩⟩
   simp only
   rw[map_set1 str d r x n' rst];rfl)
  hf
 refine this.mono fun e post h=>BI h id ?_
 rintro⟨l',s'⟩ v p e ⟨rfl,hv,Lr,hT,rfl⟩
 obtain⟨Ls,X,h1,rfl,h2⟩:=hT.done cd rfl
 exact⟨_,e,rfl,hv,Ls,X,h1,rfl,h2⟩
end
structure PB where
 blk:BlkM
 iv:Value
 av:Value
 wv:Value
 row:List Ent
def pbC (p:PB):List Value:=p.iv::endC p.blk.en p.av p.wv
theorem BE (p:PB):(pbC p).length=10:=rfl
section
variable {S:Nat→Prop} {w0:World} {σ:Type} (cd:Cod S w0 σ) {F:List Ent} {s:σ} {L:List Ent}
structure PBok (G:List Ent) (p:PB):Prop where
 iv:∃a cap,p.iv=.slice a p.blk.ins.length cap
 ins:∀s' L',cd.St s' L'→InsT cd G p.iv [] p.blk.ins s' (L'++p.row)
 args:ArgsK S w0 G p.blk.en.args p.av
 whens:WhensK S w0 G p.blk.en.ws p.wv
 mode:cd.Keep∨(p.blk.ins=[]∧p.row=[])∧p.blk.en.args=[]∧p.blk.en.ws=[]
 len:p.blk.ins.length≤65535∧p.blk.en.args.length≤65535∧p.blk.en.ws.length≤65535
 kd:0≤p.blk.en.kd∧p.blk.en.kd≤255
structure PBkn (S:Nat→Prop) (w0:World) (G:List Ent) (p:PB):Prop where
 ins:InsLK S w0 G p.blk.ins p.iv
 args:ArgsK S w0 G p.blk.en.args p.av
 whens:WhensK S w0 G p.blk.en.ws p.wv
theorem PBkn.up {G G':List Ent} {p:PB} (h:PBkn S w0 G p) (hu:∀e∈G,e∈G'):PBkn S w0 G' p:=⟨h.ins.up hu,h.args.up hu,h.whens.up hu⟩
def BlksLK (S:Nat→Prop) (w0:World) (G:List Ent) (l:List BlkM) (hv:Value):Prop:=∃ps:List PB,ps.map PB.blk=l∧SlK S w0 G (rowV pbC ps) l.length hv∧∀p∈ps,PBkn S w0 G p
theorem BlksLK.up {G G':List Ent} {l:List BlkM} {hv:Value} (h:BlksLK S w0 G l hv) (hu:∀e∈G,e∈G'):BlksLK S w0 G' l hv:=by
 obtain⟨ps,h1,h2,h3⟩:=h
 exact⟨ps,h1,h2.up hu,fun p hp=>(h3 p hp).up hu⟩
def BlkT (G:List Ent) (hv:Value) (d r:List BlkM) (s:σ) (L:List Ent):Prop:=
 ∃ Ls X,cd.St s Ls∧((d=[]∧r=[]∧L=Ls∧X=[]∧∃a cap,hv=.slice a 0 cap) ∨
  ∃ bb cap rst,∃dp rp:List PB,L=Ls++(⟨bb,true,.cells (rowV pbC (dp++rp)++rst).toArray 70 (0,0)⟩::(X++rp.flatMap PB.row))∧hv=.slice (some ⟨bb,0,none⟩) (d.length+r.length) cap∧d.length+r.length≤cap∧dp.map PB.blk=d∧rp.map PB.blk=r ∧
   (∀p∈dp,PBkn S w0 (X++G) p)∧∀p∈rp,PBok cd G p)
theorem BlkT.done {hv:Value} {d:List BlkM} (h:BlkT cd F hv d [] s L):∃Ls X,cd.St s Ls∧L=Ls++X∧BlksLK S w0 (X++F) d hv:=by
 obtain⟨Ls,X,hs,h⟩:=h
 rcases h with⟨rfl,_,rfl,rfl,a,cap,rfl⟩|⟨bb,cap,rst,dp,rp,rfl,rfl,hcap,hd,hr,h1,h2⟩
 · exact⟨L,[],hs,by simp,[],rfl,⟨a,cap,rfl,Nat.zero_le _,.inl rfl⟩,fun p hp=>(List.not_mem_nil hp).elim⟩
 · obtain rfl:rp=[]:=by simpa using hr
   refine⟨Ls,_,hs,rfl,dp,hd,?_,fun p hp=>(h1 p hp).up fun e h=>?_⟩
   · simp only[List.append_nil,List.length_nil,Nat.add_zero] at hcap ⊢
     exact SlK.own hcap
   · simp only[List.flatMap_nil,List.append_nil]
     exact .tail _ h
theorem BlkT.ata {hv:Value} {d:List BlkM} {x:BlkM} {r:List BlkM} (h:BlkT cd F hv d (x::r) s L):∃bb off cp,hv=.slice (some ⟨bb,off,none⟩) (d.length+(r.length+1)) cp:=by
 obtain⟨Ls,X,hs,h⟩:=h
 rcases h with⟨_,h,_⟩|⟨bb,cap,rst,dp,rp,rfl,rfl,_⟩
 · cases h
 · exact⟨bb,0,cap,rfl⟩
theorem slf_perm {P:Program} {f:FuncId} {vs:List Value} {pre pre':List Ent} {Q:Ending→List Ent→Prop} (h:SLF P S w0 F f vs pre Q) (hp:pre.Perm pre'):SLF P S w0 F f vs pre' Q:=by
 unfold SLF at *
 exact fun w hi=>h w (hi.perm (hp.symm.append_right F))
variable (hE:cd.env F) (hs:cd.St s L)
include hE hs
theorem blks_c {b o bt mp mq cap0:Nat} {a0:Option Addr} {c:Array Value} {el:TypeId} {l:List BlkM} {Lx G:List Ent} (hG:∀e∈G,e∈F) (hT:TabK cd F bt mp mq) (hc:c[o]?=some (.slice a0 l.length cap0)) (h0:∀s' L',cd.St s' L'→BlkT cd G (.slice a0 l.length cap0) [] l s' (L'++Lx)) (hm:cd.Keep∨l=[]∧Lx=[]) (hsm:cd.Small) (hl:l.length≤65535) (hf:lst cd.κ 2 blk0 (codeBlk cd.κ) l s≠.full):
 SLF Tryz.prog S w0 F 93 [wkV cd,pv b o,.int .i64 2,.func (.func 94) #[] #[pv bt 0]] (L++(Lx++[⟨b,true,.cells c el (0,0)⟩])) (MoO (lst cd.κ 2 blk0 (codeBlk cd.κ) l s) fun q v post=>v=unitV∧∃hv Ls X,cd.St q.2 Ls∧post=(Ls++X)++[⟨b,true,.cells (c.setIfInBounds o hv) el (0,0)⟩]∧BlksLK S w0 (X++G) q.1 hv):=by
 have := list_blk_c cd (F:=F) hE hs (b:=b) (el:=el) (sz:=2) hc l rfl blk0 (codeBlk cd.κ) (.inr (.inl rfl)) (.func (.func 94) #[] #[pv bt 0]) 94 (fun p=>[p,pv bt 0]) (fun p=>.fn _ _ _ _ _ rfl) en94 (BlkT cd G) Lx
  (hm.imp (fun h n' s' e=>h.num _ _ _ _ _ e) id)
  (fun s' L' e h=>h0 s' L' h)
  (fun n s' L' bb e hn h=>⟨L',[],h,.inr ⟨bb,n,[],[],List.replicate n ⟨blk0,.slice none 0 0,.slice none 0 0,.slice none 0 0,[]⟩,by
   have:=rowV_rep pbC ⟨blk0,.slice none 0 0,.slice none 0 0,.slice none 0 0,[]⟩ n
   have h2:∀n:Nat,(List.replicate n (⟨blk0,.slice none 0 0,.slice none 0 0,.slice none 0 0,[]⟩:PB)).flatMap PB.row=[]:=fun n=>by
    rw[List.flatMap_eq_nil_iff];intro p hp;obtain⟨_,rfl⟩:=List.mem_replicate.1 hp;rfl
   simp only[List.nil_append,List.append_nil,h2]
   rw[←this];rfl,by simp,by simp,rfl,by simp,fun p hp=>(List.not_mem_nil hp).elim,fun p hp=>by
   obtain⟨_,rfl⟩:=List.mem_replicate.1 hp
   exact⟨⟨none,0,rfl⟩,fun s' L' h=>⟨L',[],h,.inl ⟨rfl,rfl,by simp,rfl,none,0,rfl,Nat.le_refl _⟩⟩,⟨none,0,rfl,Nat.le_refl _,.inl rfl⟩,⟨none,0,rfl,Nat.le_refl _,.inl rfl⟩,.inr ⟨⟨rfl,rfl⟩,rfl,rfl⟩,⟨by decide,by decide,by decide⟩,⟨by decide,by decide⟩⟩⟩⟩)
  (fun n' s' e=>hsm _ _ _ _ _ (.inr rfl) hl e) Y9
  (fun hv d x r s L h=>h.ata cd)
  (fun F2 hF2 bb off cp d x r s L h q hq hf=>by
   obtain⟨Ls,X,hLs,h⟩:=h
   rcases h with⟨_,h,_⟩|⟨bb',cap,rst,dp,rp,rfl,he,hcap,hd,hr,h1,h2⟩
   · cases h
   simp only[Value.slice.injEq,Option.some.injEq,Addr.mk.injEq,and_true] at he
   obtain⟨⟨rfl,rfl⟩,_,rfl⟩:=he
   obtain ⟨p,rp',rfl,rfl,hr'⟩:∃p rp',rp=p::rp'∧p.blk=x∧rp'.map PB.blk=r:=by
    match rp,hr with
    | p::rp',hr=>simp only[List.map_cons,List.cons.injEq] at hr;exact⟨p,rp',rfl,hr.1,hr.2⟩
   have ok:=h2 p (.head _)
   obtain⟨a1,cap1,hiv⟩:=ok.iv
   have hlen:(rowV pbC dp).length=q:=by rw[Ba pbC BE,hq,←hd];simp
   have hrow:∀p2:PB,rowV pbC (dp++p2::rp')++rst=rowV pbC dp++((p2.iv::endC p2.blk.en p2.av p2.wv)++(rowV pbC rp'++rst)):=fun p2=>by simp[rowV,pbC]
   have hp:=frameO (A:=X++rp'.flatMap PB.row) (flow1_c cd (F:=(X++rp'.flatMap PB.row)++F2) (G:=G) (A:=rowV pbC dp) (B:=rowV pbC rp'++rst) (b:=bb) (el:=70) (Lx:=p.row) (cd.envA (cd.envU _ _ hF2 hE)) hLs (fun e h=>List.mem_append_right _ (hF2 e (hG e h))) (hT.up fun e h=>List.mem_append_right _ (hF2 e h)) hiv ok.ins (ok.args.up fun e h=>List.mem_append_right _ (hF2 e (hG e h))) (ok.whens.up fun e h=>List.mem_append_right _ (hF2 e (hG e h))) ok.mode hsm ok.len.1 ok.len.2.1 ok.len.2.2 ok.kd.1 ok.kd.2 hf)
   rw[hlen,←hrow] at hp
   have hp2:=slf_perm (pre':=Ls++(⟨bb,true,.cells (rowV pbC (dp++p::rp')++rst).toArray 70 (0,0)⟩::(X++(p::rp').flatMap PB.row))) hp (by
    simp only[List.append_assoc,List.flatMap_cons,List.cons_append,List.nil_append]
    exact .append_left _ (List.perm_middle.trans (.cons _ (List.perm_append_comm_assoc _ _ _))))
   refine hp2.mono fun e post hq2=>BI hq2 id ?_
   rintro⟨x',s'⟩ v post e ⟨p3,⟨rfl,L',X',iv',av',wv',hL',rfl,k1,k2,k3⟩,rfl⟩
   refine⟨_,e,rfl,L',X'++X,hL',.inr ⟨bb,cp,rst,dp++[⟨x',iv',av',wv',[]⟩],rp',?_,by simp[Nat.add_assoc,Nat.add_comm 1],by simp at hcap ⊢;omega,by simp[hd],hr',?_,fun p hp=>h2 p (.tail _ hp)⟩⟩
   · have:=hrow ⟨x',iv',av',wv',[]⟩
     simp only at this
     rw[←this]
     simp
   · intro p2 hp2
     rcases List.mem_append.1 hp2 with h|h
     · exact(h1 p2 h).up fun e h=>by rw[List.append_assoc];exact List.mem_append_right _ h
     · obtain rfl:p2=⟨x',iv',av',wv',[]⟩:=by simpa using h
       have hu:∀e∈X'++G,e∈(X'++X)++G:=fun e h=>by
        rcases List.mem_append.1 h with h|h
        · exact List.mem_append_left _ (List.mem_append_left _ h)
        · exact List.mem_append_right _ h
       exact⟨k1.up hu,(k2.kn ok.args).up hu,(k3.kn ok.whens).up hu⟩)
  hf
 refine this.mono fun e post h=>BI h id ?_
 rintro⟨l',s'⟩ v p e ⟨rfl,hv,Lr,hT,rfl⟩
 obtain⟨Ls,X,h1,rfl,h2⟩:=hT.done cd
 exact⟨_,e,rfl,hv,Ls,X,h1,rfl,h2⟩
end
end Go.Sl
namespace Go.Sl
open Go Go.RowKit Go.Shelf Go.Proofs
attribute [local irreducible] Calls
def flowC (x:FlowM) (rv sv bv:Value):Array Value:= #[str x.nm,.int .i64 x.ac,.int .u8 x.res,rv,sv,bv]
section
variable {S:Nat→Prop} {w0:World} {σ:Type} (cd:Cod S w0 σ) {F:List Ent} {s:σ} {L:List Ent} (hE:cd.env F) (hs:cd.St s L)
include hE hs
theorem flow_c {b mp mq cr ct cb:Nat} {ar at_ ab:Option Addr} {x:FlowM} {rv sv bv:Value} {el:TypeId} {Lr Lt Lb G:List Ent} (hG:∀e∈G,e∈F) (hmp:(⟨mp,true,mapBO partTab⟩:Ent)∈F) (hmq:(⟨mq,true,mapBO pieceTab⟩:Ent)∈F)
 (hrv:rv=.slice ar x.regs.length cr) (hr:∀s' L',cd.St s' L'→OwnT cd regV (fun n=>0≤n∧n≤255) 5 rv [] x.regs s' (L'++Lr))
 (hsv:sv=.slice at_ x.raises.length ct) (ht:∀s' L',cd.St s' L'→OwnT cd strsV (fun _=>True) 9 sv [] x.raises s' (L'++Lt))
 (hbv:bv=.slice ab x.blks.length cb) (hb:∀s' L',cd.St s' L'→BlkT cd G bv [] x.blks s' (L'++Lb))
 (hm:cd.Keep∨(x.regs=[]∧Lr=[])∧(x.raises=[]∧Lt=[])∧(x.blks=[]∧Lb=[])) (hsm:cd.Small) (hl:x.regs.length≤65535∧x.raises.length≤65535∧x.blks.length≤65535) (hres:0≤x.res∧x.res≤255) (hf:codeFlow cd.κ x s≠.full):
 SLF Tryz.prog S w0 F 63 [tabV cd mp mq,pv b 0] (L++(Lr++(Lt++(Lb++[⟨b,true,.cells (flowC x rv sv bv) el (0,0)⟩])))) (MoO (codeFlow cd.κ x s) fun a v post=>v=unitV∧∃L' X rv' sv' bv',cd.St a.2 L'∧post=L'++(⟨b,true,.cells (flowC a.1 rv' sv' bv') el (0,0)⟩::X)∧SlK S w0 X (regV a.1.regs) a.1.regs.length rv'∧SlK S w0 X (strsV a.1.raises) a.1.raises.length sv'∧BlksLK S w0 (X++G) a.1.blks bv'):=by
 refine AE fun w hi=>?_
 simp only[List.append_assoc,List.cons_append,List.nil_append] at hi
 have f1:∀(x:FlowM) rv sv bv n,(flowC x rv sv bv).setIfInBounds (0+1) (.int .i64 n)=flowC {x with ac:=n} rv sv bv:=fun _ _ _ _ _=>rfl
 have f2:∀(x:FlowM) rv sv bv n,(flowC x rv sv bv).setIfInBounds (0+2) (.int .u8 n)=flowC {x with res:=n} rv sv bv:=fun _ _ _ _ _=>rfl
 have f3:∀(x:FlowM) rv sv bv n,(flowC x rv sv bv).setIfInBounds (0+3) n=flowC x n sv bv:=fun _ _ _ _ _=>rfl
 have f4:∀(x:FlowM) rv sv bv n,(flowC x rv sv bv).setIfInBounds (0+4) n=flowC x rv n bv:=fun _ _ _ _ _=>rfl
 have f5:∀(x:FlowM) rv sv bv n,(flowC x rv sv bv).setIfInBounds (0+5) n=flowC x rv sv n:=fun _ _ _ _ _=>rfl
 have g3:∀(x:FlowM) rv sv bv,(flowC x rv sv bv)[0+3]?=some rv:=fun _ _ _ _=>rfl
 have g4:∀(x:FlowM) rv sv bv,(flowC x rv sv bv)[0+4]?=some sv:=fun _ _ _ _=>rfl
 have g5:∀(x:FlowM) rv sv bv,(flowC x rv sv bv)[0+5]?=some bv:=fun _ _ _ _=>rfl
 subst hrv hsv hbv
 refine Ak Tryz.func63 rfl rfl (hi) ?_
 repeat' (first|refine Ag rfl ?_|refine Aj rfl ?_|refine Al ?_|refine An ?_|refine Bp Tryz.func63 rfl (fun w_ hi_=>?_)|refine Ab 0 ?_;try refine AL rfl rfl rfl rfl (fun bt hbt=>?_);try refine Aa N3 ?_|refine Bg (id:=1) 8 rfl mixed Y1 ?_;try refine A4 (Ad Co rfl) rfl rfl (A4 (Ad Bd rfl) rfl rfl (A4 (Ac U111 rfl rfl Y0 Y4) rfl rfl ?_));try refine A4 (Ai rfl) rfl rfl (A4 (Ah rfl) rfl rfl (A4 (Ad fo26_1 rfl) rfl rfl (A4 (AX rfl) rfl rfl (A4 (Ai rfl) rfl rfl (Bf ?_)))));try((refine BT cd (sz:=1) Y7 Y6 rfl rfl rfl rfl rfl rfl (by repeat(first|exact hE|apply cd.envC|apply cd.envA)) hs Y9 (Out.nf hf) (fun e=>AR Tryz.func63 (by simp only[codeFlow,e,Out.bind]) Y5) (fun ac' s1 e1 L1 hs1=>?_);have hf2:=Out.nf_at hf e1;try dsimp only at hf2;rw[f1])<;>try refine Aa N3 ?_)|refine Bg (id:=2) 5 rfl mixed Y1 ?_;try refine A4 (Ad Co rfl) rfl rfl ?_;try((refine A4 (B5 (cs:= #[.iface cd.it cd.iv]) U113 rfl BB rfl Y0 rfl Y31 (fun j hj=>by(obtain rfl:j=0:=(by(have:j < 1:=hj);omega));rfl)) rfl rfl ?_)<;>try refine A4 (Ai rfl) rfl rfl (A4 (Ah rfl) rfl rfl (A4 (Ad fo26_2 rfl) rfl rfl (Bf ?_)));try((refine CJ cd (L:=L1) (o:=0+2) (gv:=fun n=>.int .u8 n) Y7 Y6 (CallR.val rfl en90) rfl rfl (small_c cd (by repeat(first|exact hE|apply cd.envC|apply cd.envA)) hs1 hres.1 hres.2 rfl (Out.nf hf2)) (fun e=>AR Tryz.func63 (by simp only[codeFlow,e1,e,Out.bind]) Y5) (fun res' s2 e2 L2 hs2=>?_);have hf3:=Out.nf_at hf2 e2;try dsimp only at hf3;rw[f2])<;>try refine Aa N3 ?_))|refine Bg (id:=3) 8 rfl mixed Y1 ?_;try refine A4 (Ad Co rfl) rfl rfl ?_;try((refine A4 (B5 (cs:= #[.iface cd.it cd.iv]) U113 rfl BB rfl Y0 rfl Y31 (fun j hj=>by(obtain rfl:j=0:=(by(have:j < 1:=hj);omega));rfl)) rfl rfl ?_)<;>try refine A4 (Ai rfl) rfl rfl (A4 (Ah rfl) rfl rfl (A4 (Ad BZ rfl) rfl rfl (A4 (Ad Co rfl) rfl rfl ?_)));try((refine A4 (B5 (cs:= #[.iface cd.it cd.iv]) U113 rfl BB rfl Y0 rfl Y31 (fun j hj=>by(obtain rfl:j=0:=(by(have:j < 1:=hj);omega));rfl)) rfl rfl ?_)<;>try refine A4 (Bm rfl rfl) rfl rfl (Bf ?_);try((refine wo_callX (L:=L2) (Lx:=Lr) Y7 Y7 Y6 (CallR.val rfl en91) rfl rfl (regs_c cd (l:=x.regs) (by repeat(first|exact hE|apply cd.envC|apply cd.envA)) hs2 (g3 _ _ _ _) hr (hm.imp id (fun h=>h.1)) hsm hl.1 (Out.nf hf3)) (fun e=>AR Tryz.func63 (by simp only[codeFlow,e1,e2,e,Out.bind]) Y5) ?_;rintro⟨regs',s3⟩ e3 v post ⟨rfl,rv',L3,X1,hs3,rfl,k1⟩;have hf4:=Out.nf_at hf3 e3;try dsimp only at hf4;rw[f3];simp only[List.append_assoc,List.cons_append,List.nil_append])<;>try refine Aa N3 ?_)))|refine Bg (id:=4) 10 rfl mixed Y1 ?_;try refine A4 (Ad Co rfl) rfl rfl ?_;try((refine A4 (B5 (cs:= #[.iface cd.it cd.iv]) U113 rfl BB rfl Y0 rfl Y31 (fun j hj=>by(obtain rfl:j=0:=(by(have:j < 1:=hj);omega));rfl)) rfl rfl ?_)<;>try refine A4 (Ai rfl) rfl rfl (A4 (Ah rfl) rfl rfl (A4 (Ad Cd rfl) rfl rfl (A4 (Ad Co rfl) rfl rfl (A4 (Ad Bd rfl) rfl rfl (A4 (Ac U111 rfl rfl Y0 Y4) rfl rfl ?_)))));try refine A4 (AX rfl) rfl rfl (A4 (Bm rfl rfl) rfl rfl (Bf ?_));try((refine wo_callX (L:=L3) (Lx:=Lt) Y7 Y7 Y6 (CallR.val rfl en92) rfl rfl (raises_c cd (l:=x.raises) (by repeat(first|exact hE|apply cd.envC|apply cd.envA)) hs3 (g4 _ _ _ _) ht (hm.imp id (fun h=>h.2.1)) hsm hl.2.1 (Out.nf hf4)) (fun e=>AR Tryz.func63 (by simp only[codeFlow,e1,e2,e3,e,Out.bind]) Y5) ?_;rintro⟨raises',s4⟩ e4 v post ⟨rfl,sv',L4,X2,hs4,rfl,k2⟩;have hf5:=Out.nf_at hf4 e4;try dsimp only at hf5;rw[f4];simp only[List.append_assoc,List.cons_append,List.nil_append])<;>try refine Aa N3 ?_))|refine Bg (id:=5) 6 rfl mixed Y1 ?_;try refine A4 (Ad Co rfl) rfl rfl ?_;try((refine A4 (B5 (cs:= #[.iface cd.it cd.iv]) U113 rfl BB rfl Y0 rfl Y31 (fun j hj=>by(obtain rfl:j=0:=(by(have:j < 1:=hj);omega));rfl)) rfl rfl ?_)<;>try refine A4 (Ai rfl) rfl rfl (A4 (Ah rfl) rfl rfl (A4 (Ad Bz rfl) rfl rfl (A4 (Bm rfl rfl) rfl rfl (Bf ?_))));try((refine wo_callX (L:=L4) (Lx:=Lb) Y7 Y7 Y6 (CallR.val rfl en93) rfl rfl (blks_c cd (l:=x.blks) (mp:=mp) (mq:=mq) (by repeat(first|exact hE|apply cd.envC|apply cd.envA)) hs4 (fun e h=>List.mem_append_right _ (List.mem_append_right _ (.tail _ (hG e h)))) ⟨⟨_,_,Y0⟩,Y0,Y0⟩ (g5 _ _ _ _) hb (hm.imp id (fun h=>h.2.2)) hsm hl.2.2 (Out.nf hf5)) (fun e=>AR Tryz.func63 (by simp only[codeFlow,e1,e2,e3,e4,e,Out.bind]) Y5) ?_;rintro⟨blks',s5⟩ e5 v post ⟨rfl,bv',L5,X3,hs5,rfl,k3⟩;rw[f5])<;>try refine Aa N3 ?_)))
 refine⟨_,Bo (by simp only[codeFlow,Out.bind,e1,e2,e3,e4,e5];rfl) ⟨rfl,L5,X3++(X2++(X1++[⟨bt,true,.cells (tabV cd mp mq).cells 117 (0,0)⟩])),rv',sv',bv',hs5,rfl,?_,?_,?_⟩,?_⟩
 · exact k1.up fun e h=>List.mem_append_right _ (List.mem_append_right _ (List.mem_append_left _ h))
 · exact k2.up fun e h=>List.mem_append_right _ (List.mem_append_left _ h)
 · exact k3.up fun e h=>by
    rcases List.mem_append.1 h with h|h
    · exact List.mem_append_left _ (List.mem_append_left _ h)
    · exact List.mem_append_right _ h
 · have:=hi_
   simp only[List.append_assoc,List.cons_append,List.nil_append] at this ⊢
   exact this.perm (.append_left _ List.perm_middle)
end
end Go.Sl
