/- Of the proof that this claim's last text ends. -/
import Derived.Shelf.LaysM
import Derived.Shelf.Strconv.Itoa3
import Derived.Test.YtnfpoclhmidpgaaGreatDoorProg
import Derived.Test.YtnfpoclhmidpgaaGreatDoorR3
set_option maxRecDepth 100000
set_option maxHeartbeats 8000000
set_option linter.unusedSimpArgs false
set_option linter.unusedVariables false
namespace Go.Sl
structure RS (τ:Type) where
 read:Nat
 places:List (Int×Int×Bs)
 blocks:List Int
 st:τ
def beV (l:Bs):Int:=l.foldl (fun n c=>n*256+(c.toNat:Int)) 0
def numV (sz:Nat) (v:Int):Int:=if sz=2∧v=65535 then -1 else if sz=4∧2147483648≤v then v - 4294967296 else v
def rKd {τ:Type} (b:Bs) (ν:Int→Int→τ→Bs×τ):Kd (RS τ) where
 num _ sz s:=if s.read+sz≤b.length then .ok (numV sz (beV ((b.drop s.read).take sz)),{s with read:=s.read+sz}) else .bad
 txt _ s:=if s.read+1≤b.length then (if s.read+1+(beV ((b.drop s.read).take 1)).toNat≤b.length then .ok ((b.drop (s.read+1)).take (beV ((b.drop s.read).take 1)).toNat,{s with read:=s.read+1+(beV ((b.drop s.read).take 1)).toNat}) else .bad) else .bad
 ref _ q s:=if s.places.length < maxB then (if s.read+2≤b.length then .ok ((ν q (beV ((b.drop s.read).take 2)) s.st).1,{read:=s.read+2,places:=s.places++[((s.read:Int),q,[])],blocks:=s.blocks,st:=(ν q (beV ((b.drop s.read).take 2)) s.st).2}) else .bad) else .full
 blk s:=if s.blocks.length < maxB then .ok {s with blocks:=s.blocks++[(s.read:Int)]} else .full
def rawN:Int→Int→Unit→Bs×Unit:=fun _ n _=>(be 2 n,())
abbrev rawKd (b:Bs):Kd (RS Unit):=rKd b rawN
def rawOf1:Seg→Bs
 | .lit b=>b
 | .ref _ nm=>nm
 | .blk=>[]
def rawOf (l:List Seg):Bs:=l.flatMap rawOf1
def adv1 (s:RS Unit):Seg→RS Unit
 | .lit b=>{s with read:=s.read+b.length}
 | .ref q nm=>{s with read:=s.read+2,places:=s.places++[((s.read:Int),q,[])]}
 | .blk=>{s with blocks:=s.blocks++[(s.read:Int)]}
def adv (l:List Seg) (s:RS Unit):RS Unit:=l.foldl adv1 s
theorem adv_app (l m:List Seg) (s:RS Unit):adv (l++m) s=adv m (adv l s):=List.foldl_append
theorem rawOf_app (l m:List Seg):rawOf (l++m)=rawOf l++rawOf m:=List.flatMap_append
theorem beV1 (a:UInt8):beV [a]=a.toNat:=by simp[beV]
theorem beV2 (a b:UInt8):beV [a,b]=a.toNat*256+b.toNat:=by simp[beV]
theorem beV4 (a b c d:UInt8):beV [a,b,c,d]=((a.toNat*256+b.toNat)*256+c.toNat)*256+d.toNat:=by simp[beV]
theorem beB0 (n:Int):beB n 0=n % 256:=by
 unfold beB;rw[show(2:Int) ^ (min (8*0) 64)=1 by decide,Int.fdiv_one]
theorem beB1 (n:Int):beB n 1=n / 256 % 256:=by
 unfold beB;rw[show(2:Int) ^ (min (8*1) 64)=256 by decide,Int.fdiv_eq_ediv_of_nonneg _ Y22]
theorem beB2 (n:Int):beB n 2=n / 65536 % 256:=by
 unfold beB;rw[show(2:Int) ^ (min (8*2) 64)=65536 by decide,Int.fdiv_eq_ediv_of_nonneg _ Y22]
theorem beB3 (n:Int):beB n 3=n / 16777216 % 256:=by
 unfold beB;rw[show(2:Int) ^ (min (8*3) 64)=16777216 by decide,Int.fdiv_eq_ediv_of_nonneg _ Y22]
theorem be1 (n:Int):be 1 n=[UInt8.ofNat (n % 256).toNat]:=by simp[be,List.range_succ,beB0]
theorem be2 (n:Int):be 2 n=[UInt8.ofNat (n / 256 % 256).toNat,UInt8.ofNat (n % 256).toNat]:=by simp[be,List.range_succ,beB0,beB1]
theorem be4 (n:Int):be 4 n=[UInt8.ofNat (n / 16777216 % 256).toNat,UInt8.ofNat (n / 65536 % 256).toNat,UInt8.ofNat (n / 256 % 256).toNat,UInt8.ofNat (n % 256).toNat]:=by simp[be,List.range_succ,beB0,beB1,beB2,beB3]
theorem u8n (n:Nat) (h:n < 256):(UInt8.ofNat n).toNat=n:=by rw[UInt8.toNat_ofNat'];omega
theorem u8o (c:UInt8) {n:Nat} (h:n=c.toNat):UInt8.ofNat n=c:=by
 subst h
 exact UInt8.toNat_inj.1 (by rw[u8n _ c.toNat_lt])
theorem len_two {α:Type} {l:List α} (h:l.length=2):∃a b,l=[a,b]:=by
 match l,h with
 | [a,b],_=>exact⟨a,b,rfl⟩
def fits (sz:Nat) (n:Int):Prop:=if sz=1 then 0≤n∧n≤255 else if sz=2 then -1≤n∧n≤65534 else -2147483648≤n∧n≤2147483647
theorem num_back {sz:Nat} (hsz:sz=1∨sz=2∨sz=4) {n:Int} (h:fits sz n):numV sz (beV (be sz n))=n:=by
 rcases hsz with rfl|rfl|rfl
 · simp only[fits,if_true] at h
   rw[be1,beV1,u8n _ Y9]
   simp[numV];omega
 · simp [fits] at h
   rw[be2,beV2,u8n _ Y9,u8n _ Y9]
   unfold numV
   split
   · omega
   · simp;omega
 · simp [fits] at h
   rw[be4,beV4,u8n _ Y9,u8n _ Y9,u8n _ Y9,u8n _ Y9]
   unfold numV
   simp
   split<;>omega
theorem be_back {sz:Nat} (hsz:sz=1∨sz=2∨sz=4) {l:Bs} (h:l.length=sz):be sz (numV sz (beV l))=l:=by
 rcases hsz with rfl|rfl|rfl
 · obtain ⟨a,rfl⟩:=List.length_eq_one_iff.1 h
   have:=a.toNat_lt
   rw[beV1,be1,show numV 1 (a.toNat:Int)=a.toNat from rfl,u8o a Y9]
 · obtain ⟨a,b,rfl⟩:=len_two h
   have:=a.toNat_lt
   have:=b.toNat_lt
   rw[beV2,be2]
   unfold numV
   split
   · rename_i h1
     rw[u8o a Y9,u8o b Y9]
   · rw[if_neg Y9,u8o a Y9,u8o b Y9]
 · obtain ⟨a,b,c,d,rfl⟩:∃a b c d,l=[a,b,c,d]:=by
    match l,h with
    | [a,b,c,d],_=>exact⟨a,b,c,d,rfl⟩
   have:=a.toNat_lt
   have:=b.toNat_lt
   have:=c.toNat_lt
   have:=d.toNat_lt
   rw[beV4,be4]
   unfold numV
   rw[if_neg Y9]
   split
   · rw[u8o a Y9,u8o b Y9,u8o c Y9,u8o d Y9]
   · rw[u8o a Y9,u8o b Y9,u8o c Y9,u8o d Y9]
theorem raw_back {l:Bs} (h:l.length=2):be 2 (beV l)=l:=by
 obtain⟨a,b,rfl⟩:=len_two h
 have:=a.toNat_lt
 have:=b.toNat_lt
 rw[beV2,be2,u8o a Y9,u8o b Y9]
section
variable (b:Bs)
def Rd (l:List Seg) (s s':RS Unit):Prop:=s'=adv l s∧(s.read≤b.length→s'.read≤b.length∧rawOf l++b.drop s'.read=b.drop s.read)
variable {b}
theorem Rd.nil (s:RS Unit):Rd b [] s s:=⟨rfl,fun h=>⟨h,rfl⟩⟩
theorem Rd.app {l m:List Seg} {s s' s2:RS Unit} (h:Rd b l s s') (h2:Rd b m s' s2):Rd b (l++m) s s2:=by
 refine⟨by rw[adv_app,←h.1,h2.1],fun hs=>?_⟩
 have h3:=h.2 hs
 have h4:=h2.2 h3.1
 exact⟨h4.1,by rw[rawOf_app,List.append_assoc,h4.2,h3.2]⟩
theorem drop_take (s n:Nat):(b.drop s).take n++b.drop (s+n)=b.drop s:=by
 rw[←List.drop_drop,List.take_append_drop]
theorem C2 {s n:Nat} (h:s+n≤b.length):((b.drop s).take n).length=n:=by simp;omega
theorem rd_num {n0 n:Int} {sz:Nat} (hsz:sz=1∨sz=2∨sz=4) {s s':RS Unit} (h:(rawKd b).num n0 sz s=.ok (n,s')):Rd b (sgN sz n) s s':=by
 simp only[rKd] at h
 split at h
 · rename_i h1
   cases h
   refine⟨by simp[adv,adv1,sgN,Cp],fun _=>⟨h1,?_⟩⟩
   simp only[sgN,rawOf,List.flatMap_cons,rawOf1,List.flatMap_nil,List.append_nil]
   rw[be_back hsz (C2 h1),drop_take]
 · cases h
theorem rd_txt {n0 n:Bs} {s s':RS Unit} (h:(rawKd b).txt n0 s=.ok (n,s')):Rd b (sgT n) s s'∧n.length≤255:=by
 simp only[rKd] at h
 split at h
 · rename_i h1
   split at h
   · rename_i h2
     obtain⟨a,ha⟩:=List.length_eq_one_iff.1 (C2 h1)
     have e:beV ((b.drop s.read).take 1)=a.toNat:=by rw[ha,beV1]
     rw[e] at h h2
     simp only[Int.toNat_natCast] at h h2
     cases h
     have hl:=C2 (b:=b) (s:=s.read+1) (n:=a.toNat) Y9
     have:=a.toNat_lt
     refine⟨⟨?_,fun _=>⟨h2,?_⟩⟩,by omega⟩
     · simp only[sgT,hl]
       simp[adv,adv1,Cp];omega
     · simp only[sgT,rawOf,List.flatMap_cons,rawOf1,List.flatMap_nil,List.append_nil,hl]
       rw[List.append_assoc,drop_take,be1,u8o a Y9,←ha,drop_take]
   · cases h
 · cases h
theorem rd_ref {n0 n:Bs} {q:Int} {s s':RS Unit} (h:(rawKd b).ref n0 q s=.ok (n,s')):Rd b [.ref q n] s s':=by
 simp only[rKd] at h
 split at h
 · split at h
   · rename_i h1
     cases h
     refine⟨by simp[adv,adv1],fun _=>⟨h1,?_⟩⟩
     simp only[rawOf,List.flatMap_cons,rawOf1,List.flatMap_nil,List.append_nil,rawN]
     rw[raw_back (C2 h1),drop_take]
   · cases h
 · cases h
theorem rd_blk {s s':RS Unit} (h:(rawKd b).blk s=.ok s'):Rd b [.blk] s s':=by
 simp only[rKd] at h
 split at h
 · cases h
   exact⟨by simp[adv,adv1],fun h=>⟨h,by simp[rawOf,rawOf1]⟩⟩
 · cases h
theorem rd_small {p0 p:Int} {s s':RS Unit} (h:small (rawKd b) p0 s=.ok (p,s')):Rd b (sgN 1 p) s s'∧0≤p∧p≤255:=by
 obtain⟨r,h1,h2⟩:=Out.bind_ok h
 cases h2
 have h3:=rd_num (.inl rfl) h1
 have e:be 1 (r.1 % 256)=be 1 r.1:=by rw[be1,be1];congr 2;omega
 refine⟨?_,by omega,by omega⟩
 simp only[sgN,e]
 exact h3
inductive FI|to|a|b|lo|hi|nm|args
 deriving DecidableEq
def fieldI:LI→FI
 | .to=>.to|.a=>.a|.b=>.b|.lo=>.lo|.hi=>.hi|.one=>.args|.sh=>.nm|.fi=>.nm|.me=>.nm|.gl=>.nm
inductive FE|to|el|a|b|nm|args|ws
 deriving DecidableEq
def fieldE:LJ→FE
 | .target=>.to|.other=>.el|.first=>.a|.second=>.b|.code=>.a|.raised=>.nm|.called=>.nm|.asked=>.nm|.given=>.args|.handlers=>.ws
theorem formI_fields {op:Int} {ls:List LI} (h:formI op=some ls):(ls.map fieldI).Nodup:=by
 have h1:=formI_some h
 simp only[opsL,List.mem_cons,List.not_mem_nil,or_false] at h1
 rcases h1 with rfl|rfl|rfl|rfl|rfl|rfl|rfl|rfl|rfl|rfl|rfl|rfl|rfl|rfl|rfl|rfl|rfl|rfl|rfl|rfl|rfl|rfl|rfl|rfl|rfl|rfl|rfl|rfl|rfl|rfl|rfl|rfl|rfl|rfl<;>(cases h;decide)
theorem formE_kd {kd:Int} {ls:List LJ} (h:formE kd=some ls):kd=1∨kd=2∨kd=3∨kd=4∨kd=5∨kd=6∨kd=7∨kd=8∨kd=9:=by
 refine Decidable.byContradiction fun hn=>?_
 simp only[not_or] at hn
 simp[formE,hn] at h
theorem formE_fields {kd:Int} {ls:List LJ} (h:formE kd=some ls):(ls.map fieldE).Nodup:=by
 rcases formE_kd h with rfl|rfl|rfl|rfl|rfl|rfl|rfl|rfl|rfl<;>(cases h;decide)
theorem ltI_other {σ:Type} {κ:Kd σ} {l l':LI} {x x':InsM} {s s':σ} (hne:fieldI l≠fieldI l') (h:ltI κ l' x s=.ok (x',s')):sgLI l x'=sgLI l x:=by
 cases l'<;>(obtain⟨r,_,h2⟩:=Out.bind_ok h;cases h2;cases l<;>first|rfl|exact absurd rfl hne)
theorem ltI_op {σ:Type} {κ:Kd σ} {l':LI} {x x':InsM} {s s':σ} (h:ltI κ l' x s=.ok (x',s')):x'.op=x.op:=by
 cases l'<;>(obtain⟨r,_,h2⟩:=Out.bind_ok h;cases h2;rfl)
theorem ltE_other {σ:Type} {κ:Kd σ} {l l':LJ} {x x':EndM} {s s':σ} (hne:fieldE l≠fieldE l') (h:ltE κ l' x s=.ok (x',s')):sgLJ l x'=sgLJ l x:=by
 cases l' with
 | handlers=>
   obtain⟨r,_,h2⟩:=Out.bind_ok h
   obtain⟨r2,_,h3⟩:=Out.bind_ok h2
   cases h3;cases l<;>first|rfl|exact absurd rfl hne
 | _=>obtain⟨r,_,h2⟩:=Out.bind_ok h;cases h2;cases l<;>first|rfl|exact absurd rfl hne
theorem ltE_kd {σ:Type} {κ:Kd σ} {l':LJ} {x x':EndM} {s s':σ} (h:ltE κ l' x s=.ok (x',s')):x'.kd=x.kd:=by
 cases l' with
 | handlers=>
   obtain⟨r,_,h2⟩:=Out.bind_ok h
   obtain⟨r2,_,h3⟩:=Out.bind_ok h2
   cases h3;rfl
 | _=>obtain⟨r,_,h2⟩:=Out.bind_ok h;cases h2;rfl
theorem rd_ltI {l:LI} {x x':InsM} {s s':RS Unit} (h:ltI (rawKd b) l x s=.ok (x',s')):Rd b (sgLI l x') s s':=by
 cases l<;>(obtain⟨r,h1,h2⟩:=Out.bind_ok h;cases h2;first|exact rd_num Y9 h1|exact rd_ref h1)
theorem rd_runs {α β φ:Type} [DecidableEq φ] {step:β→α→RS Unit→Out (α×RS Unit)} {g:β→α→List Seg} {fld:β→φ} (h1:∀l x s x' s',step l x s=.ok (x',s')→Rd b (g l x') s s') (h2:∀l l' x s x' s',fld l≠fld l'→step l' x s=.ok (x',s')→g l x'=g l x):
 ∀(ls:List β) (x:α) (s:RS Unit) (x':α) (s':RS Unit),(ls.map fld).Nodup→runs step ls x s=.ok (x',s')→Rd b (ls.flatMap fun l=>g l x') s s'∧∀l,fld l∉ls.map fld→g l x'=g l x
 | [],x,s,x',s',_,h=>by cases h;exact⟨Rd.nil _,fun _ _=>rfl⟩
 | l :: r,x,s,x',s',hd,h=>by
   obtain⟨⟨x1,s1⟩,h3,h4⟩:=Out.bind_ok h
   have hd:=List.nodup_cons.1 hd
   obtain⟨k1,k2⟩:=rd_runs h1 h2 r x1 s1 x' s' hd.2 h4
   refine⟨?_,fun m hm=>?_⟩
   · rw [List.flatMap_cons,k2 l hd.1]
     exact(h1 _ _ _ _ _ h3).app k1
   · simp only[List.map_cons,List.mem_cons,not_or] at hm
     rw[k2 m hm.2,h2 m l _ _ _ _ hm.1 h3]
theorem runs_inv {σ α β γ:Type} {step:β→α→σ→Out (α×σ)} (p:α→γ) (h:∀l x s x' s',step l x s=.ok (x',s')→p x'=p x):∀(ls:List β) (x:α) (s:σ) (x':α) (s':σ),runs step ls x s=.ok (x',s')→p x'=p x
 | [],x,s,x',s',e=>by cases e;rfl
 | l :: r,x,s,x',s',e=>by
   obtain⟨⟨x1,s1⟩,h3,h4⟩:=Out.bind_ok e
   rw[runs_inv p h r _ _ _ _ h4,h _ _ _ _ _ h3]
theorem rd_ins {x x':InsM} {s s':RS Unit} (h:codeIns (rawKd b) x s=.ok (x',s')):Rd b (sgIns x') s s':=by
 obtain⟨⟨op,s1⟩,h1,h2⟩:=Out.bind_ok h
 dsimp only at h2
 cases hf:formI op with
 | none=>rw[hf] at h2;cases h2
 | some ls=>
   rw[hf] at h2
   have ho:=runs_inv (fun x:InsM=>x.op) (fun l x s x' s' e=>ltI_op e) ls _ _ _ _ h2
   dsimp only at ho
   have:=(rd_runs (b:=b) (g:=fun l x=>sgLI l x) (fld:=fieldI) (fun l x s x' s' e=>rd_ltI e) (fun l l' x s x' s' hn e=>ltI_other hn e) ls _ _ _ _ (formI_fields hf) h2).1
   unfold sgIns
   rw[ho,hf]
   exact(rd_small h1).1.app this
theorem rd_iter {α:Type} {step:α→RS Unit→Out (α×RS Unit)} {g:α→List Seg} (h1:∀x s x' s',step x s=.ok (x',s')→Rd b (g x') s s'):∀(l:List α) (s:RS Unit) (l':List α) (s':RS Unit),iter step l s=.ok (l',s')→Rd b (l'.flatMap g) s s'
 | [],s,l',s',e=>by cases e;exact Rd.nil _
 | x :: r,s,l',s',e=>by
   obtain⟨q,h3,e⟩:=Out.bind_ok e
   obtain⟨q2,h4,e⟩:=Out.bind_ok e
   cases e
   exact(h1 _ _ _ _ h3).app (rd_iter h1 r _ _ _ h4)
theorem rd_lst {α:Type} {sz:Nat} (hsz:sz=1∨sz=2∨sz=4) {z:α} {step:α→RS Unit→Out (α×RS Unit)} {g:α→List Seg} (h1:∀x s x' s',step x s=.ok (x',s')→Rd b (g x') s s') {l l':List α} {s s':RS Unit} (h:lst (rawKd b) sz z step l s=.ok (l',s')):Rd b (sgL sz g l') s s':=by
 obtain⟨⟨n,s1⟩,h2,h3⟩:=Out.bind_ok h
 dsimp only at h3
 split at h3
 · cases h3
 · have hl:=iter_len _ _ _ _ _ h3
   have hn:(l'.length:Int)=n:=by
    rw[hl]
    split
    · rename_i e;rw[e]
    · simp;omega
   unfold sgL
   rw[hn]
   exact(rd_num hsz h2).app (rd_iter h1 _ _ _ _ h3)
theorem rd_when {w w':Bs×Int} {s s':RS Unit} (h:codeWhen (rawKd b) w s=.ok (w',s')):Rd b (sgWhen w') s s':=by
 obtain⟨r,h1,h2⟩:=Out.bind_ok h
 obtain⟨r2,h3,h4⟩:=Out.bind_ok h2
 cases h4
 exact(rd_txt h1).1.app (rd_num Y9 h3)
theorem rd_ltE {l:LJ} {x x':EndM} {s s':RS Unit} (h:ltE (rawKd b) l x s=.ok (x',s')):Rd b (sgLJ l x') s s':=by
 cases l with
 | handlers=>
   obtain⟨r,h1,h2⟩:=Out.bind_ok h
   obtain⟨r2,h3,h4⟩:=Out.bind_ok h2
   cases h4
   exact(rd_lst Y9 (fun _ _ _ _ e=>rd_when e) h1).app (rd_num Y9 h3)
 | given=>
   obtain⟨r,h1,h2⟩:=Out.bind_ok h
   cases h2
   exact rd_lst Y9 (fun _ _ _ _ e=>rd_num Y9 e) h1
 | _=>obtain⟨r,h1,h2⟩:=Out.bind_ok h;cases h2;first|exact rd_num Y9 h1|exact rd_ref h1|exact(rd_txt h1).1
theorem rd_end {x x':EndM} {s s':RS Unit} (h:codeEnd (rawKd b) x s=.ok (x',s')):Rd b (sgEnd x') s s':=by
 obtain⟨⟨kd,s1⟩,h1,h2⟩:=Out.bind_ok h
 dsimp only at h2
 cases hf:formE kd with
 | none=>rw[hf] at h2;cases h2
 | some ls=>
   rw[hf] at h2
   have ho:=runs_inv (fun x:EndM=>x.kd) (fun l x s x' s' e=>ltE_kd e) ls _ _ _ _ h2
   dsimp only at ho
   have:=(rd_runs (b:=b) (g:=fun l x=>sgLJ l x) (fld:=fieldE) (fun l x s x' s' e=>rd_ltE e) (fun l l' x s x' s' hn e=>ltE_other hn e) ls _ _ _ _ (formE_fields hf) h2).1
   unfold sgEnd
   rw[ho,hf]
   exact(rd_small h1).1.app this
theorem rd_blkm {x x':BlkM} {s s':RS Unit} (h:codeBlk (rawKd b) x s=.ok (x',s')):Rd b (sgBlk x') s s':=by
 obtain⟨s1,h1,h2⟩:=Out.bind_ok h
 obtain⟨r,h3,h4⟩:=Out.bind_ok h2
 obtain⟨r2,h5,h6⟩:=Out.bind_ok h4
 cases h6
 exact(rd_blk h1).app ((rd_lst Y9 (fun _ _ _ _ e=>rd_ins e) h3).app (rd_end h5))
theorem rd_flow {x x':FlowM} {s s':RS Unit} (h:codeFlow (rawKd b) x s=.ok (x',s')):Rd b (sgFlow x') s s':=by
 obtain⟨r1,h1,h⟩:=Out.bind_ok h
 obtain⟨r2,h2,h⟩:=Out.bind_ok h
 obtain⟨r3,h3,h⟩:=Out.bind_ok h
 obtain⟨r4,h4,h⟩:=Out.bind_ok h
 obtain⟨r5,h5,h⟩:=Out.bind_ok h
 cases h
 exact(rd_num Y9 h1).app ((rd_small h2).1.app ((rd_lst Y9 (fun _ _ _ _ e=>(rd_small e).1) h3).app ((rd_lst Y9 (fun _ _ _ _ e=>(rd_txt e).1) h4).app (rd_lst Y9 (fun _ _ _ _ e=>rd_blkm e) h5))))
end
end Go.Sl
namespace Go.Sl
def cnt (l:List Seg):Nat:=l.countP fun s=>match s with|.lit _=>false|_=>true
theorem cnt_app (l m:List Seg):cnt (l++m)=cnt l+cnt m:=List.countP_append
theorem adv_cnt (l:List Seg):∀s:RS Unit,(adv l s).places.length+(adv l s).blocks.length=s.places.length+s.blocks.length+cnt l:=by
 induction l with
 | nil=>intro s;rfl
 | cons a l ih=>
   intro s
   show(adv l (adv1 s a)).places.length+(adv l (adv1 s a)).blocks.length=_
   rw[ih]
   cases a<;>simp[adv1,cnt,List.countP_cons]<;>omega
section
variable (b:Bs)
def Bk {α:Type} (c:RS Unit→Out (α×RS Unit)) (x:α) (l:List Seg):Prop:=
 ∀s rest,s.read≤b.length→b.drop s.read=rawOf l++rest→s.places.length+s.blocks.length+cnt l≤maxB→c s=.ok (x,adv l s)∧(adv l s).read≤b.length∧b.drop (adv l s).read=rest
variable {b}
theorem Bk.bind {α β:Type} {c:RS Unit→Out (α×RS Unit)} {d:α×RS Unit→Out (β×RS Unit)} {x:α} {y:β} {l m:List Seg} (h:Bk b c x l) (h2:Bk b (fun s=>d (x,s)) y m):Bk b (fun s=>(c s).bind d) y (l++m):=by
 intro s rest hs hd hc
 rw[rawOf_app,List.append_assoc] at hd
 rw[cnt_app] at hc
 obtain⟨k1,k2,k3⟩:=h s _ hs hd Y9
 have ha:=adv_cnt l s
 obtain⟨k4,k5,k6⟩:=h2 (adv l s) rest k2 k3 Y9
 refine⟨?_,by rw[adv_app];exact k5,by rw[adv_app];exact k6⟩
 dsimp only at k4 ⊢
 rw[k1,Out.ok_bind,k4,adv_app]
theorem Bk.map {α β:Type} {c:RS Unit→Out (α×RS Unit)} {x:α} {y:β} {l:List Seg} (h:Bk b c x l) (f:α×RS Unit→β) (hf:∀s,f (x,s)=y):Bk b (fun s=>(c s).bind fun r=>.ok (f r,r.2)) y l:=by
 intro s rest hs hd hc
 obtain⟨k1,k2⟩:=h s _ hs hd hc
 exact⟨by dsimp only;rw[k1,Out.ok_bind,hf],k2⟩
theorem Bk.nil {α:Type} (x:α):Bk b (fun s=>.ok (x,s)) x []:=fun s rest hs hd _=>⟨rfl,hs,hd⟩
theorem drop_of {s:Nat} {l rest:Bs} (hs:s≤b.length) (hd:b.drop s=l++rest):s+l.length≤b.length∧(b.drop s).take l.length=l∧b.drop (s+l.length)=rest:=by
 have h1:=congrArg List.length hd
 simp at h1
 refine⟨by omega,by rw[hd];simp,by rw[←List.drop_drop,hd];simp⟩
theorem CP {n0 n:Int} {sz:Nat} (hsz:sz=1∨sz=2∨sz=4) (hf:fits sz n):Bk b ((rawKd b).num n0 sz) n (sgN sz n):=by
 intro s rest hs hd hc
 simp only[sgN,rawOf,List.flatMap_cons,rawOf1,List.flatMap_nil,List.append_nil] at hd
 obtain⟨h1,h2,h3⟩:=drop_of hs hd
 rw[Cp] at h1 h2 h3
 refine⟨?_,?_,?_⟩
 · simp only[rKd]
   rw[if_pos h1,h2,num_back hsz hf]
   simp[adv,adv1,sgN,Cp]
 · simpa [adv,adv1,sgN,Cp] using h1
 · simpa [adv,adv1,sgN,Cp] using h3
theorem bk_txt {n0 t:Bs} (ht:t.length≤255):Bk b ((rawKd b).txt n0) t (sgT t):=by
 intro s rest hs hd hc
 simp only[sgT,rawOf,List.flatMap_cons,rawOf1,List.flatMap_nil,List.append_nil,List.append_assoc] at hd
 obtain⟨h1,h2,h3⟩:=drop_of hs hd
 rw[Cp] at h1 h2 h3
 obtain⟨h4,h5,h6⟩:=drop_of h1 h3
 have e:beV ((b.drop s.read).take 1)=t.length:=by rw[h2,be1,beV1,u8n _ Y9];omega
 refine⟨?_,?_,?_⟩
 · simp only[rKd]
   rw[if_pos h1,e]
   simp only[Int.toNat_natCast]
   rw[if_pos h4,h5]
   simp[adv,adv1,sgT,Cp];omega
 · simp[adv,adv1,sgT,Cp];omega
 · simp only[adv,adv1,sgT,Cp,List.foldl_cons,List.foldl_nil,List.length_append]
   rw[←Nat.add_assoc]
   exact h6
theorem bk_ref {n0 nm:Bs} {q:Int} (h:nm.length=2):Bk b ((rawKd b).ref n0 q) nm [.ref q nm]:=by
 intro s rest hs hd hc
 simp only[rawOf,List.flatMap_cons,rawOf1,List.flatMap_nil,List.append_nil] at hd
 obtain⟨h1,h2,h3⟩:=drop_of hs hd
 rw[h] at h1 h2 h3
 have:cnt [Seg.ref q nm]=1:=rfl
 refine⟨?_,?_,?_⟩
 · simp only[rKd]
   rw[if_pos Y9,if_pos h1,h2]
   simp only[rawN,raw_back h]
   simp[adv,adv1]
 · simpa [adv,adv1] using h1
 · simpa [adv,adv1] using h3
theorem bk_blk:Bk b (fun s=>((rawKd b).blk s).bind fun s=>.ok ((),s)) () [.blk]:=by
 intro s rest hs hd hc
 have:cnt [Seg.blk]=1:=rfl
 refine⟨?_,by simpa [adv,adv1] using hs,by simpa [adv,adv1,rawOf,rawOf1] using hd⟩
 simp only[rKd]
 rw[if_pos Y9]
 simp[adv,adv1,Out.bind]
theorem bk_small {p0 p:Int} (h0:0≤p) (h1:p≤255):Bk b (small (rawKd b) p0) p (sgN 1 p):=(CP (.inl rfl) (by simp only[fits,if_true];omega)).map _ fun s=>by dsimp only;omega
def setI:LI→InsM→InsM→InsM
 | .to,x,y=>{y with to:=x.to}
 | .a,x,y=>{y with a:=x.a}
 | .b,x,y=>{y with b:=x.b}
 | .lo,x,y=>{y with lo:=x.lo}
 | .hi,x,y=>{y with hi:=x.hi}
 | .one,x,y=>{y with args:=[arg1 x.args]}
 | .sh,x,y=>{y with nm:=x.nm}
 | .fi,x,y=>{y with nm:=x.nm}
 | .me,x,y=>{y with nm:=x.nm}
 | .gl,x,y=>{y with nm:=x.nm}
def fitsI:LI→InsM→Prop
 | .to,x=>fits 2 x.to
 | .a,x=>fits 2 x.a
 | .b,x=>fits 2 x.b
 | .lo,x=>fits 4 x.lo
 | .hi,x=>fits 4 x.hi
 | .one,x=>fits 2 (arg1 x.args)
 | .sh,x=>x.nm.length=2
 | .fi,x=>x.nm.length=2
 | .me,x=>x.nm.length=2
 | .gl,x=>x.nm.length=2
theorem bk_ltI {x y:InsM} (l:LI) (h:fitsI l x):Bk b (ltI (rawKd b) l y) (setI l x y) (sgLI l x):=by
 cases l with
 | to=>exact(CP Y9 h).map (y:=setI .to x y) (fun r=>{y with to:=r.1}) fun s=>rfl
 | a=>exact(CP Y9 h).map (y:=setI .a x y) (fun r=>{y with a:=r.1}) fun s=>rfl
 | b=>exact(CP Y9 h).map (y:=setI .b x y) (fun r=>{y with b:=r.1}) fun s=>rfl
 | lo=>exact(CP Y9 h).map (y:=setI .lo x y) (fun r=>{y with lo:=r.1}) fun s=>rfl
 | hi=>exact(CP Y9 h).map (y:=setI .hi x y) (fun r=>{y with hi:=r.1}) fun s=>rfl
 | one=>exact(CP Y9 h).map (y:=setI .one x y) (fun r=>{y with args:=[r.1]}) fun s=>rfl
 | sh=>exact(bk_ref h).map (y:=setI .sh x y) (fun r=>{y with nm:=r.1}) fun s=>rfl
 | fi=>exact(bk_ref h).map (y:=setI .fi x y) (fun r=>{y with nm:=r.1}) fun s=>rfl
 | me=>exact(bk_ref h).map (y:=setI .me x y) (fun r=>{y with nm:=r.1}) fun s=>rfl
 | gl=>exact(bk_ref h).map (y:=setI .gl x y) (fun r=>{y with nm:=r.1}) fun s=>rfl
theorem bk_runs {α β:Type} {step:β→α→RS Unit→Out (α×RS Unit)} {set:β→α→α→α} {g:β→α→List Seg} {x:α}:∀(ls:List β) (y:α),(∀l∈ls,∀y,Bk b (step l y) (set l x y) (g l x))→Bk b (runs step ls y) (ls.foldl (fun y l=>set l x y) y) (ls.flatMap fun l=>g l x)
 | [],y,_=>Bk.nil y
 | l::r,y,h=>(h l (.head _) y).bind (d:=fun q=>runs step r q.1 q.2) (bk_runs r _ fun m hm=>h m (.tail _ hm))
structure InsB (x:InsM):Prop where
 op0:0≤x.op
 op1:x.op≤255
 form:∃ls,formI x.op=some ls∧(∀l∈ls,fitsI l x)∧ls.foldl (fun y l=>setI l x y) {ins0 with op:=x.op}=x
theorem bk_ins {x:InsM} (h:InsB x):Bk b (codeIns (rawKd b) ins0) x (sgIns x):=by
 obtain⟨ls,h1,h2,h3⟩:=h.form
 refine(bk_small h.op0 h.op1).bind (m:=((formI x.op).getD []).flatMap fun l=>sgLI l x) ?_
 have:=bk_runs (b:=b) (step:=ltI (rawKd b)) (set:=setI) (g:=sgLI) (x:=x) ls {ins0 with op:=x.op} fun l hl y=>bk_ltI l (h2 l hl)
 rw[h3] at this
 simp only[h1,Option.getD_some]
 exact this
theorem bk_iter {α:Type} {step:α→RS Unit→Out (α×RS Unit)} {g:α→List Seg} {z:α}:∀(l:List α),(∀x∈l,Bk b (step z) x (g x))→Bk b (iter step (List.replicate l.length z)) l (l.flatMap g)
 | [],_=>Bk.nil _
 | x::r,h=>(h x (.head _)).bind (d:=fun q=>(iter step (List.replicate r.length z) q.2).bind fun q2=>.ok (q.1::q2.1,q2.2)) ((bk_iter r fun m hm=>h m (.tail _ hm)).map (y:=x::r) (fun q2=>x::q2.1) fun s=>rfl)
theorem bk_lst {α:Type} {sz:Nat} (hsz:sz=1∨sz=2) {step:α→RS Unit→Out (α×RS Unit)} {g:α→List Seg} {z:α} {l:List α} (hl:l.length≤255∨sz=2∧l.length≤65534) (h:∀x∈l,Bk b (step z) x (g x)):Bk b (lst (rawKd b) sz z step []) l (sgL sz g l):=by
 refine(CP (n:=(l.length:Int)) Y9 (by rcases hsz with rfl|rfl<;>simp[fits]<;>omega)).bind ?_
 have h1:=bk_iter l h
 intro s rest hs hd hc
 have h2:=h1 s rest hs hd hc
 refine⟨?_,h2.2⟩
 dsimp only
 rw[if_neg Y9]
 have : (if (l.length:Int)=(([]:List α).length:Int) then ([]:List α) else List.replicate (l.length:Int).toNat z)=List.replicate l.length z:=by
  split
  · rename_i e
    simp at e
    subst e
    rfl
  · simp
 rw[this]
 exact h2.1
def setJ:LJ→EndM→EndM→EndM
 | .target,x,y=>{y with to:=x.to}
 | .other,x,y=>{y with el:=x.el}
 | .first,x,y=>{y with a:=x.a}
 | .second,x,y=>{y with b:=x.b}
 | .code,x,y=>{y with a:=x.a}
 | .raised,x,y=>{y with nm:=x.nm}
 | .called,x,y=>{y with nm:=x.nm}
 | .asked,x,y=>{y with nm:=x.nm}
 | .given,x,y=>{y with args:=x.args}
 | .handlers,x,y=>{y with ws:=x.ws,ot:=x.ot}
def fitsJ:LJ→EndM→Prop
 | .target,x=>fits 2 x.to
 | .other,x=>fits 2 x.el
 | .first,x=>fits 2 x.a
 | .second,x=>fits 2 x.b
 | .code,x=>fits 1 x.a
 | .raised,x=>x.nm.length≤255
 | .called,x=>x.nm.length=2
 | .asked,x=>x.nm.length=2
 | .given,x=>x.args.length≤255∧∀a∈x.args,fits 2 a
 | .handlers,x=>x.ws.length≤255∧(∀w∈x.ws,w.1.length≤255∧fits 2 w.2)∧fits 2 x.ot
def okJ:LJ→EndM→Prop
 | .given,y=>y.args=[]
 | .handlers,y=>y.ws=[]
 | _,_=>True
theorem bk_when {w0 w:Bs×Int} (h:w.1.length≤255∧fits 2 w.2):Bk b (codeWhen (rawKd b) w0) w (sgWhen w):=
 (bk_txt h.1).bind (d:=fun r=>((rawKd b).num w0.2 2 r.2).bind fun r2=>.ok ((r.1,r2.1),r2.2)) ((CP Y9 h.2).map (y:=w) (fun r2=>(w.1,r2.1)) fun s=>rfl)
theorem bk_ltE {x y:EndM} (l:LJ) (h:fitsJ l x) (h0:okJ l y):Bk b (ltE (rawKd b) l y) (setJ l x y) (sgLJ l x):=by
 cases l with
 | target=>exact(CP Y9 h).map (y:=setJ .target x y) (fun r=>{y with to:=r.1}) fun s=>rfl
 | other=>exact(CP Y9 h).map (y:=setJ .other x y) (fun r=>{y with el:=r.1}) fun s=>rfl
 | first=>exact(CP Y9 h).map (y:=setJ .first x y) (fun r=>{y with a:=r.1}) fun s=>rfl
 | second=>exact(CP Y9 h).map (y:=setJ .second x y) (fun r=>{y with b:=r.1}) fun s=>rfl
 | code=>exact(CP Y9 h).map (y:=setJ .code x y) (fun r=>{y with a:=r.1}) fun s=>rfl
 | raised=>exact(bk_txt h).map (y:=setJ .raised x y) (fun r=>{y with nm:=r.1}) fun s=>rfl
 | called=>exact(bk_ref h).map (y:=setJ .called x y) (fun r=>{y with nm:=r.1}) fun s=>rfl
 | asked=>exact(bk_ref h).map (y:=setJ .asked x y) (fun r=>{y with nm:=r.1}) fun s=>rfl
 | given=>
   have h0:y.args=[]:=h0
   have:=(bk_lst (b:=b) (sz:=1) (.inl rfl) (z:=0) (step:=fun n=>(rawKd b).num n 2) (g:=sgN 2) (l:=x.args) (.inl h.1) fun n hn=>CP Y9 (h.2 n hn)).map (y:=setJ .given x y) (fun r=>{y with args:=r.1}) fun s=>rfl
   rw[←h0] at this
   exact this
 | handlers=>
   have h0:y.ws=[]:=h0
   have:=(bk_lst (b:=b) (sz:=1) (.inl rfl) (z:=([],0)) (step:=codeWhen (rawKd b)) (g:=sgWhen) (l:=x.ws) (.inl h.1) fun w hw=>bk_when (h.2.1 w hw)).bind (d:=fun r=>((rawKd b).num y.ot 2 r.2).bind fun r2=>.ok ({y with ws:=r.1,ot:=r2.1},r2.2)) ((CP (n:=x.ot) Y9 h.2.2).map (y:=setJ .handlers x y) (fun r2=>{y with ws:=x.ws,ot:=r2.1}) fun s=>rfl)
   rw[←h0] at this
   exact this
theorem bk_runsE {x:EndM}:∀(ls:List LJ) (y:EndM),(ls.map fieldE).Nodup→(∀l∈ls,fitsJ l x)→(∀l∈ls,okJ l y)→Bk b (runs (ltE (rawKd b)) ls y) (ls.foldl (fun y l=>setJ l x y) y) (ls.flatMap fun l=>sgLJ l x)
 | [],y,_,_,_=>Bk.nil y
 | l :: r,y,hd,h,h0=>by
   have hd:=List.nodup_cons.1 hd
   refine(bk_ltE l (h l (.head _)) (h0 l (.head _))).bind (d:=fun q=>runs (ltE (rawKd b)) r q.1 q.2) (bk_runsE r _ hd.2 (fun m hm=>h m (.tail _ hm)) fun m hm=>?_)
   have h1:=h0 m (.tail _ hm)
   have h2:fieldE m≠fieldE l:=fun e=>hd.1 (e▸List.mem_map_of_mem hm)
   cases m<;>first|trivial|(cases l<;>first|exact h1|exact absurd rfl h2)
structure EndB (x:EndM):Prop where
 kd0:0≤x.kd
 kd1:x.kd≤255
 form:∃ls,formE x.kd=some ls∧(∀l∈ls,fitsJ l x)∧ls.foldl (fun y l=>setJ l x y) {end0 with kd:=x.kd,ot:= -1}=x
theorem bk_end {x:EndM} (h:EndB x):Bk b (codeEnd (rawKd b) {end0 with ot:= -1}) x (sgEnd x):=by
 obtain⟨ls,h1,h2,h3⟩:=h.form
 refine(bk_small h.kd0 h.kd1).bind (m:=((formE x.kd).getD []).flatMap fun l=>sgLJ l x) ?_
 have:=bk_runsE (b:=b) (x:=x) ls {end0 with kd:=x.kd,ot:= -1} (formE_fields h1) h2 fun l _=>by cases l<;>first|trivial|rfl
 rw[h3] at this
 simp only[h1,Option.getD_some]
 exact this
structure BlkB (x:BlkM):Prop where
 ins:x.ins.length≤200∧∀i∈x.ins,InsB i
 en:EndB x.en
theorem bk_blkm {x:BlkM} (h:BlkB x):Bk b (codeBlk (rawKd b) blk0) x (sgBlk x):=by
 have h1:=h.ins.1
 have hl:=bk_lst (b:=b) (sz:=1) (.inl rfl) (z:=ins0) (step:=codeIns (rawKd b)) (g:=sgIns) (l:=x.ins) (.inl Y9) (fun i hi=>bk_ins (h.ins.2 i hi))
 have h2:=hl.bind (d:=fun r=>(codeEnd (rawKd b) {end0 with ot:= -1} r.2).bind fun r2=>.ok (BlkM.mk r.1 r2.1,r2.2)) ((bk_end h.en).map (y:=x) (fun r2=>BlkM.mk x.ins r2.1) fun s=>rfl)
 have h3:=(bk_blk (b:=b)).bind (d:=fun r=>(lst (rawKd b) 1 ins0 (codeIns (rawKd b)) [] r.2).bind fun r=>(codeEnd (rawKd b) {end0 with ot:= -1} r.2).bind fun r2=>.ok (BlkM.mk r.1 r2.1,r2.2)) h2
 intro s rest hs hd hc
 have h4:=h3 s rest hs hd hc
 refine⟨?_,h4.2⟩
 have:=h4.1
 dsimp only at this
 rw[Out.bind_assoc] at this
 exact this
structure FlowB (f:FlowM):Prop where
 nm:f.nm=[]
 ac:0≤f.ac∧f.ac≤255
 res:0≤f.res∧f.res≤255
 regs:f.regs.length≤65534∧∀r∈f.regs,0≤r∧r≤255
 raises:f.raises.length≤255∧∀t∈f.raises,t.length≤255
 blks:f.blks.length≤65534∧∀b∈f.blks,BlkB b
theorem bk_flow {f:FlowM} (h:FlowB f):Bk b (codeFlow (rawKd b) flow0) f (sgFlow f):=by
 obtain⟨h0,h1,h2,⟨h3,h4⟩,⟨h5,h6⟩,h7,h8⟩:=h
 have a1:=CP (b:=b) (n0:=0) (n:=f.ac) (sz:=1) (.inl rfl) (by simp only[fits,if_true];omega)
 have a2:=bk_small (b:=b) (p0:=0) h2.1 h2.2
 have a3:=bk_lst (b:=b) (sz:=2) (.inr rfl) (z:=0) (step:=small (rawKd b)) (g:=sgN 1) (l:=f.regs) (.inr ⟨rfl,h3⟩) (fun r hr=>bk_small (h4 r hr).1 (h4 r hr).2)
 have a4:=bk_lst (b:=b) (sz:=1) (.inl rfl) (z:=([]:Bs)) (step:=(rawKd b).txt) (g:=sgT) (l:=f.raises) (.inl h5) (fun t ht=>bk_txt (h6 t ht))
 have a5:=bk_lst (b:=b) (sz:=2) (.inr rfl) (z:=blk0) (step:=codeBlk (rawKd b)) (g:=sgBlk) (l:=f.blks) (.inr ⟨rfl,h7⟩) (fun x hx=>bk_blkm (h8 x hx))
 have b5:=a5.map (y:=f) (fun r5=>{flow0 with ac:=f.ac,res:=f.res,regs:=f.regs,raises:=f.raises,blks:=r5.1}) fun s=>by cases f;simp only at h0;subst h0;rfl
 have b4:=a4.bind (d:=fun r4=>(lst (rawKd b) 2 blk0 (codeBlk (rawKd b)) [] r4.2).bind fun r5=>.ok ({flow0 with ac:=f.ac,res:=f.res,regs:=f.regs,raises:=r4.1,blks:=r5.1},r5.2)) b5
 have b3:=a3.bind (d:=fun r3=>(lst (rawKd b) 1 [] (rawKd b).txt [] r3.2).bind fun r4=>(lst (rawKd b) 2 blk0 (codeBlk (rawKd b)) [] r4.2).bind fun r5=>.ok ({flow0 with ac:=f.ac,res:=f.res,regs:=r3.1,raises:=r4.1,blks:=r5.1},r5.2)) b4
 have b2:=a2.bind (d:=fun r2=>(lst (rawKd b) 2 0 (small (rawKd b)) [] r2.2).bind fun r3=>(lst (rawKd b) 1 [] (rawKd b).txt [] r3.2).bind fun r4=>(lst (rawKd b) 2 blk0 (codeBlk (rawKd b)) [] r4.2).bind fun r5=>.ok ({flow0 with ac:=f.ac,res:=r2.1,regs:=r3.1,raises:=r4.1,blks:=r5.1},r5.2)) b3
 have b1:=a1.bind (d:=fun r1=>(small (rawKd b) 0 r1.2).bind fun r2=>(lst (rawKd b) 2 0 (small (rawKd b)) [] r2.2).bind fun r3=>(lst (rawKd b) 1 [] (rawKd b).txt [] r3.2).bind fun r4=>(lst (rawKd b) 2 blk0 (codeBlk (rawKd b)) [] r4.2).bind fun r5=>.ok ({flow0 with ac:=r1.1,res:=r2.1,regs:=r3.1,raises:=r4.1,blks:=r5.1},r5.2)) b2
 exact b1
end
def dmy:Bs:=[120]
def refI (op:Int):Bool:=has (formR op) 110
def refE (kd:Int):Bool:=decide (kd=5)|| decide (kd=6)
def dmI (x:InsM):InsM:=if refI x.op then {x with nm:=dmy} else x
def dmE (x:EndM):EndM:=if refE x.kd then {x with nm:=dmy} else x
def dmB (b:BlkM):BlkM:=⟨b.ins.map dmI,dmE b.en⟩
def dmF (f:FlowM):FlowM:={f with nm:=dmy,blks:=f.blks.map dmB}
def rawI (x:InsM):Prop:=refI x.op=true→x.nm.length=2
def rawE (x:EndM):Prop:=refE x.kd=true→x.nm.length=2
structure RawF (f:FlowM):Prop where
 nm:f.nm=[]
 ins:∀b∈f.blks,∀x∈b.ins,rawI x
 en:∀b∈f.blks,rawE b.en
theorem arg1_one:∀ {l:List Int},l.length=1→[arg1 l]=l
 | [_],_=>rfl
set_option maxHeartbeats 4000000 in
theorem insB_of {n:Int} (hn:n≤400) {x:InsM} (hr:rawI x) (h:insR n (dmI x)=true):InsB x:=by
 have hop:x.op∈opsL:=by
  refine Decidable.byContradiction fun hc=>?_
  have h1:=formR_nil hc
  have h2:(dmI x).op=x.op:=by unfold dmI;split<;>rfl
  simp[insR,h2,h1] at h
 obtain⟨op,to,a,b,lo,hi,nm,args⟩:=x
 simp only[opsL,List.mem_cons,List.not_mem_nil,or_false] at hop
 rcases hop with rfl|rfl|rfl|rfl|rfl|rfl|rfl|rfl|rfl|rfl|rfl|rfl|rfl|rfl|rfl|rfl|rfl|rfl|rfl|rfl|rfl|rfl|rfl|rfl|rfl|rfl|rfl|rfl|rfl|rfl|rfl|rfl|rfl|rfl
 all_goals
  simp[insR,dmI,refI,formR,has,inR,rawI] at h hr
  refine⟨by simp,by simp,_,rfl,?_,?_⟩
  · simp[fitsI,fits]<;>omega
  · simp[setI,ins0]<;>grind [arg1_one]
theorem whens_fits {nb:Int} (hn:nb≤600):∀(l:List (Bs×Int)) (seen:List Bs),whensOk nb seen l=true→∀w∈l,w.1.length≤255∧fits 2 w.2
 | [],_,_,w,hw=>(List.not_mem_nil hw).elim
 | a :: r,seen,h,w,hw=>by
   simp only[whensOk,Bool.and_eq_true] at h
   rcases List.mem_cons.1 hw with rfl|hw
   · refine ⟨by have:=(symOk_w h.1.1.1).2;omega,?_⟩
     have:=h.1.1.2
     simp[inR,fits] at this ⊢;omega
   · exact whens_fits hn r _ h.2 w hw
set_option maxHeartbeats 4000000 in
theorem endB_of {n nb:Int} (hn:n≤400) (hb:nb≤600) {x:EndM} (hr:rawE x) (h:endR n nb (dmE x)=true):EndB x:=by
 have hk:(dmE x).kd=x.kd∧(dmE x).ws=x.ws∧(dmE x).args=x.args:=by unfold dmE;split<;>exact⟨rfl,rfl,rfl⟩
 have hkd:x.kd=1∨x.kd=2∨x.kd=3∨x.kd=4∨x.kd=5∨x.kd=6∨x.kd=7∨x.kd=8∨x.kd=9:=by
  refine Decidable.byContradiction fun hn=>?_
  simp only[not_or] at hn
  simp[endR,formEnd,hk.1,hn] at h
 obtain⟨kd,a,b,to,el,nm,args,ws,ot⟩:=x
 simp only at hkd hk
 rcases hkd with rfl|rfl|rfl|rfl|rfl|rfl|rfl|rfl|rfl
 all_goals
  simp[endR,dmE,refE,formEnd,has,inR,rawE,handlersR] at h hr
  refine⟨by simp,by simp,_,rfl,?_,?_⟩
  · simp [fitsJ,fits]<;>first
     | omega
     | (have:=symOk_w (s:=nm);grind)
     | (have:=whens_fits hb ws [];simp[fits] at this;grind)
  · simp[setJ,end0]<;>grind
theorem flowB_of {f:FlowM} (hr:RawF f) (hres:0≤f.res) (h:sndOk (dmF f)=true):FlowB f:=by
 unfold sndOk dmF at h
 dsimp only at h
 simp only[Bool.and_eq_true,decide_eq_true_eq,List.all_eq_true,Bool.or_eq_true,List.length_map,List.mem_map,forall_exists_index,and_imp,forall_apply_eq_imp_iff₂] at h
 obtain⟨⟨⟨⟨⟨⟨⟨⟨⟨⟨h1,h2⟩,h3⟩,h4⟩,h5⟩,h6⟩,h7⟩,h8⟩,h9⟩,h10⟩,h11⟩:=h
 refine⟨hr.nm,by omega,by omega,⟨by omega,fun r hr=>by have:=h9 r hr;omega⟩,⟨by omega,fun t ht=>by have:=(symOk_w (raises_w _ h10 t ht)).2;omega⟩,by omega,fun x hx=>?_⟩
 have hb:=h11 x hx
 simp only[blkOk,Bool.and_eq_true,decide_eq_true_eq,List.all_eq_true,dmB,List.length_map,List.mem_map,forall_exists_index,and_imp,forall_apply_eq_imp_iff₂] at hb
 exact⟨⟨hb.1.1,fun i hi=>insB_of Y9 (hr.ins x hx i hi) (hb.2 i hi)⟩,endB_of Y9 Y9 (hr.en x hx) hb.1.2⟩
end Go.Sl
namespace Go.Sl
def sortR (op:Int):Int:=if op=32∨op=33 then 3 else if op=37∨op=38 then 5 else if op=55 then 4 else 2
def emb {τ:Type} (s:RS Unit) (t:τ):RS τ:=⟨s.read,s.places,s.blocks,t⟩
section
variable {τ:Type} (ν:Int→Int→τ→Bs×τ)
def renI (x:InsM) (t:τ):InsM×τ:=if refI x.op then ({x with nm:=(ν (sortR x.op) (beV x.nm) t).1},(ν (sortR x.op) (beV x.nm) t).2) else (x,t)
def renE (x:EndM) (t:τ):EndM×τ:=if refE x.kd then ({x with nm:=(ν (if x.kd=5 then 1 else 4) (beV x.nm) t).1},(ν (if x.kd=5 then 1 else 4) (beV x.nm) t).2) else (x,t)
def acc {α:Type} (f:α→τ→α×τ):List α→τ→List α×τ
 | [],t=>([],t)
 | x::r,t=>((f x t).1::(acc f r (f x t).2).1,(acc f r (f x t).2).2)
def renB (x:BlkM) (t:τ):BlkM×τ:=(⟨(acc (renI ν) x.ins t).1,(renE ν x.en (acc (renI ν) x.ins t).2).1⟩,(renE ν x.en (acc (renI ν) x.ins t).2).2)
def renF (x:FlowM) (t:τ):FlowM×τ:=({x with blks:=(acc (renB ν) x.blks t).1},(acc (renB ν) x.blks t).2)
end
section
variable {τ:Type} {ν:Int→Int→τ→Bs×τ} {b:Bs}
def Nm {α:Type} (c:RS τ→Out (α×RS τ)) (d:RS Unit→Out (α×RS Unit)) (f:α→τ→α×τ):Prop:=∀s t,c (emb s t)=(d s).bind fun r=>.ok ((f r.1 t).1,emb r.2 (f r.1 t).2)
abbrev same {α:Type}:α→τ→α×τ:=fun x t=>(x,t)
theorem CM (n:Int) (sz:Nat):Nm ((rKd b ν).num n sz) ((rawKd b).num n sz) same:=fun s t=>by
 simp only[rKd,emb]
 split<;>rfl
theorem nm_txt (n:Bs):Nm ((rKd b ν).txt n) ((rawKd b).txt n) same:=fun s t=>by
 simp only[rKd,emb]
 split
 · split<;>rfl
 · rfl
theorem nm_ref (n:Bs) (q:Int):Nm ((rKd b ν).ref n q) ((rawKd b).ref n q) fun x t=>ν q (beV x) t:=fun s t=>by
 simp only[rKd,emb]
 split
 · split
   · rename_i h
     simp only[Out.ok_bind,rawN,raw_back (C2 h)]
   · rfl
 · rfl
theorem nm_blk (s:RS Unit) (t:τ):(rKd b ν).blk (emb s t)=((rawKd b).blk s).bind fun r=>.ok (emb r t):=by
 simp only[rKd,emb]
 split<;>rfl
theorem Nm.bind {α β:Type} {c:RS τ→Out (α×RS τ)} {d:RS Unit→Out (α×RS Unit)} (h:Nm c d same) {c2:α×RS τ→Out (β×RS τ)} {d2:α×RS Unit→Out (β×RS Unit)} {f:β→τ→β×τ} (h2:∀x,Nm (fun s=>c2 (x,s)) (fun s=>d2 (x,s)) f):Nm (fun s=>(c s).bind c2) (fun s=>(d s).bind d2) f:=fun s t=>by
 dsimp only
 rw[h s t,Out.bind_assoc,Out.bind_assoc]
 cases d s with
 | ok r=>exact h2 r.1 r.2 t
 | bad=>rfl
 | full=>rfl
theorem Nm.map {α β:Type} {c:RS τ→Out (α×RS τ)} {d:RS Unit→Out (α×RS Unit)} {f:α→τ→α×τ} (h:Nm c d f) {g:β→τ→β×τ} (m:α→β) (hg:∀x t,g (m x) t=(m (f x t).1,(f x t).2)):Nm (fun s=>(c s).bind fun r=>.ok (m r.1,r.2)) (fun s=>(d s).bind fun r=>.ok (m r.1,r.2)) g:=fun s t=>by
 dsimp only
 rw[h s t,Out.bind_assoc,Out.bind_assoc]
 cases d s with
 | ok r=>simp only[Out.ok_bind,hg]
 | bad=>rfl
 | full=>rfl
theorem nm_small (p:Int):Nm (small (rKd b ν) p) (small (rawKd b) p) same:=(CM p 1).map (fun n=>n % 256) fun _ _=>rfl
def isRef:LI→Bool
 | .sh=>true|.fi=>true|.me=>true|.gl=>true|_=>false
def sortL:LI→Int
 | .fi=>3|.me=>4|.gl=>5|_=>2
theorem nm_ltI {l:LI} (hl:isRef l=false) (x:InsM):Nm (ltI (rKd b ν) l x) (ltI (rawKd b) l x) same:=by
 cases l with
 | to=>exact(CM _ _).map (fun n=>{x with to:=n}) fun _ _=>rfl
 | a=>exact(CM _ _).map (fun n=>{x with a:=n}) fun _ _=>rfl
 | b=>exact(CM _ _).map (fun n=>{x with b:=n}) fun _ _=>rfl
 | lo=>exact(CM _ _).map (fun n=>{x with lo:=n}) fun _ _=>rfl
 | hi=>exact(CM _ _).map (fun n=>{x with hi:=n}) fun _ _=>rfl
 | one=>exact(CM _ _).map (fun n=>{x with args:=[n]}) fun _ _=>rfl
 | _=>cases hl
theorem nm_ltR {l:LI} (hl:isRef l=true) (x:InsM):Nm (ltI (rKd b ν) l x) (ltI (rawKd b) l x) fun y t=>({y with nm:=(ν (sortL l) (beV y.nm) t).1},(ν (sortL l) (beV y.nm) t).2):=by
 cases l with
 | sh=>exact(nm_ref (ν:=ν) (b:=b) x.nm 2).map (g:=fun y t=>({y with nm:=(ν 2 (beV y.nm) t).1},(ν 2 (beV y.nm) t).2)) (fun n=>{x with nm:=n}) fun _ _=>rfl
 | fi=>exact(nm_ref (ν:=ν) (b:=b) x.nm 3).map (g:=fun y t=>({y with nm:=(ν 3 (beV y.nm) t).1},(ν 3 (beV y.nm) t).2)) (fun n=>{x with nm:=n}) fun _ _=>rfl
 | me=>exact(nm_ref (ν:=ν) (b:=b) x.nm 4).map (g:=fun y t=>({y with nm:=(ν 4 (beV y.nm) t).1},(ν 4 (beV y.nm) t).2)) (fun n=>{x with nm:=n}) fun _ _=>rfl
 | gl=>exact(nm_ref (ν:=ν) (b:=b) x.nm 5).map (g:=fun y t=>({y with nm:=(ν 5 (beV y.nm) t).1},(ν 5 (beV y.nm) t).2)) (fun n=>{x with nm:=n}) fun _ _=>rfl
 | _=>cases hl
theorem nm_pure {α:Type} (x:α):Nm (fun s:RS τ=>.ok (x,s)) (fun s:RS Unit=>.ok (x,s)) same:=fun s t=>rfl
theorem nm_runs:∀(ls:List LI) (x:InsM),(∀l∈ls,isRef l=false)→Nm (runs (ltI (rKd b ν)) ls x) (runs (ltI (rawKd b)) ls x) same
 | [],x,_=>nm_pure x
 | l::r,x,h=>(nm_ltI (h l (.head _)) x).bind (c2:=fun q=>runs (ltI (rKd b ν)) r q.1 q.2) (d2:=fun q=>runs (ltI (rawKd b)) r q.1 q.2) fun y=>nm_runs r y fun m hm=>h m (.tail _ hm)
theorem runs_snoc {σ α β:Type} (step:β→α→σ→Out (α×σ)) (l:β):∀(ls:List β) (x:α) (s:σ),runs step (ls++[l]) x s=(runs step ls x s).bind fun q=>step l q.1 q.2
 | [],x,s=>by
   show(step l x s).bind (fun q=>Out.ok (q.1,q.2))=step l x s
   cases step l x s<;>rfl
 | m :: r,x,s=>by
   show(step m x s).bind (fun q=>runs step (r++[l]) q.1 q.2)=((step m x s).bind fun q=>runs step r q.1 q.2).bind _
   rw[Out.bind_assoc]
   congr 1
   funext q
   exact runs_snoc step l r q.1 q.2
theorem form_ref {op:Int} {ls:List LI} (h:formI op=some ls):(refI op=false∧∀l∈ls,isRef l=false)∨(refI op=true∧∃ns l,ls=ns++[l]∧(∀n∈ns,isRef n=false)∧isRef l=true∧sortL l=sortR op):=by
 have h1:=formI_some h
 simp only[opsL,List.mem_cons,List.not_mem_nil,or_false] at h1
 rcases h1 with rfl|rfl|rfl|rfl|rfl|rfl|rfl|rfl|rfl|rfl|rfl|rfl|rfl|rfl|rfl|rfl|rfl|rfl|rfl|rfl|rfl|rfl|rfl|rfl|rfl|rfl|rfl|rfl|rfl|rfl|rfl|rfl|rfl|rfl<;>cases h<;>first
  | (left;exact⟨by decide,by decide⟩)
  | (right;refine⟨by decide,[.a],_,rfl,by decide,by decide,by decide⟩)
  | (right;refine⟨by decide,[.to],_,rfl,by decide,by decide,by decide⟩)
  | (right;refine⟨by decide,[.to,.a],_,rfl,by decide,by decide,by decide⟩)
  | (right;refine⟨by decide,[.a,.b],_,rfl,by decide,by decide,by decide⟩)
theorem nm_ins (x:InsM):Nm (codeIns (rKd b ν) x) (codeIns (rawKd b) x) (renI ν):=by
 refine(nm_small x.op).bind fun op=>?_
 dsimp only
 cases hf:formI op with
 | none=>intro s t;rfl
 | some ls=>
   intro s t
   dsimp only
   have ho:∀r,runs (ltI (rawKd b)) ls {x with op:=op} s=.ok r→r.1.op=op:=fun r hr=>runs_inv (fun x:InsM=>x.op) (fun l x s x' s' e=>ltI_op e) ls _ _ _ _ hr
   rcases form_ref hf with⟨h1,h2⟩|⟨h1,ns,l,rfl,h2,h3,h4⟩
   · rw [nm_runs ls {x with op:=op} h2 s t]
     cases hr:runs (ltI (rawKd b)) ls {x with op:=op} s with
     | ok r=>simp only[Out.ok_bind,renI,ho r hr,h1];rfl
     | bad=>rfl
     | full=>rfl
   · have:=(nm_runs (b:=b) (ν:=ν) ns {x with op:=op} h2).bind (c2:=fun q=>ltI (rKd b ν) l q.1 q.2) (d2:=fun q=>ltI (rawKd b) l q.1 q.2) (fun y=>nm_ltR h3 y) s t
     dsimp only at this
     rw[←runs_snoc,←runs_snoc] at this
     rw[this]
     cases hr:runs (ltI (rawKd b)) (ns++[l]) {x with op:=op} s with
     | ok r=>simp only[Out.ok_bind,renI,ho r hr,h1,h4,if_true]
     | bad=>rfl
     | full=>rfl
theorem nm_iter {α:Type} {c:α→RS τ→Out (α×RS τ)} {d:α→RS Unit→Out (α×RS Unit)} {f:α→τ→α×τ} (h:∀x,Nm (c x) (d x) f):∀l:List α,Nm (iter c l) (iter d l) (acc f)
 | []=>fun s t=>rfl
 | x :: r=>fun s t=>by
   show(c x (emb s t)).bind (fun q=>(iter c r q.2).bind fun q2=>.ok (q.1::q2.1,q2.2))=((d x s).bind fun q=>(iter d r q.2).bind fun q2=>.ok (q.1::q2.1,q2.2)).bind _
   rw[h x s t,Out.bind_assoc,Out.bind_assoc]
   cases d x s with
   | ok q=>
     simp only[Out.ok_bind]
     rw[nm_iter h r q.2 (f q.1 t).2,Out.bind_assoc,Out.bind_assoc]
     cases iter d r q.2<;>rfl
   | bad=>rfl
   | full=>rfl
theorem nm_lst {α:Type} {sz:Nat} {z:α} {c:α→RS τ→Out (α×RS τ)} {d:α→RS Unit→Out (α×RS Unit)} {f:α→τ→α×τ} (h:∀x,Nm (c x) (d x) f) (l:List α):Nm (lst (rKd b ν) sz z c l) (lst (rawKd b) sz z d l) (acc f):=fun s t=>by
 show((rKd b ν).num l.length sz (emb s t)).bind _=(((rawKd b).num l.length sz s).bind _).bind _
 rw[CM,Out.bind_assoc,Out.bind_assoc]
 cases (rawKd b).num l.length sz s with
 | ok r=>
   simp only[Out.ok_bind]
   split
   · rfl
   · exact nm_iter h _ r.2 t
 | bad=>rfl
 | full=>rfl
theorem acc_same {α:Type}:∀(l:List α) (t:τ),acc same l t=(l,t)
 | [],t=>rfl
 | x::r,t=>by simp only[acc,acc_same r t]
theorem nm_lstS {α:Type} {sz:Nat} {z:α} {c:α→RS τ→Out (α×RS τ)} {d:α→RS Unit→Out (α×RS Unit)} (h:∀x,Nm (c x) (d x) same) (l:List α):Nm (lst (rKd b ν) sz z c l) (lst (rawKd b) sz z d l) same:=by
 have:=nm_lst (b:=b) (ν:=ν) (sz:=sz) (z:=z) h l
 rwa [show(acc same:List α→τ→List α×τ)=same from funext fun l=>funext fun t=>acc_same l t] at this
def isRefE:LJ→Bool
 | .called=>true|.asked=>true|_=>false
theorem nm_when (w:Bs×Int):Nm (codeWhen (rKd b ν) w) (codeWhen (rawKd b) w) same:=
 (nm_txt w.1).bind (c2:=fun r=>((rKd b ν).num w.2 2 r.2).bind fun r2=>.ok ((r.1,r2.1),r2.2)) (d2:=fun r=>((rawKd b).num w.2 2 r.2).bind fun r2=>.ok ((r.1,r2.1),r2.2)) fun y=>(CM _ _).map (fun n=>(y,n)) fun _ _=>rfl
theorem nm_ltE {l:LJ} (hl:isRefE l=false) (x:EndM):Nm (ltE (rKd b ν) l x) (ltE (rawKd b) l x) same:=by
 cases l with
 | target=>exact(CM _ _).map (fun n=>{x with to:=n}) fun _ _=>rfl
 | other=>exact(CM _ _).map (fun n=>{x with el:=n}) fun _ _=>rfl
 | first=>exact(CM _ _).map (fun n=>{x with a:=n}) fun _ _=>rfl
 | second=>exact(CM _ _).map (fun n=>{x with b:=n}) fun _ _=>rfl
 | code=>exact(CM _ _).map (fun n=>{x with a:=n}) fun _ _=>rfl
 | raised=>exact(nm_txt _).map (fun n=>{x with nm:=n}) fun _ _=>rfl
 | given=>exact(nm_lstS (c:=fun n=>(rKd b ν).num n 2) (d:=fun n=>(rawKd b).num n 2) (fun n=>CM n 2) x.args).map (fun n=>{x with args:=n}) fun _ _=>rfl
 | handlers=>exact(nm_lstS nm_when x.ws).bind (c2:=fun r=>((rKd b ν).num x.ot 2 r.2).bind fun r2=>.ok ({x with ws:=r.1,ot:=r2.1},r2.2)) (d2:=fun r=>((rawKd b).num x.ot 2 r.2).bind fun r2=>.ok ({x with ws:=r.1,ot:=r2.1},r2.2)) fun y=>(CM _ _).map (fun n=>{x with ws:=y,ot:=n}) fun _ _=>rfl
 | called=>cases hl
 | asked=>cases hl
theorem nm_runsE:∀(ls:List LJ) (x:EndM),(∀l∈ls,isRefE l=false)→Nm (runs (ltE (rKd b ν)) ls x) (runs (ltE (rawKd b)) ls x) same
 | [],x,_=>nm_pure x
 | l::r,x,h=>(nm_ltE (h l (.head _)) x).bind (c2:=fun q=>runs (ltE (rKd b ν)) r q.1 q.2) (d2:=fun q=>runs (ltE (rawKd b)) r q.1 q.2) fun y=>nm_runsE r y fun m hm=>h m (.tail _ hm)
theorem lt_nm {σ:Type} {κ:Kd σ} {l:LJ} (h:fieldE l≠.nm) (x:EndM) (n:Bs) (s:σ):ltE κ l {x with nm:=n} s=(ltE κ l x s).bind fun r=>.ok ({r.1 with nm:=n},r.2):=by
 cases l with
 | raised=>exact absurd rfl h
 | called=>exact absurd rfl h
 | asked=>exact absurd rfl h
 | handlers=>simp only[ltE,Out.bind_assoc,Out.ok_bind]
 | _=>simp only[ltE,Out.bind_assoc,Out.ok_bind]
theorem runs_nm {σ:Type} {κ:Kd σ}:∀(ls:List LJ) (x:EndM) (n:Bs) (s:σ),(∀l∈ls,fieldE l≠.nm)→runs (ltE κ) ls {x with nm:=n} s=(runs (ltE κ) ls x s).bind fun r=>.ok ({r.1 with nm:=n},r.2)
 | [],x,n,s,_=>rfl
 | l :: r,x,n,s,h=>by
   show(ltE κ l {x with nm:=n} s).bind _=((ltE κ l x s).bind _).bind _
   rw[lt_nm (h l (.head _)),Out.bind_assoc,Out.bind_assoc]
   cases ltE κ l x s with
   | ok q=>simp only[Out.ok_bind];exact runs_nm r q.1 n q.2 fun m hm=>h m (.tail _ hm)
   | bad=>rfl
   | full=>rfl
theorem formE_ref {kd:Int} {ls:List LJ} (h:formE kd=some ls):(refE kd=false∧∀l∈ls,isRefE l=false)∨(kd=5∧ls=.called::[.given,.first,.target,.handlers])∨(kd=6∧ls=.asked::[.given,.first,.target,.handlers]):=by
 rcases formE_kd h with rfl|rfl|rfl|rfl|rfl|rfl|rfl|rfl|rfl<;>cases h<;>first|(left;exact⟨by decide,by decide⟩)|(right;left;exact⟨rfl,rfl⟩)|(right;right;exact⟨rfl,rfl⟩)
theorem nm_call {l:LJ} {q:Int} (hl:∀(σ:Type) (κ:Kd σ) (x:EndM) (s:σ),ltE κ l x s=(κ.ref x.nm q s).bind fun r=>.ok ({x with nm:=r.1},r.2)) (x:EndM):
 Nm (runs (ltE (rKd b ν)) (l::[.given,.first,.target,.handlers]) x) (runs (ltE (rawKd b)) (l::[.given,.first,.target,.handlers]) x) fun y t=>({y with nm:=(ν q (beV y.nm) t).1},(ν q (beV y.nm) t).2):=fun s t=>by
 have hr:∀l∈[LJ.given,.first,.target,.handlers],isRefE l=false:=by decide
 have hn:∀l∈[LJ.given,.first,.target,.handlers],fieldE l≠.nm:=by decide
 generalize [LJ.given,.first,.target,.handlers]=r at *
 show(ltE (rKd b ν) l x (emb s t)).bind (fun q=>runs (ltE (rKd b ν)) r q.1 q.2)=((ltE (rawKd b) l x s).bind fun q=>runs (ltE (rawKd b)) r q.1 q.2).bind _
 rw[hl,hl,nm_ref x.nm q s t]
 simp only[Out.bind_assoc,Out.ok_bind]
 cases (rawKd b).ref x.nm q s with
 | ok a=>
   simp only[Out.ok_bind]
   rw[runs_nm r x (ν q (beV a.1) t).1 _ hn,runs_nm r x a.1 a.2 hn,nm_runsE r x hr]
   simp only[Out.bind_assoc,Out.ok_bind]
 | bad=>rfl
 | full=>rfl
theorem nm_end (x:EndM):Nm (codeEnd (rKd b ν) x) (codeEnd (rawKd b) x) (renE ν):=by
 refine(nm_small x.kd).bind fun kd=>?_
 dsimp only
 cases hf:formE kd with
 | none=>intro s t;rfl
 | some ls=>
   intro s t
   dsimp only
   have ho:∀r,runs (ltE (rawKd b)) ls {x with kd:=kd} s=.ok r→r.1.kd=kd:=fun r hr=>runs_inv (fun x:EndM=>x.kd) (fun l x s x' s' e=>ltE_kd e) ls _ _ _ _ hr
   rcases formE_ref hf with⟨h1,h2⟩|⟨rfl,rfl⟩|⟨rfl,rfl⟩
   · rw [nm_runsE ls {x with kd:=kd} h2 s t]
     cases hr:runs (ltE (rawKd b)) ls {x with kd:=kd} s with
     | ok r=>simp only[Out.ok_bind,renE,ho r hr,h1];rfl
     | bad=>rfl
     | full=>rfl
   · rw [nm_call (q:=1) (fun _ _ _ _=>rfl) {x with kd:=5} s t]
     cases hr:runs (ltE (rawKd b)) (.called::[.given,.first,.target,.handlers]) {x with kd:=5} s with
     | ok r=>simp only[Out.ok_bind,renE,ho r hr];rfl
     | bad=>rfl
     | full=>rfl
   · rw [nm_call (q:=4) (fun _ _ _ _=>rfl) {x with kd:=6} s t]
     cases hr:runs (ltE (rawKd b)) (.asked::[.given,.first,.target,.handlers]) {x with kd:=6} s with
     | ok r=>simp only[Out.ok_bind,renE,ho r hr];rfl
     | bad=>rfl
     | full=>rfl
theorem nm_blkm (x:BlkM):Nm (codeBlk (rKd b ν) x) (codeBlk (rawKd b) x) (renB ν):=fun s t=>by
 show((rKd b ν).blk (emb s t)).bind _=(((rawKd b).blk s).bind _).bind _
 rw[nm_blk,Out.bind_assoc,Out.bind_assoc]
 cases (rawKd b).blk s with
 | ok s =>
   simp only[Out.ok_bind]
   rw[nm_lst (b:=b) (fun x=>nm_ins x) x.ins s t,Out.bind_assoc,Out.bind_assoc]
   cases lst (rawKd b) 1 ins0 (codeIns (rawKd b)) x.ins s with
   | ok r=>
     simp only[Out.ok_bind]
     rw[nm_end (fixOt x.en) r.2,Out.bind_assoc,Out.bind_assoc]
     cases codeEnd (rawKd b) (fixOt x.en) r.2<;>rfl
   | bad=>rfl
   | full=>rfl
 | bad=>rfl
 | full=>rfl
theorem nm_flow (x:FlowM):Nm (codeFlow (rKd b ν) x) (codeFlow (rawKd b) x) (renF ν):=by
 refine(CM _ _).bind (c2:=fun r1=>(small (rKd b ν) x.res r1.2).bind fun r2=>(lst (rKd b ν) 2 0 (small (rKd b ν)) x.regs r2.2).bind fun r3=>(lst (rKd b ν) 1 [] (rKd b ν).txt x.raises r3.2).bind fun r4=>(lst (rKd b ν) 2 blk0 (codeBlk (rKd b ν)) x.blks r4.2).bind fun r5=>.ok ({x with ac:=r1.1,res:=r2.1,regs:=r3.1,raises:=r4.1,blks:=r5.1},r5.2)) (d2:=fun r1=>(small (rawKd b) x.res r1.2).bind fun r2=>(lst (rawKd b) 2 0 (small (rawKd b)) x.regs r2.2).bind fun r3=>(lst (rawKd b) 1 [] (rawKd b).txt x.raises r3.2).bind fun r4=>(lst (rawKd b) 2 blk0 (codeBlk (rawKd b)) x.blks r4.2).bind fun r5=>.ok ({x with ac:=r1.1,res:=r2.1,regs:=r3.1,raises:=r4.1,blks:=r5.1},r5.2)) fun a=>?_
 refine(nm_small _).bind (c2:=fun r2=>(lst (rKd b ν) 2 0 (small (rKd b ν)) x.regs r2.2).bind fun r3=>(lst (rKd b ν) 1 [] (rKd b ν).txt x.raises r3.2).bind fun r4=>(lst (rKd b ν) 2 blk0 (codeBlk (rKd b ν)) x.blks r4.2).bind fun r5=>.ok ({x with ac:=a,res:=r2.1,regs:=r3.1,raises:=r4.1,blks:=r5.1},r5.2)) (d2:=fun r2=>(lst (rawKd b) 2 0 (small (rawKd b)) x.regs r2.2).bind fun r3=>(lst (rawKd b) 1 [] (rawKd b).txt x.raises r3.2).bind fun r4=>(lst (rawKd b) 2 blk0 (codeBlk (rawKd b)) x.blks r4.2).bind fun r5=>.ok ({x with ac:=a,res:=r2.1,regs:=r3.1,raises:=r4.1,blks:=r5.1},r5.2)) fun a2=>?_
 refine(nm_lstS nm_small _).bind (c2:=fun r3=>(lst (rKd b ν) 1 [] (rKd b ν).txt x.raises r3.2).bind fun r4=>(lst (rKd b ν) 2 blk0 (codeBlk (rKd b ν)) x.blks r4.2).bind fun r5=>.ok ({x with ac:=a,res:=a2,regs:=r3.1,raises:=r4.1,blks:=r5.1},r5.2)) (d2:=fun r3=>(lst (rawKd b) 1 [] (rawKd b).txt x.raises r3.2).bind fun r4=>(lst (rawKd b) 2 blk0 (codeBlk (rawKd b)) x.blks r4.2).bind fun r5=>.ok ({x with ac:=a,res:=a2,regs:=r3.1,raises:=r4.1,blks:=r5.1},r5.2)) fun a3=>?_
 refine(nm_lstS nm_txt _).bind (c2:=fun r4=>(lst (rKd b ν) 2 blk0 (codeBlk (rKd b ν)) x.blks r4.2).bind fun r5=>.ok ({x with ac:=a,res:=a2,regs:=a3,raises:=r4.1,blks:=r5.1},r5.2)) (d2:=fun r4=>(lst (rawKd b) 2 blk0 (codeBlk (rawKd b)) x.blks r4.2).bind fun r5=>.ok ({x with ac:=a,res:=a2,regs:=a3,raises:=r4.1,blks:=r5.1},r5.2)) fun a4=>?_
 exact(nm_lst nm_blkm x.blks).map (g:=renF ν) (fun bl=>{x with ac:=a,res:=a2,regs:=a3,raises:=a4,blks:=bl}) fun _ _=>rfl
structure Roomy (s:RS Unit):Prop where
 p:s.places.length≤s.read
 k:s.blocks.length≤s.read
 b:s.read≤b.length
def NF {α:Type} (o:Out (α×RS Unit)):Prop:=o≠.full∧∀x s',o=.ok (x,s')→Roomy (b:=b) s'
theorem nf_num (n:Int) (sz:Nat) {s:RS Unit} (h:Roomy (b:=b) s):NF (b:=b) ((rawKd b).num n sz s):=by
 obtain⟨h1,h2,h3⟩:=h
 simp only[rKd]
 split
 · exact⟨by simp,fun x s' e=>by cases e;exact⟨by simp;omega,by simp;omega,by simp;omega⟩⟩
 · exact⟨by simp,fun x s' e=>by cases e⟩
theorem nf_txt (n:Bs) {s:RS Unit} (h:Roomy (b:=b) s):NF (b:=b) ((rawKd b).txt n s):=by
 obtain⟨h1,h2,h3⟩:=h
 simp only[rKd]
 split
 · split
   · exact⟨by simp,fun x s' e=>by cases e;exact⟨by simp;omega,by simp;omega,by simp;omega⟩⟩
   · exact⟨by simp,fun x s' e=>by cases e⟩
 · exact⟨by simp,fun x s' e=>by cases e⟩
theorem NF.bind {α β:Type} {o:Out (α×RS Unit)} (h:NF (b:=b) o) {d:α×RS Unit→Out (β×RS Unit)} (h2:∀r,Roomy (b:=b) r.2→NF (b:=b) (d r)):NF (b:=b) (o.bind d):=by
 cases o with
 | ok r=>exact h2 r (h.2 r.1 r.2 rfl)
 | bad=>exact⟨by simp[Out.bind],fun x s' e=>by cases e⟩
 | full=>exact absurd rfl h.1
theorem NF.ok {α:Type} {x:α} {s:RS Unit} (h:Roomy (b:=b) s):NF (b:=b) (.ok (x,s)):=⟨by simp,fun y s' e=>by cases e;exact h⟩
theorem NF.bad {α:Type}:NF (b:=b) (.bad:Out (α×RS Unit)):=⟨by simp,fun y s' e=>by cases e⟩
theorem nf_ref (hb:b.length≤65535) (n:Bs) (q:Int) {s:RS Unit} (h:Roomy (b:=b) s):NF (b:=b) ((rawKd b).ref n q s):=by
 obtain⟨h1,h2,h3⟩:=h
 simp only[rKd]
 rw[if_pos (show s.places.length < 1099511627776 by omega)]
 split
 · exact⟨by simp,fun x s' e=>by cases e;exact⟨by simp;omega,by simp;omega,by simp;omega⟩⟩
 · exact⟨by simp,fun x s' e=>by cases e⟩
section
variable {s:RS Unit}
theorem nf_small (p:Int) (h:Roomy (b:=b) s):NF (b:=b) (small (rawKd b) p s):=(nf_num p 1 h).bind fun r hr=>NF.ok hr
theorem nf_ltI (hb:b.length≤65535) (l:LI) (x:InsM) (h:Roomy (b:=b) s):NF (b:=b) (ltI (rawKd b) l x s):=by
 cases l<;>unfold ltI<;>first|exact(nf_num _ _ h).bind fun r hr=>NF.ok hr|exact(nf_ref hb _ _ h).bind fun r hr=>NF.ok hr
end
theorem nf_runs {α β:Type} {step:β→α→RS Unit→Out (α×RS Unit)} (h:∀l x s,Roomy (b:=b) s→NF (b:=b) (step l x s)):∀(ls:List β) (x:α) (s:RS Unit),Roomy (b:=b) s→NF (b:=b) (runs step ls x s)
 | [],x,s,hs=>NF.ok hs
 | l::r,x,s,hs=>(h l x s hs).bind fun q hq=>nf_runs h r q.1 q.2 hq
theorem nf_ins (hb:b.length≤65535) (x:InsM) (s:RS Unit) (h:Roomy (b:=b) s):NF (b:=b) (codeIns (rawKd b) x s):=(nf_small x.op h).bind fun r hr=>by
 cases formI r.1 with
 | none=>exact NF.bad
 | some ls=>exact nf_runs (fun l x s=>nf_ltI hb l x) ls _ _ hr
theorem nf_iter {α:Type} {step:α→RS Unit→Out (α×RS Unit)} (h:∀x s,Roomy (b:=b) s→NF (b:=b) (step x s)):∀(l:List α) (s:RS Unit),Roomy (b:=b) s→NF (b:=b) (iter step l s)
 | [],s,hs=>NF.ok hs
 | x::r,s,hs=>(h x s hs).bind fun q hq=>(nf_iter h r q.2 hq).bind fun q2 hq2=>NF.ok hq2
theorem nf_lst {α:Type} {sz:Nat} {z:α} {step:α→RS Unit→Out (α×RS Unit)} (h:∀x s,Roomy (b:=b) s→NF (b:=b) (step x s)) (l:List α) {s:RS Unit} (hs:Roomy (b:=b) s):NF (b:=b) (lst (rawKd b) sz z step l s):=(nf_num _ sz hs).bind fun r hr=>by
 split
 · exact NF.bad
 · exact nf_iter h _ _ hr
theorem nf_when (w:Bs×Int) (s:RS Unit) (h:Roomy (b:=b) s):NF (b:=b) (codeWhen (rawKd b) w s):=(nf_txt w.1 h).bind fun r hr=>(nf_num _ _ hr).bind fun r2 hr2=>NF.ok hr2
theorem nf_ltE (hb:b.length≤65535) (l:LJ) (x:EndM) (s:RS Unit) (h:Roomy (b:=b) s):NF (b:=b) (ltE (rawKd b) l x s):=by
 cases l<;>unfold ltE<;>first
  | exact(nf_num _ _ h).bind fun r hr=>NF.ok hr
  | exact(nf_ref hb _ _ h).bind fun r hr=>NF.ok hr
  | exact(nf_txt _ h).bind fun r hr=>NF.ok hr
  | exact(nf_lst (fun n s hs=>nf_num n 2 hs) x.args h).bind fun r hr=>NF.ok hr
  | exact(nf_lst nf_when x.ws h).bind fun r hr=>(nf_num _ _ hr).bind fun r2 hr2=>NF.ok hr2
theorem nf_end (hb:b.length≤65535) (x:EndM) (s:RS Unit) (h:Roomy (b:=b) s):NF (b:=b) (codeEnd (rawKd b) x s):=(nf_small x.kd h).bind fun r hr=>by
 cases formE r.1 with
 | none=>exact NF.bad
 | some ls=>exact nf_runs (fun l x s=>nf_ltE hb l x s) ls _ _ hr
theorem nf_blkm (hb:b.length≤65535) (x:BlkM) (s:RS Unit) (h:Roomy (b:=b) s):NF (b:=b) (codeBlk (rawKd b) x s):=by
 obtain⟨h1,h2,h3⟩:=h
 unfold codeBlk
 rw[show(rawKd b).blk s=.ok {s with blocks:=s.blocks++[(s.read:Int)]} by simp only[rKd];rw[if_pos (show s.blocks.length < 1099511627776 by omega)]]
 simp only[Out.ok_bind]
 by_cases hr:s.read+1≤b.length
 · have hR:Roomy (b:=b) {s with blocks:=s.blocks++[(s.read:Int)],read:=s.read+1}:=⟨by simp;omega,by simp;omega,hr⟩
   refine NF.bind ?_ fun r hr=>(nf_end hb _ _ hr).bind fun r2 hr2=>NF.ok hr2
   unfold lst
   rw[show(rawKd b).num x.ins.length 1 {s with blocks:=s.blocks++[(s.read:Int)]}=.ok (numV 1 (beV ((b.drop s.read).take 1)),{s with blocks:=s.blocks++[(s.read:Int)],read:=s.read+1}) by simp only[rKd];rw[if_pos hr]]
   simp only[Out.ok_bind]
   split
   · exact NF.bad
   · exact nf_iter (nf_ins hb) _ _ hR
 · unfold lst
   rw[show(rawKd b).num x.ins.length 1 {s with blocks:=s.blocks++[(s.read:Int)]}=.bad by simp only[rKd];rw[if_neg hr]]
   exact⟨by simp[Out.bind],fun y s' e=>by cases e⟩
theorem nf_flow (hb:b.length≤65535) (x:FlowM) (s:RS Unit) (h:Roomy (b:=b) s):NF (b:=b) (codeFlow (rawKd b) x s):=
 (nf_num _ _ h).bind fun _ h=>(nf_small _ h).bind fun _ h=>(nf_lst (fun n s h=>nf_small n h) _ h).bind fun _ h=>(nf_lst (fun n s h=>nf_txt n h) _ h).bind fun _ h=>(nf_lst (nf_blkm hb) _ h).bind fun _ h=>NF.ok h
def rs0 {τ:Type} (t:τ):RS τ:=⟨0,[],[],t⟩
theorem flow_nf (hb:b.length≤65535) (t:τ):codeFlow (rKd b ν) flow0 (rs0 t)≠.full:=by
 rw[show(rs0 t:RS τ)=emb (rs0 ()) t from rfl,nm_flow flow0 (rs0 ()) t]
 have:=(nf_flow hb flow0 (rs0 ()) ⟨Nat.zero_le _,Nat.zero_le _,Nat.zero_le _⟩).1
 cases h:codeFlow (rawKd b) flow0 (rs0 ()) with
 | ok r=>simp[Out.bind]
 | bad=>simp[Out.bind]
 | full=>exact absurd h this
end
end Go.Sl
namespace Go.Sl
abbrev Plc:=Int×Int×Bs
def pl:List Seg→Nat→List Plc
 | [],_=>[]
 | .lit b::r,n=>pl r (n+b.length)
 | .ref q nm::r,n=>((n:Int),q,nm)::pl r (n+2)
 | .blk::r,n=>pl r n
def bkp:List Seg→Nat→List Int
 | [],_=>[]
 | .lit b::r,n=>bkp r (n+b.length)
 | .ref _ _::r,n=>bkp r (n+2)
 | .blk::r,n=>(n:Int)::bkp r n
def out1:Seg→Bs
 | .lit b=>b
 | .ref _ _=>be 2 0
 | .blk=>[]
def out (l:List Seg):Bs:=l.flatMap out1
theorem out_cons (a:Seg) (l:List Seg):out (a::l)=out1 a++out l:=rfl
theorem out_app (l m:List Seg):out (l++m)=out l++out m:=List.flatMap_append
theorem puts_eq:∀(l:List Seg) (s:WS),puts l s=⟨s.bytes++out l,s.places++pl l s.bytes.length,s.blocks++bkp l s.bytes.length⟩
 | [],s=>by simp[puts,out,pl,bkp]
 | a :: l,s=>by
   rw[puts_cons,puts_eq l]
   cases a<;>simp[put1,out,out1,pl,bkp,Cp]
def noNm (p:Plc):Plc:=(p.1,p.2.1,[])
theorem adv_eq:∀(l:List Seg) (s:RS Unit),adv l s=⟨s.read+(out l).length,s.places++(pl l s.read).map noNm,s.blocks++bkp l s.read,()⟩
 | [],s=>by simp[adv,out,pl,bkp]
 | a :: l,s=>by
   show adv l (adv1 s a)=_
   rw[adv_eq l]
   cases a<;>simp[adv1,out,out1,pl,bkp,Cp,noNm]<;>omega
theorem layF_eq (f:FlowM):layF f=⟨out (sgFlow f),pl (sgFlow f) 0,bkp (sgFlow f) 0⟩:=by
 unfold layF;rw[puts_eq];simp[ws0]
theorem pl_app:∀(l m:List Seg) (n:Nat),pl (l++m) n=pl l n++pl m (n+(out l).length)
 | [],m,n=>by simp[pl,out]
 | a :: l,m,n=>by
   cases a<;>simp[pl,out_cons,out1,Cp,pl_app l m]<;>(congr 1;omega)
theorem CC:∀(l m:List Seg) (n:Nat),bkp (l++m) n=bkp l n++bkp m (n+(out l).length)
 | [],m,n=>by simp[bkp,out]
 | a :: l,m,n=>by
   cases a<;>simp[bkp,out_cons,out1,Cp,CC l m]<;>(congr 1;omega)
def sk:Seg→Seg
 | .ref q _=>.ref q []
 | s=>s
theorem sk_out:∀(l m:List Seg),l.map sk=m.map sk→out l=out m
 | [],[],_=>rfl
 | [],b::m,h=>by simp at h
 | a::l,[],h=>by simp at h
 | a :: l,b::m,h=>by
   simp only[List.map_cons,List.cons.injEq] at h
   obtain⟨h,h2⟩:=h
   rw[out_cons,out_cons,sk_out l m h2]
   congr 1
   cases a<;>cases b<;>simp[sk] at h<;>simp[out1, *]
theorem sk_bkp:∀(l m:List Seg) (n:Nat),l.map sk=m.map sk→bkp l n=bkp m n
 | [],[],n,_=>rfl
 | [],b::m,n,h=>by simp at h
 | a::l,[],n,h=>by simp at h
 | a :: l,b::m,n,h=>by
   simp only[List.map_cons,List.cons.injEq] at h
   obtain⟨h,h2⟩:=h
   cases a<;>cases b<;>simp[sk] at h<;>simp[bkp, *,sk_bkp l m _ h2]
theorem sk_pl:∀(l m:List Seg) (n:Nat),l.map sk=m.map sk→(pl l n).map noNm=(pl m n).map noNm
 | [],[],n,_=>rfl
 | [],b::m,n,h=>by simp at h
 | a::l,[],n,h=>by simp at h
 | a :: l,b::m,n,h=>by
   simp only[List.map_cons,List.cons.injEq] at h
   obtain⟨h,h2⟩:=h
   cases a<;>cases b<;>simp[sk] at h<;>simp[pl, *,noNm,sk_pl l m _ h2]
theorem sk_len {l m:List Seg} (h:l.map sk=m.map sk) (n:Nat):(pl l n).length=(pl m n).length:=by
 have:=congrArg List.length (sk_pl l m n h)
 simpa using this
def litI (x:InsM):List Seg:=sgN 1 x.op++(((formI x.op).getD []).filter fun l=> !isRef l).flatMap fun l=>sgLI l x
theorem sgLI_ref {l:LI} (h:isRef l=true) (x:InsM):sgLI l x=[.ref (sortL l) x.nm]:=by cases l<;>first|rfl|cases h
theorem refI_none {op:Int} (h:formI op=none):refI op=false:=by
 have:op∉opsL:=by
  intro hm
  simp only[opsL,List.mem_cons,List.not_mem_nil,or_false] at hm
  rcases hm with rfl|rfl|rfl|rfl|rfl|rfl|rfl|rfl|rfl|rfl|rfl|rfl|rfl|rfl|rfl|rfl|rfl|rfl|rfl|rfl|rfl|rfl|rfl|rfl|rfl|rfl|rfl|rfl|rfl|rfl|rfl|rfl|rfl|rfl<;>cases h
 unfold refI
 rw[formR_nil this];rfl
theorem sgIns_nf (x:InsM):sgIns x=litI x++if refI x.op then [.ref (sortR x.op) x.nm] else []:=by
 unfold sgIns litI
 cases hf:formI x.op with
 | none=>simp[refI_none hf]
 | some ls=>
   simp only[Option.getD_some]
   rcases form_ref hf with⟨h1,h2⟩|⟨h1,ns,l,rfl,h2,h3,h4⟩
   · rw[h1,List.filter_eq_self.2 fun l hl=>by simp[h2 l hl]];simp
   · rw [h1,List.filter_append,List.filter_eq_self.2 fun l hl=>by simp[h2 l hl]]
     simp[h3,sgLI_ref h3,h4]
theorem sgLI_nm {l:LI} (h:isRef l=false) (x:InsM) (n:Bs):sgLI l {x with nm:=n}=sgLI l x:=by cases l<;>first|rfl|cases h
theorem litI_nm (x:InsM) (n:Bs):litI {x with nm:=n}=litI x:=by
 unfold litI
 congr 1
 simp only[List.flatMap_def]
 congr 1
 exact List.map_congr_left fun l hl=>sgLI_nm (by simpa using (List.mem_filter.1 hl).2) x n
def Lits (l:List Seg):Prop:=∀s∈l,∃b,s=.lit b
theorem lits_pl:∀(l:List Seg) (n:Nat),Lits l→pl l n=[]
 | [],_,_=>rfl
 | a :: l,n,h=>by
   obtain⟨b,rfl⟩:=h a (.head _)
   exact lits_pl l _ fun s hs=>h s (.tail _ hs)
theorem CS (x:InsM):Lits (litI x):=by
 intro s hs
 simp only[litI,sgN,List.mem_append,List.mem_cons,List.not_mem_nil,or_false,List.mem_flatMap,List.mem_filter] at hs
 rcases hs with rfl|⟨l,⟨_,hl⟩,hs⟩
 · exact⟨_,rfl⟩
 · cases l<;>simp[isRef] at hl<;>simp only[sgLI,sgN,List.mem_cons,List.not_mem_nil,or_false] at hs<;>exact⟨_,hs⟩
def sortE (kd:Int):Int:=if kd=5 then 1 else 4
def litE (x:EndM):List Seg:=(((formE x.kd).getD []).filter fun l=> !isRefE l).flatMap fun l=>sgLJ l x
theorem refE_none {kd:Int} (h:formE kd=none):refE kd=false:=by
 unfold refE
 have h5:kd≠5:=by rintro rfl;cases h
 have h6:kd≠6:=by rintro rfl;cases h
 simp[h5,h6]
theorem sgEnd_nf (x:EndM):sgEnd x=sgN 1 x.kd++((if refE x.kd then [.ref (sortE x.kd) x.nm] else [])++litE x):=by
 unfold sgEnd litE
 cases hf:formE x.kd with
 | none=>simp[refE_none hf]
 | some ls=>
   simp only[Option.getD_some]
   rcases formE_ref hf with⟨h1,h2⟩|⟨h1,rfl⟩|⟨h1,rfl⟩
   · rw[h1,List.filter_eq_self.2 fun l hl=>by simp[h2 l hl]];simp
   · rw[h1];simp[refE,sortE,isRefE,List.filter,sgLJ]
   · rw[h1];simp[refE,sortE,isRefE,List.filter,sgLJ]
theorem litE_nm (x:EndM) (n:Bs) (h:refE x.kd=true):litE {x with nm:=n}=litE x:=by
 unfold litE
 have:x.kd=5∨x.kd=6:=by simpa [refE] using h
 dsimp only
 rcases this with e|e<;>rw[e]<;>simp[formE,isRefE,List.filter,sgLJ]
theorem lits_app {l m:List Seg} (h:Lits l) (h2:Lits m):Lits (l++m):=fun s hs=>(List.mem_append.1 hs).elim (h s) (h2 s)
theorem lits_flat {α:Type} {g:α→List Seg} (h:∀x,Lits (g x)) (l:List α):Lits (l.flatMap g):=fun s hs=>by
 obtain⟨x,_,hx⟩:=List.mem_flatMap.1 hs
 exact h x s hx
theorem BR (sz:Nat) (n:Int):Lits (sgN sz n):=fun s hs=>⟨_,by simpa [sgN] using hs⟩
theorem lits_T (t:Bs):Lits (sgT t):=fun s hs=>⟨_,by simpa [sgT] using hs⟩
theorem lits_L {α:Type} {sz:Nat} {g:α→List Seg} (h:∀x,Lits (g x)) (l:List α):Lits (sgL sz g l):=lits_app (BR _ _) (lits_flat h l)
theorem Dg (x:EndM):Lits (litE x):=by
 intro s hs
 obtain⟨l,hl,hs⟩:=List.mem_flatMap.1 hs
 have hl:=(List.mem_filter.1 hl).2
 cases l<;>first
  | exact BR _ _ s hs
  | exact lits_T _ s hs
  | exact lits_L (fun n=>BR 2 n) _ s hs
  | exact lits_app (lits_L (fun w=>lits_app (lits_T _) (BR _ _)) _) (BR _ _) s hs
  | simp[isRefE] at hl
section
variable {τ:Type} (ν:Int→Int→τ→Bs×τ)
def plR (p:Plc) (t:τ):Plc×τ:=((p.1,p.2.1,(ν p.2.1 (beV p.2.2) t).1),(ν p.2.1 (beV p.2.2) t).2)
structure Ren (l m:List Seg) (t t':τ):Prop where
 sk:m.map sk=l.map sk
 pl:∀n,acc (plR ν) (pl l n) t=(pl m n,t')
variable {ν}
theorem acc_app {α:Type} (f:α→τ→α×τ):∀(l m:List α) (t:τ),acc f (l++m) t=((acc f l t).1++(acc f m (acc f l t).2).1,(acc f m (acc f l t).2).2)
 | [],m,t=>rfl
 | a::l,m,t=>by simp[acc,acc_app f l m]
theorem Ren.app {l m l2 m2:List Seg} {t t' t2:τ} (h:Ren ν l m t t') (h2:Ren ν l2 m2 t' t2):Ren ν (l++l2) (m++m2) t t2:=by
 refine⟨by rw[List.map_append,List.map_append,h.sk,h2.sk],fun n=>?_⟩
 rw[pl_app,pl_app,acc_app,h.pl,h2.pl,sk_out _ _ h.sk]
theorem Ren.lits {l:List Seg} (h:Lits l) (t:τ):Ren ν l l t t:=⟨rfl,fun n=>by rw[lits_pl l n h];rfl⟩
theorem ren_ins (x:InsM) (t:τ):Ren ν (sgIns x) (sgIns (renI ν x t).1) t (renI ν x t).2:=by
 rw[sgIns_nf,sgIns_nf]
 unfold renI
 by_cases h:refI x.op=true
 · simp only[h,if_true,litI_nm]
   refine Ren.app (Ren.lits (CS x) t) ⟨rfl,fun n=>rfl⟩
 · simp only[h,if_false,Bool.false_eq_true,List.append_nil]
   exact Ren.lits (CS x) t
theorem ren_end (x:EndM) (t:τ):Ren ν (sgEnd x) (sgEnd (renE ν x t).1) t (renE ν x t).2:=by
 rw[sgEnd_nf,sgEnd_nf]
 unfold renE
 by_cases h:refE x.kd=true
 · simp only[h,if_true,litE_nm x _ h]
   exact Ren.app (Ren.lits (BR _ _) t) (Ren.app (t':=(ν (if x.kd=5 then 1 else 4) (beV x.nm) t).2) ⟨rfl,fun n=>rfl⟩ (Ren.lits (Dg x) _))
 · simp only[h,if_false,Bool.false_eq_true,List.nil_append]
   exact Ren.lits (lits_app (BR _ _) (Dg x)) t
theorem acc_len {α:Type} (f:α→τ→α×τ):∀(l:List α) (t:τ),(acc f l t).1.length=l.length
 | [],_=>rfl
 | a::l,t=>by simp[acc,acc_len f l]
theorem ren_list {α:Type} {g:α→List Seg} {f:α→τ→α×τ} (h:∀x t,Ren ν (g x) (g (f x t).1) t (f x t).2):∀(l:List α) (t:τ),Ren ν (l.flatMap g) ((acc f l t).1.flatMap g) t (acc f l t).2
 | [],t=>⟨rfl,fun n=>rfl⟩
 | a::l,t=>(h a t).app (ren_list h l (f a t).2)
theorem ren_L {α:Type} {sz:Nat} {g:α→List Seg} {f:α→τ→α×τ} (h:∀x t,Ren ν (g x) (g (f x t).1) t (f x t).2) (l:List α) (t:τ):Ren ν (sgL sz g l) (sgL sz g (acc f l t).1) t (acc f l t).2:=by
 unfold sgL
 rw[acc_len]
 exact(Ren.lits (BR _ _) t).app (ren_list h l t)
theorem ren_blk (x:BlkM) (t:τ):Ren ν (sgBlk x) (sgBlk (renB ν x t).1) t (renB ν x t).2:=
 Ren.app (l:=[.blk]) (m:=[.blk]) ⟨rfl,fun n=>rfl⟩ ((ren_L (fun x t=>ren_ins x t) x.ins t).app (ren_end x.en _))
theorem ren_flow (x:FlowM) (t:τ):Ren ν (sgFlow x) (sgFlow (renF ν x t).1) t (renF ν x t).2:=
 (Ren.lits (BR _ _) t).app ((Ren.lits (BR _ _) t).app ((Ren.lits (lits_L (fun r=>BR 1 r) _) t).app ((Ren.lits (lits_L lits_T _) t).app (ren_L (fun b t=>ren_blk b t) x.blks t))))
theorem dmI_ren (x:InsM) (t:τ):dmI (renI ν x t).1=dmI x:=by
 unfold renI
 by_cases h:refI x.op=true
 · simp[dmI,h]
 · simp[h]
theorem dmE_ren (x:EndM) (t:τ):dmE (renE ν x t).1=dmE x:=by
 unfold renE
 by_cases h:refE x.kd=true
 · simp[dmE,h]
 · simp[h]
theorem acc_map {α β:Type} (f:α→τ→α×τ) (g:α→β) (h:∀x t,g (f x t).1=g x):∀(l:List α) (t:τ),(acc f l t).1.map g=l.map g
 | [],_=>rfl
 | a::l,t=>by simp[acc,h,acc_map f g h l]
theorem dmB_ren (x:BlkM) (t:τ):dmB (renB ν x t).1=dmB x:=by
 simp only[dmB,renB,dmE_ren,acc_map (renI ν) dmI dmI_ren]
theorem dmF_ren (x:FlowM) (t:τ):dmF (renF ν x t).1=dmF x:=by
 simp only[dmF,renF,acc_map (renB ν) dmB dmB_ren]
end
theorem refs_ins {x y:InsM} (hd:dmI x=dmI y) (hp:(pl (sgIns x) 0).map (·.2.2)=(pl (sgIns y) 0).map (·.2.2)):x=y:=by
 have hop:x.op=y.op:=by
  have h1:(dmI x).op=x.op:=by unfold dmI;split<;>rfl
  have h2:(dmI y).op=y.op:=by unfold dmI;split<;>rfl
  rw[←h1,←h2,hd]
 rw[sgIns_nf,sgIns_nf,pl_app,pl_app,lits_pl _ _ (CS x),lits_pl _ _ (CS y)] at hp
 unfold dmI at hd
 by_cases h:refI x.op=true
 · rw [if_pos h,if_pos (hop▸h)] at hd hp
   simp only[pl,List.map_cons,List.map_nil,List.nil_append,List.cons.injEq,and_true] at hp
   cases x;cases y
   simp only[InsM.mk.injEq,true_and,and_true] at hd hp ⊢
   simp_all
 · rw [if_neg h,if_neg (hop▸h)] at hd
   exact hd
theorem refs_end {x y:EndM} (hd:dmE x=dmE y) (hp:(pl (sgEnd x) 0).map (·.2.2)=(pl (sgEnd y) 0).map (·.2.2)):x=y:=by
 have hop:x.kd=y.kd:=by
  have h1:(dmE x).kd=x.kd:=by unfold dmE;split<;>rfl
  have h2:(dmE y).kd=y.kd:=by unfold dmE;split<;>rfl
  rw[←h1,←h2,hd]
 rw[sgEnd_nf,sgEnd_nf,pl_app,pl_app,pl_app,pl_app,lits_pl _ _ (BR _ _),lits_pl _ _ (BR _ _),lits_pl _ _ (Dg x),lits_pl _ _ (Dg y)] at hp
 unfold dmE at hd
 by_cases h:refE x.kd=true
 · rw [if_pos h,if_pos (hop▸h)] at hd hp
   simp only[pl,List.map_cons,List.map_nil,List.nil_append,List.append_nil,List.cons.injEq,and_true] at hp
   cases x;cases y
   simp only[EndM.mk.injEq,true_and,and_true] at hd hp ⊢
   simp_all
 · rw [if_neg h,if_neg (hop▸h)] at hd
   exact hd
def nmsOf (l:List Seg):List Bs:=(pl l 0).map (·.2.2)
theorem pl_nms:∀(l:List Seg) (n:Nat),(pl l n).map (·.2.2)=nmsOf l:=by
 intro l
 unfold nmsOf
 suffices h:∀(l:List Seg) (n m:Nat),(pl l n).map (·.2.2)=(pl l m).map (·.2.2) from fun n=>h l n 0
 intro l
 induction l with
 | nil=>intros;rfl
 | cons a l ih=>intro n m;cases a<;>simp[pl,ih _ (m+_)]<;>exact ih _ _
theorem Bx (l m:List Seg):nmsOf (l++m)=nmsOf l++nmsOf m:=by
 unfold nmsOf;rw[pl_app,List.map_append,pl_nms m];rfl
theorem Cm {l:List Seg} (h:Lits l):nmsOf l=[]:=by unfold nmsOf;rw[lits_pl l 0 h];rfl
theorem nms_insLen {x y:InsM} (hd:dmI x=dmI y):(nmsOf (sgIns x)).length=(nmsOf (sgIns y)).length:=by
 have hop:x.op=y.op:=by
  have h1:(dmI x).op=x.op:=by unfold dmI;split<;>rfl
  have h2:(dmI y).op=y.op:=by unfold dmI;split<;>rfl
  rw[←h1,←h2,hd]
 rw[sgIns_nf,sgIns_nf,Bx,Bx,Cm (CS x),Cm (CS y),hop]
 split<;>rfl
theorem nms_endLen {x y:EndM} (hd:dmE x=dmE y):(nmsOf (sgEnd x)).length=(nmsOf (sgEnd y)).length:=by
 have hop:x.kd=y.kd:=by
  have h1:(dmE x).kd=x.kd:=by unfold dmE;split<;>rfl
  have h2:(dmE y).kd=y.kd:=by unfold dmE;split<;>rfl
  rw[←h1,←h2,hd]
 rw[sgEnd_nf,sgEnd_nf,Bx,Bx,Bx,Bx,Cm (Dg x),Cm (Dg y),Cm (BR _ _),Cm (BR _ _),hop]
 split<;>rfl
theorem nms_flatLen {α β:Type} {g:α→List Seg} {d:α→β} (h:∀x y,d x=d y→(nmsOf (g x)).length=(nmsOf (g y)).length):∀(l m:List α),l.map d=m.map d→(nmsOf (l.flatMap g)).length=(nmsOf (m.flatMap g)).length
 | [],[],_=>rfl
 | [],b::m,e=>by simp at e
 | a::l,[],e=>by simp at e
 | a :: l,b::m,e=>by
   simp only[List.map_cons,List.cons.injEq] at e
   rw[List.flatMap_cons,List.flatMap_cons,Bx,Bx,List.length_append,List.length_append,h a b e.1,nms_flatLen h l m e.2]
theorem refs_flat {α β:Type} {g:α→List Seg} {d:α→β} (h:∀x y,d x=d y→(nmsOf (g x)).length=(nmsOf (g y)).length) (h2:∀x y,d x=d y→nmsOf (g x)=nmsOf (g y)→x=y):∀(l m:List α),l.map d=m.map d→nmsOf (l.flatMap g)=nmsOf (m.flatMap g)→l=m
 | [],[],_,_=>rfl
 | [],b::m,e,_=>by simp at e
 | a::l,[],e,_=>by simp at e
 | a :: l,b::m,e,hn=>by
   simp only[List.map_cons,List.cons.injEq] at e
   rw[List.flatMap_cons,List.flatMap_cons,Bx,Bx] at hn
   obtain⟨h3,h4⟩:=List.append_inj hn (h a b e.1)
   rw[h2 a b e.1 h3,refs_flat h h2 l m e.2 h4]
theorem nms_L {α:Type} {sz:Nat} {g:α→List Seg} (l:List α):nmsOf (sgL sz g l)=nmsOf (l.flatMap g):=by
 unfold sgL;rw[Bx,Cm (BR _ _)];rfl
theorem nms_blk (x:BlkM):nmsOf (sgBlk x)=nmsOf (x.ins.flatMap sgIns)++nmsOf (sgEnd x.en):=by
 unfold sgBlk
 rw[show(Seg.blk::(sgL 1 sgIns x.ins++sgEnd x.en))=[Seg.blk]++(sgL 1 sgIns x.ins++sgEnd x.en) from rfl,Bx,Bx,nms_L]
 rfl
theorem nms_blkLen (x y:BlkM) (h:dmB x=dmB y):(nmsOf (sgBlk x)).length=(nmsOf (sgBlk y)).length:=by
 simp only[dmB,BlkM.mk.injEq] at h
 rw[nms_blk,nms_blk,List.length_append,List.length_append,nms_flatLen (fun _ _=>nms_insLen) _ _ h.1,nms_endLen h.2]
theorem refs_blk (x y:BlkM) (h:dmB x=dmB y) (hn:nmsOf (sgBlk x)=nmsOf (sgBlk y)):x=y:=by
 simp only[dmB,BlkM.mk.injEq] at h
 rw[nms_blk,nms_blk] at hn
 obtain⟨h3,h4⟩:=List.append_inj hn (nms_flatLen (fun _ _=>nms_insLen) _ _ h.1)
 cases x;cases y
 simp only[BlkM.mk.injEq]
 exact⟨refs_flat (fun _ _=>nms_insLen) (fun _ _=>refs_ins) _ _ h.1 h3,refs_end h.2 h4⟩
theorem nms_flow (x:FlowM):nmsOf (sgFlow x)=nmsOf (x.blks.flatMap sgBlk):=by
 unfold sgFlow
 rw[Bx,Bx,Bx,Bx,Cm (BR _ _),Cm (BR _ _),Cm (lits_L (fun r=>BR 1 r) _),Cm (lits_L lits_T _),nms_L]
 rfl
theorem flow_ext {x y:FlowM} (h0:x.nm=y.nm) (h:dmF x=dmF y) (hn:nmsOf (sgFlow x)=nmsOf (sgFlow y)):x=y:=by
 simp only[dmF,FlowM.mk.injEq] at h
 rw[nms_flow,nms_flow] at hn
 have:=refs_flat nms_blkLen refs_blk _ _ h.2.2.2.2.2 hn
 cases x;cases y
 simp only[FlowM.mk.injEq] at h h0 ⊢
 exact⟨h0,h.2.1,h.2.2.1,h.2.2.2.1,h.2.2.2.2.1,this⟩
def patch1 (b a:Bs) (n:Nat):Bs:=a.take n++((b.drop n).take 2++a.drop (n+2))
theorem patch_raw (b:Bs):∀(l:List Seg) (A B:Bs),b=A++(rawOf l++B)→(∀p∈pl l 0,p.2.2.length=2)→(pl l A.length).foldl (fun a p=>patch1 b a p.1.toNat) (A++out l)=A++rawOf l
 | [],A,B,h,_=>by simp[pl,out,rawOf]
 | .lit x::l,A,B,h,hl=>by
   have:=patch_raw b l (A++x) B (by rw[h];simp[rawOf,rawOf1]) (by
    intro p hp
    have hm:p.2.2∈nmsOf l:=List.mem_map_of_mem hp
    rw[←pl_nms l (0+x.length)] at hm
    obtain⟨p',hp',e⟩:=List.mem_map.1 hm
    rw[←e]
    exact hl p' hp')
   simpa [pl,out,out1,rawOf,rawOf1] using this
 | .blk::l,A,B,h,hl=>by
   have:=patch_raw b l A B (by rw[h];simp[rawOf,rawOf1]) hl
   simpa [pl,out,out1,rawOf,rawOf1] using this
 | .ref q nm::l,A,B,h,hl=>by
   have h2:nm.length=2:=hl (((0:Nat):Int),q,nm) (.head _)
   have:=patch_raw b l (A++nm) B (by rw[h];simp[rawOf,rawOf1]) (by
    intro p hp
    have hm:p.2.2∈nmsOf l:=List.mem_map_of_mem hp
    rw[←pl_nms l (0+2)] at hm
    obtain⟨p',hp',e⟩:=List.mem_map.1 hm
    rw[←e]
    exact hl p' (.tail _ hp'))
   have h3:patch1 b (A++(be 2 0++out l)) A.length=A++(nm++out l):=by
    unfold patch1
    have e0:be 2 0=[0,0]:=by rw[be2];rfl
    rw[h,e0]
    simp only[rawOf,rawOf1,List.flatMap_cons]
    rw[List.take_append_of_le_length Y26,List.take_length,List.drop_append_of_le_length Y26,List.drop_length]
    obtain⟨x0,x1,rfl⟩:=len_two h2
    simp[List.append_assoc]
   show(pl l (A.length+2)).foldl (fun a p=>patch1 b a p.1.toNat) (patch1 b (A++(be 2 0++out l)) (A.length:Int).toNat)=_
   rw[Int.toNat_natCast,h3]
   simpa [rawOf,rawOf1,h2] using this
end Go.Sl
namespace Go.Sl
theorem ins_split (n:Int) (x:InsM):insR n x=(insR n (dmI x) && (nmsOf (sgIns x)).all symOk):=by
 rw[sgIns_nf,Bx,Cm (CS x)]
 by_cases h:refI x.op=true
 · have h2:has (formR x.op) 110=true:=h
   have h3:symOk dmy=true:=by decide
   have h4:nmsOf [Seg.ref (sortR x.op) x.nm]=[x.nm]:=rfl
   rw[if_pos h,h4]
   unfold insR dmI
   rw[if_pos h]
   simp only[h2,h3,List.nil_append,List.all_cons,List.all_nil,Bool.and_true,Bool.not_true,Bool.and_false,Bool.or_false,Bool.false_and,Bool.true_and]
   cases symOk x.nm<;>simp
 · have h2:dmI x=x:=by unfold dmI;rw[if_neg h]
   have h4:nmsOf ([]:List Seg)=[]:=rfl
   rw[if_neg h,h2,h4];simp
theorem end_split (n nb:Int) (x:EndM):endR n nb x=(endR n nb (dmE x) && (nmsOf (sgEnd x)).all symOk):=by
 rw[sgEnd_nf,Bx,Bx,Cm (BR _ _),Cm (Dg x)]
 by_cases h:refE x.kd=true
 · have h3:symOk dmy=true:=by decide
   have h4:nmsOf [Seg.ref (sortE x.kd) x.nm]=[x.nm]:=rfl
   have h5:has (formEnd x.kd) 114=true:=by
    have:x.kd=5∨x.kd=6:=by simpa [refE] using h
    rcases this with e|e<;>rw[e]<;>decide
   rw[if_pos h,h4]
   unfold endR dmE
   rw[if_pos h]
   simp only[h5,h3,List.nil_append,List.append_nil,List.all_cons,List.all_nil,Bool.and_true,Bool.not_true,Bool.and_false,Bool.or_false,Bool.false_and,Bool.true_and,Bool.or_true,Bool.false_or,handlersR]
   cases symOk x.nm<;>simp
 · have h2:dmE x=x:=by unfold dmE;rw[if_neg h]
   have h4:nmsOf ([]:List Seg)=[]:=rfl
   rw[if_neg h,h2,h4];simp
theorem all_split {α β:Type} {p:α→Bool} {q:β→Bool} {d:α→β} {g:α→List Seg} (h:∀x,p x=(q (d x) && (nmsOf (g x)).all symOk)):∀l:List α,l.all p=((l.map d).all q && (nmsOf (l.flatMap g)).all symOk)
 | []=>rfl
 | x :: l=>by
   rw[List.flatMap_cons,Bx,List.all_cons,all_split h l,h x,List.map_cons,List.all_cons,List.all_append]
   cases q (d x)<;>cases (nmsOf (g x)).all symOk<;>cases (l.map d).all q<;>simp
theorem blk_split (n nb:Int) (b:BlkM):blkOk n nb b=(blkOk n nb (dmB b) && (nmsOf (sgBlk b)).all symOk):=by
 unfold blkOk
 rw[nms_blk,all_split (ins_split n) b.ins,end_split n nb b.en,List.all_append]
 simp only[dmB,List.length_map]
 cases endR n nb (dmE b.en)<;>cases (nmsOf (sgEnd b.en)).all symOk<;>cases (nmsOf (b.ins.flatMap sgIns)).all symOk<;>simp
theorem snd_split (f:FlowM):sndOk f=(sndOk (dmF f) && (nmsOf (sgFlow f)).all symOk):=by
 unfold sndOk
 rw[nms_flow,all_split (blk_split f.regs.length f.blks.length) f.blks]
 simp only[dmF,List.length_map,Bool.and_assoc]
 rfl
def rawRead (b:Bs):Out (FlowM×RS Unit):=codeFlow (rawKd b) flow0 (rs0 ())
def decP (b:Bs):Option (FlowM×RS Unit):=if 20000 < b.length then none else match rawRead b with
 | .ok r=>if r.2.read=b.length∧r.2.places.length≤500 then some r else none
 | _=>none
def codeP (b:Bs):Option FlowM:=match decP b with
 | some r=>if sndOk (dmF r.1) then some r.1 else none
 | none=>none
structure GoodF (f:FlowM) (b:Bs):Prop where
 nm:f.nm=[]
 two:∀n∈nmsOf (sgFlow f),n.length=2
 res:0≤f.res
 snd:sndOk (dmF f)=true
 raw:rawOf (sgFlow f)=b
 len:b.length≤20000
 pls:(pl (sgFlow f) 0).length≤500
theorem mem_nmsI {f:FlowM} {b:BlkM} (hb:b∈f.blks) {x:InsM} (hx:x∈b.ins) (h:refI x.op=true):x.nm∈nmsOf (sgFlow f):=by
 rw[nms_flow]
 have h1 : ∀ (l:List BlkM),b∈l→x.nm∈nmsOf (l.flatMap sgBlk):=by
  intro l
  induction l with
  | nil=>intro h;exact(List.not_mem_nil h).elim
  | cons c l ih=>
    intro hm
    rw[List.flatMap_cons,Bx,List.mem_append]
    rcases List.mem_cons.1 hm with rfl|hm
    · left
      rw[nms_blk,List.mem_append]
      left
      have h2 : ∀(l:List InsM),x∈l→x.nm∈nmsOf (l.flatMap sgIns):=by
       intro l
       induction l with
       | nil=>intro h;exact(List.not_mem_nil h).elim
       | cons c l ih=>
         intro hm
         rw[List.flatMap_cons,Bx,List.mem_append]
         rcases List.mem_cons.1 hm with rfl|hm
         · left
           rw[sgIns_nf,Bx,Cm (CS x),if_pos h]
           exact .head _
         · right;exact ih hm
      exact h2 _ hx
    · right;exact ih hm
 exact h1 _ hb
theorem mem_nmsE {f:FlowM} {b:BlkM} (hb:b∈f.blks) (h:refE b.en.kd=true):b.en.nm∈nmsOf (sgFlow f):=by
 rw[nms_flow]
 have h1 : ∀(l:List BlkM),b∈l→b.en.nm∈nmsOf (l.flatMap sgBlk):=by
  intro l
  induction l with
  | nil=>intro h;exact(List.not_mem_nil h).elim
  | cons c l ih=>
    intro hm
    rw[List.flatMap_cons,Bx,List.mem_append]
    rcases List.mem_cons.1 hm with rfl|hm
    · left
      rw[nms_blk,List.mem_append,sgEnd_nf,Bx,Bx,Cm (BR _ _),if_pos h]
      right
      exact .head _
    · right;exact ih hm
 exact h1 _ hb
theorem GoodF.rawF {f:FlowM} {b:Bs} (h:GoodF f b):RawF f:=⟨h.nm,fun b hb x hx hr=>h.two _ (mem_nmsI hb hx hr),fun b hb hr=>h.two _ (mem_nmsE hb hr)⟩
theorem flow_nm {σ:Type} {κ:Kd σ} {x x':FlowM} {s s':σ} (h:codeFlow κ x s=.ok (x',s')):x'.nm=x.nm:=by
 obtain⟨r1,h1,h⟩:=Out.bind_ok h
 obtain⟨r2,h2,h⟩:=Out.bind_ok h
 obtain⟨r3,h3,h⟩:=Out.bind_ok h
 obtain⟨r4,h4,h⟩:=Out.bind_ok h
 obtain⟨r5,h5,h⟩:=Out.bind_ok h
 cases h;rfl
theorem flow_res {b:Bs} {x x':FlowM} {s s':RS Unit} (h:codeFlow (rawKd b) x s=.ok (x',s')):0≤x'.res∧x'.res≤255:=by
 obtain⟨r1,h1,h⟩:=Out.bind_ok h
 obtain⟨r2,h2,h⟩:=Out.bind_ok h
 obtain⟨r3,h3,h⟩:=Out.bind_ok h
 obtain⟨r4,h4,h⟩:=Out.bind_ok h
 obtain⟨r5,h5,h⟩:=Out.bind_ok h
 cases h;exact(rd_small h2).2
theorem acc_two:∀(l:List Plc) (t:Unit),∀p∈(acc (plR rawN) l t).1,p.2.2.length=2
 | [],t,p,hp=>(List.not_mem_nil hp).elim
 | a :: l,t,p,hp=>by
   rcases List.mem_cons.1 hp with rfl|hp
   · exact Cp _ _
   · exact acc_two l _ p hp
theorem read_two {b:Bs} {x x':FlowM} {s s':RS Unit} (h:codeFlow (rawKd b) x s=.ok (x',s')):∀n∈nmsOf (sgFlow x'),n.length=2:=by
 have h1:=nm_flow (b:=b) (ν:=rawN) x s ()
 rw[show(emb s ():RS Unit)=s from rfl,h] at h1
 have h2:x'=(renF rawN x' ()).1:=congrArg Prod.fst (Out.ok.inj h1)
 have h3:=(ren_flow (ν:=rawN) x' ()).pl 0
 rw[←h2] at h3
 intro n hn
 obtain⟨p,hp,rfl⟩:=List.mem_map.1 hn
 have h4:=acc_two (pl (sgFlow x') 0) ()
 rw[h3] at h4
 exact h4 p hp
theorem rlen_out:∀(l:List Seg),(∀n∈nmsOf l,n.length=2)→(rawOf l).length=(out l).length
 | [],_=>rfl
 | a :: l,h=>by
   have h2:nmsOf (a::l)=nmsOf [a]++nmsOf l:=Bx [a] l
   rw[h2] at h
   have ih:=rlen_out l fun n hn=>h n (List.mem_append_right _ hn)
   have e1:rawOf (a::l)=rawOf1 a++rawOf l:=rfl
   rw[e1,out_cons,List.length_append,List.length_append,ih]
   congr 1
   cases a with
   | lit x=>rfl
   | blk=>rfl
   | ref q nm=>
     have:=h nm (List.mem_append_left _ (.head _))
     simp[rawOf1,out1,Cp,this]
theorem cnt_eq:∀(l:List Seg) (n:Nat),cnt l=(pl l n).length+(bkp l n).length
 | [],_=>rfl
 | a :: l,n=>by
   cases a<;>simp[pl,bkp,cnt,List.countP_cons]<;>have:=cnt_eq l<;>simp only[cnt] at this
   · exact this _
   · rw[this (n+2)];omega
   · rw[this n];omega
theorem blk_count:∀(l:List Seg),Lits l→bkp l 0=[]:=by
 suffices h:∀(l:List Seg) (n:Nat),Lits l→bkp l n=[] from fun l=>h l 0
 intro l
 induction l with
 | nil=>intros;rfl
 | cons a l ih=>intro n h;obtain⟨b,rfl⟩:=h a (.head _);exact ih _ fun s hs=>h s (.tail _ hs)
theorem bkp_len (l:List Seg) (n m:Nat):(bkp l n).length=(bkp l m).length:=by
 induction l generalizing n m with
 | nil=>rfl
 | cons a l ih=>cases a<;>simp[bkp]<;>exact ih _ _
theorem bkp_ins (x:InsM):bkp (sgIns x) 0=[]:=by
 rw[sgIns_nf,CC,blk_count _ (CS x)]
 split<;>rfl
theorem bkp_end (x:EndM):bkp (sgEnd x) 0=[]:=by
 rw[sgEnd_nf,CC,blk_count _ (BR _ _)]
 have:bkp ((if refE x.kd then [Seg.ref (sortE x.kd) x.nm] else [])++litE x) 0=[]:=by
  rw[CC]
  have h2:=bkp_len (litE x) (0+(out (if refE x.kd=true then [Seg.ref (sortE x.kd) x.nm] else [])).length) 0
  rw[blk_count _ (Dg x)] at h2
  rw[List.length_eq_zero_iff.1 h2]
  split<;>rfl
 have h2:=bkp_len ((if refE x.kd then [Seg.ref (sortE x.kd) x.nm] else [])++litE x) (0+(out (sgN 1 x.kd)).length) 0
 rw[this] at h2
 rw[List.length_eq_zero_iff.1 h2];rfl
theorem bkp_flat {α:Type} {g:α→List Seg} {k:Nat} (h:∀x,(bkp (g x) 0).length=k):∀(l:List α),(bkp (l.flatMap g) 0).length=l.length*k
 | []=>by simp[bkp]
 | x :: l=>by
   rw[List.flatMap_cons,CC,List.length_append,bkp_len _ (0+_) 0,bkp_flat h l,h,List.length_cons,Nat.succ_mul];omega
theorem bkp_lit {l:List Seg} (h:Lits l) (n:Nat):bkp l n=[]:=by
 have:=bkp_len l n 0
 rw[blk_count l h] at this
 exact List.length_eq_zero_iff.1 this
theorem bkp_blk (x:BlkM):(bkp (sgBlk x) 0).length=1:=by
 have h1:(bkp (x.ins.flatMap sgIns) 0).length=0:=by rw[bkp_flat (k:=0) (fun x=>by rw[bkp_ins];rfl)];simp
 show((((0:Nat):Int)::bkp (sgL 1 sgIns x.ins++sgEnd x.en) 0).length)=1
 unfold sgL
 rw[CC,CC,bkp_lit (BR _ _)]
 simp only[List.length_cons,List.length_append,List.length_nil]
 rw[bkp_len _ (0+_) 0,h1,bkp_len _ (0+_) 0,bkp_end];rfl
theorem bkp_flow (f:FlowM):(bkp (sgFlow f) 0).length=f.blks.length:=by
 unfold sgFlow
 rw[CC,CC,CC,CC,bkp_lit (BR _ _),bkp_lit (BR _ _),bkp_lit (lits_L (fun r=>BR 1 r) _),bkp_lit (lits_L lits_T _)]
 unfold sgL
 rw[CC,bkp_lit (BR _ _)]
 simp only[List.nil_append]
 rw[bkp_len _ _ 0,bkp_flat bkp_blk];omega
theorem codeP_good {b:Bs} {f:FlowM}:codeP b=some f↔GoodF f b:=by
 constructor
 · intro h
   unfold codeP at h
   split at h
   · rename_i r hr
     split at h
     · rename_i hs
       cases h
       unfold decP at hr
       split at hr
       · cases hr
       · rename_i hl
         split at hr
         · rename_i r' hc
           split at hr
           · rename_i hp
             cases hr
             have hc':codeFlow (rawKd b) flow0 (rs0 ())=.ok (r.1,r.2):=hc
             have hrd:=rd_flow hc'
             have h2:=hrd.2 (Nat.zero_le _)
             have hraw:rawOf (sgFlow r.1)=b:=by
              have:=h2.2
              rw[hp.1] at this
              simpa [rs0] using this
             refine⟨flow_nm hc',read_two hc',(flow_res hc').1,hs,hraw,by omega,?_⟩
             have h3:=hp.2
             rw[hrd.1,adv_eq] at h3
             simpa [rs0] using h3
           · cases hr
         · cases hr
     · cases h
   · cases h
 · intro h
   have hB:=flowB_of h.rawF h.res h.snd
   have hb:=bk_flow (b:=b) hB (rs0 ()) [] (Nat.zero_le _) (by rw[h.raw];simp[rs0]) (by
    have h1:=cnt_eq (sgFlow f) 0
    have h2:=h.pls
    have h3:=bkp_flow f
    have h4:f.blks.length≤65534:=hB.blks.1
    simp only[rs0,List.length_nil,maxB]
    omega)
   have ha:=adv_eq (sgFlow f) (rs0 ())
   have hread:(adv (sgFlow f) (rs0 ())).read=b.length:=by
    rw[ha]
    simp only[rs0,Nat.zero_add]
    rw[←rlen_out _ h.two,h.raw]
   have hpl:(adv (sgFlow f) (rs0 ())).places.length≤500:=by
    rw[ha]
    simpa [rs0] using h.pls
   unfold codeP decP rawRead
   rw[if_neg (by have:=h.len;omega),hb.1]
   simp only[hread,hpl,and_self,if_true,h.snd]
theorem decP_adv {b:Bs} {r:FlowM×RS Unit} (h:decP b=some r):r.2=adv (sgFlow r.1) (rs0 ())∧rawOf (sgFlow r.1)=b∧b.length≤20000∧r.1.nm=[]∧(0≤r.1.res∧r.1.res≤255)∧(∀n∈nmsOf (sgFlow r.1),n.length=2)∧(pl (sgFlow r.1) 0).length≤500:=by
 unfold decP at h
 split at h
 · cases h
 · rename_i hl
   split at h
   · rename_i r' hc
     split at h
     · rename_i hp
       cases h
       have hc':codeFlow (rawKd b) flow0 (rs0 ())=.ok (r.1,r.2):=hc
       have hrd:=rd_flow hc'
       have h2:=hrd.2 (Nat.zero_le _)
       refine⟨hrd.1,?_,by omega,flow_nm hc',flow_res hc',read_two hc',?_⟩
       · have:=h2.2
         rw[hp.1] at this
         simpa [rs0] using this
       · have h3:=hp.2
         rw[hrd.1,adv_eq] at h3
         simpa [rs0] using h3
     · cases h
   · cases h
abbrev St:=Nat×Bool
def digitsN:Nat→Nat→Bs
 | 0,_=>[]
 | k+1,n=>if n < 10 then [UInt8.ofNat (48+n)] else digitsN k (n / 10)++[UInt8.ofNat (48+n % 10)]
def digB (n:Int):Bs:=digitsN (n.toNat+1) n.toNat
end Go.Sl
namespace Go.Sl
def numN:Int→Int→Unit→Bs×Unit:=fun _ n _=>(digB n,())
section
variable {b:Bs}
theorem acc_unit {α:Type} (f:α→Unit→α×Unit):∀(l:List α),acc f l ()=(l.map fun x=>(f x ()).1,())
 | []=>rfl
 | a::l=>by simp only[acc,acc_unit f l];rfl
end
end Go.Sl
namespace Go.Sl
def setN:List Seg→List Bs→List Seg
 | [],_=>[]
 | .ref q _::r,n::N=>.ref q n::setN r N
 | .ref q nm::r,[]=>.ref q nm::setN r []
 | .lit b::r,N=>.lit b::setN r N
 | .blk::r,N=>.blk::setN r N
theorem setN_sk:∀(l:List Seg) (N:List Bs),(setN l N).map sk=l.map sk
 | [],N=>by cases N<;>rfl
 | .ref q nm::r,[]=>by simp[setN,setN_sk r,sk]
 | .ref q nm::r,n::N=>by simp[setN,setN_sk r,sk]
 | .lit b::r,N=>by simp[setN,setN_sk r]
 | .blk::r,N=>by simp[setN,setN_sk r]
theorem nms_ref (q:Int) (nm:Bs) (l:List Seg):nmsOf (.ref q nm::l)=nm::nmsOf l:=Bx [.ref q nm] l
theorem nms_lit (b:Bs) (l:List Seg):nmsOf (.lit b::l)=nmsOf l:=Bx [.lit b] l
theorem nms_blk1 (l:List Seg):nmsOf (.blk::l)=nmsOf l:=Bx [.blk] l
theorem setN_nms:∀(l:List Seg) (N:List Bs),N.length=(nmsOf l).length→nmsOf (setN l N)=N
 | [],N,h=>by
   have:N=[]:=List.length_eq_zero_iff.1 h
   subst this;rfl
 | .ref q nm::r,[],h=>by rw[nms_ref] at h;simp at h
 | .ref q nm::r,n::N,h=>by
   rw[nms_ref] at h
   simp only[setN]
   rw[nms_ref,setN_nms r N (by simpa using h)]
 | .lit b::r,N,h=>by
   rw[nms_lit] at h
   simp only[setN]
   rw[nms_lit,setN_nms r N h]
 | .blk::r,N,h=>by
   rw[nms_blk1] at h
   simp only[setN]
   rw[nms_blk1,setN_nms r N h]
theorem seg_ext:∀(l m:List Seg),l.map sk=m.map sk→nmsOf l=nmsOf m→l=m
 | [],[],_,_=>rfl
 | [],b::m,h,_=>by simp at h
 | a::l,[],h,_=>by simp at h
 | a :: l,b::m,h,hn=>by
   simp only[List.map_cons,List.cons.injEq] at h
   obtain⟨h,h2⟩:=h
   cases a<;>cases b<;>simp[sk] at h
   · subst h
     rw[nms_lit,nms_lit] at hn
     rw[seg_ext l m h2 hn]
   · subst h
     rw[nms_ref,nms_ref] at hn
     simp only[List.cons.injEq] at hn
     rw[hn.1,seg_ext l m h2 hn.2]
   · rw [nms_blk1,nms_blk1] at hn
     rw[seg_ext l m h2 hn]
def νI (N:List Bs):Int→Int→Nat→Bs×Nat:=fun _ _ k=>(N.getD k dmy,k+1)
theorem acc_I (N:List Bs):∀(ps:List Plc) (k:Nat),(acc (plR (νI N)) ps k).1.map (·.2.2)=(List.range ps.length).map (fun i=>N.getD (k+i) dmy)
 | [],k=>rfl
 | p :: ps,k=>by
   simp only[acc,List.map_cons,acc_I N ps,List.length_cons,List.range_succ_eq_map,List.map_map]
   simp only[plR,νI,Nat.add_zero]
   congr 1
   apply List.map_congr_left
   intro i _
   show N.getD (k+1+i) dmy=N.getD (k+(i+1)) dmy
   congr 1;omega
def namesS (N:List Bs) (f:FlowM) (nm:Bs):FlowM:={(renF (νI N) f 0).1 with nm:=nm}
theorem names_nms {N:List Bs} {f:FlowM} (h:N.length=(nmsOf (sgFlow f)).length) (nm:Bs):nmsOf (sgFlow (namesS N f nm))=N:=by
 have h1:=(ren_flow (ν:=νI N) f 0).pl 0
 have h2:=acc_I N (pl (sgFlow f) 0) 0
 rw[h1] at h2
 show(pl (sgFlow (renF (νI N) f 0).1) 0).map (·.2.2)=N
 have hl:(pl (sgFlow f) 0).length=N.length:=by rw[h];simp[nmsOf]
 rw[h2,hl]
 apply List.ext_getElem
 · simp
 · intro i h3 h4
   simp[List.getD_eq_getElem?_getD,List.getElem?_eq_getElem h4]
theorem names_sk (N:List Bs) (f:FlowM) (nm:Bs):(sgFlow (namesS N f nm)).map sk=(sgFlow f).map sk:=(ren_flow (ν:=νI N) f 0).sk
theorem names_seg {N:List Bs} {f:FlowM} (h:N.length=(nmsOf (sgFlow f)).length) (nm:Bs):sgFlow (namesS N f nm)=setN (sgFlow f) N:=
 seg_ext _ _ (by rw[names_sk,setN_sk]) (by rw[names_nms h,setN_nms _ _ h])
theorem names_dm (N:List Bs) (f:FlowM) (nm:Bs):dmF (namesS N f nm)=dmF f:=dmF_ren f 0
theorem pl_ge:∀(l:List Seg) (n:Nat),∀p∈pl l n,(n:Int)≤p.1
 | [],n,p,h=>(List.not_mem_nil h).elim
 | .lit b::l,n,p,h=>by have:=pl_ge l (n+b.length) p h;omega
 | .blk::l,n,p,h=>pl_ge l n p h
 | .ref q nm::l,n,p,h=>by
   rcases List.mem_cons.1 h with rfl|h
   · exact Int.le_refl _
   · have:=pl_ge l (n+2) p h;omega
theorem digitsN_all:∀(k n:Nat),∀c∈digitsN k n,48≤c.toNat∧c.toNat≤57
 | 0,n,c,h=>(List.not_mem_nil h).elim
 | k + 1, n,c,h=>by
   simp only[digitsN] at h
   split at h
   · simp only[List.mem_cons,List.not_mem_nil,or_false] at h
     subst h
     rw[u8n _ Y9];omega
   · rcases List.mem_append.1 h with h|h
     · exact digitsN_all k _ c h
     · simp only[List.mem_cons,List.not_mem_nil,or_false] at h
       subst h
       rw[u8n _ Y9];omega
theorem digitsN_pos (k n:Nat):1≤(digitsN (k+1) n).length:=by
 simp only[digitsN]
 split<;>simp
theorem digitsN_len:∀(m k n:Nat),n < 10 ^ m→1≤m→(digitsN k n).length≤m
 | 0,k,n,_,h=>by omega
 | m,0,n,_,h=>by simp[digitsN]
 | m + 1, k+1,n,h,_=>by
   simp only[digitsN]
   split
   · simp
   · by_cases hm:m=0
     · subst hm;simp at h;omega
     · have:=digitsN_len m k (n / 10) (by rw[Nat.pow_succ] at h;omega) Y9
       simp;omega
theorem digB_sym {n:Int} (h0:0≤n) (h1:n≤65535):symOk (digB n)=true:=by
 have h2:=digitsN_all (n.toNat+1) n.toNat
 have h3:=digitsN_pos n.toNat n.toNat
 have h4:=digitsN_len 5 (n.toNat+1) n.toNat Y9 Y9
 unfold symOk digB
 simp only[Bool.and_eq_true,decide_eq_true_eq,List.all_eq_true]
 refine⟨⟨⟨h3,by omega⟩,?_⟩,fun c hc=>by have:=h2 c hc;omega⟩
 intro e
 have:=h2 45 (by rw[e];exact .head _)
 simp at this
theorem beV_two {l:Bs} (h:l.length=2):0≤beV l∧beV l≤65535:=by
 obtain⟨a,b,rfl⟩:=len_two h
 have:=a.toNat_lt
 have:=b.toNat_lt
 rw[beV2];omega
theorem acc_unitP (ps:List Plc):(acc (plR numN) ps ()).1.map (·.2.2)=(ps.map (·.2.2)).map fun n=>digB (beV n):=by
 rw[acc_unit];simp[plR,numN]
theorem num_nms (f:FlowM):nmsOf (sgFlow (renF numN f ()).1)=(nmsOf (sgFlow f)).map fun n=>digB (beV n):=by
 have h1:=(ren_flow (ν:=numN) f ()).pl 0
 have h2:=acc_unitP (pl (sgFlow f) 0)
 rw[h1] at h2
 exact h2
theorem GoodF.read {f:FlowM} {b:Bs} (h:GoodF f b):∃s,rawRead b=.ok (f,s)∧s.read=b.length∧s=adv (sgFlow f) (rs0 ()):=by
 have hc:=codeP_good.2 h
 unfold codeP at hc
 split at hc
 · rename_i r hr
   split at hc
   · cases hc
     have h2:=decP_adv hr
     unfold decP at hr
     split at hr
     · cases hr
     · split at hr
       · rename_i r' h3
         split at hr
         · rename_i h4
           cases hr
           exact⟨r.2,h3,h4.1,h2.1⟩
         · cases hr
       · cases hr
   · cases hc
 · cases hc
theorem GoodF.num {f:FlowM} {b:Bs} (h:GoodF f b):sndOk (renF numN f ()).1=true:=by
 rw[snd_split,dmF_ren,h.snd,num_nms,Bool.true_and,List.all_eq_true]
 intro n hn
 obtain⟨m,hm,rfl⟩:=List.mem_map.1 hn
 have:=beV_two (h.two m hm)
 exact digB_sym this.1 this.2
end Go.Sl
namespace Go.Sl
structure CodeM where
 nm:Bs
 bytes:Bs
 places:List Plc
 deriving DecidableEq
def code0:CodeM:=⟨[],[],[]⟩
def encS (f:FlowM):CodeM×Int:=if chkOk f then (if 20000 < (layF f).bytes.length∨500 < (layF f).places.length then (code0,2) else (⟨f.nm,(layF f).bytes,(layF f).places⟩,0)) else (code0,1)
def lenS (f:FlowM):Int×Int:=if chkOk f then (((layF f).bytes.length:Int),0) else (0,1)
def decodeP (x:CodeM):Option FlowM:=match decP x.bytes with
 | none=>none
 | some r=>
   let g:=namesS (x.places.map (·.2.2)) r.1 x.nm
   if (encS g).2=0∧(encS g).1.bytes=x.bytes∧(encS g).1.places=x.places then some g else none
theorem raw_out:∀(l:List Seg),(∀m∈nmsOf l,m=[0,0])→rawOf l=out l
 | [],_=>rfl
 | .lit x::l,h=>by rw[nms_lit] at h;show x++rawOf l=x++out l;rw[raw_out l h]
 | .blk::l,h=>by rw[nms_blk1] at h;exact raw_out l h
 | .ref q nm::l,h=>by
   rw[nms_ref] at h
   show nm++rawOf l=be 2 0++out l
   rw[raw_out l fun m hm=>h m (.tail _ hm),h nm (.head _),be2];rfl
theorem enc_ok {g:FlowM}:(encS g).2=0↔chkOk g=true∧(layF g).bytes.length≤20000∧(layF g).places.length≤500:=by
 unfold encS
 split
 · split
   · simp;omega
   · simp_all
 · simp_all
theorem enc_val {g:FlowM} (h:(encS g).2=0):encS g=(⟨g.nm,(layF g).bytes,(layF g).places⟩,0):=by
 have h2:=enc_ok.1 h
 unfold encS
 rw[if_pos h2.1,if_neg Y9]
def νB (names:Int→List Bs):Int→Int→Bool→Bs×Bool:=fun q n lk=>if ((names q).length:Int)≤n then (dmy,true) else ((names q).getD n.toNat [],lk)
def backP (nm:Bs) (b:Bs) (names:Int→List Bs):FlowM×Int:=match codeP b with
 | none=>(flow0,150)
 | some f=>
   if (renF (νB names) f false).2 then (flow0,5)
   else if chkOk {(renF (νB names) f false).1 with nm:=nm} then ({(renF (νB names) f false).1 with nm:=nm},0) else (flow0,1)
end Go.Sl
namespace Go.Sl
open Go Go.RowKit Go.Shelf Go.Proofs
attribute [local irreducible] Calls
def CodeK (S:Nat→Prop) (w0:World) (G:List Ent) (x:CodeM) (v:Value):Prop:=
 ∃bv pv',v=.agg #[str x.nm,bv,pv']∧SlK S w0 G (byv x.bytes) x.bytes.length bv∧SlK S w0 G (rowV plcC x.places) x.places.length pv'
section
variable {S:Nat→Prop} {w0:World} {F:List Ent}
theorem CodeK.up {G G':List Ent} {x:CodeM} {v:Value} (h:CodeK S w0 G x v) (hu:∀e∈G,e∈G'):CodeK S w0 G' x v:=by
 obtain⟨bv,pv',h0,h1,h2⟩:=h
 exact⟨bv,pv',h0,h1.up hu,h2.up hu⟩
theorem SlK.nil {cells:List Value} (h:cells=[]) {a:Option Addr} {c:Nat}:SlK S w0 F cells 0 (.slice a 0 c):=⟨a,c,rfl,Nat.zero_le _,.inl h⟩
theorem SlK.ofRow {b:Option Nat} {n cap sz:Nat} {xs rst:List Value} {el:TypeId} {A B:List Ent} (hsz:0 < sz) (h:RowB b n cap sz xs rst):SlK S w0 (A++(rowE b xs rst el++B)) xs n (slV b n cap):=by
 cases b with
 | none=>
   have h1:=h.hn rfl
   have h2:=h.hc
   have h3:=h.hl
   rw[h1] at h2
   have hx:xs=[]:=List.length_eq_zero_iff.1 (by simp at h2;simp[h2.1])
   have h5:n*sz=0:=by have:=h.hl;rw[hx] at this;exact this.symm
   have h6:n=0:=(Nat.mul_eq_zero.1 h5).resolve_right Y9
   exact⟨none,cap,rfl,by omega,.inl hx⟩
 | some b=>
   have hc:n≤cap:=by
    have h2:=h.hc
    have h3:=h.hl
    have:n*sz≤cap*sz:=by omega
    exact Nat.le_of_mul_le_mul_right this hsz
   exact(SlK.own (F:=B) hc).up fun e he=>List.mem_append_right _ he
theorem check_c {x:FlowM} {v:Value} (hK:FlowK S w0 F x v) (hL:FlowL x):Yields S w0 F 17 [v] (.int .i64 (if chkOk x then 0 else 1)):=by
 refine AE fun w hi=>?_
 simp only[List.nil_append] at hi
 have hs:∀ {F'},(∀e∈F,e∈F')→Yields S w0 F' 40 [v] (.bool (chkOk x)):=fun hu=>sound_c (hK.up hu) hL
 obtain⟨rv,sv,bv,rfl,_⟩:=id hK
 generalize chkOk x=q at *
 refine Ak Tryz.func17 rfl rfl (hi) ?_
 cases q
 · repeat' (first|refine Ag rfl ?_|refine Aj rfl ?_|refine Al ?_|refine An ?_|refine A5 rfl ?_|refine AM Tryz.func17 rfl (fun w_ hi_=>?_)|refine Ab 0 ?_;try refine AL (cs:=flowC x rv sv bv) rfl rfl rfl rfl (fun b1 hb1=>?_);try refine Za rfl (Aa N41 ?_)|refine Ab 1 ?_;try refine Zv (AW U26 rfl AO rfl Y0 Y15) ?_;try refine Zv (Aw (CallR.val rfl en40) (hs Y12)) ?_;try refine Zv (Ci rfl) (Aa N41 ?_)|refine Ab 2 ?_;try refine Za rfl (Aa N41 ?_))
   exact⟨[],⟨rfl,rfl⟩,hi_.subset Y5⟩
 · repeat' (first|refine Ag rfl ?_|refine Aj rfl ?_|refine Al ?_|refine An ?_|refine Az rfl ?_|refine AB ?_|refine AM Tryz.func17 rfl (fun w_ hi_=>?_)|refine Ab 0 ?_;try refine AL (cs:=flowC x rv sv bv) rfl rfl rfl rfl (fun b1 hb1=>?_);try refine Za rfl (Aa N41 ?_)|refine Ab 1 ?_;try refine Zv (AW U26 rfl AO rfl Y0 Y15) ?_;try refine Zv (Aw (CallR.val rfl en40) (hs Y12)) ?_;try refine Zv (BN rfl) (Aa N41 ?_)|refine Ab 3 ?_;try refine Za rfl (Aa N41 ?_))
   exact⟨[],⟨rfl,rfl⟩,hi_.subset Y5⟩
theorem written_n {x:FlowM} {v:Value} (hK:FlowK S w0 F x v) (hR:FlowR x) (hs:sndOk x=true):
 SLF Tryz.prog S w0 F 38 [v] [] (fun e post=>∃v,e=.returned v∧∃wb,v=pv wb 0∧wSt wb (layF x) post):=
 (written_c hK hR (wr_flow (flowW_of hs hR.res.1))).mono fun e post ⟨wb,h1,h2⟩=>⟨_,h1,wb,rfl,h2⟩
theorem chk_snd {x:FlowM} (h:chkOk x=true):sndOk x=true:=by unfold chkOk at h;exact(Bool.and_eq_true _ _▸h).2
theorem encode_c {x:FlowM} {v:Value} (hK:FlowK S w0 F x v) (hR:sndOk x=true→FlowR x) (hL:FlowL x):
 SLF Tryz.prog S w0 F 13 [v] [] (fun e post=>∃u,e=.returned (.tuple #[u,.int .i64 (encS x).2])∧CodeK S w0 post (encS x).1 u):=by
 refine AE fun w hi=>?_
 simp only[List.nil_append] at hi
 have hq:∀ {F'},(∀e∈F,e∈F')→Yields S w0 F' 17 [v] (.int .i64 (if chkOk x then 0 else 1)):=fun hu=>check_c (hK.up hu) hL
 obtain⟨rv,sv,bv,rfl,_⟩:=id hK
 have hc0:CodeK S w0 [] code0 (.agg #[str [],.slice none 0 0,.slice none 0 0]):=⟨_,_,rfl,SlK.nil rfl,SlK.nil rfl⟩
 by_cases hc:chkOk x=true
 · rw [if_pos hc] at hq
   by_cases hm:20000 < (layF x).bytes.length∨500 < (layF x).places.length
   · rw [show encS x=(code0,2) by unfold encS;rw[if_pos hc,if_pos hm]]
     refine Ak Tryz.func13 rfl rfl (hi) ?_
     repeat' (first|refine Ag rfl ?_|refine Aj rfl ?_|refine Al ?_|refine An ?_|refine A5 rfl ?_|refine Az rfl ?_|refine AB ?_|refine C5 Tryz.func13 (.cellA rfl U31 rfl inf31 Y13 rfl (.tmp rfl (.nil))) (fun w_ hi_=>?_)|refine Ab 0 ?_;try refine AL (cs:=flowC x rv sv bv) rfl rfl rfl rfl (fun b0 hb0=>?_);try refine A8 inf31 rfl rfl rfl rfl (fun b_ hb_=>?_);try refine Za rfl (Aa N24 ?_)|refine Ab 1 ?_;try refine Zv (AW U26 rfl AO rfl Y0 Y15) ?_;try refine Zv (Aw (CallR.val rfl en17) (hq Y12)) ?_;try refine Za rfl (Aa N24 ?_)|refine Ab 2 ?_;try refine Zm rfl (Zv (AN rfl rfl (by first|exact Ax Y9|exact As Y9|exact rfl)) ?_);try refine Aa N24 ?_|refine Ab 4 ?_;try refine Zv (AW U26 rfl AO rfl Y0 Y15) ?_;try((refine AQ (pre:=[]) (Take.nil _) (CallR.val rfl en38) rfl rfl (written_n (hK.up Y12) (hR (chk_snd hc)) (chk_snd hc)) ?_;rintro v post ⟨wb,rfl,b1,c1,r1,b2,c2,r2,b3,c3,r3,h1,h2,h3,rfl⟩;simp only[List.append_assoc,List.cons_append])<;>try refine Za rfl (Aa N24 ?_))|refine Ab 5 ?_;try refine Zm rfl (Zv (Ah rfl) (Zf BX rfl (Zf CN rfl (Zv (Ac U22 rfl rfl Y0 Y4) ?_))));try refine Zv (Ap rfl U22 rfl) (Zv (Be rfl rfl Y2) ?_);try refine Zm rfl ?_;try(((refine Bc rfl rfl (fun h=>?_) (fun h=>?_))<;>(first|refine Zk ?_|refine Zm rfl ?_))<;>try((first|refine Zk ?_|refine Zv (Ah rfl) ?_)<;>try((first|refine Zk ?_|refine Zf BX rfl ?_)<;>try((first|refine Zk ?_|refine Zf BS rfl ?_)<;>try((first|refine Zk ?_|refine Zv (Ac U29 rfl rfl Y0 Y4) ?_)<;>try((first|refine Zk ?_|refine Zv (Ap rfl U29 rfl) ?_)<;>try((first|refine Zk ?_|refine Zv (Be rfl rfl Y2) ?_)<;>try((first|refine Zv (Av rfl rfl) ?_|refine Zv (A0 rfl rfl) ?_)<;>try refine Aa N24 ?_))))))))|refine Ab 6 ?_;try refine Zv (Cw pl31 inf31 rfl) ?_;try refine AI rfl rfl rfl sz31 Y3 Y15 rfl rfl ?_;try refine Za rfl (Aa N24 ?_))
     all_goals first
      | (exfalso;omega)
      | exact⟨[],⟨_,rfl,hc0⟩,hi_.subset Y5⟩
   · rw [show encS x=(⟨x.nm,(layF x).bytes,(layF x).places⟩,0) by unfold encS;rw[if_pos hc,if_neg hm]]
     refine Ak Tryz.func13 rfl rfl (hi) ?_
     repeat' (first|refine Ag rfl ?_|refine Aj rfl ?_|refine Al ?_|refine An ?_|refine Az rfl ?_|refine AB ?_|refine C5 Tryz.func13 (.cellA rfl U31 rfl inf31 Y13 rfl (.tmp rfl (.nil))) (fun w_ hi_=>?_)|refine Ab 0 ?_;try refine AL (cs:=flowC x rv sv bv) rfl rfl rfl rfl (fun b0 hb0=>?_);try refine A8 inf31 rfl rfl rfl rfl (fun b_ hb_=>?_);try refine Za rfl (Aa N24 ?_)|refine Ab 1 ?_;try refine Zv (AW U26 rfl AO rfl Y0 Y15) ?_;try refine Zv (Aw (CallR.val rfl en17) (hq Y12)) ?_;try refine Za rfl (Aa N24 ?_)|refine Ab 2 ?_;try refine Zm rfl (Zv (AN rfl rfl (by first|exact Ax Y9|exact As Y9|exact rfl)) ?_);try refine Aa N24 ?_|refine Ab 4 ?_;try refine Zv (AW U26 rfl AO rfl Y0 Y15) ?_;try((refine AQ (pre:=[]) (Take.nil _) (CallR.val rfl en38) rfl rfl (written_n (hK.up Y12) (hR (chk_snd hc)) (chk_snd hc)) ?_;rintro v post ⟨wb,rfl,b1,c1,r1,b2,c2,r2,b3,c3,r3,h1,h2,h3,rfl⟩;simp only[List.append_assoc,List.cons_append])<;>try refine Za rfl (Aa N24 ?_))|refine Ab 5 ?_;try refine Zm rfl (Zv (Ah rfl) (Zf BX rfl (Zf CN rfl (Zv (Ac U22 rfl rfl Y0 Y4) ?_))));try refine Zv (Ap rfl U22 rfl) (Zv (Be rfl rfl Y2) ?_);try refine Zm rfl (Zm rfl (Zv (Ah rfl) (Zf BX rfl (Zf BS rfl (Zv (Ac U29 rfl rfl Y0 Y4) ?_)))));try refine Zv (Ap rfl U29 rfl) (Zv (Be rfl rfl Y2) ?_);try refine Zv (A0 rfl rfl) (Aa N24 ?_)|refine Bg (id:=7) 13 rfl mixed Y1 ?_;try refine A4 (Ad fo26_0 rfl) rfl rfl (A4 (Ac U9 rfl rfl Y0 Y4) rfl rfl ?_);try refine A4 (Ai rfl) rfl rfl (A4 (Ah rfl) rfl rfl (A4 (Ad BX rfl) rfl rfl (A4 (Ad CN rfl) rfl rfl (A4 (Ac U22 rfl rfl Y0 Y4) rfl rfl ?_))));try refine A4 (Ai rfl) rfl rfl (A4 (Ah rfl) rfl rfl (A4 (Ad BX rfl) rfl rfl (A4 (Ad BS rfl) rfl rfl (A4 (Ac U29 rfl rfl Y0 Y4) rfl rfl ?_))));try refine A4 (CB pl31 inf31 rfl rfl rfl rfl rfl rfl rfl) rfl rfl (Bf ?_);try refine AI rfl rfl rfl sz31 Y3 Y15 rfl rfl ?_;try refine Za rfl (Aa N24 ?_))
     all_goals first
      | (exfalso;omega)
      | exact⟨rowE b1 (byv (layF x).bytes) r1 5++(rowE b2 (rowV plcC (layF x).places) r2 49++[]),⟨_,rfl,_,_,rfl,SlK.ofRow (A:=[]) Y9 h1,SlK.ofRow Y9 h2⟩,by simp only[List.append_assoc,List.nil_append];exact hi_.subset (by repeat(first|exact List.Sublist.refl _|apply List.Sublist.cons_cons|apply List.Sublist.cons|apply List.Sublist.append (List.Sublist.refl _)|apply List.sublist_append_of_sublist_right))⟩
      | skip
 · rw [show encS x=(code0,1) by unfold encS;rw[if_neg hc]]
   rw[if_neg hc] at hq
   refine Ak Tryz.func13 rfl rfl (hi) ?_
   repeat' (first|refine Ag rfl ?_|refine Aj rfl ?_|refine Al ?_|refine An ?_|refine A5 rfl ?_|refine C5 Tryz.func13 (.cellA rfl U31 rfl inf31 Y13 rfl (.tmp rfl (.nil))) (fun w_ hi_=>?_)|refine Ab 0 ?_;try refine AL (cs:=flowC x rv sv bv) rfl rfl rfl rfl (fun b0 hb0=>?_);try refine A8 inf31 rfl rfl rfl rfl (fun b_ hb_=>?_);try refine Za rfl (Aa N24 ?_)|refine Ab 1 ?_;try refine Zv (AW U26 rfl AO rfl Y0 Y15) ?_;try refine Zv (Aw (CallR.val rfl en17) (hq Y12)) ?_;try refine Za rfl (Aa N24 ?_)|refine Ab 2 ?_;try refine Zm rfl (Zv (AN rfl rfl (by first|exact Ax Y9|exact As Y9|exact rfl)) ?_);try refine Aa N24 ?_|refine Ab 3 ?_;try refine Zv (Cw pl31 inf31 rfl) (Zm rfl ?_);try refine AI rfl rfl rfl sz31 Y3 Y15 rfl rfl ?_;try refine Za rfl (Aa N24 ?_))
   exact⟨[],⟨_,rfl,hc0⟩,hi_.subset Y5⟩
theorem length_c {x:FlowM} {v:Value} (hK:FlowK S w0 F x v) (hR:sndOk x=true→FlowR x) (hL:FlowL x):Yields S w0 F 15 [v] (.tuple #[.int .i64 (lenS x).1,.int .i64 (lenS x).2]):=by
 refine AE fun w hi=>?_
 simp only[List.nil_append] at hi
 have hq:∀ {F'},(∀e∈F,e∈F')→Yields S w0 F' 17 [v] (.int .i64 (if chkOk x then 0 else 1)):=fun hu=>check_c (hK.up hu) hL
 obtain⟨rv,sv,bv,rfl,_⟩:=id hK
 by_cases hc:chkOk x=true
 · rw [if_pos hc] at hq
   rw[show lenS x=(((layF x).bytes.length:Int),0) by unfold lenS;rw[if_pos hc]]
   refine Ak Tryz.func15 rfl rfl (hi) ?_
   repeat' (first|refine Ag rfl ?_|refine Aj rfl ?_|refine Al ?_|refine An ?_|refine Az rfl ?_|refine AB ?_|refine AM Tryz.func15 rfl (fun w_ hi_=>?_)|refine Ab 0 ?_;try refine AL (cs:=flowC x rv sv bv) rfl rfl rfl rfl (fun b0 hb0=>?_);try refine Za rfl (Za rfl (Aa N34 ?_))|refine Ab 1 ?_;try refine Zv (AW U26 rfl AO rfl Y0 Y15) ?_;try refine Zv (Aw (CallR.val rfl en17) (hq Y12)) ?_;try refine Za rfl (Aa N34 ?_)|refine Ab 2 ?_;try refine Zm rfl (Zv (AN rfl rfl (by first|exact Ax Y9|exact As Y9|exact rfl)) ?_);try refine Aa N34 ?_|refine Ab 4 ?_;try refine Zv (AW U26 rfl AO rfl Y0 Y15) ?_;try((refine AQ (pre:=[]) (Take.nil _) (CallR.val rfl en38) rfl rfl (written_n (hK.up Y12) (hR (chk_snd hc)) (chk_snd hc)) ?_;rintro v post ⟨wb,rfl,b1,c1,r1,b2,c2,r2,b3,c3,r3,h1,h2,h3,rfl⟩;simp only[List.append_assoc,List.cons_append])<;>try refine Zv (Ah rfl) (Zf BX rfl (Zf CN rfl (Zv (Ac U22 rfl rfl Y0 Y4) ?_)));try refine Zv (Ap rfl U22 rfl) (Za rfl (Za rfl (Aa N34 ?_)))))
   exact⟨[],⟨rfl,rfl⟩,hi_.subset Y5⟩
 · rw [if_neg hc] at hq
   rw[show lenS x=(0,1) by unfold lenS;rw[if_neg hc]]
   refine Ak Tryz.func15 rfl rfl (hi) ?_
   repeat' (first|refine Ag rfl ?_|refine Aj rfl ?_|refine Al ?_|refine An ?_|refine A5 rfl ?_|refine AM Tryz.func15 rfl (fun w_ hi_=>?_)|refine Ab 0 ?_;try refine AL (cs:=flowC x rv sv bv) rfl rfl rfl rfl (fun b0 hb0=>?_);try refine Za rfl (Za rfl (Aa N34 ?_))|refine Ab 1 ?_;try refine Zv (AW U26 rfl AO rfl Y0 Y15) ?_;try refine Zv (Aw (CallR.val rfl en17) (hq Y12)) ?_;try refine Za rfl (Aa N34 ?_)|refine Ab 2 ?_;try refine Zm rfl (Zv (AN rfl rfl (by first|exact Ax Y9|exact As Y9|exact rfl)) ?_);try refine Aa N34 ?_|refine Ab 3 ?_;try refine Zm rfl (Za rfl (Za rfl (Aa N34 ?_))))
   exact⟨[],⟨rfl,rfl⟩,hi_.subset Y5⟩
end
end Go.Sl
namespace Go.Sl
open Go Go.RowKit Go.Shelf Go.Proofs
attribute [local irreducible] Calls
abbrev RBE (rb:Nat) (v1 v2 v3:Value) (n:Nat) (fv:Value):Ent:=⟨rb,true,.cells #[v1,v2,v3,.int .i64 (n:Int),fv] 98 (0,0)⟩
section
variable {S:Nat→Prop} {w0:World} {F:List Ent}
def BytesAt (S:Nat→Prop) (w0:World) (F:List Ent) (l:Bs) (n:Nat) (v:Value):Prop:=
 ∃b0 off0 c2,v=.slice (some ⟨b0,off0,none⟩) n c2∧n≤c2∧∀i (h:i < l.length),Kn S w0 F b0 (off0+i) (.int .u8 l[i].toNat)
theorem bytes_part {b:Bs} {s n b0 off0 c2:Nat} (hk:∀i (h:i < (byv b).length),Kn S w0 F b0 (off0+i) (byv b)[i]) (h:s+n≤b.length) (hc:n≤c2):BytesAt S w0 F ((b.drop s).take n) n (.slice (some ⟨b0,if s+n=s then off0 else off0+s*1,none⟩) n c2):=by
 refine⟨_,_,_,rfl,hc,fun i hi=>?_⟩
 have hi2:i < n:=by simp at hi;omega
 rw[if_neg Y9]
 have:=hk (s+i) (by simp[byv];omega)
 rw[show off0+s*1+i=off0+(s+i) by omega]
 simpa [byv] using this
theorem take_c {rb s n:Nat} {b:Bs} {bsv v2 v3 fv:Value} (hb:SlK S w0 F (byv b) b.length bsv) (hs:s≤b.length) (hn:1≤n∨b≠[]) (hlen:b.length≤65535) (hn2:n≤65535):
 SLF Tryz.prog S w0 F 184 [pv rb 0,.int .i64 (n:Int)] [RBE rb bsv v2 v3 s fv] (MoO (if s+n≤b.length then .ok () else .bad) fun _ v post=>post=[RBE rb bsv v2 v3 (s+n) fv]∧BytesAt S w0 F ((b.drop s).take n) n v):=by
 refine AE fun w hi=>?_
 simp only[List.cons_append,List.nil_append] at hi
 obtain⟨a0,ca,rfl,hca,hk⟩:=hb
 refine Ak Tryz.func184 rfl rfl (hi) ?_
 by_cases h:s+n≤b.length
 · rw [if_pos h]
   have hbne:b≠[]:=by
    rcases hn with h1|h1
    · intro e;rw[e] at h;simp at h;omega
    · exact h1
   obtain⟨b0,off0,rfl,hkn⟩:=hk.resolve_left (by intro e;exact hbne (by simpa [byv] using e))
   have hcast:((s+n:Nat):Int)=(s:Int)+n:=by omega
   repeat' (first|refine Ag rfl ?_|refine Aj rfl ?_|refine Al ?_|refine An ?_|refine Ab 0 ?_;try refine Za rfl (Aa N15 ?_)|refine Bg (id:=1) 13 rfl mixed Y1 ?_;try refine A4 (Ai rfl) rfl rfl (A4 (Ah rfl) rfl rfl (A4 (Ad Ch rfl) rfl rfl (A4 (Ad CN rfl) rfl rfl (A4 (Ac U22 rfl rfl Y0 Y4) rfl rfl ?_))));try refine A4 (Ap rfl U22 rfl) rfl rfl (A4 (Ai rfl) rfl rfl (A4 (Ah rfl) rfl rfl (A4 (Ad fo98_1 rfl) rfl rfl (A4 (Ac U3 rfl rfl Y0 Y4) rfl rfl ?_))));try refine A4 (Ca rfl rfl Y9 Y9) rfl rfl ?_;try refine A4 (Ai rfl) rfl rfl (A4 (Bj rfl rfl Y2) rfl rfl ?_);try refine Bf ?_;try((refine AU (Take.nil _) (CallR.val rfl en79) rfl rfl (Cb true) (fun e=>by cases e) ?_;rintro u e v post ⟨rfl,rfl⟩)<;>try refine Aa N15 ?_)|refine Ab 2 ?_;try refine Zm rfl (Zv (Ah rfl) (Zf fo98_1 rfl (Zv (Ac U3 rfl rfl Y0 Y4) ?_)));try refine Zm rfl (Zv (AD rfl rfl Y9 Y9) ?_);try refine Zv (Ah rfl) (Zf fo98_1 rfl ?_);try((refine AK rfl rfl rfl sz3 Y3 (by show _ < 5;omega) (.inr (Nat.zero_le _)) rfl rfl ?_)<;>try refine Aa N15 ?_))
   rw[show(#[Value.slice (some ⟨b0,off0,none⟩) b.length ca,v2,v3,Value.int .i64 (s:Int),fv]:Array Value).setIfInBounds (0+3) (.int .i64 ((s:Int)+(n:Int)))= #[Value.slice (some ⟨b0,off0,none⟩) b.length ca,v2,v3,Value.int .i64 ((s+n:Nat):Int),fv] by rw[hcast];rfl]
   repeat' (first|refine Ag rfl ?_|refine Aj rfl ?_|refine Al ?_|refine AM Tryz.func184 rfl (fun w_ hi_=>?_)|refine BL 3 rfl mixed Y1 ?_;try refine A3 (Ai rfl) rfl rfl (A3 (Ah rfl) rfl rfl (A3 (Ad Ch rfl) rfl rfl (A3 (Ad CN rfl) rfl rfl (A3 (Ac U22 rfl rfl Y0 Y4) rfl rfl ?_))));try refine A3 (Ai rfl) rfl rfl (A3 (Ah rfl) rfl rfl (A3 (Ad fo98_1 rfl) rfl rfl (A3 (Ac U3 rfl rfl Y0 Y4) rfl rfl ?_)));try refine A3 (Ai rfl) rfl rfl (A3 (Ca rfl rfl Y9 Y9) rfl rfl ?_);try refine A3 (Ai rfl) rfl rfl (A3 (Ah rfl) rfl rfl (A3 (Ad fo98_1 rfl) rfl rfl (A3 (Ac U3 rfl rfl Y0 Y4) rfl rfl ?_)));try refine A3 (Ai rfl) rfl rfl (A3 (Ah rfl) rfl rfl (A3 (Ad fo98_1 rfl) rfl rfl (A3 (Ac U3 rfl rfl Y0 Y4) rfl rfl ?_)));try((refine A3 (ov_slice3 (a:=s) (b:=s+n) (c:=s+n) U22 sz5 rfl (by show some (Value.int _ _)=_;congr 2;omega) rfl rfl Y9 (Nat.le_refl _) Y9) rfl rfl ?_)<;>try refine A3 (Aq rfl) rfl rfl (BJ N15 ?_)))
   refine⟨_,⟨_,rfl,rfl,?_⟩,hi_⟩
   have:=bytes_part hkn h (c2:=s+n - s) Y9
   rwa [show s+n - s=n by omega] at this ⊢
 · rw [if_neg h]
   repeat' (first|refine Ag rfl ?_|refine Al ?_|refine An ?_|refine Ab 0 ?_;try refine Za rfl (Aa N15 ?_)|refine Bg (id:=1) 13 rfl mixed Y1 ?_;try refine A4 (Ai rfl) rfl rfl (A4 (Ah rfl) rfl rfl (A4 (Ad Ch rfl) rfl rfl (A4 (Ad CN rfl) rfl rfl (A4 (Ac U22 rfl rfl Y0 Y4) rfl rfl ?_))));try refine A4 (Ap rfl U22 rfl) rfl rfl (A4 (Ai rfl) rfl rfl (A4 (Ah rfl) rfl rfl (A4 (Ad fo98_1 rfl) rfl rfl (A4 (Ac U3 rfl rfl Y0 Y4) rfl rfl ?_))));try refine A4 (Ca rfl rfl Y9 Y9) rfl rfl ?_;try refine A4 (Ai rfl) rfl rfl (A4 (Bj rfl rfl Y2) rfl rfl ?_);try refine Bf ?_;try((refine AU (Take.nil _) (CallR.val rfl en79) rfl rfl (Cb false) (fun e=>AR Tryz.func184 rfl Y5) ?_;rintro u e;cases e)<;>try refine Aa N15 ?_))
def beN (l:Bs):Nat:=l.foldl (fun n c=>n*256+c.toNat) 0
theorem beV_N (l:Bs):beV l=(beN l:Int):=by
 unfold beV beN
 suffices h:∀(l:Bs) (n:Nat),l.foldl (fun (n:Int) c=>n*256+(c.toNat:Int)) (n:Int)=((l.foldl (fun n c=>n*256+c.toNat) n:Nat):Int) from h l 0
 intro l
 induction l with
 | nil=>intro n;rfl
 | cons c l ih=>intro n;simp only[List.foldl_cons];rw[←ih];congr 1
theorem beN_snoc (l:Bs) (c:UInt8):beN (l++[c])=beN l*256+c.toNat:=by unfold beN;rw[List.foldl_append];rfl
theorem beN_lt (l:Bs):beN l < 256 ^ l.length:=by
 suffices h:∀(n:Nat) (l:Bs),l.length=n→beN l < 256 ^ n from h _ l rfl
 intro n
 induction n with
 | zero=>intro l h;have:l=[]:=List.length_eq_zero_iff.1 h;subst this;simp[beN]
 | succ n ih=>
   intro l h
   have hne:l≠[]:=by rintro rfl;simp at h
   have e:=List.dropLast_concat_getLast hne
   rw[←e,beN_snoc]
   have:=ih l.dropLast (by simp[h])
   have hc:=(l.getLast hne).toNat_lt
   rw[Nat.pow_succ];omega
theorem shl8 {n:Nat} (h:n < 4294967296):IntKind.i64.wrap ((n:Int)*2 ^ (min (8:Int).toNat IntKind.i64.bits))=((n*256:Nat):Int):=by
 rw[show(2:Int) ^ (min (8:Int).toNat IntKind.i64.bits)=256 by decide,show(n:Int)*256=((n*256:Nat):Int) by omega]
 exact C1 Y9 Y9
theorem plain_c {rb s sz:Nat} {b:Bs} {bsv v2 v3 fv:Value} (hb:SlK S w0 F (byv b) b.length bsv) (hs:s≤b.length) (hsz:1≤sz∧sz≤4) (hlen:b.length≤65535):
 SLF Tryz.prog S w0 F 183 [pv rb 0,.int .i64 (sz:Int)] [RBE rb bsv v2 v3 s fv] (MoO (if s+sz≤b.length then .ok (beV ((b.drop s).take sz)) else .bad) fun n v post=>v=.int .i64 n∧post=[RBE rb bsv v2 v3 (s+sz) fv]):=by
 refine AE fun w hi=>?_
 simp only[List.cons_append,List.nil_append] at hi
 have ht:=take_c (rb:=rb) (s:=s) (n:=sz) (v2:=v2) (v3:=v3) (fv:=fv) hb hs (.inl hsz.1) hlen Y9
 refine Ak Tryz.func183 rfl rfl (hi) ?_
 by_cases h:s+sz≤b.length
 · rw [if_pos h] at ht ⊢
   have hll:((b.drop s).take sz).length=sz:=C2 h
   repeat' (first|refine Ag rfl ?_|refine Aj rfl ?_|refine Al ?_|refine An ?_|refine A6 ?_|refine Ab 0 ?_;try refine Za rfl (Aa N27 ?_)|refine Ab 1 ?_;try refine Za rfl (Aa N27 ?_)|refine Ab 2 ?_;try refine Zm rfl (Zm rfl ?_);try((refine AU (pre:=[RBE rb bsv v2 v3 s fv]) Y6 (CallR.val rfl en184) rfl rfl ht (fun e=>by cases e) ?_;rintro u e v post ⟨rfl,b0,off0,ca,rfl,hca,hkn⟩)<;>try refine Zv (Ap rfl U22 rfl) (Zm rfl (Aa N27 ?_))))
   generalize (b.drop s).take sz=l at *
   refine A1 (E':=(fun k:Nat=>[(5,.int .i64 (beN (l.take k):Int)),(10,.slice (some ⟨b0,off0,none⟩) sz ca),(11,.int .i64 (sz:Int)),(12,.int .i64 (k:Int))]) 0) Y14 ?_
   refine Bb (fun k:Nat=>k≤sz) (fun k=>sz - k) (fun k:Nat=>[(5,.int .i64 (beN (l.take k):Int)),(10,.slice (some ⟨b0,off0,none⟩) sz ca),(11,.int .i64 (sz:Int)),(12,.int .i64 (k:Int))]) (fun _=>_) ?_ 0 (Nat.zero_le _)
   rintro k k1 ih
   try dsimp only at k1 ih ⊢
   by_cases hlt:k < sz
   · have hc:Kn S w0 F b0 (off0+((k:Nat):Int).toNat*1) (.int .u8 (l[k]'Y9).toNat):=by
      have:=hkn k Y9
      simpa using this
     have hsn:beN (l.take (k+1))=beN (l.take k)*256+(l[k]'Y9).toNat:=by rw[List.take_succ_eq_append_getElem Y9,beN_snoc]
     have hb0:beN (l.take k) < 256 ^ 3:=Nat.lt_of_lt_of_le (beN_lt _) (Nat.pow_le_pow_right Y9 (by rw[List.length_take];omega))
     have hb1:beN (l.take k) < 4294967296:=by omega
     have hcl:=(l[k]'Y9).toNat_lt
     generalize beN (l.take k)=n at *
     generalize (l[k]'Y9).toNat=c at *
     repeat' (first|refine Ag rfl ?_|refine Aj rfl ?_|refine Al ?_|refine An ?_|refine A5 rfl ?_|refine A6 ?_|refine AH ?_|refine AB ?_|refine Ab 3 ?_;try refine Zv (A7 rfl rfl Y2) ?_;try refine Aa N27 ?_|refine Ab 4 ?_;try refine Zv (Am U22 sz5 rfl rfl Y9 Y9) ?_;try refine Zv (A2 U5 rfl rfl hc.cons) (Za rfl (Aa N27 ?_))|refine Ab 5 ?_;try refine Zm rfl (Zv (ov_shl rfl rfl Y9 (shl8 hb1)) ?_);try refine Zm rfl (Zv (C8 U5 U3 rfl Y9 Y9) ?_);try refine Zv (ov_or rfl rfl (or_byte n c Y9 hb1)) ?_;try refine Za rfl (Aa N27 ?_)|refine Ab 6 ?_;try refine Zv (AD rfl rfl Y9 Y9) ?_;try refine Zm rfl (Aa N27 ?_))
     have ih2:=ih (k+1) Y9 Y9
     rw[hsn] at ih2
     exact A1 Y10 ih2
   · have hk2:k=sz:=by omega
     subst hk2
     rw[List.take_of_length_le Y9,←beV_N]
     repeat' (first|refine Ag rfl ?_|refine Aj rfl ?_|refine Al ?_|refine An ?_|refine Az rfl ?_|refine Bl rfl ?_|refine AM Tryz.func183 rfl (fun w_ hi_=>?_)|refine Ab 3 ?_;try refine Zv (A7 rfl rfl Y2) ?_;try refine Aa N27 ?_|refine Ab 7 ?_;try refine Zm rfl (Za rfl (Aa N27 ?_)))
     exact⟨_,Bo rfl ⟨rfl,rfl⟩,hi_⟩
 · rw [if_neg h] at ht ⊢
   repeat' (first|refine Ag rfl ?_|refine Al ?_|refine An ?_|refine Ab 0 ?_;try refine Za rfl (Aa N27 ?_)|refine Ab 1 ?_;try refine Za rfl (Aa N27 ?_)|refine Ab 2 ?_;try refine Zm rfl (Zm rfl ?_);try refine AU (pre:=[RBE rb bsv v2 v3 s fv]) Y6 (CallR.val rfl en184) rfl rfl ht (fun e=>AR Tryz.func183 rfl Y5) ?_;rintro u e;cases e)
end
end Go.Sl
namespace Go.Sl
open Go Go.RowKit Go.Shelf Go.Proofs
attribute [local irreducible] Calls
theorem wrap_i32_u {m:Int} (h0:0≤m) (h1:m < 4294967296):IntKind.i32.wrap m=if 2147483648≤m then m - 4294967296 else m:=by
 have hb:(2:Int) ^ IntKind.i32.bits=4294967296:=by decide
 have hb2:(2:Int) ^ (IntKind.i32.bits - 1)=2147483648:=by decide
 have hs:IntKind.i32.signed=true:=rfl
 simp only[IntKind.wrap,hb,hb2,hs]
 simp
 split<;>split<;>omega
section
variable {C:Cx} {S:Nat→Prop} {w0:World} {k:List Item} {D:List Deferred} {E:List (Nat×Value)} {H:List Ent} {d:Option Tmp} {t:TypeId} {p:String} {af:Array Edge} {g:Option (Nat×Bool)} {ops:Array Oper} {fuel:Nat} {listed listed':Array Bool} {i:Nat}
theorem wi_callO {α:Type} {r:Out α} {G:α→Value→List Ent→Prop} {c:Call} {f:FuncId} {vs:List Value} {pre F:List Ent} (hop:ops[i]?=some ⟨d,.call c,t,p,af,g⟩) (hp:Take H pre F) (hc:CallR C D E ⟨d,.call c,t,p,af,g⟩ f vs) (hg:guardOk E ops ⟨d,.call c,t,p,af,g⟩=some true) (hd:dstOk d C.n=true) (hl:listed.setIfInBounds i true=listed')
 (h:SLF C.P S w0 F f vs pre (MoO r G)) (hn:r=.bad→WP C S w0 badE D [] F)
 (hk:∀a,r=.ok a→∀v post,G a v post→WA C S w0 ops fuel listed' k D (putE d v E) (post++F)):WI C S w0 ops fuel listed i k D E H:=by
 refine wi_callF hop hp hc hg hd hl h fun e post hq=>?_
 cases r with
 | ok a=>obtain⟨v,rfl,hg⟩:=hq;exact hk a rfl v post hg
 | bad=>
   obtain⟨rfl,rfl⟩:=hq
   exact hn rfl
 | full=>exact hq.elim
end
theorem perm_out (x:Ent) (A B C R:List Ent):(A++(x::(B++(C++R)))).Perm (x::(B++(C++(A++R)))):=by
 have:(A++(x::(B++C))).Perm ((x::(B++C))++A):=List.perm_append_comm
 have h2:=this.append_right R
 simpa only[List.append_assoc,List.cons_append] using h2
structure Nam (S:Nat→Prop) (w0:World) (τ:Type) where
 ν:Int→Int→τ→Bs×τ
 fv:Value
 ok:okCell fv=true
 fn:FuncId
 env:List Ent→Prop
 envU:∀F F',(∀e∈F,e∈F')→env F→env F'
 St:Nat→τ→List Ent→Prop
 vs:Int→Int→List Value
 goes:∀q n,GoesTo Tryz.prog fv [.int .u8 q,.int .i64 n] fn (vs q n)
 en:Enters Tryz.prog fn
 call:∀(F:List Ent) (q n:Int) (c:Nat) (t:τ) (L:List Ent),env F→St c t L→c < maxB→(0≤q∧q≤5)→0≤n→n≤65535→SLF Tryz.prog S w0 F fn (vs q n) L fun e post=>∃v,e=.returned v∧v=str (ν q n t).1∧St (c+1) (ν q n t).2 post
def rSt {S:Nat→Prop} {w0:World} {τ:Type} (N:Nam S w0 τ) (b:Bs) (bsv:Value) (rb:Nat) (s:RS τ) (L:List Ent):Prop:=
 ∃ b2 c2 r2 b3 c3 r3 Ln,RowB b2 s.places.length c2 3 (rowV plcC s.places) r2∧RowB b3 s.blocks.length c3 1 (intsV s.blocks) r3∧N.St s.places.length s.st Ln∧s.read≤b.length ∧
  L=RBE rb bsv (slV b2 s.places.length c2) (slV b3 s.blocks.length c3) s.read N.fv::(rowE b2 (rowV plcC s.places) r2 49++(rowE b3 (intsV s.blocks) r3 3++Ln))
section
variable {S:Nat→Prop} {w0:World} {F:List Ent} {τ:Type} {N:Nam S w0 τ} {b:Bs} {bsv:Value} {rb:Nat} {s:RS τ} {L:List Ent}
theorem rea_block (hb:SlK S w0 F (byv b) b.length bsv) (hs:rSt N b bsv rb s L) (hB2:s.blocks.length < maxB):
 SLF Tryz.prog S w0 F 179 [pv rb 0] L (fun e post=>∃v,e=.returned v∧v=unitV∧rSt N b bsv rb {s with blocks:=s.blocks++[(s.read:Int)]} post):=by
 refine AE fun w hi=>?_
 obtain⟨b2,c2,r2,b3,c3,r3,Ln,h2,h3,hn,hr,rfl⟩:=hs
 simp only[List.append_assoc,List.cons_append,List.nil_append] at hi
 have hB2':s.blocks.length < 1099511627776:=hB2
 obtain⟨a0,ca,rfl,_,_⟩:=id hb
 have hok:=N.ok
 refine Ak Tryz.func179 rfl rfl (hi) ?_
 repeat' (first|refine Ag rfl ?_|refine Aj rfl ?_|refine Al ?_|refine Bp Tryz.func179 rfl (fun w_ hi_=>?_)|refine Cy (m:=16) 0 rfl mixed rfl ?_;try refine Zt 0 rfl (fun _=>Ai rfl) (Zt 1 rfl (fun _=>Ai rfl) (AZ 2 rfl (By rfl) Y1 Y1 Y1 rfl rfl rfl ?_));try refine Zt 3 rfl (fun _=>Ad Ch rfl) (Zt 4 rfl (fun _=>Ad fo81_2 rfl) (Zt 6 rfl (fun _=>Ai rfl) (AZ 7 rfl (By rfl) Y1 Y1 Y1 rfl rfl rfl ?_)));try refine Zt 8 rfl (fun _=>Ad fo98_1 rfl) ?_;try refine AC 5 9 Y1 ?_ ?_<;>(first|show WI _ _ _ _ _ _ 5 _ _ _ _;try refine Ao rfl (Ac U59 rfl rfl Y0 Y4) rfl rfl rfl ?_;try refine Af 9 Y1 ?_<;>try refine Ao rfl (Ac U3 rfl rfl Y0 Y4) rfl rfl rfl ?_;try refine Af 10 Y1 ?_<;>try((refine wi_bs1 rfl U59 Cl rfl rfl rfl rfl rfl rfl rfl (fun bb_ hb_=>?_))<;>try refine Af 11 Y1 ?_<;>try((refine Bu (sz:=1) (base:=b3) (xs:=intsV s.blocks) (rst:=r3) rfl rfl rfl U59 U59 rfl Cl rfl Y22 rfl rfl h3.hl h3.hc (.tl (.tl (.ap (rowAt0 h3.hn)))) (.head _) (new:=[.int .i64 (s.read:Int)]) rfl Y26 (List.all_eq_true.1 rfl) (by show(2*(_+1)+192)*8≤_;omega) Y9 Y9 rfl rfl rfl (fun b3' c3' r3' hc_ hn_=>?_))<;>try refine AZ 12 rfl (By rfl) Y1 Y1 Y1 rfl rfl rfl ?_;try refine Zt 13 rfl (fun _=>Ad Ch rfl) (Zt 14 rfl (fun _=>Ad fo81_2 rfl) (Af 15 Y1 ?_))<;>try refine A9 rfl rfl rfl rfl sz59 Y3 Y8 (.inr Y8) rfl rfl rfl ?_;try refine Ar [0] Y1 ?_))|show WI _ _ _ _ _ _ 9 _ _ _ _;try refine Ao rfl (Ac U3 rfl rfl Y0 Y4) rfl rfl rfl ?_;try refine AC 5 10 Y1 ?_ ?_<;>(first|show WI _ _ _ _ _ _ 5 _ _ _ _;try refine Ao rfl (Ac U59 rfl rfl Y0 Y4) rfl rfl rfl ?_;try refine Af 10 Y1 ?_<;>try((refine wi_bs1 rfl U59 Cl rfl rfl rfl rfl rfl rfl rfl (fun bb_ hb_=>?_))<;>try refine Af 11 Y1 ?_<;>try((refine Bu (sz:=1) (base:=b3) (xs:=intsV s.blocks) (rst:=r3) rfl rfl rfl U59 U59 rfl Cl rfl Y22 rfl rfl h3.hl h3.hc (.tl (.tl (.ap (rowAt0 h3.hn)))) (.head _) (new:=[.int .i64 (s.read:Int)]) rfl Y26 (List.all_eq_true.1 rfl) (by show(2*(_+1)+192)*8≤_;omega) Y9 Y9 rfl rfl rfl (fun b3' c3' r3' hc_ hn_=>?_))<;>try refine AZ 12 rfl (By rfl) Y1 Y1 Y1 rfl rfl rfl ?_;try refine Zt 13 rfl (fun _=>Ad Ch rfl) (Zt 14 rfl (fun _=>Ad fo81_2 rfl) (Af 15 Y1 ?_))<;>try refine A9 rfl rfl rfl rfl sz59 Y3 Y8 (.inr Y8) rfl rfl rfl ?_;try refine Ar [0] Y1 ?_))|show WI _ _ _ _ _ _ 10 _ _ _ _;try((refine wi_bs1 rfl U59 Cl rfl rfl rfl rfl rfl rfl rfl (fun bb_ hb_=>?_))<;>try refine Af 5 Y1 ?_<;>try refine Ao rfl (Ac U59 rfl rfl Y0 Y4) rfl rfl rfl ?_;try refine Af 11 Y1 ?_<;>try((refine Bu (sz:=1) (base:=b3) (xs:=intsV s.blocks) (rst:=r3) rfl rfl rfl U59 U59 rfl Cl rfl Y22 rfl rfl h3.hl h3.hc (.tl (.tl (.ap (rowAt0 h3.hn)))) (.head _) (new:=[.int .i64 (s.read:Int)]) rfl Y26 (List.all_eq_true.1 rfl) (by show(2*(_+1)+192)*8≤_;omega) Y9 Y9 rfl rfl rfl (fun b3' c3' r3' hc_ hn_=>?_))<;>try refine AZ 12 rfl (By rfl) Y1 Y1 Y1 rfl rfl rfl ?_;try refine Zt 13 rfl (fun _=>Ad Ch rfl) (Zt 14 rfl (fun _=>Ad fo81_2 rfl) (Af 15 Y1 ?_))<;>try refine A9 rfl rfl rfl rfl sz59 Y3 Y8 (.inr Y8) rfl rfl rfl ?_;try refine Ar [0] Y1 ?_)))))
 all_goals
  have hl2:(s.blocks++[(s.read:Int)]).length=s.blocks.length+1:=by simp
  have hb2:intsV (s.blocks++[(s.read:Int)])=intsV s.blocks++[.int .i64 (s.read:Int)]:=by simp[intsV]
  refine⟨RBE rb (.slice a0 b.length ca) (slV b2 s.places.length c2) (slV (some b3') (s.blocks++[(s.read:Int)]).length c3') s.read N.fv::(rowE b2 (rowV plcC s.places) r2 49++(rowE (some b3') (intsV (s.blocks++[(s.read:Int)])) r3' 3++Ln)),⟨_,rfl,rfl,b2,c2,r2,some b3',c3',r3',Ln,h2,⟨by simp only;rw[hb2,hl2,List.length_append,h3.hl];simp,by simp only;rw[hb2];exact hc_,by simp⟩,hn,hr,rfl⟩,?_⟩
  rw[hb2,hl2]
  simp only[rowE_some,List.append_assoc (α:=Ent),List.cons_append,List.nil_append]
  refine(hi_.pick (ps:=[RBE rb (.slice a0 b.length ca) (slV b2 s.places.length c2) (slV (some b3') (s.blocks.length+1) c3') s.read N.fv,⟨b3',true,.cells (intsV s.blocks++[Value.int .i64 (s.read:Int)]++r3').toArray 3 (0,0)⟩]) (F:=rowE b2 (rowV plcC s.places) r2 49++(Ln++F)) Y6 Y5).perm (List.Perm.cons _ ?_)
  exact perm_row ⟨b3',true,.cells (intsV s.blocks++[Value.int .i64 (s.read:Int)]++r3').toArray 3 (0,0)⟩ (rowE b2 (rowV plcC s.places) r2 49) [] (Ln++F)
theorem rea_number {cb co sz:Nat} {n:Int} {c:Array Value} {el:TypeId} (hb:SlK S w0 F (byv b) b.length bsv) (hlen:b.length≤65535) (hs:rSt N b bsv rb s L) (hsz:sz=1∨sz=2∨sz=4) (hc:c[co]?=some (.int .i64 n)):
 SLF Tryz.prog S w0 F 180 [pv rb 0,pv cb co,.int .i64 (sz:Int)] (L++[⟨cb,true,.cells c el (0,0)⟩]) (MoO ((rKd b N.ν).num n sz s) fun a v post=>v=unitV∧∃L',rSt N b bsv rb a.2 L'∧post=L'++[⟨cb,true,.cells (c.setIfInBounds co (.int .i64 a.1)) el (0,0)⟩]):=by
 refine AE fun w hi=>?_
 obtain⟨b2,c2,r2,b3,c3,r3,Ln,h2,h3,hn,hr,rfl⟩:=hs
 simp only[List.append_assoc,List.cons_append,List.nil_append] at hi
 have hlt:=(Array.getElem?_eq_some_iff.1 hc).1
 have hp:=fun {F'} (hu:∀e∈F,e∈F')=>plain_c (rb:=rb) (s:=s.read) (sz:=sz) (v2:=slV b2 s.places.length c2) (v3:=slV b3 s.blocks.length c3) (fv:=N.fv) (SlK.up hb hu) hr Y9 hlen
 refine Ak Tryz.func180 rfl rfl (hi) ?_
 by_cases h:s.read+sz≤b.length
 · simp only [if_pos h] at hp
   have hk:(rKd b N.ν).num n sz s=.ok (numV sz (beV ((b.drop s.read).take sz)),{s with read:=s.read+sz}):=by simp only[rKd];rw[if_pos h]
   have hm:0≤beV ((b.drop s.read).take sz)∧beV ((b.drop s.read).take sz) < 4294967296:=by
    rw[beV_N]
    have h1:=beN_lt ((b.drop s.read).take sz)
    have h2:(256:Nat) ^ ((b.drop s.read).take sz).length≤256 ^ 4:=Nat.pow_le_pow_right Y9 (by rw[List.length_take];omega)
    omega
   generalize beV ((b.drop s.read).take sz)=m at *
   have hf1:∀v,(c.setIfInBounds co v)[co]?=some v:=fun v=>by simp[hlt]
   have hf2:∀v u,(c.setIfInBounds co v).setIfInBounds co u=c.setIfInBounds co u:=fun v u=>by apply Array.ext<;>simp[Array.getElem_setIfInBounds]
   have hlt2:∀v,co < (c.setIfInBounds co v).size:=fun v=>by simpa using hlt
   repeat' (first|refine Ag rfl ?_|refine Aj rfl ?_|refine Al ?_|refine An ?_|refine A6 ?_|refine Ab 0 ?_;try refine Zm rfl (Zm rfl (Zm rfl ?_));try((refine AU (pre:=[RBE rb bsv (slV b2 s.places.length c2) (slV b3 s.blocks.length c3) s.read N.fv]) Y6 (CallR.val rfl en183) rfl rfl (hp Y12) (fun e=>by cases e) ?_;rintro m' e v post ⟨rfl,rfl⟩;cases e)<;>try refine Zv (Ah rfl) ?_;try refine AK rfl rfl rfl sz3 Y3 hlt (.inr (Nat.zero_le _)) rfl rfl ?_;try refine Aa N30 ?_))
   rw[hk]
   simp only[List.nil_append]
   have hfin:∀(w:World) (v:Int),numV sz m=v→Inv S w0 (RBE rb bsv (slV b2 s.places.length c2) (slV b3 s.blocks.length c3) (s.read+sz) N.fv::(rowE b2 (rowV plcC s.places) r2 49++(rowE b3 (intsV s.blocks) r3 3++(Ln++(⟨cb,true,.cells (c.setIfInBounds co (.int .i64 v)) el (0,0)⟩::F))))) w→∃post,MoO (.ok (numV sz m,({s with read:=s.read+sz}:RS τ))) (fun (a:Int×RS τ) v post=>v=unitV∧∃L',rSt N b bsv rb a.2 L'∧post=L'++[⟨cb,true,.cells (c.setIfInBounds co (.int .i64 a.1)) el (0,0)⟩]) (.returned unitV) post∧Inv S w0 (post++F) w:=by
    rintro w v rfl hi
    exact⟨_,⟨_,rfl,rfl,_,⟨b2,c2,r2,b3,c3,r3,Ln,h2,h3,hn,h,rfl⟩,rfl⟩,by simpa only[List.append_assoc,List.cons_append,List.nil_append] using hi⟩
   rcases hsz with rfl|rfl|rfl
   · repeat' (first|refine Ag rfl ?_|refine Aj rfl ?_|refine Al ?_|refine An ?_|refine Az rfl ?_|refine AH ?_|refine AB ?_|refine Bp Tryz.func180 rfl (fun w_ hi_=>?_)|refine Ab 1 ?_;try refine Zm rfl (Zv (Ay rfl rfl Y2) ?_);try refine Zm rfl (Zk (Zk (Zk (Zk (Zv (A0 rfl rfl) (Za rfl (Aa N30 ?_)))))))|refine Ab 3 ?_;try refine Zm rfl (Zv (Ay rfl rfl Y2) ?_);try refine Za rfl (Aa N30 ?_))
     exact hfin _ _ (by simp[numV]) hi_
   · by_cases hm2:m=65535
     · repeat' (first|refine Ag rfl ?_|refine Aj rfl ?_|refine Al ?_|refine A5 rfl ?_|refine AH ?_|refine Bp Tryz.func180 rfl (fun w_ hi_=>?_)|refine Ab 1 ?_;try refine Zm rfl (Zv (Ay rfl rfl Y2) ?_);try refine Zm rfl (Zm rfl (Zv (Ah rfl) (Zv (Ac U3 rfl rfl Y13 (hf1 _)) ?_)));try refine Zv (Ay rfl rfl Y2) ?_;try refine Zv (Av rfl rfl) (Za rfl (Aa N30 ?_))|refine Ab 2 ?_;try refine Zm rfl (Zv (Ah rfl) ?_);try refine AK rfl rfl rfl sz3 Y3 (hlt2 _) (.inr (Nat.zero_le _)) rfl rfl ?_;try refine Aa N30 ?_)
       rw[hf2] at hi_
       exact hfin _ _ (by simp[numV,hm2]) hi_
     · repeat' (first|refine Ag rfl ?_|refine Aj rfl ?_|refine Al ?_|refine An ?_|refine Az rfl ?_|refine AH ?_|refine AB ?_|refine Bp Tryz.func180 rfl (fun w_ hi_=>?_)|refine Ab 1 ?_;try refine Zm rfl (Zv (Ay rfl rfl Y2) ?_);try refine Zm rfl (Zm rfl (Zv (Ah rfl) (Zv (Ac U3 rfl rfl Y13 (hf1 _)) ?_)));try refine Zv (Ay rfl rfl Y2) ?_;try refine Zv (Av rfl rfl) (Za rfl (Aa N30 ?_))|refine Ab 3 ?_;try refine Zm rfl (Zv (Ay rfl rfl Y2) ?_);try refine Za rfl (Aa N30 ?_))
       exact hfin _ _ (by simp[numV,hm2]) hi_
   · have hw1:IntKind.u32.wrap m=m:=wrap_u32_in hm.1 Y9
     have hw2:IntKind.i32.wrap m=if 2147483648≤m then m - 4294967296 else m:=wrap_i32_u hm.1 hm.2
     have hw3:IntKind.i64.wrap (if 2147483648≤m then m - 4294967296 else m)=if 2147483648≤m then m - 4294967296 else m:=C1 (by split<;>omega) (by split<;>omega)
     repeat' (first|refine Ag rfl ?_|refine Aj rfl ?_|refine Al ?_|refine An ?_|refine A5 rfl ?_|refine Az rfl ?_|refine AH ?_|refine Bp Tryz.func180 rfl (fun w_ hi_=>?_)|refine Ab 1 ?_;try refine Zm rfl (Zv (Ay rfl rfl Y2) ?_);try refine Zm rfl (Zk (Zk (Zk (Zk (Zv (A0 rfl rfl) (Za rfl (Aa N30 ?_)))))))|refine Ab 3 ?_;try refine Zm rfl (Zv (Ay rfl rfl Y2) ?_);try refine Za rfl (Aa N30 ?_)|refine Ab 4 ?_;try refine Zm rfl (Zm rfl (Zv (Ah rfl) (Zv (Ac U3 rfl rfl Y13 (hf1 _)) ?_)));try refine Zv (CE U3 U215 rfl hw1) (Zv (CE U215 U21 rfl hw2) (Zv (CE U21 U3 rfl hw3) (Zv (Ah rfl) ?_)));try refine AK rfl rfl rfl sz3 Y3 (hlt2 _) (.inr (Nat.zero_le _)) rfl rfl ?_;try refine Aa N30 ?_)
     rw[hf2] at hi_
     exact hfin _ _ (by simp[numV]) hi_
 · simp only[if_neg h] at hp
   have hk:(rKd b N.ν).num n sz s=.bad:=by simp only[rKd];rw[if_neg h]
   repeat' (first|refine An ?_|refine Ab 0 ?_;try refine Zm rfl (Zm rfl (Zm rfl ?_));try refine AU (pre:=[RBE rb bsv (slV b2 s.places.length c2) (slV b3 s.blocks.length c3) s.read N.fv]) Y6 (CallR.val rfl en183) rfl rfl (hp Y12) (fun e=>AR Tryz.func180 hk Y5) ?_;rintro u e;cases e)
theorem rea_text {cb co:Nat} {n:Bs} {c:Array Value} {el:TypeId} (hb:SlK S w0 F (byv b) b.length bsv) (hlen:b.length≤65535) (hs:rSt N b bsv rb s L) (hc:c[co]?=some (str n)):
 SLF Tryz.prog S w0 F 182 [pv rb 0,pv cb co] (L++[⟨cb,true,.cells c el (0,0)⟩]) (MoO ((rKd b N.ν).txt n s) fun a v post=>v=unitV∧∃L',rSt N b bsv rb a.2 L'∧post=L'++[⟨cb,true,.cells (c.setIfInBounds co (str a.1)) el (0,0)⟩]):=by
 refine AE fun w hi=>?_
 obtain⟨b2,c2,r2,b3,c3,r3,Ln,h2,h3,hn,hr,rfl⟩:=hs
 simp only[List.append_assoc,List.cons_append,List.nil_append] at hi
 have hlt:=(Array.getElem?_eq_some_iff.1 hc).1
 have hp:=fun {F'} (hu:∀e∈F,e∈F')=>plain_c (rb:=rb) (s:=s.read) (sz:=1) (v2:=slV b2 s.places.length c2) (v3:=slV b3 s.blocks.length c3) (fv:=N.fv) (SlK.up hb hu) hr Y9 hlen
 refine Ak Tryz.func182 rfl rfl (hi) ?_
 by_cases h:s.read+1≤b.length
 · simp only[if_pos h] at hp
   have hbne:b≠[]:=by rintro rfl;simp at h
   obtain⟨a,ha⟩:=List.length_eq_one_iff.1 (C2 h)
   have e1:beV ((b.drop s.read).take 1)=a.toNat:=by rw[ha,beV1]
   rw[e1] at hp
   have hal:=a.toNat_lt
   have htk:=fun {F'} (hu:∀e∈F,e∈F')=>take_c (rb:=rb) (s:=s.read+1) (n:=a.toNat) (v2:=slV b2 s.places.length c2) (v3:=slV b3 s.blocks.length c3) (fv:=N.fv) (SlK.up hb hu) h (.inr hbne) hlen Y9
   have hk:(rKd b N.ν).txt n s=if s.read+1+a.toNat≤b.length then .ok ((b.drop (s.read+1)).take a.toNat,{s with read:=s.read+1+a.toNat}) else .bad:=by
    simp only[rKd];rw[if_pos h,e1];simp only[Int.toNat_natCast]
   by_cases h4:s.read+1+a.toNat≤b.length
   · simp only[if_pos h4] at htk
     rw[if_pos h4] at hk
     rw[hk]
     have hll:=C2 h4
     generalize (b.drop (s.read+1)).take a.toNat=l at *
     rw[←hll] at htk
     repeat' (first|refine Ag rfl ?_|refine Aj rfl ?_|refine Al ?_|refine Bp Tryz.func182 rfl (fun w_ hi_=>?_)|refine Ab 0 ?_;try refine Zm rfl (Zm rfl (Zm rfl ?_));try((refine AU (pre:=[RBE rb bsv (slV b2 s.places.length c2) (slV b3 s.blocks.length c3) s.read N.fv]) Y6 (CallR.val rfl en183) rfl rfl (hp Y12) (fun e=>by cases e) ?_;rintro m' e v post ⟨rfl,rfl⟩;cases e;simp only[List.cons_append,List.nil_append])<;>try((refine AU (pre:=[RBE rb bsv (slV b2 s.places.length c2) (slV b3 s.blocks.length c3) (s.read+1) N.fv]) Y6 (CallR.val (vs:=[pv rb 0,.int .i64 (l.length:Int)]) (by rw[hll];rfl) en184) rfl rfl (htk Y12) (fun e=>by cases e) ?_;rintro u e v post ⟨rfl,b0,off0,ca,rfl,hca,hkn⟩;simp only[List.cons_append,List.nil_append])<;>try refine Zv (ov_ofBytesK U22 U9 U5 rfl (fun j h=>(hkn j h).mono Y12)) ?_;try refine Zv (Ah rfl) ?_;try refine AK rfl rfl rfl sz9 Y3 hlt (.inr (Nat.zero_le _)) rfl rfl ?_;try refine Aa [0,1] ?_)))
     refine⟨_,⟨_,rfl,rfl,_,⟨b2,c2,r2,b3,c3,r3,Ln,h2,h3,hn,h4,rfl⟩,rfl⟩,?_⟩
     rw[hll] at hi_
     simpa only[List.append_assoc,List.cons_append,List.nil_append] using hi_
   · simp only[if_neg h4] at htk
     rw[if_neg h4] at hk
     rw[hk]
     repeat' (refine Ab 0 ?_;try refine Zm rfl (Zm rfl (Zm rfl ?_));try((refine AU (pre:=[RBE rb bsv (slV b2 s.places.length c2) (slV b3 s.blocks.length c3) s.read N.fv]) Y6 (CallR.val rfl en183) rfl rfl (hp Y12) (fun e=>by cases e) ?_;rintro m' e v post ⟨rfl,rfl⟩;cases e;simp only[List.cons_append,List.nil_append])<;>try((refine AU (pre:=[RBE rb bsv (slV b2 s.places.length c2) (slV b3 s.blocks.length c3) (s.read+1) N.fv]) Y6 (CallR.val rfl en184) rfl rfl (htk Y12) (fun e=>AR Tryz.func182 rfl Y5) ?_;rintro u e;cases e)<;>try(fail))))
 · simp only[if_neg h] at hp
   have hk:(rKd b N.ν).txt n s=.bad:=by simp only[rKd];rw[if_neg h]
   repeat' (refine Ab 0 ?_;try refine Zm rfl (Zm rfl (Zm rfl ?_));try((refine AU (pre:=[RBE rb bsv (slV b2 s.places.length c2) (slV b3 s.blocks.length c3) s.read N.fv]) Y6 (CallR.val rfl en183) rfl rfl (hp Y12) (fun e=>AR Tryz.func182 hk Y5) ?_;rintro u e;cases e)<;>try(fail)))
theorem rea_refer {cb co:Nat} {n:Bs} {q:Int} {c:Array Value} {el:TypeId} (hb:SlK S w0 F (byv b) b.length bsv) (hE:N.env F) (hlen:b.length≤65535) (hq:0≤q∧q≤5) (hs:rSt N b bsv rb s L) (hB:s.places.length < maxB) (hc:c[co]?=some (str n)):
 SLF Tryz.prog S w0 F 181 [pv rb 0,pv cb co,.int .u8 q] (L++[⟨cb,true,.cells c el (0,0)⟩]) (MoO ((rKd b N.ν).ref n q s) fun a v post=>v=unitV∧∃L',rSt N b bsv rb a.2 L'∧post=L'++[⟨cb,true,.cells (c.setIfInBounds co (str a.1)) el (0,0)⟩]):=by
 refine AE fun w hi=>?_
 obtain⟨b2,c2,r2,b3,c3,r3,Ln,h2,h3,hn,hr,rfl⟩:=hs
 simp only[List.append_assoc,List.cons_append,List.nil_append] at hi
 have hlt:=(Array.getElem?_eq_some_iff.1 hc).1
 have hB2':s.places.length < 1099511627776:=hB
 have hpl:(rowV plcC s.places).length=s.places.length*3:=h2.hl
 have hl2:(s.places++[((s.read:Int),q,([]:Bs))]).length=s.places.length+1:=by simp
 have hb2:rowV plcC (s.places++[((s.read:Int),q,([]:Bs))])=rowV plcC s.places++plcC ((s.read:Int),q,[]):=by simp[rowV]
 refine Ak Tryz.func181 rfl rfl (hi) ?_
 repeat' (first|refine Ag rfl ?_|refine Aj rfl ?_|refine Al ?_|refine An ?_|refine Cy (m:=18) 0 rfl mixed rfl ?_;try refine Zt 0 rfl (fun _=>Ai rfl) (Zt 1 rfl (fun _=>Ai rfl) (AZ 2 rfl (By rfl) Y1 Y1 Y1 rfl rfl rfl ?_));try refine Zt 3 rfl (fun _=>Ad Ch rfl) (Zt 4 rfl (fun _=>Ad BS rfl) (Zt 6 rfl (fun _=>Ai rfl) (AZ 7 rfl (By rfl) Y1 Y1 Y1 rfl rfl rfl ?_)));try refine Zt 8 rfl (fun _=>Ad fo98_1 rfl) (Zt 10 rfl (fun _=>Ai rfl) ?_);try refine AC 5 9 Y1 ?_ ?_<;>(first|show WI _ _ _ _ _ _ 5 _ _ _ _;try refine Ao rfl (Ac U29 rfl rfl Y0 Y4) rfl rfl rfl ?_;try refine Af 9 Y1 ?_<;>try refine Ao rfl (Ac U3 rfl rfl Y0 Y4) rfl rfl rfl ?_;try refine Zt 11 rfl (fun _=>Bq (vs:=[(0,.int .i64 (s.read:Int)),(1,.int .u8 q)]) (cs:= #[.int .i64 (s.read:Int),.int .u8 q,str []]) pl49 Bn rfl rfl rfl) (Af 12 Y1 ?_)<;>try((refine CH rfl U29 Bn rfl rfl rfl rfl rfl rfl (fun bb_ hb_=>?_))<;>try refine Af 13 Y1 ?_<;>try((refine Bu (sz:=3) (base:=b2) (xs:=rowV plcC s.places) (rst:=r2) rfl rfl rfl U29 U29 rfl Bn rfl Y22 rfl rfl h2.hl h2.hc (.tl (.tl (rowAt0 h2.hn))) (.head _) (new:=plcC ((s.read:Int),q,[])) rfl (by simp[plcC]) (List.all_eq_true.1 rfl) (by show(2*(_+1)+192)*32≤_;omega) Y9 Y9 rfl rfl rfl (fun b2' c2' r2' hc_ hn_=>?_))<;>try refine AZ 14 rfl (By rfl) Y1 Y1 Y1 rfl rfl rfl ?_;try refine Zt 15 rfl (fun _=>Ad Ch rfl) (Zt 16 rfl (fun _=>Ad BS rfl) (Af 17 Y1 ?_))<;>try refine A9 rfl rfl rfl rfl sz29 Y3 Y8 (.inr Y8) rfl rfl rfl ?_;try refine Ar N3 Y1 ?_))|show WI _ _ _ _ _ _ 9 _ _ _ _;try refine Ao rfl (Ac U3 rfl rfl Y0 Y4) rfl rfl rfl ?_;try refine Zt 11 rfl (fun _=>Bq (vs:=[(0,.int .i64 (s.read:Int)),(1,.int .u8 q)]) (cs:= #[.int .i64 (s.read:Int),.int .u8 q,str []]) pl49 Bn rfl rfl rfl) ?_;try refine AC 5 12 Y1 ?_ ?_<;>(first|show WI _ _ _ _ _ _ 5 _ _ _ _;try refine Ao rfl (Ac U29 rfl rfl Y0 Y4) rfl rfl rfl ?_;try refine Af 12 Y1 ?_<;>try((refine CH rfl U29 Bn rfl rfl rfl rfl rfl rfl (fun bb_ hb_=>?_))<;>try refine Af 13 Y1 ?_<;>try((refine Bu (sz:=3) (base:=b2) (xs:=rowV plcC s.places) (rst:=r2) rfl rfl rfl U29 U29 rfl Bn rfl Y22 rfl rfl h2.hl h2.hc (.tl (.tl (rowAt0 h2.hn))) (.head _) (new:=plcC ((s.read:Int),q,[])) rfl (by simp[plcC]) (List.all_eq_true.1 rfl) (by show(2*(_+1)+192)*32≤_;omega) Y9 Y9 rfl rfl rfl (fun b2' c2' r2' hc_ hn_=>?_))<;>try refine AZ 14 rfl (By rfl) Y1 Y1 Y1 rfl rfl rfl ?_;try refine Zt 15 rfl (fun _=>Ad Ch rfl) (Zt 16 rfl (fun _=>Ad BS rfl) (Af 17 Y1 ?_))<;>try refine A9 rfl rfl rfl rfl sz29 Y3 Y8 (.inr Y8) rfl rfl rfl ?_;try refine Ar N3 Y1 ?_))|show WI _ _ _ _ _ _ 12 _ _ _ _;try((refine CH rfl U29 Bn rfl rfl rfl rfl rfl rfl (fun bb_ hb_=>?_))<;>try refine Af 5 Y1 ?_<;>try refine Ao rfl (Ac U29 rfl rfl Y0 Y4) rfl rfl rfl ?_;try refine Af 13 Y1 ?_<;>try((refine Bu (sz:=3) (base:=b2) (xs:=rowV plcC s.places) (rst:=r2) rfl rfl rfl U29 U29 rfl Bn rfl Y22 rfl rfl h2.hl h2.hc (.tl (.tl (rowAt0 h2.hn))) (.head _) (new:=plcC ((s.read:Int),q,[])) rfl (by simp[plcC]) (List.all_eq_true.1 rfl) (by show(2*(_+1)+192)*32≤_;omega) Y9 Y9 rfl rfl rfl (fun b2' c2' r2' hc_ hn_=>?_))<;>try refine AZ 14 rfl (By rfl) Y1 Y1 Y1 rfl rfl rfl ?_;try refine Zt 15 rfl (fun _=>Ad Ch rfl) (Zt 16 rfl (fun _=>Ad BS rfl) (Af 17 Y1 ?_))<;>try refine A9 rfl rfl rfl rfl sz29 Y3 Y8 (.inr Y8) rfl rfl rfl ?_;try refine Ar N3 Y1 ?_)))))
 all_goals
  refine w_pick (ps:=[RBE rb bsv (slV (some b2') (s.places.length+1) c2') (slV b3 s.blocks.length c3) s.read N.fv,⟨b2',true,.cells (rowV plcC s.places++plcC ((s.read:Int),q,[])++r2').toArray 49 (0,0)⟩]) (F:=rowE b3 (intsV s.blocks) r3 3++(Ln++(⟨cb,true,.cells c el (0,0)⟩::F))) Y6 Y5 ?_
  simp only[List.cons_append,List.nil_append]
  have hp:=fun {F'} (hu:∀e∈F,e∈F')=>plain_c (rb:=rb) (s:=s.read) (sz:=2) (v2:=slV (some b2') (s.places.length+1) c2') (v3:=slV b3 s.blocks.length c3) (fv:=N.fv) (SlK.up hb hu) hr Y9 hlen
  by_cases h:s.read+2≤b.length
  · simp only[if_pos h] at hp
    have hk:(rKd b N.ν).ref n q s=.ok ((N.ν q (beV ((b.drop s.read).take 2)) s.st).1,{read:=s.read+2,places:=s.places++[((s.read:Int),q,[])],blocks:=s.blocks,st:=(N.ν q (beV ((b.drop s.read).take 2)) s.st).2}):=by simp only[rKd];rw[if_pos hB,if_pos h]
    have hm:=beV_two (C2 h)
    rw[hk]
    generalize beV ((b.drop s.read).take 2)=m at *
    have hcall:=fun {F'} (hu:∀e∈F,e∈F')=>N.call F' q m s.places.length s.st Ln (N.envU _ _ hu hE) hn hB hq hm.1 hm.2
    repeat' (first|refine Ag rfl ?_|refine Aj rfl ?_|refine Al ?_|refine Cy (m:=11) 1 rfl mixed rfl ?_;try refine Zt 0 rfl (fun _=>Ai rfl) (Zt 1 rfl (fun _=>Ai rfl) (AZ 2 rfl (By rfl) Y1 Y1 Y1 rfl rfl rfl ?_));try refine Zt 3 rfl (fun _=>Ad fo98_2 rfl) (Zt 5 rfl (fun _=>Ai rfl) (Zt 6 rfl (fun _=>Ai rfl) ?_));try refine AC 4 7 Y1 ?_ ?_<;>(first|show WI _ _ _ _ _ _ 4 _ _ _ _;try refine Ao rfl (Ac U91 rfl rfl Y0 Y4) rfl rfl rfl ?_;try refine Af 7 Y1 ?_<;>try((refine wi_callO (pre:=[RBE rb bsv (slV (some b2') (s.places.length+1) c2') (slV b3 s.blocks.length c3) s.read N.fv]) rfl Y6 (CallR.val rfl en183) rfl rfl rfl (hp Y12) (fun e=>by cases e) ?_;rintro m' e v post ⟨rfl,rfl⟩;cases e)<;>try refine Af 8 Y1 ?_<;>try((refine AG (pre:=Ln) rfl Y7 (CallR.fv rfl rfl (N.goes q m) N.en) rfl rfl rfl (hcall Y12) ?_;rintro v Lq ⟨rfl,hst⟩)<;>try refine AZ 9 rfl (By rfl) Y1 Y1 Y1 rfl rfl rfl ?_;try refine Af 10 Y1 ?_<;>try refine A9 rfl rfl rfl rfl sz9 Y3 hlt (.inr (Nat.zero_le _)) rfl rfl rfl ?_;try refine Ar N3 Y1 ?_))|show WI _ _ _ _ _ _ 7 _ _ _ _;try((refine wi_callO (pre:=[RBE rb bsv (slV (some b2') (s.places.length+1) c2') (slV b3 s.blocks.length c3) s.read N.fv]) rfl Y6 (CallR.val rfl en183) rfl rfl rfl (hp Y12) (fun e=>by cases e) ?_;rintro m' e v post ⟨rfl,rfl⟩;cases e)<;>try refine Af 4 Y1 ?_<;>try refine Ao rfl (Ac U91 rfl rfl Y0 Y4) rfl rfl rfl ?_;try refine Af 8 Y1 ?_<;>try((refine AG (pre:=Ln) rfl Y7 (CallR.fv rfl rfl (N.goes q m) N.en) rfl rfl rfl (hcall Y12) ?_;rintro v Lq ⟨rfl,hst⟩)<;>try refine AZ 9 rfl (By rfl) Y1 Y1 Y1 rfl rfl rfl ?_;try refine Af 10 Y1 ?_<;>try refine A9 rfl rfl rfl rfl sz9 Y3 hlt (.inr (Nat.zero_le _)) rfl rfl rfl ?_;try refine Ar N3 Y1 ?_))))
    all_goals
     repeat' (refine Bp Tryz.func181 rfl (fun w_ hi_=>?_))
     refine⟨RBE rb bsv (slV (some b2') (s.places++[((s.read:Int),q,([]:Bs))]).length c2') (slV b3 s.blocks.length c3) (s.read+2) N.fv::(rowE (some b2') (rowV plcC (s.places++[((s.read:Int),q,([]:Bs))])) r2' 49++(rowE b3 (intsV s.blocks) r3 3++Lq))++[⟨cb,true,.cells (c.setIfInBounds co (str (N.ν q m s.st).1)) el (0,0)⟩],⟨_,rfl,rfl,_,⟨some b2',c2',r2',b3,c3,r3,Lq,⟨by simp only;rw[hb2,hl2,List.length_append,hpl,Cs];omega,by simp only;rw[hb2];exact hc_,by simp⟩,h3,by simp only;rw[hl2];exact hst,h,rfl⟩,rfl⟩,?_⟩
     rw[hb2,hl2]
     simp only[rowE_some,List.append_assoc (α:=Ent),List.cons_append,List.nil_append] at hi_ ⊢
     exact hi_.perm (perm_out _ Lq [⟨b2',true,.cells (rowV plcC s.places++plcC ((s.read:Int),q,[])++r2').toArray 49 (0,0)⟩] (rowE b3 (intsV s.blocks) r3 3) (⟨cb,true,.cells (c.setIfInBounds co (str (N.ν q m s.st).1)) el (0,0)⟩::F))
  · simp only[if_neg h] at hp
    have hk:(rKd b N.ν).ref n q s=.bad:=by simp only[rKd];rw[if_pos hB,if_neg h]
    repeat' (refine Cy (m:=11) 1 rfl mixed rfl ?_;try refine Zt 0 rfl (fun _=>Ai rfl) (Zt 1 rfl (fun _=>Ai rfl) (AZ 2 rfl (By rfl) Y1 Y1 Y1 rfl rfl rfl ?_));try refine Zt 3 rfl (fun _=>Ad fo98_2 rfl) (Zt 5 rfl (fun _=>Ai rfl) (Zt 6 rfl (fun _=>Ai rfl) ?_));try refine AC 4 7 Y1 ?_ ?_<;>(first|show WI _ _ _ _ _ _ 4 _ _ _ _;try refine Ao rfl (Ac U91 rfl rfl Y0 Y4) rfl rfl rfl ?_;try refine Af 7 Y1 ?_<;>try refine wi_callO (pre:=[RBE rb bsv (slV (some b2') (s.places.length+1) c2') (slV b3 s.blocks.length c3) s.read N.fv]) rfl Y6 (CallR.val rfl en183) rfl rfl rfl (hp Y12) (fun e=>AR Tryz.func181 hk Y5) ?_;rintro u e;cases e|show WI _ _ _ _ _ _ 7 _ _ _ _;try refine wi_callO (pre:=[RBE rb bsv (slV (some b2') (s.places.length+1) c2') (slV b3 s.blocks.length c3) s.read N.fv]) rfl Y6 (CallR.val rfl en183) rfl rfl rfl (hp Y12) (fun e=>AR Tryz.func181 hk Y5) ?_;rintro u e;cases e))
end
theorem metRN:metTo Tryz.prog 88 "trestle/code.number" = some 180:=by kernel_rfl
theorem metRT:metTo Tryz.prog 88 "trestle/code.text" = some 182:=by kernel_rfl
theorem metRR:metTo Tryz.prog 88 "trestle/code.refer" = some 181:=by kernel_rfl
theorem metRB:metTo Tryz.prog 88 "trestle/code.block" = some 179:=by kernel_rfl
end Go.Sl
namespace Go.Sl
open Go Go.RowKit Go.Shelf Go.Proofs
attribute [local irreducible] Calls
section
variable {S:Nat→Prop} {w0:World} {F Lp:List Ent} {τ:Type} {N:Nam S w0 τ} {b:Bs} {bsv:Value} {rb:Nat} {s:RS τ} {L:List Ent}
theorem rea_number_bad {pvv:Value} {sz:Nat} {G:Int×RS τ→Value→List Ent→Prop} (hb:SlK S w0 F (byv b) b.length bsv) (hlen:b.length≤65535) (hs:rSt N b bsv rb s L) (hsz:sz=1∨sz=2∨sz=4) (h:¬s.read+sz≤b.length):
 SLF Tryz.prog S w0 F 180 [pv rb 0,pvv,.int .i64 (sz:Int)] (L++Lp) (MoO .bad G):=by
 refine AE fun w hi=>?_
 obtain⟨b2,c2,r2,b3,c3,r3,Ln,h2,h3,hn,hr,rfl⟩:=hs
 simp only[List.append_assoc,List.cons_append,List.nil_append] at hi
 have hp:=fun {F'} (hu:∀e∈F,e∈F')=>plain_c (rb:=rb) (s:=s.read) (sz:=sz) (v2:=slV b2 s.places.length c2) (v3:=slV b3 s.blocks.length c3) (fv:=N.fv) (SlK.up hb hu) hr Y9 hlen
 simp only[if_neg h] at hp
 refine Ak Tryz.func180 rfl rfl (hi) ?_
 repeat' (first|refine An ?_|refine Ab 0 ?_;try refine Zm rfl (Zm rfl (Zm rfl ?_));try refine AU (pre:=[RBE rb bsv (slV b2 s.places.length c2) (slV b3 s.blocks.length c3) s.read N.fv]) Y6 (CallR.val rfl en183) rfl rfl (hp Y12) (fun e=>AR Tryz.func180 rfl Y5) ?_;rintro u e;cases e)
theorem rea_text_bad {pvv:Value} {n:Bs} {G:Bs×RS τ→Value→List Ent→Prop} (hb:SlK S w0 F (byv b) b.length bsv) (hlen:b.length≤65535) (hs:rSt N b bsv rb s L) (h:(rKd b N.ν).txt n s=.bad):
 SLF Tryz.prog S w0 F 182 [pv rb 0,pvv] (L++Lp) (MoO .bad G):=by
 refine AE fun w hi=>?_
 obtain⟨b2,c2,r2,b3,c3,r3,Ln,h2,h3,hn,hr,rfl⟩:=hs
 simp only[List.append_assoc,List.cons_append,List.nil_append] at hi
 have hp:=fun {F'} (hu:∀e∈F,e∈F')=>plain_c (rb:=rb) (s:=s.read) (sz:=1) (v2:=slV b2 s.places.length c2) (v3:=slV b3 s.blocks.length c3) (fv:=N.fv) (SlK.up hb hu) hr Y9 hlen
 refine Ak Tryz.func182 rfl rfl (hi) ?_
 by_cases h1:s.read+1≤b.length
 · simp only[if_pos h1] at hp
   have hbne:b≠[]:=by rintro rfl;simp at h1
   obtain⟨a,ha⟩:=List.length_eq_one_iff.1 (C2 h1)
   have e1:beV ((b.drop s.read).take 1)=a.toNat:=by rw[ha,beV1]
   rw[e1] at hp
   have hal:=a.toNat_lt
   have h4:¬s.read+1+a.toNat≤b.length:=by
    intro h4
    simp only[rKd] at h
    rw[if_pos h1,e1] at h
    simp only[Int.toNat_natCast] at h
    rw[if_pos h4] at h
    cases h
   have htk:=fun {F'} (hu:∀e∈F,e∈F')=>take_c (rb:=rb) (s:=s.read+1) (n:=a.toNat) (v2:=slV b2 s.places.length c2) (v3:=slV b3 s.blocks.length c3) (fv:=N.fv) (SlK.up hb hu) h1 (.inr hbne) hlen Y9
   simp only[if_neg h4] at htk
   repeat' (refine Ab 0 ?_;try refine Zm rfl (Zm rfl (Zm rfl ?_));try((refine AU (pre:=[RBE rb bsv (slV b2 s.places.length c2) (slV b3 s.blocks.length c3) s.read N.fv]) Y6 (CallR.val rfl en183) rfl rfl (hp Y12) (fun e=>by cases e) ?_;rintro m' e v post ⟨rfl,rfl⟩;cases e;simp only[List.cons_append,List.nil_append])<;>try((refine AU (pre:=[RBE rb bsv (slV b2 s.places.length c2) (slV b3 s.blocks.length c3) (s.read+1) N.fv]) Y6 (CallR.val rfl en184) rfl rfl (htk Y12) (fun e=>AR Tryz.func182 rfl Y5) ?_;rintro u e;cases e)<;>try(fail))))
 · simp only[if_neg h1] at hp
   repeat' (refine Ab 0 ?_;try refine Zm rfl (Zm rfl (Zm rfl ?_));try((refine AU (pre:=[RBE rb bsv (slV b2 s.places.length c2) (slV b3 s.blocks.length c3) s.read N.fv]) Y6 (CallR.val rfl en183) rfl rfl (hp Y12) (fun e=>AR Tryz.func182 rfl Y5) ?_;rintro u e;cases e)<;>try(fail)))
theorem rea_refer_bad {pvv:Value} {q:Int} {G:Bs×RS τ→Value→List Ent→Prop} (hb:SlK S w0 F (byv b) b.length bsv) (hlen:b.length≤65535) (hs:rSt N b bsv rb s L) (hB:s.places.length < maxB) (h:¬s.read+2≤b.length):
 SLF Tryz.prog S w0 F 181 [pv rb 0,pvv,.int .u8 q] (L++Lp) (MoO .bad G):=by
 refine AE fun w hi=>?_
 obtain⟨b2,c2,r2,b3,c3,r3,Ln,h2,h3,hn,hr,rfl⟩:=hs
 simp only[List.append_assoc,List.cons_append,List.nil_append] at hi
 have hB2':s.places.length < 1099511627776:=hB
 refine Ak Tryz.func181 rfl rfl (hi) ?_
 repeat' (first|refine Ag rfl ?_|refine Aj rfl ?_|refine Al ?_|refine An ?_|refine Cy (m:=18) 0 rfl mixed rfl ?_;try refine Zt 0 rfl (fun _=>Ai rfl) (Zt 1 rfl (fun _=>Ai rfl) (AZ 2 rfl (By rfl) Y1 Y1 Y1 rfl rfl rfl ?_));try refine Zt 3 rfl (fun _=>Ad Ch rfl) (Zt 4 rfl (fun _=>Ad BS rfl) (Zt 6 rfl (fun _=>Ai rfl) (AZ 7 rfl (By rfl) Y1 Y1 Y1 rfl rfl rfl ?_)));try refine Zt 8 rfl (fun _=>Ad fo98_1 rfl) (Zt 10 rfl (fun _=>Ai rfl) ?_);try refine AC 5 9 Y1 ?_ ?_<;>(first|show WI _ _ _ _ _ _ 5 _ _ _ _;try refine Ao rfl (Ac U29 rfl rfl Y0 Y4) rfl rfl rfl ?_;try refine Af 9 Y1 ?_<;>try refine Ao rfl (Ac U3 rfl rfl Y0 Y4) rfl rfl rfl ?_;try refine Zt 11 rfl (fun _=>Bq (vs:=[(0,.int .i64 (s.read:Int)),(1,.int .u8 q)]) (cs:= #[.int .i64 (s.read:Int),.int .u8 q,str []]) pl49 Bn rfl rfl rfl) (Af 12 Y1 ?_)<;>try((refine CH rfl U29 Bn rfl rfl rfl rfl rfl rfl (fun bb_ hb_=>?_))<;>try refine Af 13 Y1 ?_<;>try((refine Bu (sz:=3) (base:=b2) (xs:=rowV plcC s.places) (rst:=r2) rfl rfl rfl U29 U29 rfl Bn rfl Y22 rfl rfl h2.hl h2.hc (.tl (.tl (rowAt0 h2.hn))) (.head _) (new:=plcC ((s.read:Int),q,[])) rfl (by simp[plcC]) (List.all_eq_true.1 rfl) (by show(2*(_+1)+192)*32≤_;omega) Y9 Y9 rfl rfl rfl (fun b2' c2' r2' hc_ hn_=>?_))<;>try refine AZ 14 rfl (By rfl) Y1 Y1 Y1 rfl rfl rfl ?_;try refine Zt 15 rfl (fun _=>Ad Ch rfl) (Zt 16 rfl (fun _=>Ad BS rfl) (Af 17 Y1 ?_))<;>try refine A9 rfl rfl rfl rfl sz29 Y3 Y8 (.inr Y8) rfl rfl rfl ?_;try refine Ar N3 Y1 ?_))|show WI _ _ _ _ _ _ 9 _ _ _ _;try refine Ao rfl (Ac U3 rfl rfl Y0 Y4) rfl rfl rfl ?_;try refine Zt 11 rfl (fun _=>Bq (vs:=[(0,.int .i64 (s.read:Int)),(1,.int .u8 q)]) (cs:= #[.int .i64 (s.read:Int),.int .u8 q,str []]) pl49 Bn rfl rfl rfl) ?_;try refine AC 5 12 Y1 ?_ ?_<;>(first|show WI _ _ _ _ _ _ 5 _ _ _ _;try refine Ao rfl (Ac U29 rfl rfl Y0 Y4) rfl rfl rfl ?_;try refine Af 12 Y1 ?_<;>try((refine CH rfl U29 Bn rfl rfl rfl rfl rfl rfl (fun bb_ hb_=>?_))<;>try refine Af 13 Y1 ?_<;>try((refine Bu (sz:=3) (base:=b2) (xs:=rowV plcC s.places) (rst:=r2) rfl rfl rfl U29 U29 rfl Bn rfl Y22 rfl rfl h2.hl h2.hc (.tl (.tl (rowAt0 h2.hn))) (.head _) (new:=plcC ((s.read:Int),q,[])) rfl (by simp[plcC]) (List.all_eq_true.1 rfl) (by show(2*(_+1)+192)*32≤_;omega) Y9 Y9 rfl rfl rfl (fun b2' c2' r2' hc_ hn_=>?_))<;>try refine AZ 14 rfl (By rfl) Y1 Y1 Y1 rfl rfl rfl ?_;try refine Zt 15 rfl (fun _=>Ad Ch rfl) (Zt 16 rfl (fun _=>Ad BS rfl) (Af 17 Y1 ?_))<;>try refine A9 rfl rfl rfl rfl sz29 Y3 Y8 (.inr Y8) rfl rfl rfl ?_;try refine Ar N3 Y1 ?_))|show WI _ _ _ _ _ _ 12 _ _ _ _;try((refine CH rfl U29 Bn rfl rfl rfl rfl rfl rfl (fun bb_ hb_=>?_))<;>try refine Af 5 Y1 ?_<;>try refine Ao rfl (Ac U29 rfl rfl Y0 Y4) rfl rfl rfl ?_;try refine Af 13 Y1 ?_<;>try((refine Bu (sz:=3) (base:=b2) (xs:=rowV plcC s.places) (rst:=r2) rfl rfl rfl U29 U29 rfl Bn rfl Y22 rfl rfl h2.hl h2.hc (.tl (.tl (rowAt0 h2.hn))) (.head _) (new:=plcC ((s.read:Int),q,[])) rfl (by simp[plcC]) (List.all_eq_true.1 rfl) (by show(2*(_+1)+192)*32≤_;omega) Y9 Y9 rfl rfl rfl (fun b2' c2' r2' hc_ hn_=>?_))<;>try refine AZ 14 rfl (By rfl) Y1 Y1 Y1 rfl rfl rfl ?_;try refine Zt 15 rfl (fun _=>Ad Ch rfl) (Zt 16 rfl (fun _=>Ad BS rfl) (Af 17 Y1 ?_))<;>try refine A9 rfl rfl rfl rfl sz29 Y3 Y8 (.inr Y8) rfl rfl rfl ?_;try refine Ar N3 Y1 ?_)))))
 all_goals
  refine w_pick (ps:=[RBE rb bsv (slV (some b2') (s.places.length+1) c2') (slV b3 s.blocks.length c3) s.read N.fv]) (F:=rowE b3 (intsV s.blocks) r3 3++(Ln++(Lp++F))) Y6 Y5 ?_
  simp only[List.cons_append,List.nil_append]
  have hp:=fun {F'} (hu:∀e∈F,e∈F')=>plain_c (rb:=rb) (s:=s.read) (sz:=2) (v2:=slV (some b2') (s.places.length+1) c2') (v3:=slV b3 s.blocks.length c3) (fv:=N.fv) (SlK.up hb hu) hr Y9 hlen
  simp only[if_neg h] at hp
  repeat' (refine Cy (m:=11) 1 rfl mixed rfl ?_;try refine Zt 0 rfl (fun _=>Ai rfl) (Zt 1 rfl (fun _=>Ai rfl) (AZ 2 rfl (By rfl) Y1 Y1 Y1 rfl rfl rfl ?_));try refine Zt 3 rfl (fun _=>Ad fo98_2 rfl) (Zt 5 rfl (fun _=>Ai rfl) (Zt 6 rfl (fun _=>Ai rfl) ?_));try refine AC 4 7 Y1 ?_ ?_<;>(first|show WI _ _ _ _ _ _ 4 _ _ _ _;try refine Ao rfl (Ac U91 rfl rfl Y0 Y4) rfl rfl rfl ?_;try refine Af 7 Y1 ?_<;>try refine wi_callO (pre:=[RBE rb bsv (slV (some b2') (s.places.length+1) c2') (slV b3 s.blocks.length c3) s.read N.fv]) rfl Y6 (CallR.val rfl en183) rfl rfl rfl (hp Y12) (fun e=>AR Tryz.func181 rfl Y5) ?_;rintro u e;cases e|show WI _ _ _ _ _ _ 7 _ _ _ _;try refine wi_callO (pre:=[RBE rb bsv (slV (some b2') (s.places.length+1) c2') (slV b3 s.blocks.length c3) s.read N.fv]) rfl Y6 (CallR.val rfl en183) rfl rfl rfl (hp Y12) (fun e=>AR Tryz.func181 rfl Y5) ?_;rintro u e;cases e))
end
def rKq {τ:Type} (b:Bs) (ν:Int→Int→τ→Bs×τ):Kd (RS τ):={rKd b ν with ref:=fun n q s=>if 0≤q∧q≤5 then (rKd b ν).ref n q s else .full}
theorem ltI_q {τ:Type} (b:Bs) (ν:Int→Int→τ→Bs×τ):ltI (rKq b ν)=ltI (rKd b ν):=by funext l x s;cases l<;>rfl
theorem ltE_q {τ:Type} (b:Bs) (ν:Int→Int→τ→Bs×τ):ltE (rKq b ν)=ltE (rKd b ν):=by funext l x s;cases l<;>rfl
theorem codeIns_q {τ:Type} (b:Bs) (ν:Int→Int→τ→Bs×τ):codeIns (rKq b ν)=codeIns (rKd b ν):=by
 funext x s;unfold codeIns;rw[ltI_q];rfl
theorem codeEnd_q {τ:Type} (b:Bs) (ν:Int→Int→τ→Bs×τ):codeEnd (rKq b ν)=codeEnd (rKd b ν):=by
 funext x s;unfold codeEnd;rw[ltE_q];rfl
theorem codeBlk_q {τ:Type} (b:Bs) (ν:Int→Int→τ→Bs×τ):codeBlk (rKq b ν)=codeBlk (rKd b ν):=by
 funext x s;unfold codeBlk;rw[codeIns_q,codeEnd_q];rfl
theorem codeFlow_q {τ:Type} (b:Bs) (ν:Int→Int→τ→Bs×τ):codeFlow (rKq b ν)=codeFlow (rKd b ν):=by
 funext x s;unfold codeFlow;rw[codeBlk_q];rfl
def rCod (S:Nat→Prop) (w0:World) {τ:Type} (N:Nam S w0 τ) (b:Bs) (bsv:Value) (hlen:b.length≤65535) (rb:Nat):Cod S w0 (RS τ) where
 κ:=rKq b N.ν
 K:=False
 it:=88
 iv:=pv rb 0
 env:=fun F=>SlK S w0 F (byv b) b.length bsv∧N.env F
 envU:=fun F F' h hE=>⟨hE.1.up h,N.envU F F' h hE.2⟩
 St:=rSt N b bsv rb
 fN:=180
 fT:=182
 fR:=181
 fB:=179
 mN:=metRN
 mT:=metRT
 mR:=metRR
 mB:=metRB
 eN:=en180
 eT:=en182
 eR:=en181
 eB:=en179
 num := by
  intro F s L cb co n sz Lp Lp' hE hs hsz hf hp
  by_cases h:s.read+sz≤b.length
  · have hk:(rKq b N.ν).num n sz s=.ok (numV sz (beV ((b.drop s.read).take sz)),{s with read:=s.read+sz}):=by
     show(rKd b N.ν).num n sz s=_
     simp only[rKd];rw[if_pos h]
    have hp:=hp _ _ hk
    generalize hQ:Lp' (numV sz (beV ((b.drop s.read).take sz)))=Q at hp
    cases hp with
    | own c el v' hc=>
      refine(rea_number hE.1 hlen hs hsz hc).mono fun e post hm=>?_
      refine BI hm id fun a v p ea hg=>⟨a,ea,hg.1,?_⟩
      obtain⟨L',h1,h2⟩:=hg.2
      have e2:a=(numV sz (beV ((b.drop s.read).take sz)),{s with read:=s.read+sz}):=by
       have:(rKq b N.ν).num n sz s=.ok a:=ea
       rw[hk] at this
       exact(Out.ok.inj this).symm
      refine⟨L',h1,?_⟩
      rw[h2,e2]
      simp only
      rw[hQ]
    | kn hFalse _=>exact hFalse.elim
  · have hk:(rKq b N.ν).num n sz s=.bad:=by
     show(rKd b N.ν).num n sz s=_
     simp only[rKd];rw[if_neg h]
    rw[hk]
    exact rea_number_bad hE.1 hlen hs hsz h
 txt := by
  intro F s L cb co n Lp Lp' hE hs hf hp
  cases hk:(rKq b N.ν).txt n s with
  | full=>exact absurd hk hf
  | bad=>exact rea_text_bad (n:=n) hE.1 hlen hs hk
  | ok r =>
    obtain⟨n',s'⟩:=r
    have hp:=hp _ _ hk
    generalize hQ:Lp' n'=Q at hp
    cases hp with
    | own c el v' hc=>
      have hh:=rea_text (cb:=cb) (el:=el) hE.1 hlen hs hc
      rw[show(rKd b N.ν).txt n s=.ok (n',s') from hk] at hh
      refine hh.mono fun e post hm=>BI hm id fun a v p ea hg=>⟨a,ea,hg.1,?_⟩
      obtain⟨L',h1,h2⟩:=hg.2
      refine⟨L',h1,?_⟩
      rw[h2,←Out.ok.inj ea]
      simp only
      rw[hQ]
    | kn hFalse _=>exact hFalse.elim
 ref := by
  intro F s L cb co n q Lp Lp' hE hs hf hp
  have hq:0≤q∧q≤5:=by
   refine Decidable.byContradiction fun hn=>hf ?_
   show(if 0≤q∧q≤5 then (rKd b N.ν).ref n q s else .full)=_
   rw[if_neg hn]
  have e0:(rKq b N.ν).ref n q s=(rKd b N.ν).ref n q s:=by
   show(if 0≤q∧q≤5 then (rKd b N.ν).ref n q s else .full)=_
   rw[if_pos hq]
  have hB:s.places.length < maxB:=by
   refine Decidable.byContradiction fun hn=>hf ?_
   rw[e0];simp only[rKd];rw[if_neg hn]
  by_cases h:s.read+2≤b.length
  · cases hk:(rKq b N.ν).ref n q s with
    | full=>exact absurd hk hf
    | bad=>
      rw[e0] at hk
      simp only[rKd] at hk
      rw[if_pos hB,if_pos h] at hk
      cases hk
    | ok r =>
      obtain⟨n',s'⟩:=r
      have hp:=hp _ _ hk
      generalize hQ:Lp' n'=Q at hp
      cases hp with
      | own c el v' hc=>
        have hh:=rea_refer (cb:=cb) (el:=el) hE.1 hE.2 hlen hq hs hB hc
        rw[←e0,hk] at hh
        refine hh.mono fun e post hm=>BI hm id fun a v p ea hg=>⟨a,ea,hg.1,?_⟩
        obtain⟨L',h1,h2⟩:=hg.2
        refine⟨L',h1,?_⟩
        rw[h2,←Out.ok.inj ea]
        simp only
        rw[hQ]
      | kn hFalse _=>exact hFalse.elim
  · have hk:(rKq b N.ν).ref n q s=.bad:=by rw[e0];simp only[rKd];rw[if_pos hB,if_neg h]
    rw[hk]
    exact rea_refer_bad hE.1 hlen hs hB h
 blk :=by
  intro F s L hE hs hf
  have hB:s.blocks.length < maxB:=by
   refine Decidable.byContradiction fun hn=>hf ?_
   show(if s.blocks.length < maxB then _ else _)=_
   rw[if_neg hn]
  have hk:(rKq b N.ν).blk s=.ok {s with blocks:=s.blocks++[(s.read:Int)]}:=by
   show(if s.blocks.length < maxB then _ else _)=_
   rw[if_pos hB]
  rw[hk]
  exact(rea_block hE.1 hs hB).mono fun e post ⟨v,h1,h2,h3⟩=>⟨v,h1,h2,h3⟩
theorem rCod_small (S:Nat→Prop) (w0:World) {τ:Type} (N:Nam S w0 τ) (b:Bs) (bsv:Value) (hlen:b.length≤65535) (rb:Nat):(rCod S w0 N b bsv hlen rb).Small:=fun m sz s n' s' hsz _ h=>by
 have h:(rKd b N.ν).num (m:Int) sz s=.ok (n',s'):=h
 simp only[rKd] at h
 split at h
 · rename_i h1
   cases h
   rcases hsz with rfl|rfl
   · obtain ⟨a,ha⟩:=List.length_eq_one_iff.1 (C2 h1)
     have:=a.toNat_lt
     rw[ha,beV1,show numV 1 (a.toNat:Int)=a.toNat from rfl];omega
   · have:=beV_two (C2 h1)
     unfold numV
     split
     · omega
     · simp;omega
 · cases h
end Go.Sl
namespace Go.Sl
open Go Go.RowKit Go.Shelf Go.Proofs
attribute [local irreducible] Calls
abbrev zFlow:Array Value:= #[str [],.int .i64 0,.int .u8 0,.slice none 0 0,.slice none 0 0,.slice none 0 0]
abbrev E3 (bf br bo:Nat) (cf:Array Value) (vr vo:Value):List Ent:=[⟨bo,true,.cells #[vo] 4 (0,0)⟩,⟨br,true,.cells #[vr] 88 (0,0)⟩,⟨bf,true,.cells cf 26 (0,0)⟩]
section
variable {S:Nat→Prop} {w0:World} {F:List Ent}
theorem undoDP_c {bf br bo:Nat} {cf:Array Value} {vr vo:Value} (hcf:cf.size=6) (w:World) (hi:Inv S w0 (E3 bf br bo cf vr vo++F) w):
 CallsD Tryz.prog 78 #[pv bf 0,pv br 0,pv bo 0] (.panicking badE) w fun e u' w'=>u'=.panicking [{v:=.iface 137 (.agg #[]),recovered:=true}]∧e=.returned (.tuple #[])∧Inv S w0 (E3 bf br bo zFlow (.pointer none) (.bool false)++F) w':=by
 refine(callsD_of_WF (R:=fun e w'=>e=.returned (.tuple #[])∧Inv S w0 (E3 bf br bo zFlow (.pointer none) (.bool false)++F) w') (vs:=[pv bf 0,pv br 0,pv bo 0]) Tryz.func78 rfl rfl hi (md':=.panicking [{v:=.iface 137 (.agg #[]),recovered:=true}]) ?_).mono (fun e u' w' h=>⟨h.1,h.2.2.1,h.2.2.2⟩)
 simp only[List.cons_append,List.nil_append]
 unfold badE
 repeat' (first|refine Ag rfl ?_|refine Aj rfl ?_|refine Al ?_|refine An ?_|refine A5 rfl ?_|refine Az rfl ?_|refine AB ?_|refine Ab 0 ?_;try((refine wo_recover rfl rfl ?_)<;>try refine Za rfl (Aa N37 ?_))|refine Ab 1 ?_;try refine Zm rfl (Zv (ov_neqNil U20 rfl rfl) (Aa N37 ?_))|refine Ab 2 ?_;try refine Zm rfl (Zv (ov_assertT U137 rfl rfl) (Zm rfl (Zv (Ae rfl rfl) (Zv (Ae rfl rfl) ?_))));try refine A8 inf137 rfl rfl rfl rfl (fun b_ hb_=>?_);try refine AI rfl rfl rfl sz137 Y3 Y15 rfl rfl ?_;try refine Za rfl (Aa N37 ?_)|refine Ab 3 ?_;try refine Zm rfl (Zv (BN rfl) (Aa N37 ?_))|refine Ab 5 ?_;try refine Zv (Cw pl26 AO rfl) ?_;try((refine AI rfl rfl rfl Cj Y3 (by rw[hcf];rfl) rfl rfl ?_)<;>try refine AT rfl rfl rfl sz88 Y3 rfl rfl ?_;try refine AT rfl rfl rfl sz4 Y3 rfl rfl ?_;try refine Aa N37 ?_))
 refine CU (List.sublist_cons_self _ _) ?_
 refine w_endD Tryz.func78 rfl (fun w_ hi_=>⟨rfl,hi_⟩)
theorem undoDR_c {bf br bo:Nat} {H:List Ent} (w:World) (hi:Inv S w0 H w):
 CallsD Tryz.prog 78 #[pv bf 0,pv br 0,pv bo 0] .returning w fun e u' w'=>u'=.returning∧e=.returned (.tuple #[])∧Inv S w0 H w':=by
 refine(callsD_of_WF (R:=fun e w'=>e=.returned (.tuple #[])∧Inv S w0 H w') (vs:=[pv bf 0,pv br 0,pv bo 0]) Tryz.func78 rfl rfl hi (md':=.returning) ?_).mono (fun e u' w' h=>⟨h.1,h.2.2.1,h.2.2.2⟩)
 repeat' (first|refine Ag rfl ?_|refine Aj rfl ?_|refine Al ?_|refine An ?_|refine Az rfl ?_|refine AB ?_|refine Ab 0 ?_;try((refine wo_recoverR rfl rfl ?_)<;>try refine Za rfl (Aa N37 ?_))|refine Ab 1 ?_;try refine Zm rfl (Zv (ov_neqNilF (it:=0) U20 rfl) (Aa N37 ?_)))
 refine w_endD Tryz.func78 rfl (fun w_ hi_=>⟨rfl,hi_⟩)
end
end Go.Sl
namespace Go.Sl
open Go Go.RowKit Go.Shelf Go.Proofs
abbrev Sn (S:Nat→Prop) (w0:World):Nat→Prop:=fun k=>S k∨w0.heap.size≤k
section
variable {S:Nat→Prop} {w0 w w':World} {H F X:List Ent}
theorem Fr.rebase (h:Fr S w0 w) (k:Fr (Sn S w0) w w'):Fr S w0 w':=
 ⟨k.os.trans h.os,k.tape.trans h.tape,k.output.trans h.output,Nat.le_trans h.size k.size,fun i hi hS=>(k.block i (Nat.lt_of_lt_of_le hi h.size) (fun hh=>hh.elim hS Y9)).trans (h.block i hi hS),fun i c el fz hc=>by
  obtain⟨c1,h1,h2⟩:=h.shp i c el fz hc
  obtain⟨c2,h3,h4⟩:=k.shp i c1 el fz h2
  exact⟨c2,h3.trans h1,h4⟩⟩
theorem Inv.rebase (h:Fr S w0 w) (hi:Inv (Sn S w0) w X w'):Inv S w0 X w':=
 ⟨h.rebase hi.fr,hi.nd,hi.hb,fun e he hr=>(hi.wr e he hr).elim id fun h2=>.inr (Nat.le_trans h.size h2)⟩
theorem Inv.anew (hi:Inv S w0 H w):Inv (Sn S w0) w H w:=⟨Fr.refl _ _,hi.nd,hi.hb,fun e he hr=>.inl (hi.wr e he hr)⟩
theorem Kn.at {b o:Nat} {v:Value} (hk:Kn S w0 H b o v) (hi:Inv S w0 H w) (hs:∀e∈H,e∈X):Kn (Sn S w0) w X b o v:=by
 rcases hk with⟨rw,c,el,fz,hm,hc⟩|⟨hb,hS,hc⟩
 · exact .inl ⟨rw,c,el,fz,hs _ hm,hc⟩
 · refine .inr ⟨Nat.lt_of_lt_of_le hb hi.fr.size,fun h=>h.elim hS Y9,?_⟩
   unfold World.cell? at hc ⊢
   rw[hi.fr.block b hb hS];exact hc
theorem Kn.back {b o:Nat} {v:Value} (hf:Fr S w0 w) (hk:Kn (Sn S w0) w H b o v):Kn S w0 H b o v:=by
 rcases hk with⟨rw,c,el,fz,hm,hc⟩|⟨hb,hS,hc⟩
 · exact .inl ⟨rw,c,el,fz,hm,hc⟩
 · have h1:¬S b:=fun h=>hS (.inl h)
   have h2:b < w0.heap.size:=Nat.lt_of_not_le fun h=>hS (.inr h)
   refine .inr ⟨h2,h1,?_⟩
   unfold World.cell? at hc ⊢
   rw[←hf.block b h2 h1];exact hc
theorem Inv.revive {b:Nat} {c:Array Value} {el:TypeId} {fz:Nat×Nat} (hi:Inv S w0 H w) (hm:(⟨b,true,.cells c el fz⟩:Ent)∈H) (hn:∀e∈F,e.b≠b) (h:Inv (Sn S w0) w F w'):∃c',c'.size=c.size∧Inv S w0 (⟨b,true,.cells c' el fz⟩::F) w':=by
 obtain⟨c',h1,h2⟩:=h.fr.shp b c el fz (hi.hb _ hm)
 exact⟨c',h1,(Inv.rebase hi.fr h).own h2 (hi.wr _ hm rfl) hn⟩
theorem SlK.tr {S':Nat→Prop} {w1:World} {G G':List Ent} {cells:List Value} {n:Nat} {v:Value} (ht:∀b o v,Kn S w0 G b o v→Kn S' w1 G' b o v) (h:SlK S w0 G cells n v):SlK S' w1 G' cells n v:=by
 obtain⟨a,cap,h1,h2,h3⟩:=h
 exact⟨a,cap,h1,h2,h3.imp id fun ⟨b,off,h4,h5⟩=>⟨b,off,h4,fun i hi=>ht _ _ _ (h5 i hi)⟩⟩
theorem BlksLK.tr {S':Nat→Prop} {w1:World} {G G':List Ent} {l:List BlkM} {v:Value} (ht:∀b o v,Kn S w0 G b o v→Kn S' w1 G' b o v) (h:BlksLK S w0 G l v):BlksLK S' w1 G' l v:=by
 obtain⟨ps,h1,h2,h3⟩:=h
 refine⟨ps,h1,h2.tr ht,fun p hp=>?_⟩
 obtain⟨⟨qs,h4,h5,h6⟩,h7,h8⟩:=h3 p hp
 exact⟨⟨qs,h4,h5.tr ht,fun q hq=>SlK.tr ht (h6 q hq)⟩,SlK.tr ht h7,SlK.tr ht h8⟩
theorem FlowK.tr {S':Nat→Prop} {w1:World} {G G':List Ent} {x:FlowM} {v:Value} (ht:∀b o v,Kn S w0 G b o v→Kn S' w1 G' b o v) (h:FlowK S w0 G x v):FlowK S' w1 G' x v:=by
 obtain⟨rv,sv,bv,h0,h1,h2,h3⟩:=h
 exact⟨rv,sv,bv,h0,h1.tr ht,h2.tr ht,h3.tr ht⟩
end
structure NamF (τ:Type) where
 ν:Int→Int→τ→Bs×τ
 fv:Value
 ok:okCell fv=true
 fn:FuncId
 env:(Nat→Prop)→World→List Ent→Prop
 envU:∀S w0 F F',(∀e∈F,e∈F')→env S w0 F→env S w0 F'
 envT:∀S w0 F w,env S w0 F→Inv S w0 F w→env (Sn S w0) w F
 St:Nat→τ→List Ent→Prop
 vs:Int→Int→List Value
 goes:∀q n,GoesTo Tryz.prog fv [.int .u8 q,.int .i64 n] fn (vs q n)
 en:Enters Tryz.prog fn
 call:∀(S:Nat→Prop) (w0:World) (F:List Ent) (q n:Int) (c:Nat) (t:τ) (L:List Ent),env S w0 F→St c t L→c < maxB→(0≤q∧q≤5)→0≤n→n≤65535→SLF Tryz.prog S w0 F fn (vs q n) L fun e post=>∃v,e=.returned v∧v=str (ν q n t).1∧St (c+1) (ν q n t).2 post
def NamF.at {τ:Type} (N:NamF τ) (S:Nat→Prop) (w0:World):Nam S w0 τ where
 ν:=N.ν
 fv:=N.fv
 ok:=N.ok
 fn:=N.fn
 env:=N.env S w0
 envU:=N.envU S w0
 St:=N.St
 vs:=N.vs
 goes:=N.goes
 en:=N.en
 call:=N.call S w0
def rStF {τ:Type} (N:NamF τ) (b:Bs) (bsv:Value) (rb:Nat) (s:RS τ) (L:List Ent):Prop:=
 ∃ b2 c2 r2 b3 c3 r3 Ln,RowB b2 s.places.length c2 3 (rowV plcC s.places) r2∧RowB b3 s.blocks.length c3 1 (intsV s.blocks) r3∧N.St s.places.length s.st Ln∧s.read≤b.length ∧
  L=RBE rb bsv (slV b2 s.places.length c2) (slV b3 s.blocks.length c3) s.read N.fv::(rowE b2 (rowV plcC s.places) r2 49++(rowE b3 (intsV s.blocks) r3 3++Ln))
def decN {τ:Type} (b:Bs) (ν:Int→Int→τ→Bs×τ) (t:τ):Option (FlowM×RS τ):=if 20000 < b.length then none else match codeFlow (rKd b ν) flow0 (rs0 t) with
 | .ok r=>if r.2.read=b.length∧r.2.places.length≤500 then some r else none
 | _=>none
theorem decN_eq {τ:Type} (b:Bs) (ν:Int→Int→τ→Bs×τ) (t:τ):decN b ν t=(decP b).map fun r=>((renF ν r.1 t).1,emb r.2 (renF ν r.1 t).2):=by
 unfold decN decP rawRead
 rw[show(rs0 t:RS τ)=emb (rs0 ()) t from rfl,nm_flow flow0 (rs0 ()) t]
 by_cases h:20000 < b.length
 · rw[if_pos h,if_pos h];rfl
 · rw [if_neg h,if_neg h]
   cases codeFlow (rawKd b) flow0 (rs0 ()) with
   | ok r=>
     simp only[Out.bind,emb]
     by_cases h2:r.2.read=b.length∧r.2.places.length≤500
     · rw[if_pos h2,if_pos h2];rfl
     · rw[if_neg h2,if_neg h2];rfl
   | bad=>rfl
   | full=>rfl
section
variable {C:Cx} {S:Nat→Prop} {w0:World} {k:List Item} {D:List Deferred} {E:List (Nat×Value)} {H:List Ent} {d:Option Tmp} {t:TypeId} {p:String} {af:Array Edge} {g:Option (Nat×Bool)} {ops:Array Oper} {rest:List Oper}
theorem wo_callB {α:Type} {r:Out α} {G:World→α→Value→List Ent→Prop} {c:Call} {f:FuncId} {vs:List Value} {pre F:List Ent} {b:Nat} {cc:Array Value} {el:TypeId} {fz:Nat×Nat} (hm:(⟨b,true,.cells cc el fz⟩:Ent)∈pre) (hp:Take H pre F) (hc:CallR C D E ⟨d,.call c,t,p,af,g⟩ f vs) (hg:guardOk E ops ⟨d,.call c,t,p,af,g⟩=some true) (hd:dstOk d C.n=true)
 (h:∀w,Inv S w0 (pre++F) w→SLF C.P (Sn S w0) w F f vs pre (MoO r (G w)))
 (hn:r=.bad→∀c',c'.size=cc.size→WP C S w0 badE D E (⟨b,true,.cells c' el fz⟩::F))
 (hk:∀a,r=.ok a→∀w,Fr S w0 w→∀v post,G w a v post→WO C S w0 ops rest k D (putE d v E) (post++F)):WO C S w0 ops (⟨d,.call c,t,p,af,g⟩::rest) k D E H:=by
 refine De hg hd fun w hiv tmps hft=>?_
 have hiv:=hiv.take hp
 have h:=h w hiv
 unfold SLF at h
 rw[BV _ _ _ (nd_of rfl),hc tmps w hft]
 refine(h w hiv.anew).mono ?_
 rintro e w' ⟨post,hq,hi⟩
 cases r with
 | ok a=>
   obtain⟨v,rfl,hq⟩:=hq
   exact(hk a rfl w hiv.fr v post hq).go2 (hi.rebase hiv.fr)
 | bad =>
   obtain⟨rfl,rfl⟩:=hq
   have hne:∀e∈F,e.b≠b:=by
    have:=hiv.nd
    rw[List.map_append,List.nodup_append] at this
    exact fun e he heq=>this.2.2 b (List.mem_map_of_mem (f:=Ent.b) hm) e.b (List.mem_map_of_mem he) heq.symm
   obtain⟨c',h1,h2⟩:=Inv.revive hiv (List.mem_append_left _ hm) hne hi
   have:=hn rfl c' h1
   have h3:GoP C badE D E w':=by
    unfold WP at this
    exact this w' h2
   exact h3
 | full=>exact hq.elim
theorem wo_callOE {α:Type} {r:Out α} {G:α→Value→List Ent→Prop} {c:Call} {f:FuncId} {vs:List Value} {pre F:List Ent} (hp:Take H pre F) (hc:CallR C D E ⟨d,.call c,t,p,af,g⟩ f vs) (hg:guardOk E ops ⟨d,.call c,t,p,af,g⟩=some true) (hd:dstOk d C.n=true)
 (h:SLF C.P S w0 F f vs pre (MoO r G)) (hn:r=.bad→WP C S w0 badE D E F)
 (hk:∀a,r=.ok a→∀v post,G a v post→WO C S w0 ops rest k D (putE d v E) (post++F)):WO C S w0 ops (⟨d,.call c,t,p,af,g⟩::rest) k D E H:=by
 refine wo_callF hp hc hg hd h fun e post hq=>?_
 cases r with
 | ok a=>obtain⟨v,rfl,hg⟩:=hq;exact hk a rfl v post hg
 | bad=>
   obtain⟨rfl,rfl⟩:=hq
   exact hn rfl
 | full=>exact hq.elim
theorem wp_take {ch:List PanicEntry} {ps F:List Ent} (h:Take H ps F) (hk:WP C S w0 ch D E (ps++F)):WP C S w0 ch D E H:=by
 unfold WP at *;exact fun w hi=>hk w (hi.take h)
theorem gor_leave {P:Program} {f:FuncId} {fn:Func} {R:Ending→World→Prop} {w:World} {vs:List Value} (hf:P.funcs[f]?=some fn) (hi:Inv S w0 H w) (hr:Res P E H fn.results.toList vs) (hR:R (.returned (tup vs)) w):GoR (cxOf P f fn R) [] E w:=by
 exact goR_ret hf (fun tmps hft=>run_resultsM hi hft hr) hR
end
end Go.Sl
namespace Go.Sl
open Go
theorem flowR_of {f:FlowM} (h:sndOk f=true) (hres:0≤f.res):FlowR f:=by
 have w:=flowW_of h hres
 exact ⟨w.res,w.regs.2,⟨by have:=w.regs.1;omega,by have:=w.raises.1;omega,by have:=w.blks.1;omega⟩,fun b hb=>by
  have h1:=w.blks.2 b hb
  exact⟨fun i hi=>⟨(h1.ins.2 i hi).op0,(h1.ins.2 i hi).op1⟩,⟨by have:=h1.ins.1;omega,by have:=h1.en.args;omega,by have:=h1.en.ws.1;omega⟩,h1.en.kd0,h1.en.kd1⟩⟩
section
variable {τ:Type} {b:Bs} {ν:Int→Int→τ→Bs×τ}
theorem num_le {m:Int} {sz:Nat} {s:RS τ} {n':Int} {s':RS τ} (hsz:sz=1∨sz=2) (h:(rKd b ν).num m sz s=.ok (n',s')):n'≤65535:=by
 simp only[rKd] at h
 split at h
 · rename_i h1
   cases h
   rcases hsz with rfl|rfl
   · obtain ⟨a,ha⟩:=List.length_eq_one_iff.1 (C2 h1)
     have:=a.toNat_lt
     rw[ha,beV1,show numV 1 (a.toNat:Int)=a.toNat from rfl];omega
   · have:=beV_two (C2 h1)
     unfold numV
     split
     · omega
     · simp;omega
 · cases h
theorem iter_all {σ α:Type} {step:α→σ→Out (α×σ)} {P Q:α→Prop} (h:∀x s x' s',P x→step x s=.ok (x',s')→Q x'):∀(l:List α) (s:σ) (l':List α) (s':σ),(∀x∈l,P x)→iter step l s=.ok (l',s')→l'.length=l.length∧∀x∈l',Q x
 | [],s,l',s',_,e=>by cases e;exact⟨rfl,fun _ h=>(List.not_mem_nil h).elim⟩
 | x :: r,s,l',s',hp,e=>by
   obtain⟨⟨x1,s1⟩,h3,h4⟩:=Out.bind_ok e
   obtain⟨⟨l1,s2⟩,h5,h6⟩:=Out.bind_ok h4
   cases h6
   have:=iter_all h r s1 l1 s2 (fun y hy=>hp y (.tail _ hy)) h5
   refine⟨by simp[this.1],fun y hy=>?_⟩
   rcases List.mem_cons.1 hy with rfl|hy
   · exact h _ _ _ _ (hp x (.head _)) h3
   · exact this.2 y hy
theorem lst_all {α:Type} {sz:Nat} {z:α} {step:α→RS τ→Out (α×RS τ)} {P Q:α→Prop} (hsz:sz=1∨sz=2) (h:∀x s x' s',P x→step x s=.ok (x',s')→Q x') (hz:P z) {l l':List α} {s s':RS τ} (hl:l.length≤65535) (hP:∀x∈l,P x) (e:lst (rKd b ν) sz z step l s=.ok (l',s')):l'.length≤65535∧∀x∈l',Q x:=by
 obtain⟨⟨n,s1⟩,h1,h2⟩:=Out.bind_ok e
 have hn:=num_le hsz h1
 simp only at h2
 split at h2
 · cases h2
 · split at h2
   · have:=iter_all h _ _ _ _ hP h2
     exact⟨by rw[this.1];exact hl,this.2⟩
   · have:=iter_all h _ _ _ _ (fun x hx=>by obtain⟨_,rfl⟩:=List.mem_replicate.1 hx;exact hz) h2
     exact⟨by rw[this.1,List.length_replicate];omega,this.2⟩
theorem runs_pres {σ α β:Type} {step:β→α→σ→Out (α×σ)} {P:α→Prop} (h:∀l x s x' s',P x→step l x s=.ok (x',s')→P x'):∀(ls:List β) (x:α) (s:σ) (x':α) (s':σ),P x→runs step ls x s=.ok (x',s')→P x'
 | [],x,s,x',s',hp,e=>by cases e;exact hp
 | l :: r,x,s,x',s',hp,e=>by
   obtain⟨⟨x1,s1⟩,h3,h4⟩:=Out.bind_ok e
   exact runs_pres h r _ _ _ _ (h _ _ _ _ _ hp h3) h4
theorem ltI_args {σ:Type} {κ:Kd σ} {l:LI} {x x':InsM} {s s':σ} (hp:x.args.length≤1) (e:ltI κ l x s=.ok (x',s')):x'.args.length≤1:=by
 cases l<;>(obtain⟨⟨n,s1⟩,h3,h4⟩:=Out.bind_ok e;cases h4;first|exact hp|simp)
theorem ins_args {σ:Type} {κ:Kd σ} {x x':InsM} {s s':σ} (hp:x.args.length≤1) (e:codeIns κ x s=.ok (x',s')):x'.args.length≤1:=by
 obtain⟨⟨n,s1⟩,h3,h4⟩:=Out.bind_ok e
 simp only at h4
 split at h4
 · exact runs_pres (P:=fun x:InsM=>x.args.length≤1) (fun l x s x' s' hp e=>ltI_args hp e) _ _ _ _ _ (by exact hp) h4
 · cases h4
theorem ltE_len {l:LJ} {x x':EndM} {s s':RS τ} (hp:x.args.length≤65535∧x.ws.length≤65535) (e:ltE (rKd b ν) l x s=.ok (x',s')):x'.args.length≤65535∧x'.ws.length≤65535:=by
 cases l
 case given=>
  obtain⟨⟨n,s1⟩,h3,h4⟩:=Out.bind_ok e
  cases h4
  exact⟨(lst_all (P:=fun _=>True) (Q:=fun _=>True) (.inl rfl) (fun _ _ _ _ _ _=>trivial) trivial hp.1 (fun _ _=>trivial) h3).1,hp.2⟩
 case handlers=>
  obtain⟨⟨n,s1⟩,h3,h4⟩:=Out.bind_ok e
  obtain⟨⟨n2,s2⟩,h5,h6⟩:=Out.bind_ok h4
  cases h6
  exact⟨hp.1,(lst_all (P:=fun _=>True) (Q:=fun _=>True) (.inl rfl) (fun _ _ _ _ _ _=>trivial) trivial hp.2 (fun _ _=>trivial) h3).1⟩
 all_goals (obtain⟨⟨n,s1⟩,h3,h4⟩:=Out.bind_ok e;cases h4;exact hp)
theorem end_len {x x':EndM} {s s':RS τ} (hp:x.args.length≤65535∧x.ws.length≤65535) (e:codeEnd (rKd b ν) x s=.ok (x',s')):x'.args.length≤65535∧x'.ws.length≤65535:=by
 obtain⟨⟨n,s1⟩,h3,h4⟩:=Out.bind_ok e
 simp only at h4
 split at h4
 · exact runs_pres (P:=fun x:EndM=>x.args.length≤65535∧x.ws.length≤65535) (fun l x s x' s' hp e=>ltE_len hp e) _ _ _ _ _ (by exact hp) h4
 · cases h4
def BlkL (b:BlkM):Prop:=b.ins.length≤65535∧b.en.args.length≤65535∧b.en.ws.length≤65535∧∀i∈b.ins,i.args.length≤1
theorem blk_len {x x':BlkM} {s s':RS τ} (hp:BlkL x) (e:codeBlk (rKd b ν) x s=.ok (x',s')):BlkL x':=by
 obtain⟨s1,h3,h4⟩:=Out.bind_ok e
 obtain⟨⟨n2,s2⟩,h5,h6⟩:=Out.bind_ok h4
 obtain⟨⟨n3,s3⟩,h7,h8⟩:=Out.bind_ok h6
 cases h8
 have h9:=lst_all (P:=fun i:InsM=>i.args.length≤1) (Q:=fun i:InsM=>i.args.length≤1) (.inl rfl) (fun x s x' s' hp e=>ins_args hp e) (by simp[ins0]) hp.1 hp.2.2.2 h5
 have h10:(fixOt x.en).args.length≤65535∧(fixOt x.en).ws.length≤65535:=by
  unfold fixOt
  split<;>exact⟨hp.2.1,hp.2.2.1⟩
 have h11:=end_len h10 h7
 exact⟨h9.1,h11.1,h11.2,h9.2⟩
theorem read_flowL {f:FlowM} {t:τ} {s:RS τ} (h:codeFlow (rKd b ν) flow0 (rs0 t)=.ok (f,s)):FlowL f:=by
 obtain⟨⟨n1,s1⟩,h1,h⟩:=Out.bind_ok h
 obtain⟨⟨n2,s2⟩,h2,h⟩:=Out.bind_ok h
 obtain⟨⟨n3,s3⟩,h3,h⟩:=Out.bind_ok h
 obtain⟨⟨n4,s4⟩,h4,h⟩:=Out.bind_ok h
 obtain⟨⟨n5,s5⟩,h5,h⟩:=Out.bind_ok h
 cases h
 have a3:=lst_all (P:=fun _=>True) (Q:=fun _=>True) (.inr rfl) (fun _ _ _ _ _ _=>trivial) trivial (by simp[flow0]) (fun _ _=>trivial) h3
 have a4:=lst_all (P:=fun _=>True) (Q:=fun _=>True) (.inl rfl) (fun _ _ _ _ _ _=>trivial) trivial (by simp[flow0]) (fun _ _=>trivial) h4
 have a5:=lst_all (P:=BlkL) (Q:=BlkL) (.inr rfl) (fun _ _ _ _ hp e=>blk_len hp e) (by simp[BlkL,blk0,end0]) (by simp[flow0]) (by simp[flow0]) h5
 exact ⟨⟨a3.1,a4.1,a5.1⟩,fun b hb=>by
  have:=a5.2 b hb
  exact⟨this.1,this.2.1,this.2.2.1,fun i hi=>by have:=this.2.2.2 i hi;omega⟩⟩
theorem decN_flowL {t:τ} {r:FlowM×RS τ} (h:decN b ν t=some r):FlowL r.1:=by
 unfold decN at h
 split at h
 · cases h
 · split at h
   · rename_i r' hr
     split at h
     · cases h
       exact read_flowL (f:=r.1) (s:=r.2) hr
     · cases h
   · cases h
end
theorem FlowL.nm {x:FlowM} (h:FlowL x) (nm:Bs):FlowL {x with nm:=nm}:=⟨h.len,h.blks⟩
abbrev νX:Int→Int→Unit→Bs×Unit:=fun _ _ _=>(dmy,())
theorem accX {α:Type} (f:α→Unit→α×Unit) (g:α→α) (h:∀x,(f x ()).1=g x):∀l:List α,(acc f l ()).1=l.map g
 | []=>rfl
 | x::r=>by simp only[acc,List.map_cons,h];rw[show(f x ()).2=() from rfl,accX f g h r]
theorem renX (f:FlowM):{(renF νX f ()).1 with nm:=dmy}=dmF f:=by
 unfold renF dmF
 simp only
 congr 1
 refine accX _ dmB (fun x=>?_) f.blks
 unfold renB dmB
 simp only
 congr 1
 · refine accX _ dmI (fun i=>?_) x.ins
   unfold renI dmI
   split<;>rfl
 · unfold renE dmE
   split<;>rfl
theorem renX_snd (f:FlowM):sndOk (renF νX f ()).1=sndOk (dmF f):=by
 rw[←renX f];rfl
end Go.Sl
namespace Go.Sl
open Go
theorem pl_le:∀(l:List Seg) (n:Nat),∀p∈pl l n,p.1+2≤((n+(out l).length:Nat):Int)
 | [],n,p,hp=>(List.not_mem_nil hp).elim
 | .lit b::l,n,p,hp=>by
   have:=pl_le l (n+b.length) p (by simpa [pl] using hp)
   rw[out_cons]
   simp only[out1,List.length_append]
   omega
 | .blk::l,n,p,hp=>by
   have:=pl_le l n p (by simpa [pl] using hp)
   rw[out_cons]
   simp only[out1,List.length_append,List.length_nil]
   omega
 | .ref q nm::l,n,p,hp=>by
   have hb:(be 2 0).length=2:=by rw[be2];rfl
   rw[out_cons]
   simp only[out1,List.length_append,hb]
   rcases List.mem_cons.1 (show p∈((n:Int),q,nm)::pl l (n+2) from hp) with rfl|hp
   · simp only;omega
   · have:=pl_le l (n+2) p hp
     omega
def patchK (b:Bs) (ps:List Plc) (a:Bs):Bs:=ps.foldl (fun a p=>patch1 b a p.1.toNat) a
theorem patch_len {b a:Bs} {n:Nat} (h:n+2≤a.length) (h2:n+2≤b.length):(patch1 b a n).length=a.length:=by
 simp[patch1];omega
theorem patchK_len {b:Bs}:∀(ps:List Plc) (a:Bs),a.length=b.length→(∀p∈ps,p.1.toNat+2≤b.length)→(patchK b ps a).length=b.length
 | [],a,h,_=>h
 | p::ps,a,h,h2=>patchK_len ps _ ((patch_len (by rw[h];exact h2 p (.head _)) (h2 p (.head _))).trans h) fun q hq=>h2 q (.tail _ hq)
theorem patchK_snoc {b:Bs} {ps:List Plc} {a:Bs} {k:Nat} (hk:k < ps.length):patchK b (ps.take (k+1)) a=patch1 b (patchK b (ps.take k) a) ps[k].1.toNat:=by
 unfold patchK
 rw[List.take_succ_eq_append_getElem hk,List.foldl_append]
 rfl
theorem sg_dm (f:FlowM):(sgFlow (dmF f)).map sk=(sgFlow f).map sk:=by
 rw[←renX f]
 exact(ren_flow (ν:=νX) f ()).sk
theorem out_pos (f:FlowM):0 < (out (sgFlow f)).length:=by
 unfold sgFlow
 rw[out_app,List.length_append]
 have:(out (sgN 1 f.ac)).length=1:=by simp[sgN,out,out1,be1]
 omega
structure DecF (f:FlowM) (s:RS Unit) (b:Bs):Prop where
 st:s=⟨b.length,(pl (sgFlow f) 0).map noNm,bkp (sgFlow f) 0,()⟩
 raw:rawOf (sgFlow f)=b
 len:b.length≤20000
 nm:f.nm=[]
 res:0≤f.res∧f.res≤255
 two:∀n∈nmsOf (sgFlow f),n.length=2
 pls:(pl (sgFlow f) 0).length≤500
 out:(out (sgFlow f)).length=b.length
 fl:FlowL f
theorem decP_f {b:Bs} {f:FlowM} {s:RS Unit} (h:decP b=some (f,s)):DecF f s b:=by
 obtain⟨h1,h2,h3,h4,h5,h6,h7⟩:=decP_adv h
 simp only at h1 h2 h3 h4 h5 h6 h7
 have ho:(Go.Sl.out (sgFlow f)).length=b.length:=by rw[←rlen_out _ h6,h2]
 refine⟨?_,h2,h3,h4,h5,h6,h7,ho,?_⟩
 · rw [h1,adv_eq]
   simp[rs0,ho]
 · have hd:decN b rawN ()=some ((renF rawN f ()).1,emb s (renF rawN f ()).2):=by rw[decN_eq,h];rfl
   have:FlowL (renF rawN f ()).1:=decN_flowL hd
   have e:decN b rawN ()=decP b:=by
    unfold decN decP rawRead
    by_cases hc:20000 < b.length
    · rw[if_pos hc,if_pos hc]
    · rw [if_neg hc,if_neg hc]
      cases codeFlow (rawKd b) flow0 (rs0 ())<;>rfl
   rw[e,h] at hd
   have e2:=congrArg Prod.fst (Option.some.inj hd)
   simp only at e2
   rw[e2];exact this
theorem patch_all {b:Bs} {f:FlowM} {s:RS Unit} (h:DecF f s b):patchK b (pl (sgFlow f) 0) (out (sgFlow f))=b:=by
 have:=patch_raw b (sgFlow f) [] [] (by simp[h.raw]) (fun p hp=>h.two _ (by unfold nmsOf;exact List.mem_map_of_mem hp))
 simp only[List.nil_append,List.length_nil] at this
 rw[h.raw] at this
 exact this
theorem patchK_noNm {b:Bs}:∀(ps:List Plc) (a:Bs),patchK b (ps.map noNm) a=patchK b ps a
 | [],a=>rfl
 | p::ps,a=>patchK_noNm ps _
theorem fold_patch {b a:Bs} {n:Nat} {r:List Value} (h:n+2≤a.length) (h2:n+2≤b.length):
 ((byv ((b.drop n).take 2)).zipIdx n).foldl (fun (c:Array Value) (p:Value×Nat)=>c.setIfInBounds p.2 p.1) (byv a++r).toArray=(byv (patch1 b a n)++r).toArray:=by
 have hl:(byv (a.take n)).length=n:=by simp[byv];omega
 have:=foldl_set (byv a++r) (byv ((b.drop n).take 2)) (byv (a.take n)) (byv (a.drop n)++r) (by simp[byv];omega) (by rw[←List.append_assoc];congr 1;unfold byv;rw[←List.map_append,List.take_append_drop])
 rw[hl] at this
 rw[this]
 congr 1
 have hl2:(byv ((b.drop n).take 2)).length=2:=by simp[byv];omega
 rw[hl2,List.drop_append_of_le_length (by simp[byv];omega),←List.append_assoc]
 congr 1
 unfold patch1 byv
 simp only[List.map_append,List.append_assoc,←List.map_drop,List.drop_drop]
end Go.Sl
namespace Go.Sl
open Go Go.RowKit Go.Shelf Go.Proofs
attribute [local irreducible] Calls
def DecQ {τ:Type} (S:Nat→Prop) (w0:World) (N:NamF τ) (b:Bs) (bsv:Value) (r:Option (FlowM×RS τ)) (v:Value) (post:List Ent):Prop:=match r with
 | none=>v=.tuple #[.agg zFlow,.pointer none,.bool false]∧post=[]
 | some a=>∃fv rb L' X,v=.tuple #[fv,pv rb 0,.bool true]∧rStF N b bsv rb a.2 L'∧post=L'++X∧FlowK S w0 X a.1 fv
section
variable {S:Nat→Prop} {w0:World} {F:List Ent} {τ:Type} {N:NamF τ} {b:Bs} {bsv:Value} {t:τ} {L:List Ent}
abbrev decD (bf br bo:Nat):List Deferred:=[{target:=.fn (.func 78) #[pv bf 0,pv br 0,pv bo 0],args:= #[]}]
theorem dec_fail {bf br bo:Nat} {cf:Array Value} {vr vo:Value} {E:List (Nat×Value)} {H F':List Ent} (h4:look E 4=some (pv bf 0)) (h5:look E 5=some (pv br 0)) (h6:look E 6=some (pv bo 0)) (hT:Take H (E3 bf br bo cf vr vo) F') (hcf:cf.size=6) (hs:F.Sublist F'):
 WP (cxOf Tryz.prog 43 Tryz.f43 fun e w'=>∃post,(∃v,e=.returned v∧DecQ S w0 N b bsv none v post)∧Inv S w0 (post++F) w') S w0 badE (decD bf br bo) E H:=by
 refine wp_take hT ?_
 unfold WP
 intro w hi
 refine goP_defer (C:=cxOf _ _ _ _) (f':=78) (args:= #[pv bf 0,pv br 0,pv bo 0]) ?_ ((undoDP_c hcf w hi).mono ?_)
 · first|exact en78 _ _|(simpa using en78 _ _)
 · rintro e u w3 ⟨rfl,rfl,hi3⟩
   show GoR _ _ _ _
   refine gor_leave Tryz.func43 hi3 (.cellA h4 U26 rfl AO Y0 rfl (.cell h5 U88 rfl Y0 rfl (.cell h6 U4 rfl Y0 rfl .nil))) ?_
   exact⟨[],⟨_,rfl,rfl,rfl⟩,hi3.subset (by repeat(first|exact hs|apply List.Sublist.cons))⟩
theorem decoded_c (hb:SlK S w0 F (byv b) b.length bsv) (hE:N.env S w0 F) (hs:N.St 0 t L):
 SLF Tryz.prog S w0 F 43 [bsv,N.fv] L (fun e post=>∃v,e=.returned v∧DecQ S w0 N b bsv (decN b N.ν t) v post):=by
 refine AE fun w hi=>?_
 have hok:=N.ok
 have hfv:∃g fs cs,N.fv=.func g fs cs:=by
  have h:=N.goes 0 0
  generalize N.fv=fv at h
  cases h<;>exact⟨_,_,_,rfl⟩
 obtain⟨gf,gs,gc,hfv⟩:=hfv
 obtain⟨a0,ca,rfl,hca,_⟩:=id hb
 by_cases hbig:20000 < b.length
 · have hd:decN b N.ν t=none:=by unfold decN;rw[if_pos hbig]
   rw[hd]
   refine Ak Tryz.func43 rfl rfl (hi) ?_
   repeat' (first|refine Ag rfl ?_|refine Aj rfl ?_|refine Al ?_|refine An ?_|refine A5 rfl ?_|refine Az rfl ?_|refine CY rfl (fun h=>?_) (fun h=>?_)|refine w_condN rfl (fun h=>?_) (fun h=>?_)|refine A6 ?_|refine AH ?_|refine AB ?_|refine Bl rfl ?_|refine w_scope ?_|refine w_inScope ?_|refine w_label ?_|refine C5 Tryz.func43 (.cellA rfl U26 rfl AO Y13 rfl (.cell rfl U88 rfl Y13 rfl (.cell rfl U4 rfl Y13 rfl (.nil)))) (fun w_ hi_=>?_)|refine w_endM Tryz.func43 (.cellA rfl U26 rfl AO Y13 rfl (.cell rfl U88 rfl Y13 rfl (.cell rfl U4 rfl Y13 rfl (.nil)))) (fun w_ hi_=>?_)|refine Ab 0 ?_;try refine A8 AO rfl rfl rfl rfl (fun b_ hb_=>?_);try refine A8 inf88 rfl rfl rfl rfl (fun b_ hb_=>?_);try refine A8 inf4 rfl rfl rfl rfl (fun b_ hb_=>?_);try refine Aa N18 ?_|refine Ab 1 ?_;try refine Zm rfl (Zv (Ap rfl U22 rfl) (Zv (Be rfl rfl Y2) ?_));try refine Aa N18 ?_|refine Ab 2 ?_;try((first|refine Zv (AW U26 rfl AO rfl Y0 Y15) ?_|refine Zv (ov_loadR U26 rfl AO rfl Y0 (by assumption) Y15) ?_|refine Zv (B5 U26 rfl AO rfl Y0 rfl Y8 (fun j hj=>by first|rfl|simp)) ?_)<;>try((first|refine AI rfl rfl rfl Cj Y3 Y15 rfl rfl ?_|refine wo_storeD rfl rfl rfl Cj rfl Y3 Y8 (.inr Y8) rfl rfl ?_)<;>try((first|refine AT rfl rfl rfl sz88 Y3 rfl rfl ?_|refine AK rfl rfl rfl sz88 Y3 Y8 (.inr Y8) rfl rfl ?_)<;>try((first|refine AT rfl rfl rfl sz4 Y3 rfl rfl ?_|refine AK rfl rfl rfl sz4 Y3 Y8 (.inr Y8) rfl rfl ?_)<;>try refine Aa N18 ?_))))|refine Ab 3 ?_;try refine Zv (Bm rfl rfl) ?_;try((refine wo_defer rfl rfl rfl rfl rfl ?_)<;>try refine Aa N18 ?_)|refine Ab 4 ?_;try refine Zm rfl (Zv (ov_bldA pl81 inf81 rfl rfl rfl) (Zm rfl (Zv (ov_bldB pl98 inf98 rfl rfl rfl rfl rfl) ?_)));try refine AL rfl rfl rfl rfl (fun b_ hb_=>?_);try((first|refine AT rfl rfl rfl sz88 Y3 rfl rfl ?_|refine AK rfl rfl rfl sz88 Y3 Y8 (.inr Y8) rfl rfl ?_)<;>try refine Aa N18 ?_)|refine Ab 5 ?_;try refine Zv (Ac U88 rfl rfl Y0 Y4) ?_;try refine Zv (CD U88 rfl rfl) ?_;try(fail)|refine Ab 6 ?_;try refine Zv (Ac U88 rfl rfl Y0 Y4) ?_;try((first|refine Zv (Ah rfl) ?_|refine Zv (BP rfl) ?_|refine Zv (AX rfl) ?_|refine Zv (BO rfl) ?_)<;>try refine Zf fo98_1 rfl (Zv (Ac U3 rfl rfl Y0 Y4) ?_);try refine Zm rfl (Zv (Ap rfl U22 rfl) (Zv (Ay rfl rfl Y2) ?_));try refine Zm rfl ?_;try((first|refine Zk ?_|refine Zv (Ac U88 rfl rfl Y0 Y4) ?_|((first|refine Bc rfl rfl (fun h=>?_) (fun h=>?_)|refine B8 rfl rfl (fun h=>?_) (fun h=>?_))<;>(first|refine Zk ?_|refine Zv (Ac U88 rfl rfl Y0 Y4) ?_)))<;>try((first|refine Zk ?_|(first|refine Zv (Ah rfl) ?_|refine Zv (BP rfl) ?_|refine Zv (AX rfl) ?_|refine Zv (BO rfl) ?_)|((first|refine Bc rfl rfl (fun h=>?_) (fun h=>?_)|refine B8 rfl rfl (fun h=>?_) (fun h=>?_))<;>(first|refine Zk ?_|(first|refine Zv (Ah rfl) ?_|refine Zv (BP rfl) ?_|refine Zv (AX rfl) ?_|refine Zv (BO rfl) ?_))))<;>try((first|refine Zk ?_|refine Zf Ch rfl ?_|((first|refine Bc rfl rfl (fun h=>?_) (fun h=>?_)|refine B8 rfl rfl (fun h=>?_) (fun h=>?_))<;>(first|refine Zk ?_|refine Zf Ch rfl ?_)))<;>try((first|refine Zk ?_|refine Zf BS rfl ?_|((first|refine Bc rfl rfl (fun h=>?_) (fun h=>?_)|refine B8 rfl rfl (fun h=>?_) (fun h=>?_))<;>(first|refine Zk ?_|refine Zf BS rfl ?_)))<;>try((first|refine Zk ?_|refine Zv (Ac U29 rfl rfl Y0 Y4) ?_|((first|refine Bc rfl rfl (fun h=>?_) (fun h=>?_)|refine B8 rfl rfl (fun h=>?_) (fun h=>?_))<;>(first|refine Zk ?_|refine Zv (Ac U29 rfl rfl Y0 Y4) ?_)))<;>try((first|refine Zk ?_|refine Zv (Ap rfl U29 rfl) ?_|((first|refine Bc rfl rfl (fun h=>?_) (fun h=>?_)|refine B8 rfl rfl (fun h=>?_) (fun h=>?_))<;>(first|refine Zk ?_|refine Zv (Ap rfl U29 rfl) ?_)))<;>try((first|refine Zk ?_|refine Zv (CQ rfl rfl Y2) ?_|((first|refine Bc rfl rfl (fun h=>?_) (fun h=>?_)|refine B8 rfl rfl (fun h=>?_) (fun h=>?_))<;>(first|refine Zk ?_|refine Zv (CQ rfl rfl Y2) ?_)))<;>try((first|refine Zv (Av rfl rfl) ?_|refine Zv (A0 rfl rfl) ?_|refine wo_ps rfl (fun h=>?_) (fun h=>?_))<;>try(fail))))))))))|refine Cy (m:=5) 7 rfl mixed rfl ?_;try refine AC 0 1 Y1 ?_ ?_<;>(first|show WI _ _ _ _ _ _ 0 _ _ _ _;try((first|refine Ao rfl (AW U26 rfl AO rfl Y0 Y15) rfl rfl rfl ?_|refine Ao rfl (ov_loadR U26 rfl AO rfl Y0 (by assumption) Y15) rfl rfl rfl ?_|refine Ao rfl (B5 U26 rfl AO rfl Y0 rfl Y8 (fun j hj=>by first|rfl|simp)) rfl rfl rfl ?_)<;>try refine AC 1 2 Y1 ?_ ?_<;>(first|show WI _ _ _ _ _ _ 1 _ _ _ _;try refine Ao rfl (Ac U88 rfl rfl Y0 Y4) rfl rfl rfl ?_;try refine Af 2 Y1 ?_<;>try((first|refine Au rfl rfl rfl rfl Cj Y3 Y15 rfl rfl rfl ?_|refine wi_storeD rfl rfl rfl rfl Cj rfl Y3 Y8 (.inr Y8) rfl rfl rfl ?_)<;>try refine Af 3 Y1 ?_<;>try((first|refine Cz rfl rfl rfl rfl sz88 Y3 rfl rfl rfl ?_|refine A9 rfl rfl rfl rfl sz88 Y3 Y8 (.inr Y8) rfl rfl rfl ?_)<;>try refine Af 4 Y1 ?_<;>try((first|refine Cz rfl rfl rfl rfl sz4 Y3 rfl rfl rfl ?_|refine A9 rfl rfl rfl rfl sz4 Y3 Y8 (.inr Y8) rfl rfl rfl ?_)<;>try refine Ar N18 Y1 ?_)))|show WI _ _ _ _ _ _ 2 _ _ _ _;try((first|refine Au rfl rfl rfl rfl Cj Y3 Y15 rfl rfl rfl ?_|refine wi_storeD rfl rfl rfl rfl Cj rfl Y3 Y8 (.inr Y8) rfl rfl rfl ?_)<;>try refine Af 1 Y1 ?_<;>try refine Ao rfl (Ac U88 rfl rfl Y0 Y4) rfl rfl rfl ?_;try refine Af 3 Y1 ?_<;>try((first|refine Cz rfl rfl rfl rfl sz88 Y3 rfl rfl rfl ?_|refine A9 rfl rfl rfl rfl sz88 Y3 Y8 (.inr Y8) rfl rfl rfl ?_)<;>try refine Af 4 Y1 ?_<;>try((first|refine Cz rfl rfl rfl rfl sz4 Y3 rfl rfl rfl ?_|refine A9 rfl rfl rfl rfl sz4 Y3 Y8 (.inr Y8) rfl rfl rfl ?_)<;>try refine Ar N18 Y1 ?_)))))|show WI _ _ _ _ _ _ 1 _ _ _ _;try refine Ao rfl (Ac U88 rfl rfl Y0 Y4) rfl rfl rfl ?_;try refine Af 0 Y1 ?_<;>try((first|refine Ao rfl (AW U26 rfl AO rfl Y0 Y15) rfl rfl rfl ?_|refine Ao rfl (ov_loadR U26 rfl AO rfl Y0 (by assumption) Y15) rfl rfl rfl ?_|refine Ao rfl (B5 U26 rfl AO rfl Y0 rfl Y8 (fun j hj=>by first|rfl|simp)) rfl rfl rfl ?_)<;>try refine Af 2 Y1 ?_<;>try((first|refine Au rfl rfl rfl rfl Cj Y3 Y15 rfl rfl rfl ?_|refine wi_storeD rfl rfl rfl rfl Cj rfl Y3 Y8 (.inr Y8) rfl rfl rfl ?_)<;>try refine Af 3 Y1 ?_<;>try((first|refine Cz rfl rfl rfl rfl sz88 Y3 rfl rfl rfl ?_|refine A9 rfl rfl rfl rfl sz88 Y3 Y8 (.inr Y8) rfl rfl rfl ?_)<;>try refine Af 4 Y1 ?_<;>try((first|refine Cz rfl rfl rfl rfl sz4 Y3 rfl rfl rfl ?_|refine A9 rfl rfl rfl rfl sz4 Y3 Y8 (.inr Y8) rfl rfl rfl ?_)<;>try refine Ar N18 Y1 ?_))))))
   exact⟨[],⟨_,rfl,rfl,rfl⟩,hi_.subset Y5⟩
 · have hlen : b.length≤65535:=by omega
   have hd:decN b N.ν t=match codeFlow (rKd b N.ν) flow0 (rs0 t) with
    | .ok r=>if r.2.read=b.length∧r.2.places.length≤500 then some r else none
    | _=>none:=by unfold decN;rw[if_neg hbig];try rfl
   refine Ak Tryz.func43 rfl rfl (hi) ?_
   repeat' (first|refine Ag rfl ?_|refine Aj rfl ?_|refine Al ?_|refine An ?_|refine A5 rfl ?_|refine Az rfl ?_|refine CY rfl (fun h=>?_) (fun h=>?_)|refine w_condN rfl (fun h=>?_) (fun h=>?_)|refine A6 ?_|refine AH ?_|refine AB ?_|refine Bl rfl ?_|refine w_scope ?_|refine w_inScope ?_|refine w_label ?_|refine C5 Tryz.func43 (.cellA rfl U26 rfl AO Y13 rfl (.cell rfl U88 rfl Y13 rfl (.cell rfl U4 rfl Y13 rfl (.nil)))) (fun w_ hi_=>?_)|refine w_endM Tryz.func43 (.cellA rfl U26 rfl AO Y13 rfl (.cell rfl U88 rfl Y13 rfl (.cell rfl U4 rfl Y13 rfl (.nil)))) (fun w_ hi_=>?_)|refine Ab 0 ?_;try refine A8 AO rfl rfl rfl rfl (fun b_ hb_=>?_);try refine A8 inf88 rfl rfl rfl rfl (fun b_ hb_=>?_);try refine A8 inf4 rfl rfl rfl rfl (fun b_ hb_=>?_);try refine Aa N18 ?_|refine Ab 1 ?_;try refine Zm rfl (Zv (Ap rfl U22 rfl) (Zv (Be rfl rfl Y2) ?_));try refine Aa N18 ?_|refine Ab 2 ?_;try((first|refine Zv (AW U26 rfl AO rfl Y0 Y15) ?_|refine Zv (ov_loadR U26 rfl AO rfl Y0 (by assumption) Y15) ?_|refine Zv (B5 U26 rfl AO rfl Y0 rfl Y8 (fun j hj=>by first|rfl|simp)) ?_)<;>try((first|refine AI rfl rfl rfl Cj Y3 Y15 rfl rfl ?_|refine wo_storeD rfl rfl rfl Cj rfl Y3 Y8 (.inr Y8) rfl rfl ?_)<;>try((first|refine AT rfl rfl rfl sz88 Y3 rfl rfl ?_|refine AK rfl rfl rfl sz88 Y3 Y8 (.inr Y8) rfl rfl ?_)<;>try((first|refine AT rfl rfl rfl sz4 Y3 rfl rfl ?_|refine AK rfl rfl rfl sz4 Y3 Y8 (.inr Y8) rfl rfl ?_)<;>try refine Aa N18 ?_))))|refine Ab 3 ?_;try refine Zv (Bm rfl rfl) ?_;try((refine wo_defer rfl rfl rfl rfl rfl ?_)<;>try refine Aa N18 ?_))
   rename_i bf hbf br hbr
   revert b_
   intro bo hbo
   repeat' (first|refine Ag rfl ?_|refine Aj rfl ?_|refine Al ?_|refine Ab 4 ?_;try refine Zm rfl ?_;try((first|refine Zv (Bq (vs:=[(0,.slice a0 b.length ca)]) (cs:= #[.slice a0 b.length ca,.slice none 0 0,.slice none 0 0]) pl81 inf81 rfl rfl rfl) ?_|refine Zv (Bq (vs:=[(0,.agg #[.slice a0 b.length ca,.slice none 0 0,.slice none 0 0]),(2,N.fv)]) (cs:= #[.slice a0 b.length ca,.slice none 0 0,.slice none 0 0,.int .i64 0,N.fv]) pl98 inf98 rfl rfl (by rw[hfv];rfl)) ?_|refine Zv (ov_bldA pl81 inf81 rfl rfl rfl) ?_)<;>try refine Zm rfl ?_;try((first|refine Zv (Bq (vs:=[(0,.slice a0 b.length ca)]) (cs:= #[.slice a0 b.length ca,.slice none 0 0,.slice none 0 0]) pl81 inf81 rfl rfl rfl) ?_|refine Zv (Bq (vs:=[(0,.agg #[.slice a0 b.length ca,.slice none 0 0,.slice none 0 0]),(2,N.fv)]) (cs:= #[.slice a0 b.length ca,.slice none 0 0,.slice none 0 0,.int .i64 0,N.fv]) pl98 inf98 rfl rfl (by rw[hfv];rfl)) ?_|refine Zv (ov_bldB pl98 inf98 rfl rfl rfl rfl rfl) ?_)<;>try((first|refine AL (cs:= #[.slice a0 b.length ca,.slice none 0 0,.slice none 0 0,.int .i64 0,N.fv]) rfl rfl rfl rfl (fun rb hrb=>?_)|refine AL rfl rfl rfl rfl (fun b_ hb_=>?_))<;>try((first|refine AT rfl rfl rfl sz88 Y3 rfl rfl ?_|refine AK rfl rfl rfl sz88 Y3 Y8 (.inr Y8) rfl rfl ?_)<;>try refine Aa N18 ?_)))))
   have hfl:∀mp mq w,Inv S w0 ((RBE rb (.slice a0 b.length ca) (.slice none 0 0) (.slice none 0 0) 0 N.fv::(L++[(⟨bf,true,.cells (flowC flow0 (.slice none 0 0) (.slice none 0 0) (.slice none 0 0)) 26 (0,0)⟩:Ent)]))++(⟨mp,true,mapBO partTab⟩::⟨mq,true,mapBO pieceTab⟩::⟨bo,true,.cells #[.bool false] 4 (0,0)⟩::⟨br,true,.cells #[pv rb 0] 88 (0,0)⟩::F)) w→SLF Tryz.prog (Sn S w0) w (⟨mp,true,mapBO partTab⟩::⟨mq,true,mapBO pieceTab⟩::⟨bo,true,.cells #[.bool false] 4 (0,0)⟩::⟨br,true,.cells #[pv rb 0] 88 (0,0)⟩::F) 63 [.agg #[.iface 88 (pv rb 0),.map (some mp),.map (some mq)],pv bf 0] (RBE rb (.slice a0 b.length ca) (.slice none 0 0) (.slice none 0 0) 0 N.fv::(L++[(⟨bf,true,.cells (flowC flow0 (.slice none 0 0) (.slice none 0 0) (.slice none 0 0)) 26 (0,0)⟩:Ent)])) (MoO (codeFlow (rKd b N.ν) flow0 (rs0 t)) fun a v post=>v=unitV∧∃L' X rv' sv' bv',rStF N b (.slice a0 b.length ca) rb a.2 L'∧post=L'++(⟨bf,true,.cells (flowC a.1 rv' sv' bv') 26 (0,0)⟩::X)∧SlK (Sn S w0) w X (regV a.1.regs) a.1.regs.length rv'∧SlK (Sn S w0) w X (strsV a.1.raises) a.1.raises.length sv'∧BlksLK (Sn S w0) w X a.1.blks bv'):=by
    intro mp mq w1 hi1
    have hE':(rCod (Sn S w0) w1 (N.at _ w1) b (.slice a0 b.length ca) hlen rb).env (⟨mp,true,mapBO partTab⟩::⟨mq,true,mapBO pieceTab⟩::⟨bo,true,.cells #[.bool false] 4 (0,0)⟩::⟨br,true,.cells #[pv rb 0] 88 (0,0)⟩::F):=by
     have hiF:Inv S w0 F w1:=hi1.subset Y5
     exact⟨(hb.tr fun bb o v h=>h.at hiF fun e h=>h).up Y12,N.envU _ _ _ _ Y12 (N.envT _ _ _ _ hE hiF)⟩
    have hs':(rCod (Sn S w0) w1 (N.at _ w1) b (.slice a0 b.length ca) hlen rb).St (rs0 t) (RBE rb (.slice a0 b.length ca) (.slice none 0 0) (.slice none 0 0) 0 N.fv::L):=⟨none,0,[],none,0,[],L,⟨rfl,rfl,fun _=>rfl⟩,⟨rfl,rfl,fun _=>rfl⟩,hs,Nat.zero_le _,rfl⟩
    have hk:codeFlow (rCod (Sn S w0) w1 (N.at _ w1) b (.slice a0 b.length ca) hlen rb).κ flow0 (rs0 t)=codeFlow (rKd b N.ν) flow0 (rs0 t):=by
     show codeFlow (rKq b N.ν) flow0 (rs0 t)=_
     rw[codeFlow_q]
    have:=flow_c (rCod (Sn S w0) w1 (N.at _ w1) b (.slice a0 b.length ca) hlen rb) (F:=(⟨mp,true,mapBO partTab⟩::⟨mq,true,mapBO pieceTab⟩::⟨bo,true,.cells #[.bool false] 4 (0,0)⟩::⟨br,true,.cells #[pv rb 0] 88 (0,0)⟩::F)) (G:=[]) (b:=bf) (x:=flow0) (el:=26) (Lr:=[]) (Lt:=[]) (Lb:=[]) hE' hs' (fun e h=>(List.not_mem_nil h).elim) (.head _) (.tail _ (.head _)) (ar:=none) (cr:=0) rfl (fun s' L' h=>⟨L',h,.inl ⟨rfl,rfl,by simp,none,0,rfl⟩⟩) (at_:=none) (ct:=0) rfl (fun s' L' h=>⟨L',h,.inl ⟨rfl,rfl,by simp,none,0,rfl⟩⟩) (ab:=none) (cb:=0) rfl (fun s' L' h=>⟨L',[],h,.inl ⟨rfl,rfl,by simp,rfl,none,0,rfl⟩⟩) (.inr ⟨⟨rfl,rfl⟩,⟨rfl,rfl⟩,⟨rfl,rfl⟩⟩) (rCod_small _ _ _ _ _ _ _) (by simp[flow0]) (by simp[flow0]) (by rw[hk];exact flow_nf hlen t)
    rw[hk] at this
    simp only[List.append_nil,List.nil_append] at this
    exact this
   repeat refine An ?_
   repeat' (first|refine Ag rfl ?_|refine Aj rfl ?_|refine Al ?_|refine Ab 5 ?_;try refine Zv (Ac U88 rfl rfl Y0 Y4) ?_;try refine Zv (CD U88 rfl rfl) ?_;try((refine AQ (pre:=[]) (Take.nil _) (CallR.val rfl en62) rfl rfl with_c ?_;rintro v post ⟨mp,mq,rfl,rfl⟩;simp only[List.cons_append,List.nil_append])<;>try((refine wo_callB (r:=codeFlow (rKd b N.ν) flow0 (rs0 t)) (pre:=(RBE rb (.slice a0 b.length ca) (.slice none 0 0) (.slice none 0 0) 0 N.fv::(L++[(⟨bf,true,.cells (flowC flow0 (.slice none 0 0) (.slice none 0 0) (.slice none 0 0)) 26 (0,0)⟩:Ent)]))) (F:=(⟨mp,true,mapBO partTab⟩::⟨mq,true,mapBO pieceTab⟩::⟨bo,true,.cells #[.bool false] 4 (0,0)⟩::⟨br,true,.cells #[pv rb 0] 88 (0,0)⟩::F)) (b:=bf) (.tail _ (List.mem_append_right _ (.head _))) (Take.cons (e:=RBE rb (.slice a0 b.length ca) (.slice none 0 0) (.slice none 0 0) 0 N.fv) Y30 (Take.join (A:=L) (B:=[(⟨bf,true,.cells (flowC flow0 (.slice none 0 0) (.slice none 0 0) (.slice none 0 0)) 26 (0,0)⟩:Ent)]) (by repeat(first|exact Take.mid _ _|apply Take.tail)) Y6)) (CallR.val rfl en63) rfl rfl (hfl mp mq) (fun e c' hc'=>by rw[show decN b N.ν t=none by rw[hd,e]];exact dec_fail rfl rfl rfl (cf:=c') Y6 hc' Y5) ?_;rintro⟨x',s'⟩ e w1 hfr v post ⟨rfl,L',X,rv',sv',bv',⟨b2,c2,r2,b3,c3,r3,Ln,h2,h3,hn,hr,rfl⟩,rfl,k1,k2,k3⟩)<;>try refine Aa N18 ?_)))
   dsimp only at h2 h3 hn hr k1 k2 k3 ⊢
   simp only[List.append_assoc,List.cons_append,List.nil_append]
   have hd':decN b N.ν t=if s'.read=b.length∧s'.places.length≤500 then some (x',s') else none:=by rw[hd,e]
   obtain⟨a1,c1,rfl,hc1,_⟩:=id k1
   obtain⟨a2,c2',rfl,hc2,_⟩:=id k2
   obtain⟨ps,hps,hkb,hkp⟩:=id k3
   obtain⟨a3,c3',rfl,hc3,_⟩:=id hkb
   have hst:(flowC x' (.slice a1 x'.regs.length c1) (.slice a2 x'.raises.length c2') (.slice a3 x'.blks.length c3')).toList.all okCell=true:=rfl
   repeat refine An ?_
   by_cases q1:s'.read=b.length
   · by_cases q2:s'.places.length≤500
     · rw [if_pos ⟨q1,q2⟩] at hd'
       rw[hd']
       have hq:((s'.read:Nat):Int)=b.length:=by omega
       repeat' (first|refine Ag rfl ?_|refine Aj rfl ?_|refine Al ?_|refine An ?_|refine A5 rfl ?_|refine Az rfl ?_|refine CY rfl (fun h=>?_) (fun h=>?_)|refine w_condN rfl (fun h=>?_) (fun h=>?_)|refine A6 ?_|refine AH ?_|refine AB ?_|refine Bl rfl ?_|refine w_scope ?_|refine w_inScope ?_|refine w_label ?_|refine C5 Tryz.func43 (.cellA rfl U26 rfl AO Y13 rfl (.cell rfl U88 rfl Y13 rfl (.cell rfl U4 rfl Y13 rfl (.nil)))) (fun w_ hi_=>?_)|refine w_endM Tryz.func43 (.cellA rfl U26 rfl AO Y13 rfl (.cell rfl U88 rfl Y13 rfl (.cell rfl U4 rfl Y13 rfl (.nil)))) (fun w_ hi_=>?_)|refine Ab 0 ?_;try refine A8 AO rfl rfl rfl rfl (fun b_ hb_=>?_);try refine A8 inf88 rfl rfl rfl rfl (fun b_ hb_=>?_);try refine A8 inf4 rfl rfl rfl rfl (fun b_ hb_=>?_);try refine Aa N18 ?_|refine Ab 1 ?_;try refine Zm rfl (Zv (Ap rfl U22 rfl) (Zv (Be rfl rfl Y2) ?_));try refine Aa N18 ?_|refine Ab 2 ?_;try((first|refine Zv (AW U26 rfl AO rfl Y0 Y15) ?_|refine Zv (ov_loadR U26 rfl AO rfl Y0 (by assumption) Y15) ?_|refine Zv (B5 U26 rfl AO rfl Y0 rfl Y8 (fun j hj=>by first|rfl|simp)) ?_)<;>try((first|refine AI rfl rfl rfl Cj Y3 Y15 rfl rfl ?_|refine wo_storeD rfl rfl rfl Cj rfl Y3 Y8 (.inr Y8) rfl rfl ?_)<;>try((first|refine AT rfl rfl rfl sz88 Y3 rfl rfl ?_|refine AK rfl rfl rfl sz88 Y3 Y8 (.inr Y8) rfl rfl ?_)<;>try((first|refine AT rfl rfl rfl sz4 Y3 rfl rfl ?_|refine AK rfl rfl rfl sz4 Y3 Y8 (.inr Y8) rfl rfl ?_)<;>try refine Aa N18 ?_))))|refine Ab 3 ?_;try refine Zv (Bm rfl rfl) ?_;try((refine wo_defer rfl rfl rfl rfl rfl ?_)<;>try refine Aa N18 ?_)|refine Ab 4 ?_;try refine Zm rfl (Zv (ov_bldA pl81 inf81 rfl rfl rfl) (Zm rfl (Zv (ov_bldB pl98 inf98 rfl rfl rfl rfl rfl) ?_)));try refine AL rfl rfl rfl rfl (fun b_ hb_=>?_);try((first|refine AT rfl rfl rfl sz88 Y3 rfl rfl ?_|refine AK rfl rfl rfl sz88 Y3 Y8 (.inr Y8) rfl rfl ?_)<;>try refine Aa N18 ?_)|refine Ab 5 ?_;try refine Zv (Ac U88 rfl rfl Y0 Y4) ?_;try refine Zv (CD U88 rfl rfl) ?_;try(fail)|refine Ab 6 ?_;try refine Zv (Ac U88 rfl rfl Y0 Y4) ?_;try((first|refine Zv (Ah rfl) ?_|refine Zv (BP rfl) ?_|refine Zv (AX rfl) ?_|refine Zv (BO rfl) ?_)<;>try refine Zf fo98_1 rfl (Zv (Ac U3 rfl rfl Y0 Y4) ?_);try refine Zm rfl (Zv (Ap rfl U22 rfl) (Zv (Ay rfl rfl Y2) ?_));try refine Zm rfl ?_;try((first|refine Zk ?_|refine Zv (Ac U88 rfl rfl Y0 Y4) ?_|((first|refine Bc rfl rfl (fun h=>?_) (fun h=>?_)|refine B8 rfl rfl (fun h=>?_) (fun h=>?_))<;>(first|refine Zk ?_|refine Zv (Ac U88 rfl rfl Y0 Y4) ?_)))<;>try((first|refine Zk ?_|(first|refine Zv (Ah rfl) ?_|refine Zv (BP rfl) ?_|refine Zv (AX rfl) ?_|refine Zv (BO rfl) ?_)|((first|refine Bc rfl rfl (fun h=>?_) (fun h=>?_)|refine B8 rfl rfl (fun h=>?_) (fun h=>?_))<;>(first|refine Zk ?_|(first|refine Zv (Ah rfl) ?_|refine Zv (BP rfl) ?_|refine Zv (AX rfl) ?_|refine Zv (BO rfl) ?_))))<;>try((first|refine Zk ?_|refine Zf Ch rfl ?_|((first|refine Bc rfl rfl (fun h=>?_) (fun h=>?_)|refine B8 rfl rfl (fun h=>?_) (fun h=>?_))<;>(first|refine Zk ?_|refine Zf Ch rfl ?_)))<;>try((first|refine Zk ?_|refine Zf BS rfl ?_|((first|refine Bc rfl rfl (fun h=>?_) (fun h=>?_)|refine B8 rfl rfl (fun h=>?_) (fun h=>?_))<;>(first|refine Zk ?_|refine Zf BS rfl ?_)))<;>try((first|refine Zk ?_|refine Zv (Ac U29 rfl rfl Y0 Y4) ?_|((first|refine Bc rfl rfl (fun h=>?_) (fun h=>?_)|refine B8 rfl rfl (fun h=>?_) (fun h=>?_))<;>(first|refine Zk ?_|refine Zv (Ac U29 rfl rfl Y0 Y4) ?_)))<;>try((first|refine Zk ?_|refine Zv (Ap rfl U29 rfl) ?_|((first|refine Bc rfl rfl (fun h=>?_) (fun h=>?_)|refine B8 rfl rfl (fun h=>?_) (fun h=>?_))<;>(first|refine Zk ?_|refine Zv (Ap rfl U29 rfl) ?_)))<;>try((first|refine Zk ?_|refine Zv (CQ rfl rfl Y2) ?_|((first|refine Bc rfl rfl (fun h=>?_) (fun h=>?_)|refine B8 rfl rfl (fun h=>?_) (fun h=>?_))<;>(first|refine Zk ?_|refine Zv (CQ rfl rfl Y2) ?_)))<;>try((first|refine Zv (Av rfl rfl) ?_|refine Zv (A0 rfl rfl) ?_|refine wo_ps rfl (fun h=>?_) (fun h=>?_))<;>try((refine wo_callOE (pre:=[]) (Take.nil _) (CallR.val rfl en79) rfl rfl (Cb true) (fun h=>by simp at h) ?_;rintro⟨⟩ _ v post ⟨rfl,rfl⟩;simp only[List.nil_append])<;>try refine Aa N18 ?_))))))))))|refine Cy (m:=5) 7 rfl mixed rfl ?_;try refine AC 0 1 Y1 ?_ ?_<;>(first|show WI _ _ _ _ _ _ 0 _ _ _ _;try((first|refine Ao rfl (AW U26 rfl AO rfl Y0 Y15) rfl rfl rfl ?_|refine Ao rfl (ov_loadR U26 rfl AO rfl Y0 (by assumption) Y15) rfl rfl rfl ?_|refine Ao rfl (B5 U26 rfl AO rfl Y0 rfl Y8 (fun j hj=>by first|rfl|simp)) rfl rfl rfl ?_)<;>try refine AC 1 2 Y1 ?_ ?_<;>(first|show WI _ _ _ _ _ _ 1 _ _ _ _;try refine Ao rfl (Ac U88 rfl rfl Y0 Y4) rfl rfl rfl ?_;try refine Af 2 Y1 ?_<;>try((first|refine Au rfl rfl rfl rfl Cj Y3 Y15 rfl rfl rfl ?_|refine wi_storeD rfl rfl rfl rfl Cj rfl Y3 Y8 (.inr Y8) rfl rfl rfl ?_)<;>try refine Af 3 Y1 ?_<;>try((first|refine Cz rfl rfl rfl rfl sz88 Y3 rfl rfl rfl ?_|refine A9 rfl rfl rfl rfl sz88 Y3 Y8 (.inr Y8) rfl rfl rfl ?_)<;>try refine Af 4 Y1 ?_<;>try((first|refine Cz rfl rfl rfl rfl sz4 Y3 rfl rfl rfl ?_|refine A9 rfl rfl rfl rfl sz4 Y3 Y8 (.inr Y8) rfl rfl rfl ?_)<;>try refine Ar N18 Y1 ?_)))|show WI _ _ _ _ _ _ 2 _ _ _ _;try((first|refine Au rfl rfl rfl rfl Cj Y3 Y15 rfl rfl rfl ?_|refine wi_storeD rfl rfl rfl rfl Cj rfl Y3 Y8 (.inr Y8) rfl rfl rfl ?_)<;>try refine Af 1 Y1 ?_<;>try refine Ao rfl (Ac U88 rfl rfl Y0 Y4) rfl rfl rfl ?_;try refine Af 3 Y1 ?_<;>try((first|refine Cz rfl rfl rfl rfl sz88 Y3 rfl rfl rfl ?_|refine A9 rfl rfl rfl rfl sz88 Y3 Y8 (.inr Y8) rfl rfl rfl ?_)<;>try refine Af 4 Y1 ?_<;>try((first|refine Cz rfl rfl rfl rfl sz4 Y3 rfl rfl rfl ?_|refine A9 rfl rfl rfl rfl sz4 Y3 Y8 (.inr Y8) rfl rfl rfl ?_)<;>try refine Ar N18 Y1 ?_)))))|show WI _ _ _ _ _ _ 1 _ _ _ _;try refine Ao rfl (Ac U88 rfl rfl Y0 Y4) rfl rfl rfl ?_;try refine Af 0 Y1 ?_<;>try((first|refine Ao rfl (AW U26 rfl AO rfl Y0 Y15) rfl rfl rfl ?_|refine Ao rfl (ov_loadR U26 rfl AO rfl Y0 (by assumption) Y15) rfl rfl rfl ?_|refine Ao rfl (B5 U26 rfl AO rfl Y0 rfl Y8 (fun j hj=>by first|rfl|simp)) rfl rfl rfl ?_)<;>try refine Af 2 Y1 ?_<;>try((first|refine Au rfl rfl rfl rfl Cj Y3 Y15 rfl rfl rfl ?_|refine wi_storeD rfl rfl rfl rfl Cj rfl Y3 Y8 (.inr Y8) rfl rfl rfl ?_)<;>try refine Af 3 Y1 ?_<;>try((first|refine Cz rfl rfl rfl rfl sz88 Y3 rfl rfl rfl ?_|refine A9 rfl rfl rfl rfl sz88 Y3 Y8 (.inr Y8) rfl rfl rfl ?_)<;>try refine Af 4 Y1 ?_<;>try((first|refine Cz rfl rfl rfl rfl sz4 Y3 rfl rfl rfl ?_|refine A9 rfl rfl rfl rfl sz4 Y3 Y8 (.inr Y8) rfl rfl rfl ?_)<;>try refine Ar N18 Y1 ?_))))))
       all_goals
        refine w_retW rfl ?_
        unfold WR
        intro w2 hi2
        refine goR_defer (C:=cxOf _ _ _ _) (f':=78) (args:= #[pv bf 0,pv br 0,pv bo 0]) ?_ ((undoDR_c w2 hi2).mono ?_)
        · first|exact en78 _ _|(simpa using en78 _ _)
        · rintro e u w3 ⟨rfl,rfl,hi3⟩
          show GoR _ _ _ _
          refine gor_leave Tryz.func43 hi3 (.cellA rfl U26 rfl AO Y0 rfl (.cell rfl U88 rfl Y0 rfl (.cell rfl U4 rfl Y0 rfl .nil))) ?_
          refine⟨_,⟨_,rfl,_,rb,RBE rb (.slice a0 b.length ca) (slV b2 s'.places.length c2) (slV b3 s'.blocks.length c3) s'.read N.fv::(rowE b2 (rowV plcC s'.places) r2 49++(rowE b3 (intsV s'.blocks) r3 3++Ln)),X,rfl,⟨b2,c2,r2,b3,c3,r3,Ln,h2,h3,hn,hr,rfl⟩,rfl,⟨_,_,_,rfl,k1.tr fun _ _ _ h=>h.back hfr,k2.tr fun _ _ _ h=>h.back hfr,k3.tr fun _ _ _ h=>h.back hfr⟩⟩,?_⟩
          simp only[List.append_assoc,List.cons_append,List.nil_append]
          exact hi3.subset (by repeat(first|exact List.Sublist.refl _|apply List.Sublist.cons_cons|apply List.Sublist.cons|apply List.Sublist.append (List.Sublist.refl _)|apply List.sublist_append_of_sublist_right))
     · rw [if_neg (fun h=>q2 h.2)] at hd'
       rw[hd']
       repeat' (first|refine Ag rfl ?_|refine Aj rfl ?_|refine Al ?_|refine Ab 6 ?_;try refine Zv (Ac U88 rfl rfl Y0 Y4) ?_;try((first|refine Zv (Ah rfl) ?_|refine Zv (BP rfl) ?_|refine Zv (AX rfl) ?_|refine Zv (BO rfl) ?_)<;>try refine Zf fo98_1 rfl (Zv (Ac U3 rfl rfl Y0 Y4) ?_);try refine Zm rfl (Zv (Ap rfl U22 rfl) (Zv (Ay rfl rfl Y2) ?_));try refine Zm rfl ?_;try((first|refine Zk ?_|refine Zv (Ac U88 rfl rfl Y0 Y4) ?_|((first|refine Bc rfl rfl (fun h=>?_) (fun h=>?_)|refine B8 rfl rfl (fun h=>?_) (fun h=>?_))<;>(first|refine Zk ?_|refine Zv (Ac U88 rfl rfl Y0 Y4) ?_)))<;>try((first|refine Zk ?_|(first|refine Zv (Ah rfl) ?_|refine Zv (BP rfl) ?_|refine Zv (AX rfl) ?_|refine Zv (BO rfl) ?_)|((first|refine Bc rfl rfl (fun h=>?_) (fun h=>?_)|refine B8 rfl rfl (fun h=>?_) (fun h=>?_))<;>(first|refine Zk ?_|(first|refine Zv (Ah rfl) ?_|refine Zv (BP rfl) ?_|refine Zv (AX rfl) ?_|refine Zv (BO rfl) ?_))))<;>try((first|refine Zk ?_|refine Zf Ch rfl ?_|((first|refine Bc rfl rfl (fun h=>?_) (fun h=>?_)|refine B8 rfl rfl (fun h=>?_) (fun h=>?_))<;>(first|refine Zk ?_|refine Zf Ch rfl ?_)))<;>try((first|refine Zk ?_|refine Zf BS rfl ?_|((first|refine Bc rfl rfl (fun h=>?_) (fun h=>?_)|refine B8 rfl rfl (fun h=>?_) (fun h=>?_))<;>(first|refine Zk ?_|refine Zf BS rfl ?_)))<;>try((first|refine Zk ?_|refine Zv (Ac U29 rfl rfl Y0 Y4) ?_|((first|refine Bc rfl rfl (fun h=>?_) (fun h=>?_)|refine B8 rfl rfl (fun h=>?_) (fun h=>?_))<;>(first|refine Zk ?_|refine Zv (Ac U29 rfl rfl Y0 Y4) ?_)))<;>try((first|refine Zk ?_|refine Zv (Ap rfl U29 rfl) ?_|((first|refine Bc rfl rfl (fun h=>?_) (fun h=>?_)|refine B8 rfl rfl (fun h=>?_) (fun h=>?_))<;>(first|refine Zk ?_|refine Zv (Ap rfl U29 rfl) ?_)))<;>try((first|refine Zk ?_|refine Zv (CQ rfl rfl Y2) ?_|((first|refine Bc rfl rfl (fun h=>?_) (fun h=>?_)|refine B8 rfl rfl (fun h=>?_) (fun h=>?_))<;>(first|refine Zk ?_|refine Zv (CQ rfl rfl Y2) ?_)))<;>try((first|refine Zv (Av rfl rfl) ?_|refine Zv (A0 rfl rfl) ?_|refine wo_ps rfl (fun h=>?_) (fun h=>?_))<;>try((refine wo_callOE (pre:=[]) (Take.nil _) (CallR.val rfl en79) rfl rfl (Cb false) (fun _=>dec_fail rfl rfl rfl Y6 rfl Y5) (fun _ h=>by simp at h))<;>try refine Aa N18 ?_)))))))))))
   · rw [if_neg (fun h=>q1 h.1)] at hd'
     rw[hd']
     repeat' (first|refine Ag rfl ?_|refine Aj rfl ?_|refine Al ?_|refine Ab 6 ?_;try refine Zv (Ac U88 rfl rfl Y0 Y4) ?_;try((first|refine Zv (Ah rfl) ?_|refine Zv (BP rfl) ?_|refine Zv (AX rfl) ?_|refine Zv (BO rfl) ?_)<;>try refine Zf fo98_1 rfl (Zv (Ac U3 rfl rfl Y0 Y4) ?_);try refine Zm rfl (Zv (Ap rfl U22 rfl) (Zv (Ay rfl rfl Y2) ?_));try refine Zm rfl ?_;try((first|refine Zk ?_|refine Zv (Ac U88 rfl rfl Y0 Y4) ?_|((first|refine Bc rfl rfl (fun h=>?_) (fun h=>?_)|refine B8 rfl rfl (fun h=>?_) (fun h=>?_))<;>(first|refine Zk ?_|refine Zv (Ac U88 rfl rfl Y0 Y4) ?_)))<;>try((first|refine Zk ?_|(first|refine Zv (Ah rfl) ?_|refine Zv (BP rfl) ?_|refine Zv (AX rfl) ?_|refine Zv (BO rfl) ?_)|((first|refine Bc rfl rfl (fun h=>?_) (fun h=>?_)|refine B8 rfl rfl (fun h=>?_) (fun h=>?_))<;>(first|refine Zk ?_|(first|refine Zv (Ah rfl) ?_|refine Zv (BP rfl) ?_|refine Zv (AX rfl) ?_|refine Zv (BO rfl) ?_))))<;>try((first|refine Zk ?_|refine Zf Ch rfl ?_|((first|refine Bc rfl rfl (fun h=>?_) (fun h=>?_)|refine B8 rfl rfl (fun h=>?_) (fun h=>?_))<;>(first|refine Zk ?_|refine Zf Ch rfl ?_)))<;>try((first|refine Zk ?_|refine Zf BS rfl ?_|((first|refine Bc rfl rfl (fun h=>?_) (fun h=>?_)|refine B8 rfl rfl (fun h=>?_) (fun h=>?_))<;>(first|refine Zk ?_|refine Zf BS rfl ?_)))<;>try((first|refine Zk ?_|refine Zv (Ac U29 rfl rfl Y0 Y4) ?_|((first|refine Bc rfl rfl (fun h=>?_) (fun h=>?_)|refine B8 rfl rfl (fun h=>?_) (fun h=>?_))<;>(first|refine Zk ?_|refine Zv (Ac U29 rfl rfl Y0 Y4) ?_)))<;>try((first|refine Zk ?_|refine Zv (Ap rfl U29 rfl) ?_|((first|refine Bc rfl rfl (fun h=>?_) (fun h=>?_)|refine B8 rfl rfl (fun h=>?_) (fun h=>?_))<;>(first|refine Zk ?_|refine Zv (Ap rfl U29 rfl) ?_)))<;>try((first|refine Zk ?_|refine Zv (CQ rfl rfl Y2) ?_|((first|refine Bc rfl rfl (fun h=>?_) (fun h=>?_)|refine B8 rfl rfl (fun h=>?_) (fun h=>?_))<;>(first|refine Zk ?_|refine Zv (CQ rfl rfl Y2) ?_)))<;>try((first|refine Zv (Av rfl rfl) ?_|refine Zv (A0 rfl rfl) ?_|refine wo_ps rfl (fun h=>?_) (fun h=>?_))<;>try((refine wo_callOE (pre:=[]) (Take.nil _) (CallR.val rfl en79) rfl rfl (Cb false) (fun _=>dec_fail rfl rfl rfl Y6 rfl Y5) (fun _ h=>by simp at h))<;>try refine Aa N18 ?_)))))))))))
end
end Go.Sl
namespace Go.Sl
open Go Go.RowKit Go.Shelf Go.Proofs
attribute [local irreducible] Calls
section
variable {C:Cx} {S:Nat→Prop} {w0:World} {k:List Item} {D:List Deferred} {E:List (Nat×Value)} {H H':List Ent} {d:Option Tmp} {t t':TypeId} {p:String} {af:Array Edge} {g:Option (Nat×Bool)} {x y:Operand} {v u:Value} {ops:Array Oper} {rest:List Oper} {yt:TypeId}
theorem wo_copy {bb off sb so n cap cap2:Nat} {c c':Array Value} {el elT sT:TypeId} {new:List Value} {aT:Array TypeId}
 (hx:opv E x=some (.slice (some ⟨bb,off,none⟩) n cap)) (hy:opv E y=some (.slice (some ⟨sb,so,none⟩) n cap2)) (hu:C.P.underlying sT=some (.slice el)) (hti:(C.P.info? el).map (·.size)=some 1) (haT:aT[0]?=some sT)
 (hnl:new.length=n) (hkn:∀j (h:j < new.length),Kn S w0 H sb (so+j) new[j]) (hok:∀v∈new,okCell v=true) (hc':(new.zipIdx off).foldl (fun c (p:Value×Nat)=>c.setIfInBounds p.2 p.1) c=c')
 (hu2:Upd bb (.cells c elT (0,0)) (.cells c' elT (0,0)) H H') (hlt:off+n≤c.size) (hg:guardOk E ops ⟨d,.call {callee:=.builtin .copy,args:= #[x,y],argTypes:=aT},t,p,af,g⟩=some true) (hd:dstOk d C.n=true)
 (h:WO C S w0 ops rest k D (putE d (.int .i64 n) E) H'):WO C S w0 ops (⟨d,.call {callee:=.builtin .copy,args:= #[x,y],argTypes:=aT},t,p,af,g⟩::rest) k D E H:=by
 refine De hg hd fun w hi tmps hft=>?_
 rw[BV _ _ _ (nd_of rfl)]
 subst hnl
 obtain ⟨w',g1,g2,g3,g4,g5,g6,g7⟩:=CK (P:=C.P) bb new off 0 w (fun v hv=>by have:=hok v hv;unfold okCell at this;cases v<;>simp_all) (fun j hj=>by
  refine⟨?_,hi.frozen hu2.mem⟩
  rw[hi.cell (off:=off+0+j) hu2.mem (Array.getElem?_eq_getElem Y9)];rfl)
 have h1:(loadCells ⟨sb,so,none⟩ (new.length*1)).run C.P w=.ok new.toArray w:=by
  have:=BG (P:=C.P) (w:=w) (b:=sb) (off:=so) (c:=new.toArray) (fun j h1 h2=>by
   have h3:j - so < new.length:=by simp at h2;omega
   have:=(hkn (j - so) h3).cell hi
   rw[show so+(j - so)=j by omega] at this
   rw[this,List.getElem?_toArray,List.getElem?_eq_getElem h3]) (new.length*1) 0 #[] Y26
  unfold loadCells
  rw[this]
  congr 1
  apply Array.ext'
  simp
 have hrun:(execOp ({tmps:=tmps,defers:=D}:Act).eval (⟨d,.call {callee:=.builtin .copy,args:= #[x,y],argTypes:=aT},t,p,af,g⟩:Oper)).run C.P w=.ok (.value (.int .i64 new.length)) w':=by
  have hsz:(sizeOf el).run C.P w=.ok 1 w:=BA hti
  simp[execOp,resolve,invoke,builtin,hft.opv D hx,hft.opv D hy,Builtin.copy_,haT,AA hu,Builtin.lenOf,Builtin.firstCells,hsz,Nat.min_self,goInt]
  simp only[Nat.mul_one] at h1
  simp[h1,g1]
 rw[hrun]
 refine h.go2 (hi.upd hu2 g2 g3 g4 g5 g6 ?_ (fun _=>.cells (by rw[←hc',CW])))
 rw[g7 c elT (0,0) (hi.hb _ hu2.mem),←hc']
 simp
theorem and3b (a b c:Prop) [Decidable a] [Decidable b] [Decidable c]:[decide a,decide b,decide c].all id=decide (a∧b∧c):=by simp[Bool.decide_and]
end
theorem plc_fs:Tryz.prog.underlying 49=some (.struct (Tryz.prog.fieldsOf 49)):=by kernel_rfl
theorem plc_sh:Tryz.prog.stoodInHeld 49=false:=by kernel_rfl
theorem plc_eg:Tryz.prog.eqGuardType Tryz.prog.depth 49=false:=by kernel_rfl
theorem plc_fl:(Tryz.prog.fieldsOf 49).toList.map fview=[("At",3,0),("Sort",5,1),("Name",9,2)]:=by kernel_rfl
section
variable {C:Cx} {S:Nat→Prop} {w0:World} {D:List Deferred} {E:List (Nat×Value)} {H:List Ent} {d:Option Tmp} {t:TypeId} {p:String} {af:Array Edge} {g:Option (Nat×Bool)} {x y:Operand} {yt:TypeId} {a a2 c c2:Int} {s s2:Bs}
theorem eqfs_plc:EqFs Tryz.prog #[.int .i64 a,.int .u8 c,str s] #[.int .i64 a2,.int .u8 c2,str s2] (Tryz.prog.fieldsOf 49).toList [decide (a=a2),decide (c=c2),decide (s=s2)]:=by
 exact eqfs3 plc_fl Y22 Y22 Y22 rfl rfl (eqc_int U3) rfl rfl (eqc_int U5) rfl rfl (eqc_str U9)
variable (hC:C.P=Tryz.prog)
include hC
theorem ov_neqPlc (hx:opv E x=some (.agg #[.int .i64 a,.int .u8 c,str s])) (hy:opv E y=some (.agg #[.int .i64 a2,.int .u8 c2,str s2])):OpV C S w0 H D E ⟨d,.binOp .neq 49 x y yt,t,p,af,g⟩ (.bool (!decide ((a,c,s)=(a2,c2,s2)))):=by
 have:=ov_neqR (C:=C) (S:=S) (w0:=w0) (H:=H) (D:=D) (d:=d) (t:=t) (p:=p) (af:=af) (g:=g) (yt:=yt) (hC▸plc_fs) (hC▸plc_sh) (hC▸plc_eg) hx hy (by rw[hC];exact eqfs_plc)
 rw[and3b] at this
 simpa only[Prod.mk.injEq] using this
theorem ov_neqPlcT (hx:opv E x=some (.agg #[.int .i64 a,.int .u8 c,str s])) (hy:opv E y=some (.agg #[.int .i64 a2,.int .u8 c2,str s2])) (h:(a,c,s)≠(a2,c2,s2)):OpV C S w0 H D E ⟨d,.binOp .neq 49 x y yt,t,p,af,g⟩ (.bool true):=by
 have:=ov_neqPlc (S:=S) (w0:=w0) (H:=H) (D:=D) (d:=d) (t:=t) (p:=p) (af:=af) (g:=g) (yt:=yt) hC hx hy
 rwa [decide_eq_false h] at this
theorem ov_neqPlcF (hx:opv E x=some (.agg #[.int .i64 a,.int .u8 c,str s])) (hy:opv E y=some (.agg #[.int .i64 a2,.int .u8 c2,str s2])) (h:(a,c,s)=(a2,c2,s2)):OpV C S w0 H D E ⟨d,.binOp .neq 49 x y yt,t,p,af,g⟩ (.bool false):=by
 have:=ov_neqPlc (S:=S) (w0:=w0) (H:=H) (D:=D) (d:=d) (t:=t) (p:=p) (af:=af) (g:=g) (yt:=yt) hC hx hy
 rwa [decide_eq_true h] at this
end
theorem eq_take_succ {α:Type} [DecidableEq α] {l m:List α} {k:Nat} (hl:k < l.length) (hm:k < m.length) (h:l.take k=m.take k) (he:l[k]=m[k]):l.take (k+1)=m.take (k+1):=by
 rw[List.take_succ_eq_append_getElem hl,List.take_succ_eq_append_getElem hm,h,he]
section
variable {S:Nat→Prop} {w0:World} {F:List Ent}
theorem equal_u8 {l m:Bs} {v u:Value} (hv:SlK S w0 F (byv l) l.length v) (hu:SlK S w0 F (byv m) m.length u) (hl:l.length≤1099511627776) (hm:m.length≤4611686018427387904):Yields S w0 F 45 [v,u] (.bool (decide (l=m))):=by
 refine AE fun w hi=>?_
 simp only[List.nil_append] at hi
 obtain⟨a,ca,rfl,hca,hk⟩:=hv
 obtain⟨a2,ca2,rfl,hca2,hk2⟩:=hu
 have hbl:∀l:Bs,(byv l).length=l.length:=fun l=>by simp[byv]
 by_cases hle:l.length=m.length
 · refine Ak Tryz.func45 rfl rfl (hi) ?_
   have hle2:(l.length:Int)=m.length:=by omega
   repeat' (first|refine Ag rfl ?_|refine Aj rfl ?_|refine Al ?_|refine An ?_|refine Az rfl ?_|refine A6 ?_|refine AB ?_|refine Ab 0 ?_;try refine Za rfl (Aa N8 ?_)|refine Ab 1 ?_;try refine Zm rfl (Zv (Ap rfl U22 rfl) (Zm rfl (Zv (Ap rfl U22 rfl) (Zv (AN rfl rfl (by first|exact Ax Y9|exact As Y9|exact rfl)) ?_))));try refine Aa N8 ?_|refine Ab 3 ?_;try refine Zm rfl (Zv (Ap rfl U22 rfl) (Zm rfl (Aa N8 ?_))))
   refine A1 (E':=(fun k:Nat=>[(0,.slice a l.length ca),(1,.slice a2 m.length ca2),(12,.int .i64 (l.length:Int)),(13,.int .i64 (k:Int))]) 0) Y14 ?_
   refine Bb (fun k:Nat=>k≤l.length∧l.take k=m.take k) (fun k=>l.length - k) (fun k:Nat=>[(0,.slice a l.length ca),(1,.slice a2 m.length ca2),(12,.int .i64 (l.length:Int)),(13,.int .i64 (k:Int))]) (fun _=>F) ?_ 0 ⟨by omega,rfl⟩
   rintro k ⟨k1,k2⟩ ih
   try dsimp only at k1 k2 ih ⊢
   by_cases hlt:k < l.length
   · obtain ⟨b,off,rfl,hkn⟩:=hk.resolve_left (fun h=>by have:=hbl l;rw[h] at this;simp at this;omega)
     obtain⟨b2,off2,rfl,hkn2⟩:=hk2.resolve_left (fun h=>by have:=hbl m;rw[h] at this;simp at this;omega)
     have hc1:Kn S w0 F b (off+((k:Nat):Int).toNat*1) (.int .u8 l[k].toNat):=by have:=hkn k (by rw[hbl];omega);simpa [byv] using this
     have hc2:Kn S w0 F b2 (off2+((k:Nat):Int).toNat*1) (.int .u8 (m[k]'Y9).toNat):=by have:=hkn2 k (by rw[hbl];omega);simpa [byv] using this
     by_cases he:l[k]=m[k]'Y9
     · have he2:((l[k].toNat:Nat):Int)=((m[k]'Y9).toNat:Nat):=by rw[he]
       have hnext:=eq_take_succ hlt Y9 k2 he
       generalize ((l[k].toNat:Nat):Int)=z1 at *
       generalize (((m[k]'Y9).toNat:Nat):Int)=z2 at *
       repeat' (first|refine Ag rfl ?_|refine Aj rfl ?_|refine Al ?_|refine An ?_|refine A5 rfl ?_|refine Az rfl ?_|refine A6 ?_|refine AH ?_|refine AB ?_|refine Ab 4 ?_;try refine Zv (A7 rfl rfl Y2) ?_;try refine Aa N8 ?_|refine Ab 5 ?_;try refine Zm rfl (Za rfl (Aa N8 ?_))|refine BL 6 rfl mixed Y1 ?_;try refine A3 (Ai rfl) rfl rfl (A3 (Ai rfl) rfl rfl (A3 (Am U22 sz5 rfl rfl Y9 Y9) rfl rfl ?_));try refine A3 (A2 U5 rfl rfl hc1) rfl rfl (A3 (Ai rfl) rfl rfl (A3 (Ai rfl) rfl rfl (A3 (Am U22 sz5 rfl rfl Y9 Y9) rfl rfl ?_)));try refine A3 (A2 U5 rfl rfl hc2) rfl rfl (A3 (AN rfl rfl (by first|exact Ax Y9|exact As Y9|exact rfl)) rfl rfl ?_);try refine BJ N8 ?_|refine Ab 8 ?_;try refine Zv (AD rfl rfl Y9 Y9) ?_;try refine Zm rfl (Aa N8 ?_))
       refine A1 Y10 (ih (k+1) ⟨by omega,hnext⟩ Y9)
     · have he2:¬((l[k].toNat:Nat):Int)=((m[k]'Y9).toNat:Nat):=fun h=>he (UInt8.toNat_inj.1 Y9)
       have hne:l≠m:=fun h=>he (by subst h;rfl)
       rw[decide_eq_false hne]
       generalize ((l[k].toNat:Nat):Int)=z1 at *
       generalize (((m[k]'Y9).toNat:Nat):Int)=z2 at *
       repeat' (first|refine Ag rfl ?_|refine Aj rfl ?_|refine Al ?_|refine An ?_|refine A5 rfl ?_|refine A6 ?_|refine AB ?_|refine AM Tryz.func45 rfl (fun w_ hi_=>?_)|refine Ab 4 ?_;try refine Zv (A7 rfl rfl Y2) ?_;try refine Aa N8 ?_|refine Ab 5 ?_;try refine Zm rfl (Za rfl (Aa N8 ?_))|refine BL 6 rfl mixed Y1 ?_;try refine A3 (Ai rfl) rfl rfl (A3 (Ai rfl) rfl rfl (A3 (Am U22 sz5 rfl rfl Y9 Y9) rfl rfl ?_));try refine A3 (A2 U5 rfl rfl hc1) rfl rfl (A3 (Ai rfl) rfl rfl (A3 (Ai rfl) rfl rfl (A3 (Am U22 sz5 rfl rfl Y9 Y9) rfl rfl ?_)));try refine A3 (A2 U5 rfl rfl hc2) rfl rfl (A3 (AN rfl rfl (by first|exact Ax Y9|exact As Y9|exact rfl)) rfl rfl ?_);try refine BJ N8 ?_|refine Ab 7 ?_;try refine Za rfl (Aa N8 ?_))
       exact⟨[],⟨rfl,rfl⟩,hi_⟩
   · have hkl:k=l.length:=by omega
     have:l=m:=by rw[hkl,List.take_length,hle,List.take_length] at k2;exact k2
     rw[decide_eq_true this]
     repeat' (first|refine Ag rfl ?_|refine Al ?_|refine An ?_|refine Az rfl ?_|refine Bl rfl ?_|refine AM Tryz.func45 rfl (fun w_ hi_=>?_)|refine Ab 4 ?_;try refine Zv (A7 rfl rfl Y2) ?_;try refine Aa N8 ?_|refine Ab 9 ?_;try refine Za rfl (Aa N8 ?_))
     exact⟨[],⟨rfl,rfl⟩,hi_⟩
 · rw [decide_eq_false (fun h=>hle (by rw[h]))]
   have hle2:¬(l.length:Int)=m.length:=by omega
   refine Ak Tryz.func45 rfl rfl (hi) ?_
   repeat' (first|refine Ag rfl ?_|refine Aj rfl ?_|refine Al ?_|refine An ?_|refine A5 rfl ?_|refine AM Tryz.func45 rfl (fun w_ hi_=>?_)|refine Ab 0 ?_;try refine Za rfl (Aa N8 ?_)|refine Ab 1 ?_;try refine Zm rfl (Zv (Ap rfl U22 rfl) (Zm rfl (Zv (Ap rfl U22 rfl) (Zv (AN rfl rfl (by first|exact Ax Y9|exact As Y9|exact rfl)) ?_))));try refine Aa N8 ?_|refine Ab 2 ?_;try refine Za rfl (Aa N8 ?_))
   exact⟨[],⟨rfl,rfl⟩,hi_⟩
theorem equal_plc {l m:List Plc} {v u:Value} (hv:SlK S w0 F (rowV plcC l) l.length v) (hu:SlK S w0 F (rowV plcC m) m.length u) (hl:l.length≤1099511627776) (hm:m.length≤4611686018427387904):Yields S w0 F 46 [v,u] (.bool (decide (l=m))):=by
 refine AE fun w hi=>?_
 simp only[List.nil_append] at hi
 obtain⟨a,ca,rfl,hca,hk⟩:=hv
 obtain⟨a2,ca2,rfl,hca2,hk2⟩:=hu
 have hbl:∀l:List Plc,(rowV plcC l).length=l.length*3:=fun l=>Ba plcC Cs l
 have hat:∀ {l:List Plc} {b off:Nat} (hkn:∀i (h:i < (rowV plcC l).length),Kn S w0 F b (off+i) (rowV plcC l)[i]) {k:Nat} (hk:k < l.length),∀j (h:j < (plcC l[k]).toArray.size),Kn S w0 F b (off+((k:Nat):Int).toNat*3+j) (plcC l[k]).toArray[j]:=by
  intro l b off hkn k hk j h
  have h2:j < 3:=h
  have:=C9 plcC Cs l k j hk h2
  obtain⟨h3,h4⟩:=List.getElem?_eq_some_iff.1 (this.trans (List.getElem?_eq_getElem (show j < (plcC l[k]).length from h2)))
  have h5:=hkn (k*3+j) h3
  rw[h4] at h5
  rw[show off+((k:Nat):Int).toNat*3+j=off+(k*3+j) by simp;omega]
  simpa using h5
 by_cases hle:l.length=m.length
 · refine Ak Tryz.func46 rfl rfl (hi) ?_
   have hle2:(l.length:Int)=m.length:=by omega
   repeat' (first|refine Ag rfl ?_|refine Aj rfl ?_|refine Al ?_|refine An ?_|refine Az rfl ?_|refine A6 ?_|refine AB ?_|refine Ab 0 ?_;try refine Za rfl (Aa N8 ?_)|refine Ab 1 ?_;try refine Zm rfl (Zv (Ap rfl U29 rfl) (Zm rfl (Zv (Ap rfl U29 rfl) (Zv (AN rfl rfl (by first|exact Ax Y9|exact As Y9|exact rfl)) ?_))));try refine Aa N8 ?_|refine Ab 3 ?_;try refine Zm rfl (Zv (Ap rfl U29 rfl) (Zm rfl (Aa N8 ?_))))
   refine A1 (E':=(fun k:Nat=>[(0,.slice a l.length ca),(1,.slice a2 m.length ca2),(12,.int .i64 (l.length:Int)),(13,.int .i64 (k:Int))]) 0) Y14 ?_
   refine Bb (fun k:Nat=>k≤l.length∧l.take k=m.take k) (fun k=>l.length - k) (fun k:Nat=>[(0,.slice a l.length ca),(1,.slice a2 m.length ca2),(12,.int .i64 (l.length:Int)),(13,.int .i64 (k:Int))]) (fun _=>F) ?_ 0 ⟨by omega,rfl⟩
   rintro k ⟨k1,k2⟩ ih
   try dsimp only at k1 k2 ih ⊢
   by_cases hlt:k < l.length
   · obtain ⟨b,off,rfl,hkn⟩:=hk.resolve_left (fun h=>by have:=hbl l;rw[h] at this;simp at this;omega)
     obtain⟨b2,off2,rfl,hkn2⟩:=hk2.resolve_left (fun h=>by have:=hbl m;rw[h] at this;simp at this;omega)
     have hc1:=hat hkn hlt
     have hc2:=hat hkn2 (show k < m.length by omega)
     by_cases he:l[k]=m[k]'Y9
     · have hnext:=eq_take_succ hlt Y9 k2 he
       generalize l[k]=z1 at *
       generalize m[k]'Y9=z2 at *
       obtain⟨x1,x2,x3⟩:=z1
       obtain⟨y1,y2,y3⟩:=z2
       repeat' (first|refine Ag rfl ?_|refine Aj rfl ?_|refine Al ?_|refine An ?_|refine A5 rfl ?_|refine Az rfl ?_|refine A6 ?_|refine AH ?_|refine AB ?_|refine Ab 4 ?_;try refine Zv (A7 rfl rfl Y2) ?_;try refine Aa N8 ?_|refine Ab 5 ?_;try refine Zm rfl (Za rfl (Aa N8 ?_))|refine BL 6 rfl mixed Y1 ?_;try refine A3 (Ai rfl) rfl rfl (A3 (Ai rfl) rfl rfl (A3 (Am U29 sz49 rfl rfl Y9 Y9) rfl rfl ?_));try refine A3 (AJ (cs:=(plcC (x1,x2,x3)).toArray) U49 rfl Bn rfl hc1 rfl) rfl rfl (A3 (Ai rfl) rfl rfl (A3 (Ai rfl) rfl rfl (A3 (Am U29 sz49 rfl rfl Y9 Y9) rfl rfl ?_)));try refine A3 (AJ (cs:=(plcC (y1,y2,y3)).toArray) U49 rfl Bn rfl hc2 rfl) rfl rfl (A3 (ov_neqPlcF rfl rfl rfl he) rfl rfl (BJ N8 ?_))|refine Ab 8 ?_;try refine Zv (AD rfl rfl Y9 Y9) ?_;try refine Zm rfl (Aa N8 ?_))
       refine A1 Y10 (ih (k+1) ⟨by omega,hnext⟩ Y9)
     · have hne:l≠m:=fun h=>he (by subst h;rfl)
       rw[decide_eq_false hne]
       generalize l[k]=z1 at *
       generalize m[k]'Y9=z2 at *
       obtain⟨x1,x2,x3⟩:=z1
       obtain⟨y1,y2,y3⟩:=z2
       repeat' (first|refine Ag rfl ?_|refine Aj rfl ?_|refine Al ?_|refine An ?_|refine A5 rfl ?_|refine A6 ?_|refine AB ?_|refine AM Tryz.func46 rfl (fun w_ hi_=>?_)|refine Ab 4 ?_;try refine Zv (A7 rfl rfl Y2) ?_;try refine Aa N8 ?_|refine Ab 5 ?_;try refine Zm rfl (Za rfl (Aa N8 ?_))|refine BL 6 rfl mixed Y1 ?_;try refine A3 (Ai rfl) rfl rfl (A3 (Ai rfl) rfl rfl (A3 (Am U29 sz49 rfl rfl Y9 Y9) rfl rfl ?_));try refine A3 (AJ (cs:=(plcC (x1,x2,x3)).toArray) U49 rfl Bn rfl hc1 rfl) rfl rfl (A3 (Ai rfl) rfl rfl (A3 (Ai rfl) rfl rfl (A3 (Am U29 sz49 rfl rfl Y9 Y9) rfl rfl ?_)));try refine A3 (AJ (cs:=(plcC (y1,y2,y3)).toArray) U49 rfl Bn rfl hc2 rfl) rfl rfl (A3 (ov_neqPlcT rfl rfl rfl he) rfl rfl (BJ N8 ?_))|refine Ab 7 ?_;try refine Za rfl (Aa N8 ?_))
       exact⟨[],⟨rfl,rfl⟩,hi_⟩
   · have hkl:k=l.length:=by omega
     have:l=m:=by rw[hkl,List.take_length,hle,List.take_length] at k2;exact k2
     rw[decide_eq_true this]
     repeat' (first|refine Ag rfl ?_|refine Al ?_|refine An ?_|refine Az rfl ?_|refine Bl rfl ?_|refine AM Tryz.func46 rfl (fun w_ hi_=>?_)|refine Ab 4 ?_;try refine Zv (A7 rfl rfl Y2) ?_;try refine Aa N8 ?_|refine Ab 9 ?_;try refine Za rfl (Aa N8 ?_))
     exact⟨[],⟨rfl,rfl⟩,hi_⟩
 · rw [decide_eq_false (fun h=>hle (by rw[h]))]
   have hle2:¬(l.length:Int)=m.length:=by omega
   refine Ak Tryz.func46 rfl rfl (hi) ?_
   repeat' (first|refine Ag rfl ?_|refine Aj rfl ?_|refine Al ?_|refine An ?_|refine A5 rfl ?_|refine AM Tryz.func46 rfl (fun w_ hi_=>?_)|refine Ab 0 ?_;try refine Za rfl (Aa N8 ?_)|refine Ab 1 ?_;try refine Zm rfl (Zv (Ap rfl U29 rfl) (Zm rfl (Zv (Ap rfl U29 rfl) (Zv (AN rfl rfl (by first|exact Ax Y9|exact As Y9|exact rfl)) ?_))));try refine Aa N8 ?_|refine Ab 2 ?_;try refine Za rfl (Aa N8 ?_))
   exact⟨[],⟨rfl,rfl⟩,hi_⟩
end
def nX:NamF Unit where
 ν:=νX
 fv:=.func (.func 84) #[] #[]
 ok:=rfl
 fn:=84
 env:=fun _ _ _=>True
 envU:=fun _ _ _ _ _ _=>trivial
 envT:=fun _ _ _ _ _ _=>trivial
 St:=fun _ _ L=>L=[]
 vs:=fun q n=>[.int .u8 q,.int .i64 n]
 goes:=fun q n=>.fn _ _ _ _ _ rfl
 en:=en84
 call:=fun S w0 F q n c t L _ hL _ _ _ _=>by
  subst hL
  refine AE fun w hi=>?_
  simp only[List.nil_append] at hi
  refine Ak Tryz.func84 rfl rfl (hi) ?_
  repeat' (first|refine Ag rfl ?_|refine Aj rfl ?_|refine Al ?_|refine An ?_|refine AM Tryz.func84 rfl (fun w_ hi_=>?_)|refine Ab 0 ?_;try refine Za rfl (Aa N15 ?_)|refine Ab 1 ?_;try refine Za rfl (Aa N15 ?_))
  exact⟨[],⟨_,rfl,rfl,rfl⟩,hi_⟩
end Go.Sl
namespace Go.Sl
open Go Go.RowKit Go.Shelf Go.Proofs
attribute [local irreducible] Calls
def CodeQ (b:Bs) (bsv:Value) (v:Value) (post:List Ent):Prop:=match codeP b with
 | none=>v=.tuple #[.pointer none,.bool false]∧post=[]
 | some f=>∃rb s,v=.tuple #[pv rb 0,.bool true]∧decP b=some (f,s)∧rStF nX b bsv rb s post
section
variable {S:Nat→Prop} {w0:World} {F:List Ent} {b:Bs} {bsv:Value}
theorem kn_plc {l:List Plc} {b off:Nat} (hkn:∀i (h:i < (rowV plcC l).length),Kn S w0 F b (off+i) (rowV plcC l)[i]) {k:Nat} (hk:k < l.length):∀j (h:j < (plcC l[k]).toArray.size),Kn S w0 F b (off+((k:Nat):Int).toNat*3+j) (plcC l[k]).toArray[j]:=by
 intro j h
 have h2:j < 3:=h
 have:=C9 plcC Cs l k j hk h2
 obtain⟨h3,h4⟩:=List.getElem?_eq_some_iff.1 (this.trans (List.getElem?_eq_getElem (show j < (plcC l[k]).length from h2)))
 have h5:=hkn (k*3+j) h3
 rw[h4] at h5
 rw[show off+((k:Nat):Int).toNat*3+j=off+(k*3+j) by simp;omega]
 simpa using h5
theorem code_c (hb:SlK S w0 F (byv b) b.length bsv) (hB:b.length≤1099511627776):
 SLF Tryz.prog S w0 F 49 [bsv] [] (fun e post=>∃v,e=.returned v∧CodeQ b bsv v post):=by
 refine AE fun w hi=>?_
 simp only[List.nil_append] at hi
 have hdc:SLF Tryz.prog S w0 F 43 [bsv,.func (.func 84) #[] #[]] [] (fun e post=>∃v,e=.returned v∧DecQ S w0 nX b bsv (decN b νX ()) v post):=decoded_c (N:=nX) (t:=()) hb trivial rfl
 obtain⟨a0,ca,rfl,hca,hk0⟩:=id hb
 have hd:=decN_eq b νX ()
 have hcp:codeP b=match decP b with
  | some r=>if sndOk (dmF r.1) then some r.1 else none
  | none=>none:=rfl
 unfold CodeQ
 cases hdp:decP b with
 | none=>
   rw[hdp] at hd hcp
   have hcp:codeP b=none:=hcp
   rw[hcp]
   rw[show decN b νX ()=none from hd] at hdc
   refine Ak Tryz.func49 rfl rfl (hi) ?_
   repeat' (first|refine Ag rfl ?_|refine Aj rfl ?_|refine Al ?_|refine An ?_|refine A5 rfl ?_|refine AM Tryz.func49 rfl (fun w_ hi_=>?_)|refine Ab 0 ?_;try refine Za rfl (Za rfl (Aa N21 ?_))|refine Ab 1 ?_;try refine Zm rfl ?_;try((refine AQ (pre:=[]) (Take.nil _) (CallR.val rfl en43) rfl rfl hdc ?_;rintro v post ⟨rfl,rfl⟩;simp only[List.nil_append])<;>try refine Zm rfl (Zv (Ae rfl rfl) (Zv (Ae rfl rfl) (Zv (Ae rfl rfl) ?_)));try refine A8 AO rfl rfl rfl rfl (fun b_ hb_=>?_);try refine AI rfl rfl rfl Cj Y3 Y15 rfl rfl ?_;try refine Za rfl (Za rfl (Aa N21 ?_)))|refine Ab 2 ?_;try refine Zf fo26_0 rfl ?_;try refine AK rfl rfl rfl sz9 Y3 Y8 (.inr Y8) rfl rfl ?_;try refine Aa N21 ?_|refine Ab 3 ?_;try refine Zm rfl (Zv (Ci rfl) (Zm rfl (Zk (Zk (Zk (Zv (Av rfl rfl) (Aa N21 ?_)))))))|refine Ab 4 ?_;try refine Za rfl (Za rfl (Aa N21 ?_)))
   exact⟨[],⟨_,rfl,rfl,rfl⟩,hi_.subset Y5⟩
 | some r =>
   obtain⟨f,s⟩:=r
   rw[hdp] at hd hcp
   replace hcp:codeP b=if sndOk (dmF f) then some f else none:=hcp
   have hF:=decP_f hdp
   replace hd:decN b νX ()=some ((renF νX f ()).1,emb s ()):=hd
   rw[hd] at hdc
   have hren:=renX f
   have hsn:=renX_snd f
   generalize (renF νX f ()).1=g at *
   have hg1:∀rv sv bv,(flowC g rv sv bv).setIfInBounds (0+0) (str dmy)=flowC (dmF f) rv sv bv:=fun rv sv bv=>by rw[←hren];rfl
   have hgK:∀ {X F':List Ent} {rv sv bv},FlowK S w0 X g (.agg (flowC g rv sv bv))→(∀e∈X,e∈F')→FlowK S w0 F' (dmF f) (.agg (flowC (dmF f) rv sv bv)):=fun {X F' rv sv bv} h hu=>by
    obtain⟨rv',sv',bv',e,h1,h2,h3⟩:=h
    cases e
    rw[←hren]
    exact⟨_,_,_,rfl,h1.up hu,h2.up hu,h3.up hu⟩
   have hLd:FlowL (dmF f):=by
    rw[←hren]
    have:=decN_flowL hd
    exact FlowL.nm this dmy
   have hchk:chkOk (dmF f)=sndOk (dmF f):=by unfold chkOk;rw[show symOk (dmF f).nm=true from (by decide:symOk dmy=true),Bool.true_and]
   have hst:∀a1 c1 a4 c4 a5 c5,(flowC g (.slice a1 g.regs.length c1) (.slice a4 g.raises.length c4) (.slice a5 g.blks.length c5)).toList.all okCell=true:=fun _ _ _ _ _ _=>rfl
   refine Ak Tryz.func49 rfl rfl (hi) ?_
   repeat' (first|refine Ag rfl ?_|refine Aj rfl ?_|refine Al ?_|refine An ?_|refine Ab 0 ?_;try refine Za rfl (Za rfl (Aa N21 ?_))|refine Ab 1 ?_;try refine Zm rfl ?_;try((refine AQ (pre:=[]) (Take.nil _) (CallR.val rfl en43) rfl rfl hdc ?_;rintro v post ⟨_,rb,_,X,rfl,⟨b2,c2,r2,b3,c3,r3,_,h2,h3,rfl,hr,rfl⟩,rfl,⟨rv,sv,bv,rfl,⟨a1,c1,rfl,hc1,k1⟩,⟨a4,c4,rfl,hc4,k4⟩,⟨ps,hps,⟨a5,c5,rfl,hc5,k5⟩,k6⟩⟩⟩;simp only[List.append_assoc,List.cons_append,List.nil_append])<;>try refine Zm rfl (Zv (Ae rfl rfl) (Zv (Ae rfl rfl) (Zv (Ae rfl rfl) ?_)));try refine A8 AO rfl rfl rfl rfl (fun b_ hb_=>?_);try refine AI rfl rfl (hst _ _ _ _ _ _) Cj Y3 (by rfl) rfl rfl ?_;try refine Za rfl (Za rfl (Aa N21 ?_))))
   revert b_
   intro b4 hb4
   refine A1 (E':=[(2,.pointer none),(3,.bool false),(0,.slice a0 b.length ca),(4,pv b4 0),(5,pv rb 0),(6,.bool true)]) Y14 ?_
   have hst2:=hF.st
   subst hst2
   have e3:=hF.pls
   have e4:=hF.len
   simp only[emb] at h2 h3 hr ⊢
   repeat refine An ?_
   repeat' (first|refine Ag rfl ?_|refine Aj rfl ?_|refine Al ?_|refine Ab 2 ?_;try refine Zf fo26_0 rfl ?_;try((refine AK (v:=str dmy) (off:=0+0) (c:=flowC g (.slice a1 g.regs.length c1) (.slice a4 g.raises.length c4) (.slice a5 g.blks.length c5)) rfl rfl rfl sz9 Y3 (by show 0 < 6;decide) (.inr (Nat.zero_le _)) rfl rfl ?_)<;>try refine Aa N21 ?_))
   rw[hg1]
   have hfk0:FlowK S w0 X g (.agg (flowC g (.slice a1 g.regs.length c1) (.slice a4 g.raises.length c4) (.slice a5 g.blks.length c5))):=⟨_,_,_,rfl,⟨a1,c1,rfl,hc1,k1⟩,⟨a4,c4,rfl,hc4,k4⟩,⟨ps,hps,⟨a5,c5,rfl,hc5,k5⟩,k6⟩⟩
   generalize hvF:(Value.agg (flowC (dmF f) (.slice a1 g.regs.length c1) (.slice a4 g.raises.length c4) (.slice a5 g.blks.length c5)))=vF
   have hfk:∀ {F':List Ent},(∀e∈X,e∈F')→FlowK S w0 F' (dmF f) vF:=fun hu=>by rw[←hvF];exact hgK hfk0 hu
   have hXm:∀ {A B:List Ent} {e:Ent},∀x∈X,x∈e::(RBE rb (.slice a0 b.length ca) (slV b2 ((pl (sgFlow f) 0).map noNm).length c2) (slV b3 (bkp (sgFlow f) 0).length c3) b.length nX.fv::(A++(B++(X++F)))):=fun x h=>.tail _ (.tail _ (List.mem_append_right _ (List.mem_append_right _ (List.mem_append_left _ h))))
   by_cases hs:sndOk (dmF f)=true
   · rw [if_pos hs] at hcp
     rw[hcp]
     have hsq:∀ {F':List Ent},(∀e∈X,e∈F')→Yields S w0 F' 40 [vF] (.bool true):=fun hu=>by
      have:=sound_c (hfk hu) hLd
      rwa [hchk,hs] at this
     have hwr:∀ {F':List Ent},(∀e∈X,e∈F')→SLF Tryz.prog S w0 F' 38 [vF] [] (fun e post=>∃v,e=.returned v∧∃wb,v=pv wb 0∧wSt wb (layF (dmF f)) post):=fun hu=>written_n (hfk hu) (flowR_of hs hF.res.1) hs
     repeat refine An ?_
     repeat' (first|refine Ag rfl ?_|refine Aj rfl ?_|refine Al ?_|refine An ?_|refine Az rfl ?_|refine AB ?_|refine Ab 3 ?_;try refine Zm rfl (Zv (BN rfl) (Zm rfl ?_));try((refine Zv (AJ (cs:=flowC (dmF f) (.slice a1 g.regs.length c1) (.slice a4 g.raises.length c4) (.slice a5 g.blks.length c5)) U26 rfl AO rfl (fun j h=>Kn.of (.head _) (by rw[Nat.zero_add];exact Array.getElem?_eq_getElem h)) rfl) ?_;rw[hvF])<;>try refine Zv (Aw (CallR.val rfl en40) (hsq hXm)) (Zv (BN rfl) (Zv (A0 rfl rfl) (Aa N21 ?_))))|refine Ab 5 ?_;try((refine Zv (AJ (cs:=flowC (dmF f) (.slice a1 g.regs.length c1) (.slice a4 g.raises.length c4) (.slice a5 g.blks.length c5)) U26 rfl AO rfl (fun j h=>Kn.of (.head _) (by rw[Nat.zero_add];exact Array.getElem?_eq_getElem h)) rfl) ?_;rw[hvF])<;>try((refine AQ (pre:=[]) (Take.nil _) (CallR.val rfl en38) rfl rfl (hwr hXm) ?_;rintro v post ⟨wb,rfl,b7,c7,r7,b8,c8,r8,b9,c9,r9,h7,h8,h9,rfl⟩;simp only[List.append_assoc,List.cons_append])<;>try refine Zv (Ah rfl) (Zf BX rfl (Zf CN rfl (Zv (Ac U22 rfl rfl Y0 Y4) ?_)));try refine Za rfl (Aa N21 ?_))))
     have hby:(layF (dmF f)).bytes=out (sgFlow f):=by rw[layF_eq];exact sk_out _ _ (sg_dm f)
     have hpall:=patch_all hF
     have hol:=hF.out
     have hplb:∀p∈(pl (sgFlow f) 0).map noNm,∃at_:Nat,p.1=at_∧at_+2≤b.length:=by
      intro p hp
      obtain⟨q,hq,rfl⟩:=List.mem_map.1 hp
      have a1:=pl_ge (sgFlow f) 0 q hq
      have a2:=pl_le (sgFlow f) 0 q hq
      refine⟨q.1.toNat,?_,?_⟩
      · show q.1=_;omega
      · rw[hol] at a2;omega
     rw[←patchK_noNm] at hpall
     have hopos:=out_pos f
     have hml:((pl (sgFlow f) 0).map noNm).length≤500:=by rw[List.length_map];exact e3
     generalize (pl (sgFlow f) 0).map noNm=PS at *
     generalize bkp (sgFlow f) 0=BK at *
     rw[hby] at h7 ⊢
     generalize out (sgFlow f)=O at *
     obtain ⟨bb,rfl⟩:∃bb,b7=some bb:=by
      cases b7 with
      | some bb=>exact⟨bb,rfl⟩
      | none=>
        have q1:=h7.hn rfl
        have q2:=h7.hc
        rw[q1,show(byv O).length=O.length by simp[byv]] at q2
        omega
     have hcap7:b.length≤c7:=by
      have q2:=h7.hc
      simp[byv] at q2
      omega
     have hbm:∀k,k≤PS.length→(patchK b (PS.take k) O).length=b.length:=fun k hk=>patchK_len _ _ hol fun p hp=>by
      obtain⟨at_,h1,h2⟩:=hplb p (List.mem_of_mem_take hp)
      rw[h1];simpa using h2
     rw[hol] at h7 ⊢
     refine A1 (E':=[(0,.slice a0 b.length ca),(2,.pointer none),(3,.bool false),(5,pv rb 0),(7,.slice (some ⟨bb,0,none⟩) b.length c7)]) Y14 ?_
     refine CU (H':=⟨bb,true,.cells (byv O++r7).toArray 5 (0,0)⟩::(RBE rb (.slice a0 b.length ca) (slV b2 PS.length c2) (slV b3 BK.length c3) b.length nX.fv::(rowE b2 (rowV plcC PS) r2 49++(rowE b3 (intsV BK) r3 3++F)))) ?_ ?_
     · simp only[rowE_some,List.cons_append,List.nil_append]
       exact(by repeat(first|exact List.Sublist.refl _|apply List.Sublist.cons_cons|apply List.Sublist.cons|apply List.Sublist.append (List.Sublist.refl _)|apply List.sublist_append_of_sublist_right))
     have hrowK:∀(e:Ent),SlK S w0 (e::(RBE rb (.slice a0 b.length ca) (slV b2 PS.length c2) (slV b3 BK.length c3) b.length nX.fv::(rowE b2 (rowV plcC PS) r2 49++(rowE b3 (intsV BK) r3 3++F)))) (rowV plcC PS) PS.length (slV b2 PS.length c2):=fun e=>SlK.ofRow (A:=[e,RBE rb (.slice a0 b.length ca) (slV b2 PS.length c2) (slV b3 BK.length c3) b.length nX.fv]) Y9 h2
     repeat' (first|refine Ag rfl ?_|refine Aj rfl ?_|refine Al ?_|refine Ab 6 ?_;try refine Zm rfl (Zv (Ah rfl) (Zf Ch rfl (Zf BS rfl (Zv (Ac U29 rfl rfl Y0 Y4) ?_))));try refine Zv (Ap rfl U29 rfl) (Zm rfl (Aa N21 ?_)))
     refine A6 ?_
     refine A1 (E':=(fun k:Nat=>[(0,.slice a0 b.length ca),(2,.pointer none),(3,.bool false),(5,pv rb 0),(7,.slice (some ⟨bb,0,none⟩) b.length c7),(34,slV b2 PS.length c2),(35,.int .i64 (PS.length:Int)),(36,.int .i64 (k:Int))]) 0) Y14 ?_
     refine Bb (fun k:Nat=>k≤PS.length) (fun k=>PS.length - k) (fun k:Nat=>[(0,.slice a0 b.length ca),(2,.pointer none),(3,.bool false),(5,pv rb 0),(7,.slice (some ⟨bb,0,none⟩) b.length c7),(34,slV b2 PS.length c2),(35,.int .i64 (PS.length:Int)),(36,.int .i64 (k:Int))]) (fun k=>⟨bb,true,.cells (byv (patchK b (PS.take k) O)++r7).toArray 5 (0,0)⟩::(RBE rb (.slice a0 b.length ca) (slV b2 PS.length c2) (slV b3 BK.length c3) b.length nX.fv::(rowE b2 (rowV plcC PS) r2 49++(rowE b3 (intsV BK) r3 3++F)))) ?_ 0 (Nat.zero_le _)
     rintro k k1 ih
     try dsimp only at k1 ih ⊢
     by_cases hlt:k < PS.length
     · have hsn:=patchK_snoc (b:=b) (a:=O) hlt
       have hbk:=hbm k k1
       obtain⟨at_,hp1,hp2⟩:=hplb PS[k] (List.getElem_mem hlt)
       have hih:=ih (k+1) hlt Y9
       rw[hsn] at hih
       have hsl:=hrowK ⟨bb,true,.cells (byv (patchK b (PS.take k) O)++r7).toArray 5 (0,0)⟩
       obtain⟨ap,cp,hap,hcp2,hkp⟩:=hsl
       obtain⟨bp,op,rfl,hkn⟩:=hkp.resolve_left (fun h=>by have:=Ba plcC Cs PS;rw[h] at this;simp at this;omega)
       have hcell:=kn_plc hkn hlt
       obtain⟨bq,oq,rfl,hkq⟩:=hk0.resolve_left (fun h=>by have hx:(byv b).length=b.length:=(by simp[byv]);rw[h] at hx;simp at hx;omega)
       rw[hap] at hih hcell ⊢
       generalize patchK b (PS.take k) O=A at *
       generalize PS[k]=pp at *
       obtain⟨p1,p2,p3⟩:=pp
       obtain rfl:p1=(at_:Int):=hp1
       have hnl:(byv ((b.drop at_).take 2)).length=at_+2 - at_:=by simp[byv];omega
       have hkc:∀ {b9:Nat} {c9:Array Value},∀j (h:j < (byv ((b.drop at_).take 2)).length),Kn S w0 (⟨b9,true,.cells c9 49 (0,0)⟩::⟨bb,true,.cells (byv A++r7).toArray 5 (0,0)⟩::RBE rb (.slice (some ⟨bq,oq,none⟩) b.length ca) (.slice (some ⟨bp,op,none⟩) PS.length cp) (slV b3 BK.length c3) b.length nX.fv::(rowE b2 (rowV plcC PS) r2 49++(rowE b3 (intsV BK) r3 3++F))) bq (oq+at_*1+j) (byv ((b.drop at_).take 2))[j]:=by
        intro b9 c9 j h
        have h9:j < 2:=by omega
        have:=hkq (at_+j) (by simp[byv];omega)
        rw[show oq+at_*1+j=oq+(at_+j) by omega]
        have e:(byv ((b.drop at_).take 2))[j]=(byv b)[at_+j]'(by simp[byv];omega):=by simp[byv]
        rw[e]
        exact this.mono fun x hx=>.tail _ (.tail _ (.tail _ (List.mem_append_right _ (List.mem_append_right _ hx))))
       have hokv:∀v∈byv ((b.drop at_).take 2),okCell v=true:=fun v hv=>by obtain⟨c,_,rfl⟩:=List.mem_map.1 hv;rfl
       have hfold:=fold_patch (b:=b) (a:=A) (n:=at_) (r:=r7) Y9 hp2
       repeat' (first|refine Ag rfl ?_|refine Aj rfl ?_|refine Al ?_|refine An ?_|refine A5 rfl ?_|refine A6 ?_|refine AH ?_|refine AB ?_|refine Ab 7 ?_;try refine Zv (A7 rfl rfl Y2) ?_;try refine Aa N21 ?_|refine Ab 8 ?_;try refine Zv (Am U29 sz49 rfl rfl Y9 Y9) ?_;try refine Zv (AJ (cs:=(plcC ((at_:Int),p2,p3)).toArray) U49 rfl Bn rfl hcell rfl) ?_;try refine A8 Bn rfl rfl rfl rfl (fun b_ hb_=>?_);try refine AI rfl rfl rfl sz49 Y3 Y15 rfl rfl ?_;try refine Aa N21 ?_|refine Bg (id:=9) 14 rfl mixed Y1 ?_;try refine A4 (Ai rfl) rfl rfl (A4 (Ad fo49_0 rfl) rfl rfl (A4 (Ac U3 rfl rfl Y0 Y4) rfl rfl ?_));try refine A4 (Ad fo49_0 rfl) rfl rfl (A4 (Ac U3 rfl rfl Y0 Y4) rfl rfl ?_);try refine A4 (AD rfl rfl Y9 Y9) rfl rfl ?_;try refine A4 (ov_sliceLlt (bb:=bb) (a:=at_) (b:=at_+2) U22 sz5 rfl ⟨_,_,rfl,by omega,by omega⟩ ⟨_,_,rfl,by omega,by omega⟩ Y9 Y9 Y9) rfl rfl ?_;try refine A4 (Ai rfl) rfl rfl (A4 (Ad fo49_0 rfl) rfl rfl (A4 (Ac U3 rfl rfl Y0 Y4) rfl rfl ?_));try refine A4 (Ad fo49_0 rfl) rfl rfl (A4 (Ac U3 rfl rfl Y0 Y4) rfl rfl ?_);try refine A4 (AD rfl rfl Y9 Y9) rfl rfl ?_;try refine A4 (ov_sliceLlt (bb:=bq) (a:=at_) (b:=at_+2) U22 sz5 rfl ⟨_,_,rfl,by omega,by omega⟩ ⟨_,_,rfl,by omega,by omega⟩ Y9 Y9 Y9) rfl rfl ?_;try refine Bf ?_;try((refine wo_copy (new:=byv ((b.drop at_).take 2)) (c':=(byv (patch1 b A at_)++r7).toArray) rfl rfl U22 sz5 rfl hnl hkc hokv (by rw[show 0+at_*1=at_ by omega];exact hfold) Y3 (by simp[byv];omega) rfl rfl ?_)<;>try refine Aa N21 ?_)|refine Ab 10 ?_;try refine Zv (AD rfl rfl Y9 Y9) ?_;try refine Zm rfl (Aa N21 ?_))
       exact CU (List.sublist_cons_self _ _) (A1 Y10 hih)
     · have hk:k=PS.length:=by omega
       subst hk
       rw[List.take_length,hpall]
       have h7b:RowB (some bb) b.length c7 1 (byv b) r7:=⟨by simp[byv],by have q:=h7.hc;rw[show(byv O).length=(byv b).length by simp[byv,hol]] at q;exact q,fun h=>by cases h⟩
       have hq:Yields S w0 (⟨bb,true,.cells (byv b++r7).toArray 5 (0,0)⟩::(RBE rb (.slice a0 b.length ca) (slV b2 PS.length c2) (slV b3 BK.length c3) b.length nX.fv::(rowE b2 (rowV plcC PS) r2 49++(rowE b3 (intsV BK) r3 3++F)))) 45 [.slice (some ⟨bb,0,none⟩) b.length c7,.slice a0 b.length ca] (.bool true):=by
        have:=equal_u8 (l:=b) (m:=b) (SlK.ofRow (S:=S) (w0:=w0) (A:=[]) (B:=(RBE rb (.slice a0 b.length ca) (slV b2 PS.length c2) (slV b3 BK.length c3) b.length nX.fv::(rowE b2 (rowV plcC PS) r2 49++(rowE b3 (intsV BK) r3 3++F)))) (el:=5) Y9 h7b) (SlK.up hb (fun x hx=>List.mem_append_right [] (List.mem_append_right _ (.tail _ (List.mem_append_right _ (List.mem_append_right _ hx)))))) hB Y9
        rwa [decide_eq_true rfl] at this
       repeat' (first|refine Ag rfl ?_|refine Aj rfl ?_|refine Al ?_|refine An ?_|refine Az rfl ?_|refine Bl rfl ?_|refine AM Tryz.func49 rfl (fun w_ hi_=>?_)|refine Ab 7 ?_;try refine Zv (A7 rfl rfl Y2) ?_;try refine Aa N21 ?_|refine Ab 11 ?_;try refine Zm rfl (Zm rfl (Zm rfl (Zv (Aw (CallR.val rfl en45) hq) (Za rfl (Za rfl (Aa N21 ?_)))))))
       refine⟨RBE rb (.slice a0 b.length ca) (slV b2 PS.length c2) (slV b3 BK.length c3) b.length nX.fv::(rowE b2 (rowV plcC PS) r2 49++(rowE b3 (intsV BK) r3 3++[])),⟨_,rfl,rb,_,rfl,rfl,⟨b2,c2,r2,b3,c3,r3,[],h2,h3,rfl,Nat.le_refl _,rfl⟩⟩,?_⟩
       simp only[List.append_assoc,List.cons_append,List.nil_append]
       exact hi_.subset (by repeat(first|exact List.Sublist.refl _|apply List.Sublist.cons_cons|apply List.Sublist.cons|apply List.Sublist.append (List.Sublist.refl _)|apply List.sublist_append_of_sublist_right))
   · rw [if_neg hs] at hcp
     rw[hcp]
     have hsq:∀ {F':List Ent},(∀e∈X,e∈F')→Yields S w0 F' 40 [vF] (.bool false):=fun hu=>by
      have:=sound_c (hfk hu) hLd
      rwa [hchk,show sndOk (dmF f)=false by simpa using hs] at this
     repeat refine An ?_
     repeat' (first|refine Ag rfl ?_|refine Aj rfl ?_|refine Al ?_|refine An ?_|refine A5 rfl ?_|refine AM Tryz.func49 rfl (fun w_ hi_=>?_)|refine Ab 3 ?_;try refine Zm rfl (Zv (BN rfl) (Zm rfl ?_));try((refine Zv (AJ (cs:=flowC (dmF f) (.slice a1 g.regs.length c1) (.slice a4 g.raises.length c4) (.slice a5 g.blks.length c5)) U26 rfl AO rfl (fun j h=>Kn.of (.head _) (by rw[Nat.zero_add];exact Array.getElem?_eq_getElem h)) rfl) ?_;rw[hvF])<;>try refine Zv (Aw (CallR.val rfl en40) (hsq hXm)) (Zv (Ci rfl) (Zv (A0 rfl rfl) (Aa N21 ?_))))|refine Ab 4 ?_;try refine Za rfl (Za rfl (Aa N21 ?_)))
     exact⟨[],⟨_,rfl,rfl,rfl⟩,hi_.subset Y5⟩
end
end Go.Sl
namespace Go.Proofs
open Go.Shelf
def Tryz.laysM171_ren : Go.Shelf.Ren := ⟨fun | 171 => 53 | 243 => 85 | 246 => 119 | 283 => 143 | 284 => 144 | 285 => 145 | 286 => 146 | 129 => 152 | 317 => 151 | 318 => 153 | 319 => 154 | 320 => 155 | 337 => 156 | 338 => 157 | n => n, fun | 3 => 3 | 9 => 9 | 2 => 2 | 4 => 4 | 171 => 198 | 0 => 0 | 53 => 199 | 37 => 22 | 5 => 5 | 173 => 202 | 212 => 214 | 51 => 215 | 20 => 20 | 213 => 216 | 46 => 50 | 232 => 219 | 233 => 220 | n => n, fun | 17 => 0 | 18 => 1 | 19 => 2 | n => n⟩
theorem Tryz.laysM171 : Go.Proofs.LaysM.n171 Tryz.prog Tryz.laysM171_ren := {
  mixed := by kernel_rfl
  f129 := Tryz.func152.trans (congrArg some (by kernel_rfl))
  f171 := Tryz.func53.trans (congrArg some (by kernel_rfl))
  f243 := Tryz.func85.trans (congrArg some (by kernel_rfl))
  f246 := Tryz.func119.trans (congrArg some (by kernel_rfl))
  f283 := Tryz.func143.trans (congrArg some (by kernel_rfl))
  f284 := Tryz.func144.trans (congrArg some (by kernel_rfl))
  f285 := Tryz.func145.trans (congrArg some (by kernel_rfl))
  f286 := Tryz.func146.trans (congrArg some (by kernel_rfl))
  f317 := Tryz.func151.trans (congrArg some (by kernel_rfl))
  f318 := Tryz.func153.trans (congrArg some (by kernel_rfl))
  f319 := Tryz.func154.trans (congrArg some (by kernel_rfl))
  f320 := Tryz.func155.trans (congrArg some (by kernel_rfl))
  f337 := Tryz.func156.trans (congrArg some (by kernel_rfl))
  f338 := Tryz.func157.trans (congrArg some (by kernel_rfl))
  t0 := Tryz.underlying0
  a0 := Tryz.isAgg0
  z0 := Tryz.sizeOf0
  v0 := Tryz.zeroValue0
  t2 := Tryz.underlying2
  a2 := Tryz.isAgg2
  z2 := Tryz.sizeOf2
  v2 := Tryz.zeroValue2
  t3 := Tryz.underlying3
  a3 := Tryz.isAgg3
  z3 := Tryz.sizeOf3
  v3 := Tryz.zeroValue3
  t4 := Tryz.underlying4
  a4 := Tryz.isAgg4
  z4 := Tryz.sizeOf4
  v4 := Tryz.zeroValue4
  t5 := Tryz.underlying5
  a5 := Tryz.isAgg5
  z5 := Tryz.sizeOf5
  v5 := Tryz.zeroValue5
  t9 := Tryz.underlying9
  a9 := Tryz.isAgg9
  z9 := Tryz.sizeOf9
  v9 := Tryz.zeroValue9
  t20 := Tryz.underlying20
  a20 := Tryz.isAgg20
  z20 := Tryz.sizeOf20
  v20 := Tryz.zeroValue20
  t37 := Tryz.underlying22
  a37 := Tryz.isAgg22
  z37 := Tryz.sizeOf22
  v37 := Tryz.zeroValue22
  t46 := Tryz.underlying50
  a46 := Tryz.isAgg50
  z46 := Tryz.sizeOf50
  v46 := Tryz.zeroValue50
  t51 := Tryz.underlying215
  a51 := Tryz.isAgg215
  z51 := Tryz.sizeOf215
  v51 := Tryz.zeroValue215
  t53 := Tryz.underlying199
  a53 := Tryz.isAgg199
  z53 := Tryz.sizeOf199
  v53 := Tryz.zeroValue199
  t171 := Tryz.underlying198
  a171 := Tryz.isAgg198
  z171 := Tryz.sizeOf198
  v171 := Tryz.zeroValue198
  t173 := Tryz.underlying202
  a173 := Tryz.isAgg202
  z173 := Tryz.sizeOf202
  v173 := Tryz.zeroValue202
  t212 := Tryz.underlying214
  a212 := Tryz.isAgg214
  z212 := Tryz.sizeOf214
  v212 := Tryz.zeroValue214
  t213 := Tryz.underlying216
  a213 := Tryz.isAgg216
  z213 := Tryz.sizeOf216
  t232 := Tryz.underlying219
  a232 := Tryz.isAgg219
  z232 := Tryz.sizeOf219
  v232 := Tryz.zeroValue219
  t233 := Tryz.underlying220
  a233 := Tryz.isAgg220
  z233 := Tryz.sizeOf220
  v233 := Tryz.zeroValue220
  g17 := by kernel_rfl
  g18 := by kernel_rfl
  g19 := by kernel_rfl
  i0 := by kernel_rfl
  i2 := by kernel_rfl
  i3 := by kernel_rfl
  i4 := by kernel_rfl
  i5 := by kernel_rfl
  i9 := by kernel_rfl
  i20 := by kernel_rfl
  i37 := by kernel_rfl
  i46 := by kernel_rfl
  i51 := by kernel_rfl
  i53 := by kernel_rfl
  i171 := by kernel_rfl
  i173 := by kernel_rfl
  i212 := by kernel_rfl
  i232 := by kernel_rfl
  i233 := by kernel_rfl
  m17 := by kernel_rfl
  m18 := by kernel_rfl
  m19 := by kernel_rfl }
open Go.RowKit Go.Sort Go.Lib in
theorem Tryz.strconv_Itoa (n : Int) (h0 : -9223372036854775808 ≤ n) (h1 : n ≤ 9223372036854775807) (w : World) (htab : Lib.TabIs Tryz.prog w "internal/strconv.uint64pow10" .u64 Lib.pow10Tab) :
    Calls Tryz.prog 53 #[.int .i64 n] w fun e w' => e = .returned (.string ⟨(Lib.itoa n).toArray⟩) ∧ ∃ k os, w' = grow (w.drewN k) os := Any.strconv_Itoa Tryz.laysM171 n h0 h1 w htab
end Go.Proofs

namespace Go.Sl
open Go Go.RowKit Go.Shelf Go.Proofs Go.Sort
attribute [local irreducible] Calls
theorem digits_dec:∀k u,u < k→digitsN k u=Lib.decDigits u
 | 0,u,h=>by omega
 | k + 1,u,h=>by
   rw[digitsN,Lib.decDigits]
   by_cases h1:u < 10
   · rw[if_pos h1,dif_pos h1]
   · rw[if_neg h1,dif_neg h1,digits_dec k (u / 10) Y9]
theorem itoa_digB {n:Int} (h:0≤n):Lib.itoa n=digB n:=by
 unfold Lib.itoa digB
 rw[if_neg Y9,digits_dec _ _ (Nat.lt_succ_self _)]
structure PowF (F:List Ent):Prop where
 p:∃k r el fz,Tryz.prog.globalNamed "internal/strconv.uint64pow10" = some k∧(⟨k,r,.cells (Lib.pow10Tab.map fun z=>Value.int .u64 z).toArray el fz⟩:Ent)∈F
theorem PowF.up {F F':List Ent} (h:PowF F) (hu:∀e∈F,e∈F'):PowF F':=by
 obtain⟨k,r,el,fz,h1,h2⟩:=h.p
 exact⟨k,r,el,fz,h1,hu _ h2⟩
theorem PowF.tab {S:Nat→Prop} {w0 w:World} {H:List Ent} (h:PowF H) (hi:Inv S w0 H w):Lib.TabIs Tryz.prog w "internal/strconv.uint64pow10" .u64 Lib.pow10Tab:=by
 obtain⟨k,r,el,fz,h1,hm⟩:=h.p
 have:=hi.hb _ hm
 unfold Lib.TabIs World.var?
 rw[h1]
 simp only[Option.bind_some]
 simp only at this
 rw[this]
theorem fr_grow (w:World) (k:Nat) (os:Array Obj):Fr none_ w (grow (w.drewN k) os):=by
 refine⟨rfl,rfl,rfl,?_,fun j hj _=>?_,fun j c el fz hc=>⟨c,rfl,?_⟩⟩
 · show w.heap.size≤(w.heap++os).size
   simp
 · show (w.heap++os)[j]?=_
   rw[Array.getElem?_append_left hj]
 · show (w.heap++os)[j]?=_
   rw[Array.getElem?_append_left (Array.getElem?_eq_some_iff.1 hc).1];exact hc
section
variable {S:Nat→Prop} {w0:World} {F:List Ent}
theorem itoa_c (hp:PowF F) {n:Int} (h0:0≤n) (h1:n≤65535):Yields S w0 F 53 [.int .i64 n] (str (digB n)):=by
 refine AE fun w hi=>?_
 simp only[List.nil_append] at hi
 refine(Tryz.strconv_Itoa n Y9 Y9 w (hp.tab hi)).mono ?_
 rintro e w' ⟨rfl,k,os,rfl⟩
 exact⟨[],⟨by rw[itoa_digB h0],rfl⟩,hi.quiet (fr_grow w k os)⟩
end
def nN:NamF Unit where
 ν:=numN
 fv:=.func (.func 52) #[] #[]
 ok:=rfl
 fn:=52
 env:=fun _ _ F=>PowF F
 envU:=fun _ _ _ _ hu h=>h.up hu
 envT:=fun _ _ _ _ h _=>h
 St:=fun _ _ L=>L=[]
 vs:=fun q n=>[.int .u8 q,.int .i64 n]
 goes:=fun q n=>.fn _ _ _ _ _ rfl
 en:=en52
 call:=fun S w0 F q n c t L hE hL _ _ h0 h1=>by
  subst hL
  refine AE fun w hi=>?_
  simp only[List.nil_append] at hi
  have hq:=itoa_c (S:=S) (w0:=w0) hE h0 h1
  refine Ak Tryz.func52 rfl rfl (hi) ?_
  repeat' (first|refine Ag rfl ?_|refine Aj rfl ?_|refine Al ?_|refine An ?_|refine AM Tryz.func52 rfl (fun w_ hi_=>?_)|refine Ab 0 ?_;try refine Za rfl (Aa N15 ?_)|refine Ab 1 ?_;try refine Zm rfl (Zv (Aw (CallR.val rfl en53) hq) (Za rfl (Aa N15 ?_))))
  exact⟨[],⟨_,rfl,rfl,rfl⟩,hi_⟩
def nD (bn bx:Nat) (ps:List Plc) (pv':Value) (hlen:ps.length≤65535):NamF Nat where
 ν:=νI (ps.map (·.2.2))
 fv:=.func (.func 44) #[] #[pv bn 0,pv bx 0]
 ok:=rfl
 fn:=44
 env:=fun S w0 F=>Kn S w0 F bx (0+2) pv'∧SlK S w0 F (rowV plcC ps) ps.length pv'
 envU:=fun _ _ _ _ hu h=>⟨h.1.mono hu,h.2.up hu⟩
 envT:=fun _ _ _ _ h hi=>⟨h.1.at hi fun _ h=>h,h.2.tr fun _ _ _ hk=>hk.at hi fun _ h=>h⟩
 St:=fun c k L=>c=k∧L=[⟨bn,true,.cells #[.int .i64 (k:Int)] 3 (0,0)⟩]
 vs:=fun q n=>[.int .u8 q,.int .i64 n,pv bn 0,pv bx 0]
 goes:=fun q n=>.fn _ _ _ _ _ rfl
 en:=en44
 call := fun S w0 F q n c k L hE hL hc _ h0 h1=>by
  obtain⟨rfl,rfl⟩:=hL
  refine AE fun w hi=>?_
  simp only[List.cons_append,List.nil_append] at hi
  have hc':c < 1099511627776:=hc
  obtain⟨hk1,a,cap,rfl,hcap,hk2⟩:=hE
  by_cases hlt:c < ps.length
  · obtain ⟨b,off,rfl,hkn⟩:=hk2.resolve_left (fun h=>by have hx:=Ba plcC Cs ps;rw[h] at hx;simp at hx;omega)
    have hcell:=kn_plc hkn hlt 2 (by show 2 < 3;omega)
    have hν:(νI (ps.map (·.2.2)) q n c)=(ps[c].2.2,c+1):=by
     unfold νI
     rw[List.getD_eq_getElem?_getD,List.getElem?_eq_getElem (by simpa using hlt)]
     simp
    rw[hν]
    have hcell:∀(e:Ent),Kn S w0 (e::F) b (off+((c:Int)+1 - 1).toNat*3+2) (str ps[c].2.2):=fun e=>by
     rw[show((c:Int)+1 - 1).toNat=((c:Nat):Int).toNat by omega]
     exact hcell.cons
    refine Ak Tryz.func44 rfl rfl (hi) ?_
    repeat' (first|refine Ag rfl ?_|refine Aj rfl ?_|refine Al ?_|refine An ?_|refine Az rfl ?_|refine AB ?_|refine AM Tryz.func44 rfl (fun w_ hi_=>?_)|refine Ab 0 ?_;try refine Za rfl (Aa N35 ?_)|refine Ab 1 ?_;try refine Zv (Ac U3 rfl rfl Y0 Y4) ?_;try refine Zv (AD rfl rfl Y9 Y9) ?_;try refine AT rfl rfl rfl sz3 Y3 rfl rfl ?_;try refine Aa N35 ?_|refine Ab 2 ?_;try refine Zv (Ac U3 rfl rfl Y0 Y4) ?_;try refine Zf Cn rfl (Zv (A2 U29 rfl rfl (by repeat(first|exact hk1|apply Kn.cons))) ?_);try refine Zv (Ap rfl U29 rfl) (Zv (Be rfl rfl Y2) ?_);try refine Aa N35 ?_|refine Ab 4 ?_;try refine Zf Cn rfl (Zv (A2 U29 rfl rfl (by repeat(first|exact hk1|apply Kn.cons))) ?_);try refine Zv (Ac U3 rfl rfl Y0 Y4) ?_;try refine Zv (Ca rfl rfl Y9 Y9) ?_;try refine Zv (Am U29 sz49 rfl rfl Y9 Y9) ?_;try refine Zf fo49_2 rfl (Zv (A2 U9 rfl rfl (hcell _)) (Za rfl (Aa N35 ?_))))
    exact⟨_,⟨_,rfl,rfl,rfl,rfl⟩,hi_⟩
  · have hν:(νI (ps.map (·.2.2)) q n c)=(dmy,c+1):=by
     unfold νI
     rw[List.getD_eq_getElem?_getD,List.getElem?_eq_none (by simpa using hlt)]
     simp
    rw[hν]
    refine Ak Tryz.func44 rfl rfl (hi) ?_
    repeat' (first|refine Ag rfl ?_|refine Aj rfl ?_|refine Al ?_|refine An ?_|refine A5 rfl ?_|refine AM Tryz.func44 rfl (fun w_ hi_=>?_)|refine Ab 0 ?_;try refine Za rfl (Aa N35 ?_)|refine Ab 1 ?_;try refine Zv (Ac U3 rfl rfl Y0 Y4) ?_;try refine Zv (AD rfl rfl Y9 Y9) ?_;try refine AT rfl rfl rfl sz3 Y3 rfl rfl ?_;try refine Aa N35 ?_|refine Ab 2 ?_;try refine Zv (Ac U3 rfl rfl Y0 Y4) ?_;try refine Zf Cn rfl (Zv (A2 U29 rfl rfl (by repeat(first|exact hk1|apply Kn.cons))) ?_);try refine Zv (Ap rfl U29 rfl) (Zv (Be rfl rfl Y2) ?_);try refine Aa N35 ?_|refine Ab 3 ?_;try refine Za rfl (Aa N35 ?_))
    exact⟨_,⟨_,rfl,rfl,rfl,rfl⟩,hi_⟩
structure NamesK (S:Nat→Prop) (w0:World) (F:List Ent) (b:Nat) (names:Int→List Bs):Prop where
 k:∀q:Nat,q < 6→∃v,Kn S w0 F b (0+q*1) v∧SlK S w0 F (strsV (names q)) (names q).length v
def nB (bx bl:Nat) (names:Int→List Bs) (hlen:∀q,(names q).length≤65535):NamF Bool where
 ν:=νB names
 fv:=.func (.func 50) #[] #[pv bx 0,pv bl 0]
 ok:=rfl
 fn:=50
 env:=fun S w0 F=>NamesK S w0 F bx names
 envU:=fun _ _ _ _ hu h=>⟨fun q hq=>let ⟨v,h1,h2⟩:=h.k q hq;⟨v,h1.mono hu,h2.up hu⟩⟩
 envT:=fun _ _ _ _ h hi=>⟨fun q hq=>let ⟨v,h1,h2⟩:=h.k q hq;⟨v,h1.at hi fun _ h=>h,h2.tr fun _ _ _ hk=>hk.at hi fun _ h=>h⟩⟩
 St:=fun _ lk L=>L=[⟨bl,true,.cells #[.bool lk] 4 (0,0)⟩]
 vs:=fun q n=>[.int .u8 q,.int .i64 n,pv bx 0,pv bl 0]
 goes:=fun q n=>.fn _ _ _ _ _ rfl
 en:=en50
 call := fun S w0 F q n c lk L hE hL hc hq h0 h1=>by
  subst hL
  refine AE fun w hi=>?_
  simp only[List.cons_append,List.nil_append] at hi
  obtain⟨v,hk1,a,cap,rfl,hcap,hk2⟩:=hE.k q.toNat Y9
  have hqq:((q.toNat:Nat):Int)=q:=by omega
  rw[hqq] at hk1 hcap hk2
  have hl:=hlen q
  by_cases hlt:n.toNat < (names q).length
  · obtain ⟨b,off,rfl,hkn⟩:=hk2.resolve_left (fun h=>by have hx:=Bv (names q);rw[h] at hx;simp at hx;omega)
    have hcell:∀(e:Ent),Kn S w0 (e::F) b (off+n.toNat*1) (str ((names q).getD n.toNat [])):=fun e=>by
     have:=hkn n.toNat (by rw[Bv];omega)
     rw[Nat.mul_one,List.getD_eq_getElem?_getD,List.getElem?_eq_getElem hlt]
     simp only[strsV,List.getElem_map] at this
     exact Kn.cons this
    have hν:νB names q n lk=((names q).getD n.toNat [],lk):=by
     unfold νB
     rw[if_neg Y9]
    rw[hν]
    refine Ak Tryz.func50 rfl rfl (hi) ?_
    repeat' (first|refine Ag rfl ?_|refine Aj rfl ?_|refine Al ?_|refine An ?_|refine Az rfl ?_|refine AB ?_|refine AM Tryz.func50 rfl (fun w_ hi_=>?_)|refine Ab 0 ?_;try refine Za rfl (Aa N38 ?_)|refine Ab 1 ?_;try refine Zm rfl (Zm rfl (Zv (ov_indexAddrA U44 sz23 rfl rfl Y9 Y9) ?_));try refine Zv (A2 U23 rfl rfl (by repeat(first|exact hk1|apply Kn.cons))) ?_;try refine Zv (Ap rfl U23 rfl) (Zv (Bj rfl rfl Y2) ?_);try refine Aa N38 ?_|refine Ab 4 ?_;try refine Zm rfl (Zv (ov_indexAddrA U44 sz23 rfl rfl Y9 Y9) ?_);try refine Zv (A2 U23 rfl rfl (by repeat(first|exact hk1|apply Kn.cons))) ?_;try refine Zm rfl (Zv (Am U23 sz9 rfl rfl Y9 Y9) ?_);try refine Zv (A2 U9 rfl rfl (hcell _)) (Za rfl (Aa N38 ?_)))
    exact⟨_,⟨_,rfl,rfl,rfl⟩,hi_⟩
  · have hν:νB names q n lk=(dmy,true):=by
     unfold νB
     rw[if_pos Y9]
    rw[hν]
    refine Ak Tryz.func50 rfl rfl (hi) ?_
    repeat' (first|refine Ag rfl ?_|refine Aj rfl ?_|refine Al ?_|refine An ?_|refine A5 rfl ?_|refine AM Tryz.func50 rfl (fun w_ hi_=>?_)|refine Ab 0 ?_;try refine Za rfl (Aa N38 ?_)|refine Ab 1 ?_;try refine Zm rfl (Zm rfl (Zv (ov_indexAddrA U44 sz23 rfl rfl Y9 Y9) ?_));try refine Zv (A2 U23 rfl rfl (by repeat(first|exact hk1|apply Kn.cons))) ?_;try refine Zv (Ap rfl U23 rfl) (Zv (Bj rfl rfl Y2) ?_);try refine Aa N38 ?_|refine Ab 2 ?_;try refine AT rfl rfl rfl sz4 Y3 rfl rfl ?_;try refine Aa N38 ?_|refine Ab 3 ?_;try refine Za rfl (Aa N38 ?_))
    exact⟨_,⟨_,rfl,rfl,rfl⟩,hi_⟩
end Go.Sl
namespace Go.Sl
open Go Go.RowKit Go.Shelf Go.Proofs
attribute [local irreducible] Calls
def numS (b:Bs):FlowM×Int:=match codeP b with
 | none=>(flow0,150)
 | some f=>((renF numN f ()).1,0)
def plcS (b:Bs):List Plc×Int:=match codeP b with
 | none=>([],150)
 | some f=>((pl (sgFlow f) 0).map noNm,0)
def blkS (b:Bs):List Int×Int:=match codeP b with
 | none=>([],150)
 | some f=>(bkp (sgFlow f) 0,0)
theorem BF (g:FlowM) (a1 a2 a3:Option Addr) (n1 n2 n3 c1 c2 c3:Nat):(flowC g (.slice a1 n1 c1) (.slice a2 n2 c2) (.slice a3 n3 c3)).toList.all okCell=true:=rfl
theorem flow0K {S:Nat→Prop} {w0:World} {F:List Ent}:FlowK S w0 F flow0 (.agg zFlow):=⟨_,_,_,rfl,SlK.nil rfl,SlK.nil rfl,[],rfl,SlK.nil rfl,fun _ h=>(List.not_mem_nil h).elim⟩
section
variable {S:Nat→Prop} {w0:World} {F:List Ent} {b:Bs} {bsv:Value}
theorem codeP_dec {f:FlowM} (h:codeP b=some f):∃s,decP b=some (f,s):=by
 unfold codeP at h
 split at h
 · rename_i r hr
   split at h
   · cases h;exact⟨r.2,hr⟩
   · cases h
 · cases h
theorem numbered_c (hb:SlK S w0 F (byv b) b.length bsv) (hB:b.length≤1099511627776) (hP:PowF F):
 SLF Tryz.prog S w0 F 33 [bsv] [] (fun e post=>∃v,e=.returned v∧∃u,v=.tuple #[u,.int .i64 (numS b).2]∧FlowK S w0 post (numS b).1 u):=by
 refine AE fun w hi=>?_
 simp only[List.nil_append] at hi
 have hcd:=fun {F'} (hu:∀e∈F,e∈F')=>code_c (SlK.up hb hu) hB
 unfold numS
 cases hc:codeP b with
 | none=>
   unfold CodeQ at hcd
   rw[hc] at hcd
   refine Ak Tryz.func33 rfl rfl (hi) ?_
   repeat' (first|refine Ag rfl ?_|refine Aj rfl ?_|refine Al ?_|refine An ?_|refine A5 rfl ?_|refine C5 Tryz.func33 (.cellA rfl U26 rfl AO Y13 rfl (.tmp rfl (.nil))) (fun w_ hi_=>?_)|refine Ab 0 ?_;try refine A8 AO rfl rfl rfl rfl (fun b_ hb_=>?_);try refine Za rfl (Aa N32 ?_)|refine Ab 1 ?_;try refine Zm rfl ?_;try((refine AQ (pre:=[]) (Take.nil _) (CallR.val rfl en49) rfl rfl (hcd Y12) ?_;rintro v post ⟨rfl,rfl⟩;simp only[List.nil_append])<;>try refine Zm rfl (Zv (Ae rfl rfl) (Zv (Ae rfl rfl) (Za rfl (Za rfl (Aa N32 ?_))))))|refine Ab 2 ?_;try refine Zm rfl (Zv (Ci rfl) (Aa N32 ?_))|refine Ab 3 ?_;try refine Zv (Cw pl26 AO rfl) ?_;try refine AI rfl rfl rfl Cj Y3 Y15 rfl rfl ?_;try refine Za rfl (Aa N32 ?_))
   exact⟨[],⟨_,rfl,_,rfl,flow0K⟩,hi_.subset Y5⟩
 | some f=>
   unfold CodeQ at hcd
   rw[hc] at hcd
   obtain⟨s,hd⟩:=codeP_dec hc
   have hdn:=decN_eq b numN ()
   rw[hd] at hdn
   have hdc:∀ {F'},(∀e∈F,e∈F')→SLF Tryz.prog S w0 F' 43 [bsv,.func (.func 52) #[] #[]] [] (fun e post=>∃v,e=.returned v∧DecQ S w0 nN b bsv (decN b numN ()) v post):=fun hu=>decoded_c (N:=nN) (t:=()) (SlK.up hb hu) (hP.up hu) rfl
   rw[show decN b numN ()=some ((renF numN f ()).1,emb s ()) from hdn] at hdc
   generalize (renF numN f ()).1=g at *
   refine Ak Tryz.func33 rfl rfl (hi) ?_
   repeat' (first|refine Ag rfl ?_|refine Aj rfl ?_|refine Al ?_|refine An ?_|refine Az rfl ?_|refine AB ?_|refine C5 Tryz.func33 (.cellA rfl U26 rfl AO Y13 rfl (.tmp rfl (.nil))) (fun w_ hi_=>?_)|refine Ab 0 ?_;try refine A8 AO rfl rfl rfl rfl (fun b_ hb_=>?_);try refine Za rfl (Aa N32 ?_)|refine Ab 1 ?_;try refine Zm rfl ?_;try((refine AQ (pre:=[]) (Take.nil _) (CallR.val rfl en49) rfl rfl (hcd Y12) ?_;rintro v post ⟨rb,s',rfl,hs',b2,c2,r2,b3,c3,r3,_,h2,h3,rfl,hr,rfl⟩;simp only[List.append_assoc,List.cons_append,List.nil_append])<;>try refine Zm rfl (Zv (Ae rfl rfl) (Zv (Ae rfl rfl) (Za rfl (Za rfl (Aa N32 ?_))))))|refine Ab 2 ?_;try refine Zm rfl (Zv (BN rfl) (Aa N32 ?_))|refine Ab 4 ?_;try refine Zm rfl ?_;try((refine AQ (pre:=[]) (Take.nil _) (CallR.val rfl en43) rfl rfl (hdc Y12) ?_;rintro v post ⟨_,rb',L',X,rfl,_,rfl,⟨rv,sv,bv,rfl,⟨a1,c1,rfl,hc1,k1⟩,⟨a4,c4,rfl,hc4,k4⟩,⟨ps,hps,⟨a5,c5,rfl,hc5,k5⟩,k6⟩⟩⟩;simp only[List.append_assoc,List.cons_append,List.nil_append])<;>try refine Zm rfl (Zv (Ae rfl rfl) (Zv (Ae rfl rfl) (Zv (Ae rfl rfl) ?_)));try refine A8 AO rfl rfl rfl rfl (fun b_ hb_=>?_);try refine AI rfl rfl (BF _ _ _ _ _ _ _ _ _ _) Cj Y3 (by rfl) rfl rfl ?_;try refine Za rfl (Za rfl (Aa N32 ?_)))|refine Ab 5 ?_;try refine Zv (AW U26 rfl AO rfl Y0 Y15) ?_;try refine AI rfl rfl (BF _ _ _ _ _ _ _ _ _ _) Cj Y3 (by rfl) rfl rfl ?_;try refine Za rfl (Aa N32 ?_))
   refine⟨X,⟨_,rfl,_,rfl,⟨_,_,_,rfl,⟨a1,c1,rfl,hc1,k1⟩,⟨a4,c4,rfl,hc4,k4⟩,⟨ps,hps,⟨a5,c5,rfl,hc5,k5⟩,k6⟩⟩⟩,?_⟩
   exact hi_.subset (by repeat(first|exact List.Sublist.refl _|apply List.Sublist.cons_cons|apply List.Sublist.cons|apply List.Sublist.append (List.Sublist.refl _)|apply List.sublist_append_of_sublist_right))
theorem places_c (hb:SlK S w0 F (byv b) b.length bsv) (hB:b.length≤1099511627776):
 SLF Tryz.prog S w0 F 28 [bsv] [] (fun e post=>∃v,e=.returned v∧∃u,v=.tuple #[u,.int .i64 (plcS b).2]∧SlK S w0 post (rowV plcC (plcS b).1) (plcS b).1.length u):=by
 refine AE fun w hi=>?_
 simp only[List.nil_append] at hi
 have hcd:=fun {F'} (hu:∀e∈F,e∈F')=>code_c (SlK.up hb hu) hB
 unfold plcS
 cases hc:codeP b with
 | none=>
   unfold CodeQ at hcd
   rw[hc] at hcd
   refine Ak Tryz.func28 rfl rfl (hi) ?_
   repeat' (first|refine Ag rfl ?_|refine Aj rfl ?_|refine Al ?_|refine An ?_|refine A5 rfl ?_|refine AM Tryz.func28 rfl (fun w_ hi_=>?_)|refine Ab 0 ?_;try refine Za rfl (Za rfl (Aa N9 ?_))|refine Ab 1 ?_;try refine Zm rfl ?_;try((refine AQ (pre:=[]) (Take.nil _) (CallR.val rfl en49) rfl rfl (hcd Y12) ?_;rintro v post ⟨rfl,rfl⟩;simp only[List.nil_append])<;>try refine Zm rfl (Zv (Ae rfl rfl) (Zv (Ae rfl rfl) (Za rfl (Za rfl (Aa N9 ?_))))))|refine Ab 2 ?_;try refine Zm rfl (Zv (Ci rfl) (Aa N9 ?_))|refine Ab 3 ?_;try refine Za rfl (Za rfl (Aa N9 ?_)))
   exact⟨[],⟨_,rfl,_,rfl,SlK.nil rfl⟩,hi_.subset Y5⟩
 | some f=>
   unfold CodeQ at hcd
   rw[hc] at hcd
   refine Ak Tryz.func28 rfl rfl (hi) ?_
   repeat' (first|refine Ag rfl ?_|refine Aj rfl ?_|refine Al ?_|refine An ?_|refine Az rfl ?_|refine AB ?_|refine AM Tryz.func28 rfl (fun w_ hi_=>?_)|refine Ab 0 ?_;try refine Za rfl (Za rfl (Aa N9 ?_))|refine Ab 1 ?_;try refine Zm rfl ?_;try((refine AQ (pre:=[]) (Take.nil _) (CallR.val rfl en49) rfl rfl (hcd Y12) ?_;rintro v post ⟨rb,s',rfl,hs',b2,c2,r2,b3,c3,r3,_,h2,h3,rfl,hr,rfl⟩;simp only[List.append_assoc,List.cons_append,List.nil_append])<;>try refine Zm rfl (Zv (Ae rfl rfl) (Zv (Ae rfl rfl) (Za rfl (Za rfl (Aa N9 ?_))))))|refine Ab 2 ?_;try refine Zm rfl (Zv (BN rfl) (Aa N9 ?_))|refine Ab 4 ?_;try refine Zm rfl (Zv (Ah rfl) (Zf Ch rfl (Zf BS rfl (Zv (Ac U29 rfl rfl Y0 Y4) ?_))));try refine Za rfl (Za rfl (Aa N9 ?_)))
   have hst:=(decP_f hs').st
   subst hst
   refine⟨rowE b2 (rowV plcC ((pl (sgFlow f) 0).map noNm)) r2 49++[],⟨_,rfl,_,rfl,SlK.ofRow (A:=[]) Y9 h2⟩,?_⟩
   simp only[List.append_assoc,List.cons_append,List.nil_append]
   exact hi_.subset (by repeat(first|exact List.Sublist.refl _|apply List.Sublist.cons_cons|apply List.Sublist.cons|apply List.Sublist.append (List.Sublist.refl _)|apply List.sublist_append_of_sublist_right))
theorem blocks_c (hb:SlK S w0 F (byv b) b.length bsv) (hB:b.length≤1099511627776):
 SLF Tryz.prog S w0 F 30 [bsv] [] (fun e post=>∃v,e=.returned v∧∃u,v=.tuple #[u,.int .i64 (blkS b).2]∧SlK S w0 post (intsV (blkS b).1) (blkS b).1.length u):=by
 refine AE fun w hi=>?_
 simp only[List.nil_append] at hi
 have hcd:=fun {F'} (hu:∀e∈F,e∈F')=>code_c (SlK.up hb hu) hB
 unfold blkS
 cases hc:codeP b with
 | none=>
   unfold CodeQ at hcd
   rw[hc] at hcd
   refine Ak Tryz.func30 rfl rfl (hi) ?_
   repeat' (first|refine Ag rfl ?_|refine Aj rfl ?_|refine Al ?_|refine An ?_|refine A5 rfl ?_|refine AM Tryz.func30 rfl (fun w_ hi_=>?_)|refine Ab 0 ?_;try refine Za rfl (Za rfl (Aa N9 ?_))|refine Ab 1 ?_;try refine Zm rfl ?_;try((refine AQ (pre:=[]) (Take.nil _) (CallR.val rfl en49) rfl rfl (hcd Y12) ?_;rintro v post ⟨rfl,rfl⟩;simp only[List.nil_append])<;>try refine Zm rfl (Zv (Ae rfl rfl) (Zv (Ae rfl rfl) (Za rfl (Za rfl (Aa N9 ?_))))))|refine Ab 2 ?_;try refine Zm rfl (Zv (Ci rfl) (Aa N9 ?_))|refine Ab 3 ?_;try refine Za rfl (Za rfl (Aa N9 ?_)))
   exact⟨[],⟨_,rfl,_,rfl,SlK.nil rfl⟩,hi_.subset Y5⟩
 | some f=>
   unfold CodeQ at hcd
   rw[hc] at hcd
   refine Ak Tryz.func30 rfl rfl (hi) ?_
   repeat' (first|refine Ag rfl ?_|refine Aj rfl ?_|refine Al ?_|refine An ?_|refine Az rfl ?_|refine AB ?_|refine AM Tryz.func30 rfl (fun w_ hi_=>?_)|refine Ab 0 ?_;try refine Za rfl (Za rfl (Aa N9 ?_))|refine Ab 1 ?_;try refine Zm rfl ?_;try((refine AQ (pre:=[]) (Take.nil _) (CallR.val rfl en49) rfl rfl (hcd Y12) ?_;rintro v post ⟨rb,s',rfl,hs',b2,c2,r2,b3,c3,r3,_,h2,h3,rfl,hr,rfl⟩;simp only[List.append_assoc,List.cons_append,List.nil_append])<;>try refine Zm rfl (Zv (Ae rfl rfl) (Zv (Ae rfl rfl) (Za rfl (Za rfl (Aa N9 ?_))))))|refine Ab 2 ?_;try refine Zm rfl (Zv (BN rfl) (Aa N9 ?_))|refine Ab 4 ?_;try refine Zm rfl (Zv (Ah rfl) (Zf Ch rfl (Zf fo81_2 rfl (Zv (Ac U59 rfl rfl Y0 Y4) ?_))));try refine Za rfl (Za rfl (Aa N9 ?_)))
   have hst:=(decP_f hs').st
   subst hst
   refine⟨rowE b3 (intsV (bkp (sgFlow f) 0)) r3 3++[],⟨_,rfl,_,rfl,SlK.ofRow (A:=[]) Y9 h3⟩,?_⟩
   simp only[List.append_assoc,List.cons_append,List.nil_append]
   exact hi_.subset (by repeat(first|exact List.Sublist.refl _|apply List.Sublist.cons_cons|apply List.Sublist.cons|apply List.Sublist.append (List.Sublist.refl _)|apply List.sublist_append_of_sublist_right))
end
end Go.Sl
namespace Go.Sl
open Go Go.RowKit Go.Shelf Go.Proofs
attribute [local irreducible] Calls
section
variable {C:Cx} {S:Nat→Prop} {w0:World} {D:List Deferred} {E:List (Nat×Value)} {H:List Ent} {d:Option Tmp} {t t':TypeId} {p:String} {af:Array Edge} {g:Option (Nat×Bool)} {x:Operand}
theorem Dc {el len cap sz n:Nat} {a:Option Addr} {hi:Operand} {kk:IntKind} {i:Int} (hu:C.P.underlying t'=some (.slice el)) (hs:(C.P.info? el).map (·.size)=some sz) (hx:opv E x=some (.slice a len cap))
 (hhi:opv E hi=some (.int kk i)) (hn:i=(n:Int)) (hb:n≤cap):OpV C S w0 H D E ⟨d,.slice t' x none (some hi) none,t,p,af,g⟩ (.slice a n cap):=by
 refine B6 fun tmps w hf _=>?_
 have:=run_sliceBounds (P:=C.P) (w:=w) (D:=D) (sl:=true) (len:=len) (cap:=cap) (a:=0) (b:=n) hf (lo:=none) (hi:=some hi) rfl ⟨kk,i,hhi,by omega,by omega⟩ Y9 Y9
 simp only[Option.map_none,Option.map_some] at this
 cases a with
 | none=>simp[execOp,Instr.sliceAt,Instr.slice,hf.opv D hx,AA hu,this,BA hs]
 | some z=>
   have hz:z.add 0=z:=by cases z;simp[Addr.add]
   simp[execOp,Instr.sliceAt,Instr.slice,hf.opv D hx,AA hu,this,BA hs,hz]
end
theorem SlK.ad {S:Nat→Prop} {w0:World} {F:List Ent} {cells:List Value} {n cap:Nat} {a:Option Addr} (h:SlK S w0 F cells n (.slice a n cap)):cells=[]∨∃bb off,a=some ⟨bb,off,none⟩:=by
 obtain⟨_,_,e,_,h⟩:=h
 cases e
 exact h.imp id fun ⟨b,off,h,_⟩=>⟨b,off,h⟩
theorem SlK.cut {S:Nat→Prop} {w0:World} {F:List Ent} {cells:List Value} {n cap k m:Nat} {a:Option Addr} (h:SlK S w0 F cells n (.slice a n cap)) (hk:k≤cap) (hm:m≤cells.length):SlK S w0 F (cells.take m) k (.slice a k cap):=by
 obtain⟨_,_,e,_,h⟩:=h
 cases e
 refine⟨_,_,rfl,hk,?_⟩
 rcases h with rfl|⟨b,off,rfl,h⟩
 · exact .inl Y26
 · refine .inr ⟨b,off,rfl,fun i hi=>?_⟩
   have:=h i (by simp at hi;omega)
   simpa using this
theorem ClonedV.slK {S:Nat→Prop} {w0:World} {cells:List Value} {n sz:Nat} {el:TypeId} {v:Value} {post:List Ent} (h:ClonedV cells n el v post) (hl:cells.length=n*sz):SlK S w0 post cells n v:=by
 obtain⟨a,cap,rfl,hc,h⟩:=h
 rcases h with⟨rfl,rfl⟩|⟨bb,rst,rfl,rfl⟩
 · exact⟨_,_,rfl,hc,.inl (List.length_eq_zero_iff.1 Y9)⟩
 · exact SlK.own hc
def frontS (b:Bs):(List Int×Int)×Int:=match codeP b with
 | none=>(([],0),150)
 | some f=>((f.regs.take f.ac.toNat,f.res),0)
def decS (x:CodeM):FlowM×Int:=match decodeP x with
 | none=>(flow0,150)
 | some g=>(g,0)
section
variable {S:Nat→Prop} {w0:World} {F:List Ent} {b:Bs} {bsv:Value}
theorem numS_front (b:Bs):(numS b).2=(frontS b).2∧((numS b).2=0→(frontS b).1=((numS b).1.regs.take (numS b).1.ac.toNat,(numS b).1.res)∧0≤(numS b).1.ac∧(numS b).1.ac≤(numS b).1.regs.length∧(numS b).1.regs.length≤400)∧((numS b).2≠0→(frontS b)=(([],0),150))∧((numS b).2=0∨(numS b).2=150):=by
 unfold numS frontS
 cases hc:codeP b with
 | none=>simp
 | some f=>
   have hg:=codeP_good.1 hc
   have h1:=hg.snd
   simp only[sndOk,dmF,Bool.and_eq_true,decide_eq_true_eq] at h1
   simp only[renF]
   obtain⟨⟨⟨⟨⟨⟨⟨⟨⟨⟨h1,h2⟩,h3⟩,h4⟩,h5⟩,h6⟩,h7⟩,h8⟩,h9⟩,h10⟩,h11⟩:=h1
   exact⟨trivial,fun _=>⟨by first|trivial|rfl,of_decide_eq_true h2,of_decide_eq_true h4,of_decide_eq_true h1⟩,fun h=>absurd rfl h,.inl (by first|trivial|rfl)⟩
theorem front_c (hb:SlK S w0 F (byv b) b.length bsv) (hB:b.length≤1099511627776) (hP:PowF F):
 SLF Tryz.prog S w0 F 27 [bsv] [] (fun e post=>∃v,e=.returned v∧∃u,v=.tuple #[.agg #[u,.int .u8 (frontS b).1.2],.int .i64 (frontS b).2]∧SlK S w0 post (regV (frontS b).1.1) (frontS b).1.1.length u):=by
 refine AE fun w hi=>?_
 simp only[List.nil_append] at hi
 have hnm:=fun {F'} (hu:∀e∈F,e∈F')=>numbered_c (SlK.up hb hu) hB (hP.up hu)
 obtain⟨q1,q2,q3,q4⟩:=numS_front b
 generalize numS b=nb at *
 obtain⟨g,er⟩:=nb
 simp only at q1 q2 q3 q4 hnm
 by_cases he:er=0
 · subst he
   obtain⟨q5,q6,q7,q8⟩:=q2 rfl
   rw[←q1,q5]
   refine Ak Tryz.func27 rfl rfl (hi) ?_
   repeat' (first|refine Ag rfl ?_|refine Aj rfl ?_|refine Al ?_|refine An ?_|refine Az rfl ?_|refine AB ?_|refine Ab 0 ?_;try refine A8 inf53 rfl rfl rfl rfl (fun b_ hb_=>?_);try refine Za rfl (Aa N9 ?_)|refine Ab 1 ?_;try refine Zm rfl ?_;try((refine AQ (pre:=[]) (Take.nil _) (CallR.val rfl en33) rfl rfl (hnm Y12) ?_;rintro v X ⟨_,rfl,⟨rv,sv,bv,rfl,⟨a1,c1,rfl,hc1,k1⟩,⟨a4,c4,rfl,hc4,k4⟩,⟨ps,hps,⟨a5,c5,rfl,hc5,k5⟩,k6⟩⟩⟩)<;>try refine Zm rfl (Zv (Ae rfl rfl) (Zv (Ae rfl rfl) ?_));try refine A8 AO rfl rfl rfl rfl (fun b_ hb_=>?_);try refine AI rfl rfl (BF _ _ _ _ _ _ _ _ _ _) Cj Y3 (by rfl) rfl rfl ?_;try refine Za rfl (Aa N9 ?_))|refine Ab 2 ?_;try refine Zm rfl (Zv (AN rfl rfl (by first|exact Ax Y9|exact As Y9|exact rfl)) ?_);try refine Aa N9 ?_)
   rename_i bt hbt
   revert b_
   intro b4 hb4
   have hn:g.ac=((g.ac.toNat:Nat):Int):=by omega
   have hle:g.ac.toNat≤g.regs.length:=by omega
   generalize g.ac.toNat=n at *
   have hcl:∀ {F':List Ent},(∀e∈X,e∈F')→SLF Tryz.prog S w0 F' 51 [.slice a1 n c1] [] (fun e post=>∃v,e=.returned v∧ClonedV ((regV g.regs).take n) n 5 v post):=fun hu=>(CG (SlK.cut (SlK.up ⟨a1,c1,rfl,hc1,k1⟩ hu) Y9 (by simp[regV];omega)) (by simp[regV];omega) (fun v hv=>by obtain⟨x,_,rfl⟩:=List.mem_map.1 (List.mem_of_mem_take hv);rfl) Y9).cl
   have hXm:∀ {e:Ent} {B:List Ent},∀x∈X,x∈e::(X++B):=fun x h=>.tail _ (List.mem_append_left _ h)
   repeat' (first|refine Ag rfl ?_|refine Aj rfl ?_|refine Al ?_|refine C5 Tryz.func27 (.cellA rfl U53 rfl inf53 Y13 rfl (.tmp rfl (.nil))) (fun w_ hi_=>?_)|refine Cy (m:=11) 4 rfl mixed rfl ?_;try refine Zt 0 rfl (fun _=>Ad BZ rfl) (Zt 2 rfl (fun _=>Ad fo26_1 rfl) (Zt 6 rfl (fun _=>Ad fo26_2 rfl) ?_));try refine Cg 1 3 7 Y1 ?_ ?_ ?_<;>(first|show WI _ _ _ _ _ _ 1 _ _ _ _;try refine Ao rfl (Ac U22 rfl rfl Y0 Y4) rfl rfl rfl ?_;try refine AC 3 7 Y1 ?_ ?_<;>(first|show WI _ _ _ _ _ _ 3 _ _ _ _;try refine Ao rfl (Ac U3 rfl rfl Y0 Y4) rfl rfl rfl ?_;try refine Zt 4 rfl (fun _=>Dc (n:=n) U22 sz5 rfl rfl hn Y9) ?_;try refine AC 5 7 Y1 ?_ ?_<;>(first|show WI _ _ _ _ _ _ 5 _ _ _ _;try((refine AG (pre:=[]) rfl (Take.nil _) (CallR.val rfl en51) rfl rfl rfl (hcl hXm) ?_;rintro v X2 ⟨a9,c9,rfl,hc9,hX2⟩)<;>try refine Af 7 Y1 ?_<;>try refine Ao rfl (Ac U5 rfl rfl Y0 Y4) rfl rfl rfl ?_;try refine Zt 8 rfl (fun _=>ov_bldB pl53 inf53 rfl rfl rfl rfl rfl) (Af 9 Y1 ?_)<;>try refine Au rfl rfl rfl rfl sz53 Y3 Y15 rfl rfl rfl ?_;try refine Zt 10 rfl (fun _=>Aq rfl) (Ar N9 Y1 ?_))|show WI _ _ _ _ _ _ 7 _ _ _ _;try refine Ao rfl (Ac U5 rfl rfl Y0 Y4) rfl rfl rfl ?_;try refine Af 5 Y1 ?_<;>try((refine AG (pre:=[]) rfl (Take.nil _) (CallR.val rfl en51) rfl rfl rfl (hcl hXm) ?_;rintro v X2 ⟨a9,c9,rfl,hc9,hX2⟩)<;>try refine Zt 8 rfl (fun _=>ov_bldB pl53 inf53 rfl rfl rfl rfl rfl) (Af 9 Y1 ?_)<;>try refine Au rfl rfl rfl rfl sz53 Y3 Y15 rfl rfl rfl ?_;try refine Zt 10 rfl (fun _=>Aq rfl) (Ar N9 Y1 ?_)))|show WI _ _ _ _ _ _ 7 _ _ _ _;try refine Ao rfl (Ac U5 rfl rfl Y0 Y4) rfl rfl rfl ?_;try refine Af 3 Y1 ?_<;>try refine Ao rfl (Ac U3 rfl rfl Y0 Y4) rfl rfl rfl ?_;try refine Zt 4 rfl (fun _=>Dc (n:=n) U22 sz5 rfl rfl hn Y9) ?_;try refine Af 5 Y1 ?_<;>try((refine AG (pre:=[]) rfl (Take.nil _) (CallR.val rfl en51) rfl rfl rfl (hcl hXm) ?_;rintro v X2 ⟨a9,c9,rfl,hc9,hX2⟩)<;>try refine Zt 8 rfl (fun _=>ov_bldB pl53 inf53 rfl rfl rfl rfl rfl) (Af 9 Y1 ?_)<;>try refine Au rfl rfl rfl rfl sz53 Y3 Y15 rfl rfl rfl ?_;try refine Zt 10 rfl (fun _=>Aq rfl) (Ar N9 Y1 ?_)))|show WI _ _ _ _ _ _ 3 _ _ _ _;try refine Ao rfl (Ac U3 rfl rfl Y0 Y4) rfl rfl rfl ?_;try refine AC 1 7 Y1 ?_ ?_<;>(first|show WI _ _ _ _ _ _ 1 _ _ _ _;try refine Ao rfl (Ac U22 rfl rfl Y0 Y4) rfl rfl rfl ?_;try refine Zt 4 rfl (fun _=>Dc (n:=n) U22 sz5 rfl rfl hn Y9) ?_;try refine AC 5 7 Y1 ?_ ?_<;>(first|show WI _ _ _ _ _ _ 5 _ _ _ _;try((refine AG (pre:=[]) rfl (Take.nil _) (CallR.val rfl en51) rfl rfl rfl (hcl hXm) ?_;rintro v X2 ⟨a9,c9,rfl,hc9,hX2⟩)<;>try refine Af 7 Y1 ?_<;>try refine Ao rfl (Ac U5 rfl rfl Y0 Y4) rfl rfl rfl ?_;try refine Zt 8 rfl (fun _=>ov_bldB pl53 inf53 rfl rfl rfl rfl rfl) (Af 9 Y1 ?_)<;>try refine Au rfl rfl rfl rfl sz53 Y3 Y15 rfl rfl rfl ?_;try refine Zt 10 rfl (fun _=>Aq rfl) (Ar N9 Y1 ?_))|show WI _ _ _ _ _ _ 7 _ _ _ _;try refine Ao rfl (Ac U5 rfl rfl Y0 Y4) rfl rfl rfl ?_;try refine Af 5 Y1 ?_<;>try((refine AG (pre:=[]) rfl (Take.nil _) (CallR.val rfl en51) rfl rfl rfl (hcl hXm) ?_;rintro v X2 ⟨a9,c9,rfl,hc9,hX2⟩)<;>try refine Zt 8 rfl (fun _=>ov_bldB pl53 inf53 rfl rfl rfl rfl rfl) (Af 9 Y1 ?_)<;>try refine Au rfl rfl rfl rfl sz53 Y3 Y15 rfl rfl rfl ?_;try refine Zt 10 rfl (fun _=>Aq rfl) (Ar N9 Y1 ?_)))|show WI _ _ _ _ _ _ 7 _ _ _ _;try refine Ao rfl (Ac U5 rfl rfl Y0 Y4) rfl rfl rfl ?_;try refine Af 1 Y1 ?_<;>try refine Ao rfl (Ac U22 rfl rfl Y0 Y4) rfl rfl rfl ?_;try refine Zt 4 rfl (fun _=>Dc (n:=n) U22 sz5 rfl rfl hn Y9) ?_;try refine Af 5 Y1 ?_<;>try((refine AG (pre:=[]) rfl (Take.nil _) (CallR.val rfl en51) rfl rfl rfl (hcl hXm) ?_;rintro v X2 ⟨a9,c9,rfl,hc9,hX2⟩)<;>try refine Zt 8 rfl (fun _=>ov_bldB pl53 inf53 rfl rfl rfl rfl rfl) (Af 9 Y1 ?_)<;>try refine Au rfl rfl rfl rfl sz53 Y3 Y15 rfl rfl rfl ?_;try refine Zt 10 rfl (fun _=>Aq rfl) (Ar N9 Y1 ?_)))|show WI _ _ _ _ _ _ 7 _ _ _ _;try refine Ao rfl (Ac U5 rfl rfl Y0 Y4) rfl rfl rfl ?_;try refine AC 1 3 Y1 ?_ ?_<;>(first|show WI _ _ _ _ _ _ 1 _ _ _ _;try refine Ao rfl (Ac U22 rfl rfl Y0 Y4) rfl rfl rfl ?_;try refine Af 3 Y1 ?_<;>try refine Ao rfl (Ac U3 rfl rfl Y0 Y4) rfl rfl rfl ?_;try refine Zt 4 rfl (fun _=>Dc (n:=n) U22 sz5 rfl rfl hn Y9) ?_;try refine Af 5 Y1 ?_<;>try((refine AG (pre:=[]) rfl (Take.nil _) (CallR.val rfl en51) rfl rfl rfl (hcl hXm) ?_;rintro v X2 ⟨a9,c9,rfl,hc9,hX2⟩)<;>try refine Zt 8 rfl (fun _=>ov_bldB pl53 inf53 rfl rfl rfl rfl rfl) (Af 9 Y1 ?_)<;>try refine Au rfl rfl rfl rfl sz53 Y3 Y15 rfl rfl rfl ?_;try refine Zt 10 rfl (fun _=>Aq rfl) (Ar N9 Y1 ?_))|show WI _ _ _ _ _ _ 3 _ _ _ _;try refine Ao rfl (Ac U3 rfl rfl Y0 Y4) rfl rfl rfl ?_;try refine Af 1 Y1 ?_<;>try refine Ao rfl (Ac U22 rfl rfl Y0 Y4) rfl rfl rfl ?_;try refine Zt 4 rfl (fun _=>Dc (n:=n) U22 sz5 rfl rfl hn Y9) ?_;try refine Af 5 Y1 ?_<;>try((refine AG (pre:=[]) rfl (Take.nil _) (CallR.val rfl en51) rfl rfl rfl (hcl hXm) ?_;rintro v X2 ⟨a9,c9,rfl,hc9,hX2⟩)<;>try refine Zt 8 rfl (fun _=>ov_bldB pl53 inf53 rfl rfl rfl rfl rfl) (Af 9 Y1 ?_)<;>try refine Au rfl rfl rfl rfl sz53 Y3 Y15 rfl rfl rfl ?_;try refine Zt 10 rfl (fun _=>Aq rfl) (Ar N9 Y1 ?_)))))
   all_goals
    have hs:SlK S w0 X2 (regV (g.regs.take n)) (g.regs.take n).length (.slice a9 n c9):=by
     have:=ClonedV.slK (S:=S) (w0:=w0) (sz:=1) ⟨a9,c9,rfl,hc9,hX2⟩ (by simp[regV];omega)
     rwa [show regV (g.regs.take n)=(regV g.regs).take n by simp[regV,List.map_take],show(g.regs.take n).length=n by simp;omega]
    refine⟨X2,⟨_,rfl,_,rfl,hs⟩,hi_.subset ?_⟩
    exact(by repeat(first|exact List.Sublist.refl _|apply List.Sublist.cons_cons|apply List.Sublist.cons|apply List.Sublist.append (List.Sublist.refl _)|apply List.sublist_append_of_sublist_right))
 · rw [q3 he]
   rcases q4 with q4|q4
   · exact absurd q4 he
   · subst q4
     refine Ak Tryz.func27 rfl rfl (hi) ?_
     repeat' (first|refine Ag rfl ?_|refine Aj rfl ?_|refine Al ?_|refine An ?_|refine A5 rfl ?_|refine C5 Tryz.func27 (.cellA rfl U53 rfl inf53 Y13 rfl (.tmp rfl (.nil))) (fun w_ hi_=>?_)|refine Ab 0 ?_;try refine A8 inf53 rfl rfl rfl rfl (fun b_ hb_=>?_);try refine Za rfl (Aa N9 ?_)|refine Ab 1 ?_;try refine Zm rfl ?_;try((refine AQ (pre:=[]) (Take.nil _) (CallR.val rfl en33) rfl rfl (hnm Y12) ?_;rintro v X ⟨_,rfl,⟨rv,sv,bv,rfl,⟨a1,c1,rfl,hc1,k1⟩,⟨a4,c4,rfl,hc4,k4⟩,⟨ps,hps,⟨a5,c5,rfl,hc5,k5⟩,k6⟩⟩⟩)<;>try refine Zm rfl (Zv (Ae rfl rfl) (Zv (Ae rfl rfl) ?_));try refine A8 AO rfl rfl rfl rfl (fun b_ hb_=>?_);try refine AI rfl rfl (BF _ _ _ _ _ _ _ _ _ _) Cj Y3 (by rfl) rfl rfl ?_;try refine Za rfl (Aa N9 ?_))|refine Ab 2 ?_;try refine Zm rfl (Zv (AN rfl rfl (by first|exact Ax Y9|exact As Y9|exact rfl)) ?_);try refine Aa N9 ?_|refine Ab 3 ?_;try refine Zv (Cw pl53 inf53 rfl) (Zm rfl ?_);try refine AI rfl rfl rfl sz53 Y3 Y15 rfl rfl ?_;try refine Za rfl (Aa N9 ?_))
     exact⟨[],⟨_,rfl,_,rfl,SlK.nil rfl⟩,hi_.subset Y5⟩
end
end Go.Sl
