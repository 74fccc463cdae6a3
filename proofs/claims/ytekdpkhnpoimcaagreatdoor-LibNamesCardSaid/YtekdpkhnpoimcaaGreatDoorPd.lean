/- An interpreter for the code of the model, proved sound. No condition. -/
import Derived.Test.YtekdpkhnpoimcaaGreatDoorPc
import Derived.Below
import Derived.Test.YtekdpkhnpoimcaaGreatDoorProg
import Derived.WalkKit
import Derived.Tactics
import Derived.Tactics2
import Derived.Defers
import Derived.Laws.Pointers
import Derived.Laws.LoneSync
import Derived.RegionTactic
import Derived.RegionCalls
import Derived.ChangeAlike
import Derived.Laws.NewBlocks
import Derived.Recover
set_option linter.unusedVariables false
set_option linter.unusedSimpArgs false
open Array renaming getElem?_eq_some_iff→zag
open Bool renaming and_eq_true→zae,not_eq_true'→zaC,or_eq_true→zaG,or_eq_false_iff→zaK
open List renaming getElem?_eq_some_iff→zah,getElem?_eq_getElem→zai,all_eq_true→zaj,getElem?_cons_zero→zak,getElem?_map→zav,mem_of_getElem?→zaw,length_eq_zero_iff→zax,mem_cons_self→zaz,mem_cons_of_mem→zaE,map_cons→zaF,mem_cons→zaI,length_drop→zaN,length_cons→zaO,mem_map→zaS
open Nat renaming le_refl→zaf,zero_add→zaL,lor→zaQ
open Option renaming bind_eq_some_iff→zab,map_eq_some_iff→zac,bind_some→zap,map_some→zaq
open Option.some renaming injEq→zaa
open Prod.mk renaming injEq→zad
namespace Go.AI
theorem qh2 {a b i:Nat}(h:tb (zaQ a b) i=false):tb a i=false/\tb b i=false:=by
 rw[qho,zaK] at h;exact h
theorem qbh {t i:Nat}(h:tb (bit t) i=false):t≠i:=by
 rw[qiX] at h
 exact of_decide_eq_false h
def LA (L:LL)(l:Tr (Nat×List zA)):Prop:=∀i p,qap L i=some p->l.get (0,[]) i=p/\l.has i=true
theorem LA.set {L:LL}{l:Tr (Nat×List zA)}(h:LA L l){i:Nat}(hi:l.has i=true)(p:Nat×List zA):LA ((i,p)::L) (l.set i p):=by
 intro j q hj
 rw[qaj] at hj
 rw[Tr.has_set]
 split at hj
 ·rename_i e
  simp only[zaa] at hj
  subst e;subst hj
  exact⟨Tr.get_set_eq _ _ _ _ hi,hi⟩
 ·rename_i e
  rw[Tr.get_set_ne _ _ _ _ _ e]
  exact h j q hj
def efI (loc:Nat)(o:Ins):Ef:=qln loc ⟨none,none,o⟩
theorem qkY (loc:Nat)(o:COp):qln loc o=(efI loc o.op).or ⟨qfK o.dst,0,false,false⟩:=by
 have z:∀a:Nat,zaQ 0 a=a:=Nat.zero_or
 have z':∀a:Nat,zaQ a 0=a:=Nat.or_zero
 obtain⟨d,g,op⟩:=o
 cases op<;>simp only[qln,efI,Ef.or,qfK,z,z',Bool.or_false,qaX,qbH,Bool.or_true,Bool.true_or,Bool.false_or,cond_true,cond_false]
 case store n a x=>cases qgm loc a<;>simp[z,z']
theorem qp8 {loc:Nat}{o:Ins}(hl:qoU o=false)(hp:qaX o=false)(hr:qbH o=false):(efI loc o).cs=true:=by
 cases o<;>first|rfl|(cases hl;done)|(cases hp;done)|(cases hr;done)
theorem qmD {i:Ins}(hp:qaX i=true):pu i=qah .nil i:=by
 unfold pu
 rw[qdA,qkX hp]
 cases h:qah (c0 s0).f i<;>exact h.symm▸rfl
theorem qiZ (e:Env)(s:ASt)(i:Ins):stV e s i=(qag e (c0 s) i).map fun r=>(r.1,r.2.s):=by
 unfold stV
 rw[qdA]
 cases qag e (c0 s) i<;>rfl
theorem qkZ (e:Env)(s:ASt)(i:Ins):rdV e s i=(qag e (c0 s) i).map fun r=>r.1:=by
 unfold rdV
 rw[qdA]
 cases qag e (c0 s) i<;>rfl
theorem qp9 {α:Type}(l:List α):tlF l=l.drop 1:=by cases l<;>rfl
theorem qgp {α:Type}(l:List α):∀n,qmy l n=l.drop n
 |0=>rfl
 |n+1=>by
  show tlF (qmy l n)=_
  rw[qp9,qgp l n,List.drop_drop]
theorem qgq {α:Type}:∀(n:Nat) (l:List α),qmz n l=if n<=l.length then some (l.take n) else none
 |0,l=>by
  rw[if_pos (Nat.zero_le _)];rfl
 |n+1,[]=>by
  rw[if_neg (by simp)];rfl
 |n+1,x::r=>by
  show Option.rec (motive:=fun _=>Option (List α)) none (fun t=>some (x::t)) (qmz n r)=_
  rw[qgq n r]
  by_cases h:n<=r.length
  ·rw[if_pos h,if_pos (by simp;omega)];simp
  ·rw[if_neg h,if_neg (by simp;omega)]
theorem qe9 {α:Type}(xs:List α)(off n:Nat):qoQ xs off n=cut xs off n:=by
 unfold qoQ
 rw[qdB]
 cases hn:Nat.beq n 0 with
 |true=>rfl
 |false=>
  have h0:n≠0:=fun h=>by subst h;cases hn
  rw[cond_false]
  unfold cut
  rw[qgq,qgp,qbK,qbv]
  by_cases h:off+n<=xs.length
  ·rw[ble_iff.2 h,cond_true,if_pos (by simp;omega)]
  ·have:Nat.ble (off+n) xs.length=false:=by
    cases hb:Nat.ble (off+n) xs.length with
    |false=>rfl
    |true=>exact absurd (ble_iff.1 hb) h
   rw[this,cond_false,if_neg (by simp;omega)]
theorem qde {α:Type}(p:α->Bool)(l:List α):qkV p l=l.all p:=by
 induction l with
 |nil=>rfl
 |cons x xs ih=>
  show bF (p x) (qkV p xs) false=_
  rw[ih,List.all_cons,qdB]
  cases p x<;>rfl
theorem qfa:qna=qaF:=by funext v;cases v<;>rfl
theorem qk0:qq1=qaR:=by
 funext v
 cases v<;>first|rfl|(simp only[qq1,qaR,qde,qfa])
theorem qqa (v:zA):awG v=qjK v:=by
 cases v<;>first|rfl|(simp only[awG,qjK,qde,qk0])
theorem qgr {α:Type}(xs:List α)(off:Nat)(ys:List α):over xs off ys=if off+ys.length<=xs.length then some (xs.take off++(ys++xs.drop (off+ys.length))) else none:=by
 unfold over
 rw[qbK,qbv]
 by_cases h:off+ys.length<=xs.length
 ·rw[ble_iff.2 h,cond_true,if_pos h]
 ·have:Nat.ble (off+ys.length) xs.length=false:=by
   cases hb:Nat.ble (off+ys.length) xs.length with
   |false=>rfl
   |true=>exact absurd (ble_iff.1 hb) h
  rw[this,cond_false,if_neg h]
theorem qk1 {α:Type}:∀(ys xs:List α),qq2 ys xs=if ys.length<=xs.length then some (ys++xs.drop ys.length) else none
 |[],xs=>by simp;rfl
 |y::ys,[]=>by rw[if_neg (by simp)];rfl
 |y::ys,x::xs=>by
  show Option.rec (motive:=fun _=>Option (List α)) none (fun t=>some (y::t)) (qq2 ys xs)=_
  rw[qk1 ys xs]
  by_cases h:ys.length<=xs.length
  ·rw[if_pos h,if_pos (by simp;omega)];simp
  ·rw[if_neg h,if_neg (by simp;omega)]
theorem qej {α:Type}(ys:List α):∀(off:Nat) (xs:List α),qam xs off ys=over xs off ys
 |0,xs=>by
  rw[qgr]
  show qq2 ys xs=_
  rw[qk1];simp
 |n+1,[]=>by
  rw[qgr,if_neg (by simp)];rfl
 |n+1,x::xs=>by
  show Option.rec (motive:=fun _=>Option (List α)) none (fun t=>some (x::t)) (qam xs n ys)=_
  rw[qej ys n xs,qgr,qgr]
  by_cases h:n+ys.length<=xs.length
  ·rw[if_pos h,if_pos (by simp;omega)];simp[Nat.add_right_comm]
  ·rw[if_neg h,if_neg (by simp;omega)]
theorem qek:∀(ps:List (Nat×Option Nat×Arg)) (zs:List zA),qjy ps zs=qbD zs .nil ps
 |[],_=>rfl
 |(off,n,x)::ps,zs=>by
  show Option.rec (motive:=fun _=>Option (List zA)) none (fun cs=>Option.rec (motive:=fun _=>Option (List zA)) none (fun zs=>qjy ps zs) (qam zs off cs)) (zA.cells n (evA x .nil))=_
  unfold qbD
  rw[qcM]
  cases zA.cells n (x.ev .nil) with
  |none=>rfl
  |some cs=>
   rw[zap]
   show Option.rec (motive:=fun _=>Option (List zA)) none (fun zs=>qjy ps zs) (qam zs off cs)=_
   rw[qej]
   cases over zs off cs with
   |none=>rfl
   |some zs'=>exact qek ps zs'
theorem qrx (zs:List zA)(ps:List (Nat×Option Nat×Arg)):bd zs ps=pu (.build zs ps):=by
 rw[qmD rfl]
 unfold bd
 rw[qek]
 simp only[qah]
 cases qbD zs .nil ps<;>rfl
theorem qoV (n:Nat)(zs:List zA)(ps:List (Nat×Option Nat×Arg)):qaz n zs ps=pu (.mkr n zs ps):=by
 rw[qmD rfl]
 unfold qaz
 rw[qek]
 simp only[qah]
 cases qbD zs .nil ps<;>rfl
theorem qry (x:zA)(lo hi:Option Arg):ss x lo hi=pu (.sstr (.c x) lo hi):=by
 rw[qmD rfl]
 show _=qhf (.c x) lo hi .nil
 unfold ss qhf
 simp only[Arg.ev]
 split
 ·rename_i s
  rw[qgg]
  show _=(qa1 0 .nil lo).bind _
  cases qa1 0 .nil lo with
  |none=>rfl
  |some a=>
   rw[zap]
   show _=(qa1 (qaM s) .nil hi).bind _
   show Option.rec (motive:=fun _=>Option zA) none _ (qa1 (qaM s) .nil hi)=_
   cases qa1 (qaM s) .nil hi with
   |none=>rfl
   |some b=>
    rw[zap]
    show bF (Nat.ble a b) (bF (Nat.ble b (qaM s)) _ none) none=_
    rw[qdB,qdB]
    cases h1:Nat.ble a b with
    |false=>rfl
    |true=>
     cases h2:Nat.ble b (qaM s) with
     |false=>rfl
     |true=>
      have hab:=ble_iff.1 h1
      have hb:=ble_iff.1 h2
      rw[qgq,qgp,if_pos (by unfold qaM at hb;simp only[zaN];exact Nat.sub_le_sub_right hb a),qbv,qbK]
      rfl
 ·rename_i hx
  first
  |rfl
  |(split
    ·rename_i s2;exact absurd rfl (hx s2)
    ·rfl)
theorem qqb (o:Ins):puF o=pu o:=by
 unfold puF
 split
 ·exact qrx _ _
 ·exact qoV _ _ _
 ·exact qry _ _ _
 ·rfl
theorem qqc (e:Env)(s:ASt)(o:Ins):stF e s o=stV e s o:=by
 unfold stF
 split
 ·rename_i n sz zs ps
  rw[qiZ]
  show qoR n sz zs ps s=((qbD zs .nil ps).bind fun cs=>cond (cs.all qaF) (some (zA.hs s.next 0 n n sz false,{(c0 s) with s:=qav s (.cells cs)})) none).map _
  unfold qoR
  rw[qek]
  cases qbD zs .nil ps with
  |none=>rfl
  |some cs=>
   rw[zap]
   show bF (qkV qna cs) _ none=_
   rw[qdB,qde,qfa]
   cases cs.all qaF<;>rfl
 ·rename_i n x
  rw[qiZ]
  show hbq n x s=((zA.cells n x).bind fun cs=>cond (cs.all qaF) (some (zA.ptr s.next 0,{(c0 s) with s:=qav s (.cells cs)})) none).map _
  unfold hbq
  cases zA.cells n x with
  |none=>rfl
  |some cs=>
   rw[zap]
   show bF (qkV qna cs) _ none=_
   rw[qdB,qde,qfa]
   cases cs.all qaF<;>rfl
 ·rename_i zs
  rw[qiZ]
  show qdD zs s=(cond (zs.all qaF) (some (zA.ptr s.next 0,{(c0 s) with s:=qav s (.cells zs)})) none).map _
  unfold qdD
  rw[qdB,qde,qfa]
  cases zs.all qaF<;>rfl
 ·rfl
theorem qk2 {α:Type}(d:α)(t:Tr α):∀i,qp4 d t i=t.get d i:=by
 induction t with
 |nil=>intro i;rfl
 |node v l r ihl ihr=>
  intro i
  show bF (Nat.beq i 0) v (bF (Nat.beq (i%2) 1) (qp4 d l (i/2)) (qp4 d r (i/2-1)))=_
  unfold Tr.get
  rw[ihl,ihr]
  cases Nat.beq i 0<;>cases Nat.beq (i%2) 1<;>rfl
theorem qi0 (h:Heap)(k:Nat):qmA h k=qaD h k:=by
 unfold qmA
 rw[qk2]
 unfold qaD
 cases Nat.blt k 1048575<;>rfl
theorem qk3 (E:Rom)(s:ASt)(l:Nat):qkU E s l=qb9 E s l:=by
 unfold qkU
 rw[qi0]
 cases h:qaD s.heap l with
 |none=>rfl
 |some o=>
  unfold qb9
  rw[h]
  cases o<;>rfl
theorem qoW (k k':IntKind):qrR k k'=keq k k':=by cases k<;>cases k'<;>rfl
theorem qmE (k:IntKind)(n:Int):qmB k n=qd6 k n:=by
 unfold qmB
 cases k<;>try rfl
 cases n<;>simp only[qd6,qdB]
theorem qqd (o:BinOp)(k:IntKind)(a b:Int):bnI o k a b=(qeo o k a b).map .p:=by
 cases o<;>simp only[bnI,qeo,zaq,qmE]
theorem qrz (o:BinOp)(x y:zA):bn o x y=(qfg o x y).map .p:=by
 unfold bn
 split
 ·rename_i k a
  split
  ·rename_i k' b
   rw[qoW,qdB,qqd]
   simp only[qfg]
   cases keq k k'<;>rfl
  ·rfl
 ·rfl
theorem qel {α β:Type}(x:Option α)(k:α->Option β):Option.rec (motive:=fun _=>Option β) none k x=x.bind k:=by cases x<;>rfl
theorem qng {e:Env}{l:Tr (Nat×List zA)}{s:ASt}{a:zA}{n:Option Nat}{v:zA}(h:ldH e s a n=some v):(qax e.E l s a (cnt n)).bind (zA.ofCells n)=some v:=by
 unfold ldH at h
 split at h
 ·simp only[qel,qe9,qk3] at h
  simp only[qax]
  rw[Option.bind_assoc]
  exact h
 ·simp only[qel,qe9,qkx] at h
  simp only[qax]
  rw[Option.bind_map]
  exact h
 ·simp only[qel,qe9] at h
  exact h
 ·cases h
theorem qgs {F:FL}{f:Tr zA}(hF:∀t v,qap F t=some v->f.get qaf t=v):∀{xs:List Arg} {l:List zA},qjz F xs=some l->xs.map (Arg.ev f)=l
 |[],l,h=>by
  simp only[qjz,zaa] at h
  subst h;rfl
 |x::xs,l,h=>by
  simp only[qjz] at h
  split at h
  ·rename_i v hv
   split at h
   ·rename_i r hr
    simp only[zaa] at h
    subst h
    rw[zaF,qdX hF hv,qgs hF hr]
   ·cases h
  ·cases h
theorem qoX {e:Env}{c c':Cfg}{o:Ins}{v:zA}(hl:qoU o=false)(hr:qbH o=true)(h:qag e c o=some (v,c')):c'=c:=by
 cases o<;>first|(cases hl;done)|(cases hr;done)|skip
 case pcall f args=>
  simp only[qag] at h
  obtain⟨_,h⟩:=qac h
  simp only[zac,zad] at h
  obtain⟨_,_,_,h⟩:=h
  exact h.symm
 case b2s x=>
  simp only[qag,zac,zad] at h
  obtain⟨_,_,_,h⟩:=h
  exact h.symm
 case mlen x=>
  simp only[qag,zac,zad] at h
  obtain⟨_,_,_,h⟩:=h
  exact h.symm
 case look kd ks z ok m k=>
  simp only[qag,zab] at h
  obtain⟨_,_,_,_,h⟩:=h
  obtain⟨_,h⟩:=qac h
  simp only[zac] at h
  obtain⟨r,_,h⟩:=h
  cases r<;>simp only[zad] at h<;>exact h.2.symm
theorem KP.of {loc:Nat}{o:Ins}{c c1:Cfg}(hf:c1.f=c.f)(hrd:c1.rd=c.rd)(hl:∀i,c1.l.has i=c.l.has i)
  (hg:∀i,tb (efI loc o).al i=false->(c1.l.get (0,[]) i).1=(c.l.get (0,[]) i).1)
  (hc:(efI loc o).st=false->∀i,tb (efI loc o).al i=false->c1.l.get (0,[]) i=c.l.get (0,[]) i)(hs:(efI loc o).cs=false->c1.s=c.s):KP (efI loc o) c c1:=
 ⟨fun _ _=>by rw[hf],hg,hc,hs,hrd,fun _=>by rw[hf],hl⟩
theorem KP.same {loc:Nat}{o:Ins}{c:Cfg}{s':ASt}(hs:(efI loc o).cs=false->s'=c.s):KP (efI loc o) c {c with s:=s'}:=
 KP.of rfl rfl (fun _=>rfl) (fun _ _=>rfl) (fun _ _ _=>rfl) hs
theorem qh3 {e:Env}{c:Cfg}{n:Option Nat}{a:Arg}{u:zA}(h:(qax e.E c.l c.s (a.ev c.f) (cnt n)).bind (zA.ofCells n)=some u):qag e c (.load n a)=some (u,c):=by
 simp only[qag]
 simp only[zab] at h
 obtain⟨cs,hcs,hu⟩:=h
 rw[hcs,zap,hu]
 rfl
theorem qqe {loc nt:Nat}{e:Env}{F:FL}{L:LL}{h:HH}{c:Cfg}{o:Ins}{k:KO}{r:zA×ASt}(ag:AG nt F L h c)(hk:opK loc e F L h c.s o k=some r):
  ∃v c1 L1,qag e c o=some (v,c1)/\c1.f=c.f/\c1.h=c.h/\LA L1 c1.l/\k v L1 c1.s=some r/\KP (efI loc o) c c1:=by
 have gen:qoU o=false->(match o.o F with
  |some i=>cnd (qaX o) ((puF i).bind fun v=>k v L c.s) (cnd (qbH o) ((rdV e c.s i).bind fun v=>k v L c.s) (qaa (stF e c.s i) fun v s=>k v L s))
  |none=>none)=some r->∃v c1 L1,qag e c o=some (v,c1)/\c1.f=c.f/\c1.h=c.h/\LA L1 c1.l/\k v L1 c1.s=some r/\KP (efI loc o) c c1:=by
  intro hl hk
  split at hk<;>try (cases hk;done)
  rename_i i hi
  simp only[qaV,qqb,qqc] at hk
  cases hp:qaX o with
  |true=>
   rw[hp] at hk
   simp only[cond_true,zab] at hk
   obtain⟨v,hv,hk⟩:=hk
   obtain⟨h0,h1⟩:=qrw ag.f hp hi
   rw[qmD h0,h1] at hv
   exact⟨v,c,L,by rw[qkX hp,hv];rfl,rfl,rfl,ag.l,hk,KP.refl _ _⟩
  |false=>
   rw[hp] at hk
   simp only[cond_false] at hk
   have con:=qnf (e:=e) (c:=c) ag.f rfl hl hp hi
   cases hr:qbH o with
   |true=>
    rw[hr] at hk
    simp only[cond_true,zab] at hk
    obtain⟨v,hv,hk⟩:=hk
    rw[qkZ,zac] at hv
    obtain⟨⟨v',c'⟩,hv,rfl⟩:=hv
    have h1:=con v' c' hv
    have h2:=qoX hl hr h1
    rw[h2] at h1
    exact⟨v',c,L,h1,rfl,rfl,ag.l,hk,KP.refl _ _⟩
   |false=>
    rw[hr] at hk
    simp only[cond_false,qaa,zab] at hk
    obtain⟨⟨v,s'⟩,hv,hk⟩:=hk
    rw[qiZ,zac] at hv
    obtain⟨⟨v',c'⟩,hv,he⟩:=hv
    simp only[zad] at he
    obtain⟨rfl,rfl⟩:=he
    exact⟨v',{c with s:=c'.s},L,con v' c' hv,rfl,rfl,ag.l,hk,KP.same fun h=>by rw[qp8 hl hp hr] at h;cases h⟩
 have stk:∀s',(efI loc o).cs=true->KP (efI loc o) c {c with s:=s'}:=fun s' hs=>KP.same fun e=>by rw[hs] at e;cases e
 cases o
 case mov x=>
  simp only[opK,qaV] at hk
  split at hk<;>try (cases hk;done)
  rename_i v hv
  refine⟨v,c,L,?_,rfl,rfl,ag.l,hk,KP.refl _ _⟩
  simp only[qag,qah,qdX ag.f hv,zaq]
 case fa off x=>
  simp only[opK,qaV] at hk
  split at hk<;>try (cases hk;done)
  rename_i v hv
  unfold faK at hk
  split at hk<;>try (cases hk;done)
  all_goals (refine⟨_,c,L,?_,rfl,rfl,ag.l,hk,KP.refl _ _⟩;simp only[qag,qah,qdX ag.f hv,zaq])
 case nck x=>
  simp only[opK,qaV] at hk
  split at hk<;>try (cases hk;done)
  rename_i v hv
  unfold qal at hk
  split at hk<;>try (cases hk;done)
  all_goals (refine⟨_,c,L,?_,rfl,rfl,ag.l,hk,KP.refl _ _⟩;simp only[qag,qah,qdX ag.f hv,zaq])
 case alloc i zs=>
  simp only[opK,qaV] at hk
  split at hk<;>try (cases hk;done)
  rename_i p hp
  obtain⟨h1,h2⟩:=ag.l i p hp
  refine⟨_,{c with l:=c.l.set i (p.1+1,zs)},_,?_,rfl,rfl,LA.set ag.l h2 _,hk,KP.of rfl rfl (fun _=>Tr.has_set _ _ _ _) (fun j hj=>?_) (fun _ j hj=>?_) (fun _=>rfl)⟩
  ·simp only[qag,h1]
  ·rw[show({c with l:=c.l.set i (p.1+1,zs)}:Cfg).l=c.l.set i (p.1+1,zs) from rfl,Tr.get_set_ne _ _ _ _ _ (qbh hj)]
  ·rw[show({c with l:=c.l.set i (p.1+1,zs)}:Cfg).l=c.l.set i (p.1+1,zs) from rfl,Tr.get_set_ne _ _ _ _ _ (qbh hj)]
 case alloced i=>
  simp only[opK,qaV] at hk
  split at hk<;>try (cases hk;done)
  rename_i p hp
  obtain⟨h1,h2⟩:=ag.l i p hp
  refine⟨_,c,L,?_,rfl,rfl,ag.l,hk,KP.refl _ _⟩
  simp only[qag,h1]
 case box i n x=>
  simp only[opK,qaV] at hk
  split at hk<;>try (cases hk;done)
  rename_i v hv
  split at hk<;>try (cases hk;done)
  rename_i p hp
  simp only[zab] at hk
  obtain⟨cs,hcs,hk⟩:=hk
  obtain⟨h1,h2⟩:=ag.l i p hp
  refine⟨_,{c with l:=c.l.set i (p.1+1,cs)},_,?_,rfl,rfl,LA.set ag.l h2 _,hk,KP.of rfl rfl (fun _=>Tr.has_set _ _ _ _) (fun j hj=>?_) (fun _ j hj=>?_) (fun _=>rfl)⟩
  ·simp only[qag,h1,qdX ag.f hv,hcs,zap]
  ·rw[show({c with l:=c.l.set i (p.1+1,cs)}:Cfg).l=c.l.set i (p.1+1,cs) from rfl,Tr.get_set_ne _ _ _ _ _ (qbh hj)]
  ·rw[show({c with l:=c.l.set i (p.1+1,cs)}:Cfg).l=c.l.set i (p.1+1,cs) from rfl,Tr.get_set_ne _ _ _ _ _ (qbh hj)]
 case halloced m d=>
  simp only[opK,qaV] at hk
  split at hk<;>try (cases hk;done)
  rename_i l hl
  cases m
  all_goals
   refine⟨_,c,L,?_,rfl,rfl,ag.l,hk,KP.refl _ _⟩
   simp only[qag,ag.h d l hl,zaq,cond_true,cond_false]
 case load n a=>
  simp only[opK,qaV] at hk
  split at hk<;>try (cases hk;done)
  rename_i v hv
  cases hl:qgm loc a with
  |true=>
   rw[hl] at hk
   simp only[cond_true] at hk
   split at hk<;>try (cases hk;done)
   rename_i i g off
   split at hk<;>try (cases hk;done)
   rename_i p hp
   obtain⟨hg,hk⟩:=qac hk
   simp only[zab] at hk
   obtain⟨u,hu,hk⟩:=hk
   obtain⟨h1,h2⟩:=ag.l i p hp
   refine⟨u,c,L,qh3 ?_,rfl,rfl,ag.l,hk,KP.refl _ _⟩
   ·rw[qdX ag.f hv]
    simp only[qax,h1,hg,cond_true]
    unfold ldL at hu
    simp only[qe9] at hu
    cases n with
    |none=>
     simp only at hu
     split at hu<;>try (cases hu;done)
     rename_i w hw
     simp only[zaa] at hu
     subst hu
     rw[show cut p.2 off (cnt none)=some [w] from hw]
     rfl
    |some m=>
     simp only at hu
     split at hu<;>try (cases hu;done)
     rename_i w hw
     simp only[zaa] at hu
     subst hu
     rw[show cut p.2 off (cnt (some m))=some w from hw]
     rfl
  |false=>
   rw[hl] at hk
   simp only[cond_false,zab] at hk
   obtain⟨u,hu,hk⟩:=hk
   refine⟨u,c,L,qh3 ?_,rfl,rfl,ag.l,hk,KP.refl _ _⟩
   ·rw[qdX ag.f hv]
    exact qng hu
 case store n a x=>
  simp only[opK,qaV] at hk
  split at hk<;>try (cases hk;done)
  rename_i v hv
  split at hk<;>try (cases hk;done)
  rename_i y hy
  simp only[zab] at hk
  obtain⟨cs,hcs,hk⟩:=hk
  cases hl:qgm loc a with
  |true=>
   rw[hl] at hk
   simp only[cond_true] at hk
   split at hk<;>try (cases hk;done)
   rename_i i g off
   split at hk<;>try (cases hk;done)
   rename_i p hp
   obtain⟨hg,hk⟩:=qac hk
   simp only[zab] at hk
   obtain⟨new,hnew,hk⟩:=hk
   rw[qej] at hnew
   obtain⟨h1,h2⟩:=ag.l i p hp
   have hgp:g=p.1:=beq_iff.1 hg
   refine⟨qaf,{c with l:=c.l.set i (p.1,new)},_,?_,rfl,rfl,LA.set ag.l h2 _,hk,KP.of rfl rfl (fun _=>Tr.has_set _ _ _ _) (fun j hj=>?_) (fun hst=>?_) (fun _=>rfl)⟩
   ·simp only[qag,qdX ag.f hv,qdX ag.f hy,hcs,zap,qbr,h1,hg,cond_true,hnew,zaq]
   ·rw[show({c with l:=c.l.set i (p.1,new)}:Cfg).l=c.l.set i (p.1,new) from rfl,Tr.get_set _ _ _ _ _ h2]
    split
    ·rename_i e;subst e;rw[h1]
    ·rfl
   ·simp only[efI,qln,hl,cond_true,reduceCtorEq] at hst
  |false=>
   rw[hl] at hk
   simp only[cond_false,zab] at hk
   obtain⟨s',hs',hk⟩:=hk
   refine⟨qaf,{c with s:=s'},L,?_,rfl,rfl,ag.l,hk,stk _ (by simp only[efI,qln,hl,cond_false])⟩
   have:qbr c v cs=some {c with s:=s'}:=by
    unfold stH at hs'
    split at hs'<;>try (cases hs';done)
    rename_i l o
    simp only[qel,zab] at hs'
    obtain⟨ho,hho,hs'⟩:=hs'
    rw[qi0] at hho
    split at hs'<;>try (cases hs';done)
    rename_i old
    rw[qdB,qde,qfa] at hs'
    obtain⟨ha,hs'⟩:=qac hs'
    simp only[zab,qej,zaa] at hs'
    obtain⟨new,hn,rfl⟩:=hs'
    simp only[qbr,hho,ha,cond_true,hn,zap,qaI,zaq]
   simp only[qag,qdX ag.f hv,qdX ag.f hy,hcs,zap,this,zaq]
 case iaA n sz x i=>
  simp only[opK,qaV] at hk
  split at hk<;>try (cases hk;done)
  rename_i v hv
  split at hk<;>try (cases hk;done)
  rename_i j hj
  simp only[qdd,qaV,zab] at hk
  obtain⟨m,hm,hk⟩:=hk
  obtain⟨hb,hk⟩:=qac hk
  unfold faK at hk
  split at hk<;>try (cases hk;done)
  all_goals (refine⟨_,c,L,?_,rfl,rfl,ag.l,hk,KP.refl _ _⟩;simp only[qag,qah,qdX ag.f hv,qdX ag.f hj,hm,zap,hb,cond_true,zaq])
 case bin o x y=>
  simp only[opK,q2] at hk
  split at hk<;>try (cases hk;done)
  rename_i v hv
  split at hk<;>try (cases hk;done)
  rename_i u hu
  simp only[zab] at hk
  obtain⟨z,hz,hk⟩:=hk
  rw[qrz] at hz
  refine⟨z,c,L,?_,rfl,rfl,ag.l,hk,KP.refl _ _⟩
  have:qah c.f (.bin o x y)=some z:=by simp only[qah,qdX ag.f hv,qdX ag.f hu];exact hz
  simp only[qag,this,zaq]
 case len st x=>
  simp only[opK,q1] at hk
  split at hk<;>try (cases hk;done)
  rename_i v hv
  simp only[zab] at hk
  obtain⟨z,hz,hk⟩:=hk
  refine⟨z,c,L,?_,rfl,rfl,ag.l,hk,KP.refl _ _⟩
  have e1:=qdX ag.f hv
  subst e1
  exact congrArg (Option.map fun v=>(v,c)) hz
 case ext x i=>
  simp only[opK,q1] at hk
  split at hk<;>try (cases hk;done)
  rename_i v hv
  simp only[zab] at hk
  obtain⟨z,hz,hk⟩:=hk
  refine⟨z,c,L,?_,rfl,rfl,ag.l,hk,KP.refl _ _⟩
  have e1:=qdX ag.f hv
  subst e1
  exact congrArg (Option.map fun v=>(v,c)) hz
 case fld o n x=>
  simp only[opK,q1] at hk
  split at hk<;>try (cases hk;done)
  rename_i v hv
  simp only[zab] at hk
  obtain⟨z,hz,hk⟩:=hk
  refine⟨z,c,L,?_,rfl,rfl,ag.l,hk,KP.refl _ _⟩
  have e1:=qdX ag.f hv
  subst e1
  exact congrArg (Option.map fun v=>(v,c)) hz
 case not x=>
  simp only[opK,q1] at hk
  split at hk<;>try (cases hk;done)
  rename_i v hv
  simp only[zab] at hk
  obtain⟨z,hz,hk⟩:=hk
  refine⟨z,c,L,?_,rfl,rfl,ag.l,hk,KP.refl _ _⟩
  have e1:=qdX ag.f hv
  subst e1
  exact congrArg (Option.map fun v=>(v,c)) hz
 case cvt kd x=>
  simp only[opK,q1] at hk
  split at hk<;>try (cases hk;done)
  rename_i v hv
  simp only[zab] at hk
  obtain⟨z,hz,hk⟩:=hk
  refine⟨z,c,L,?_,rfl,rfl,ag.l,hk,KP.refl _ _⟩
  have e1:=qdX ag.f hv
  subst e1
  exact congrArg (Option.map fun v=>(v,c)) hz
 case ia sz x i=>
  simp only[opK,q2] at hk
  split at hk<;>try (cases hk;done)
  rename_i v hv
  split at hk<;>try (cases hk;done)
  rename_i u hu
  simp only[zab] at hk
  obtain⟨z,hz,hk⟩:=hk
  refine⟨z,c,L,?_,rfl,rfl,ag.l,hk,KP.refl _ _⟩
  have e1:=qdX ag.f hv
  have e2:=qdX ag.f hu
  subst e1;subst e2
  exact congrArg (Option.map fun v=>(v,c)) hz
 case idx x i=>
  simp only[opK,q2] at hk
  split at hk<;>try (cases hk;done)
  rename_i v hv
  split at hk<;>try (cases hk;done)
  rename_i u hu
  simp only[zab] at hk
  obtain⟨z,hz,hk⟩:=hk
  refine⟨z,c,L,?_,rfl,rfl,ag.l,hk,KP.refl _ _⟩
  have e1:=qdX ag.f hv
  have e2:=qdX ag.f hu
  subst e1;subst e2
  exact congrArg (Option.map fun v=>(v,c)) hz
 case call g xs=>
  simp only[opK] at hk
  split at hk<;>try (cases hk;done)
  rename_i l hl
  simp only[qaa,zab] at hk
  obtain⟨⟨v,s'⟩,hv,hk⟩:=hk
  refine⟨v,{c with s:=s'},L,?_,rfl,rfl,ag.l,hk,stk _ rfl⟩
  have hv':e.call g l c.s=some (v,s'):=hv
  simp only[qag,qgs ag.f hl,hv',zaq]
 case callv g xs=>
  simp only[opK] at hk
  split at hk<;>try (cases hk;done)
  rename_i gv hg
  split at hk<;>try (cases hk;done)
  rename_i l hl
  simp only[qaa,zab] at hk
  obtain⟨⟨v,s'⟩,hv,hk⟩:=hk
  refine⟨v,{c with s:=s'},L,?_,rfl,rfl,ag.l,hk,stk _ rfl⟩
  have hv':e.callv gv l c.s=some (v,s'):=hv
  simp only[qag,qdX ag.f hg,qgs ag.f hl,hv',zaq]
 all_goals exact gen rfl hk
end Go.AI
namespace Go.AI
theorem put_s (c:Cfg)(d:Option Nat)(v:zA):(c.put d v).s=c.s:=by cases d<;>rfl
theorem put_l (c:Cfg)(d:Option Nat)(v:zA):(c.put d v).l=c.l:=by cases d<;>rfl
theorem put_h (c:Cfg)(d:Option Nat)(v:zA):(c.put d v).h=c.h:=by cases d<;>rfl
theorem qnh {nt:Nat}{F F':FL}{L:LL}{h:HH}{c:Cfg}{d:Option Nat}{v:zA}(hp:qjA nt d v F=some F')(ag:AG nt F L h c):AG nt F' L h (c.put d v):=by
 cases d with
 |none=>
  simp only[qjA,zaa] at hp
  subst hp
  exact ag
 |some t=>
  simp only[qjA,qaV] at hp
  obtain⟨ht,hp⟩:=qac hp
  simp only[zaa] at hp
  subst hp
  have hh:=ag.hf t (blt_iff.1 ht)
  refine⟨fun u x hx=>?_,fun i p hi=>ag.l i p hi,fun d l hd=>ag.h d l hd,fun u hu=>?_⟩
  ·rw[qaj] at hx
   show(c.f.set t v).get qaf u=x
   split at hx
   ·rename_i e
    simp only[zaa] at hx
    subst e;subst hx
    exact Tr.get_set_eq _ _ _ _ hh
   ·rename_i e
    rw[Tr.get_set_ne _ _ _ _ _ e]
    exact ag.f u x hx
  ·show(c.f.set t v).has u=true
   rw[Tr.has_set]
   exact ag.hf u hu
theorem qni (c:Cfg)(d:Option Nat)(v:zA):KP ⟨qfK d,0,false,false⟩ c (c.put d v):=by
 cases d with
 |none=>exact KP.refl _ _
 |some t=>exact⟨fun u hu=>Tr.get_set_ne _ _ _ _ _ (qbh hu),fun _ _=>rfl,fun _ _ _=>rfl,fun _=>rfl,rfl,fun _=>Tr.has_set _ _ _ _,fun _=>rfl⟩
theorem AG.known {nt:Nat}{F:FL}{L:LL}{h:HH}{c:Cfg}{t:Nat}{v:zA}(ag:AG nt F L h c)(hv:qap F t=some v):AG nt ((t,v)::F) L h c:=by
 refine⟨fun u x hx=>?_,ag.l,ag.h,ag.hf⟩
 rw[qaj] at hx
 split at hx
 ·rename_i e
  simp only[zaa] at hx
  subst e;subst hx
  exact ag.f _ _ hv
 ·exact ag.f u x hx
theorem qrA {loc nt:Nat}{e:Env}{F:FL}{L:LL}{h:HH}{c:Cfg}{o:COp}{kk:FL->LL->ASt->Res}{r:zA×ASt}(ag:AG nt F L h c)
  (hk:opK loc e F L h c.s o.op (fun v L' s'=>match qjA nt o.dst v F with
   |some F=>kk F L' s'
   |none=>none)=some r):
  ∃c1 F' L',(qag e c o.op).map (fun(v,c)=>c.put o.dst v)=some c1/\AG nt F' L' h c1/\kk F' L' c1.s=some r/\KP (qln loc o) c c1/\c1.h=c.h:=by
 obtain⟨v,c1,L1,h1,h2,h3,h4,h5,h6⟩:=qqe ag hk
 split at h5<;>try (cases h5;done)
 rename_i F' hF
 have ag1:AG nt F L1 h c1:=⟨fun t v ht=>by rw[h2];exact ag.f t v ht,h4,fun d l hd=>by rw[h3];exact ag.h d l hd,fun t ht=>by rw[h2];exact ag.hf t ht⟩
 refine⟨c1.put o.dst v,F',L1,?_,qnh hF ag1,by rw[put_s];exact h5,?_,by rw[put_h,h3]⟩
 ·rw[h1];rfl
 ·rw[qkY]
  exact h6.left.trans (qni _ _ _).right
theorem qrB {loc nt:Nat}{F:FL}{L:LL}{h:HH}{c:Cfg}{o:COp}{kk:FL->Res}{r:zA×ASt}(ag:AG nt F L h c)
  (hk:(match qjA nt o.dst qaf F with
   |some F=>kk F
   |none=>none)=some r):∃F',AG nt F' L h (c.put o.dst qaf)/\kk F'=some r/\KP (qln loc o) c (c.put o.dst qaf):=by
 split at hk<;>try (cases hk;done)
 rename_i F' hF
 refine⟨F',qnh hF ag,hk,?_⟩
 rw[qkY]
 exact(qni _ _ _).right
def TA (tr:TrL)(cs:List Cfg):Prop:=tr.length=cs.length/\∀(j:Nat) p c,tr[j]? =some p->cs[j]? =some c->LA p.1 c.l/\p.2=c.s
theorem TA.cons {tr:TrL}{cs:List Cfg}(h:TA tr cs){L:LL}{c:Cfg}(hL:LA L c.l):TA ((L,c.s)::tr) (c::cs):=by
 refine⟨by simp[h.1],fun j p d hp hd=>?_⟩
 cases j with
 |zero=>
  simp only[zak,zaa] at hp hd
  subst hp;subst hd
  exact⟨hL,rfl⟩
 |succ j=>exact h.2 j p d (by simpa using hp) (by simpa using hd)
theorem qmF {U t:Nat}{d:Option Nat}(h:tb (qh0 U d) t=true):tb U t=true/\d≠some t:=by
 cases d with
 |none=>exact⟨h,fun e=>by cases e⟩
 |some u=>
  simp only[qh0] at h
  have:tb (qe4 U (bit u)) t=(tb U t&&!tb (bit u) t):=by
   rw[qe8,qe8,qe8]
   unfold qe4
   show(U^^^(U&&&bit u)).testBit t=_
   rw[Nat.testBit_xor,Nat.testBit_and]
   cases U.testBit t<;>cases(bit u).testBit t<;>rfl
  rw[this,zae,zaC,qiX] at h
  exact⟨h.1,fun e=>by cases e;simp at h⟩
theorem qk4 (c:Cfg){d:Option Nat}{t:Nat}(h:d≠some t)(v:zA):(c.put d v).f.get qaf t=c.f.get qaf t:=by
 cases d with
 |none=>rfl
 |some u=>exact Tr.get_set_ne _ _ _ _ _ (fun e=>h (by rw[e]))
theorem qmG (c:Cfg)(t:Nat):(c.put (some t) qaf).f.get qaf t=qaf:=by
 cases h:c.f.has t with
 |true=>exact Tr.get_set_eq _ _ _ _ h
 |false=>
  show(c.f.set t qaf).get qaf t=qaf
  refine Classical.byContradiction fun h2=>?_
  have:=qcV (t:=c.f.set t qaf) (i:=t) (d:=qaf) rfl h2
  rw[Tr.has_set,h] at this
  cases this
theorem qqf (loc:Nat)(o:COp):(qln loc o).d=qfK o.dst:=by
 obtain⟨d,g,op⟩:=o
 cases op<;>try rfl
 case store n a x=>simp only[qln];cases qgm loc a<;>rfl
theorem qdY {loc nt:Nat}{e:Env}:∀(ops:List COp) {U:Nat} {F:FL} {L:LL} {h:HH} {c:Cfg} {k:FL->LL->ASt->TrL->Res} {r:zA×ASt},AG nt F L h c->(∀t,tb U t=true->c.f.get qaf t=qaf)->qh1 loc nt e ops U F L h c.s k=some r->
  ∃cN tr F1 L1 trl,qdn e ops c=some cN/\qbb e ops c=some tr/\qbq c tr=cN/\(∀d,qbq d tr=cN)/\AG nt F1 L1 h cN/\k F1 L1 cN.s trl=some r/\KP (qhl loc ops) c cN/\cN.h=c.h/\TA trl tr
 |[],U,F,L,h,c,k,r,ag,hU,hk=>by
  simp only[qh1] at hk
  refine⟨c,[c],F,L,[(L,c.s)],rfl,rfl,rfl,fun _=>rfl,ag,hk,KP.refl _ _,rfl,rfl,fun j p d hp hd=>?_⟩
  cases j with
  |zero=>
   simp only[zak,zaa] at hp hd
   subst hp;subst hd
   exact⟨ag.l,rfl⟩
  |succ j=>simp at hp
 |o::rr,U,F,L,h,c,k,r,ag,hU,hk=>by
  have go:∀{F:FL},AG nt F L h c->opK loc e F L h c.s o.op (fun v L' s'=>match qjA nt o.dst v F with
     |some F=>qh1 loc nt e rr (qh0 U o.dst) F L' h s' fun F1 L1 s1 tr=>k F1 L1 s1 ((L,c.s)::tr)
     |none=>none)=some r->wanted c.f o.guard=some true->
    ∃cN tr F1 L1 trl,qdn e (o::rr) c=some cN/\qbb e (o::rr) c=some tr/\qbq c tr=cN/\(∀d,qbq d tr=cN)/\AG nt F1 L1 h cN/\k F1 L1 cN.s trl=some r/\KP (qhl loc (o::rr)) c cN/\cN.h=c.h/\TA trl tr:=by
   intro F ag hk hw
   obtain⟨c1,F',L',h1,h2,h3,h4,h5⟩:=qrA ag hk
   have hU':∀t,tb (qh0 U o.dst) t=true->c1.f.get qaf t=qaf:=by
    intro t ht
    obtain⟨k1,k2⟩:=qmF ht
    rw[h4.f t]
    ·exact hU t k1
    ·rw[qqf]
     cases hd:o.dst with
     |none=>exact qdW t
     |some u=>
      show tb (bit u) t=false
      rw[qiX]
      exact decide_eq_false fun e=>k2 (by rw[hd,e])
   obtain⟨cN,tr,F1,L1,trl,k1,k2,k3,k3',k4,k5,k6,k7,k8⟩:=qdY rr h2 hU' h3
   have hop:qht e c o=some c1:=by
    unfold qht
    rw[hw,zap,cond_true]
    exact h1
   refine⟨cN,c::tr,F1,L1,(L,c.s)::trl,?_,?_,?_,?_,k4,k5,?_,k7.trans h5,k8.cons ag.l⟩
   ·rw[qdn,hop,zap,k1]
   ·rw[qbb,hop,zap,k2];rfl
   ·exact k3' c
   ·intro d;exact k3' c
   ·exact h4.left.trans k6.right
  have skip:∀{F:FL},AG nt F L h c->(match qjA nt o.dst qaf F with
     |some F=>qh1 loc nt e rr (zaQ U (qfK o.dst)) F L h c.s fun F1 L1 s1 tr=>k F1 L1 s1 ((L,c.s)::tr)
     |none=>none)=some r->wanted c.f o.guard=some false->
    ∃cN tr F1 L1 trl,qdn e (o::rr) c=some cN/\qbb e (o::rr) c=some tr/\qbq c tr=cN/\(∀d,qbq d tr=cN)/\AG nt F1 L1 h cN/\k F1 L1 cN.s trl=some r/\KP (qhl loc (o::rr)) c cN/\cN.h=c.h/\TA trl tr:=by
   intro F ag hk hw
   obtain⟨F',h2,h3,h4⟩:=qrB (loc:=loc) ag hk
   rw[<-put_s c o.dst qaf] at h3
   have hU':∀t,tb (zaQ U (qfK o.dst)) t=true->(c.put o.dst qaf).f.get qaf t=qaf:=by
    intro t ht
    by_cases e:o.dst=some t
    ·rw[e];exact qmG c t
    ·rw[qk4 _ e]
     rw[qho,zaG] at ht
     rcases ht with ht|ht
     ·exact hU t ht
     ·cases hd:o.dst with
      |none=>rw[hd] at ht;simp only[qfK,qdW] at ht;cases ht
      |some u=>
       rw[hd] at ht
       simp only[qfK,qiX,decide_eq_true_eq] at ht
       exact absurd (by rw[hd,ht]) e
   obtain⟨cN,tr,F1,L1,trl,k1,k2,k3,k3',k4,k5,k6,k7,k8⟩:=qdY rr h2 hU' h3
   have hop:qht e c o=some (c.put o.dst qaf):=by
    unfold qht
    rw[hw,zap,cond_false]
   refine⟨cN,c::tr,F1,L1,(L,c.s)::trl,?_,?_,?_,?_,k4,by rw[put_s] at k5;exact k5,?_,k7.trans (put_h _ _ _),k8.cons ag.l⟩
   ·rw[qdn,hop,zap,k1]
   ·rw[qbb,hop,zap,k2];rfl
   ·exact k3' c
   ·intro d;exact k3' c
   ·exact h4.left.trans k6.right
  rw[qh1] at hk
  cases hg:o.guard with
  |none=>
   rw[hg] at hk
   exact go ag hk (by rw[hg];rfl)
  |some g=>
   obtain⟨t,b⟩:=g
   rw[hg] at hk
   simp only[qaV] at hk
   cases hu:tb U t with
   |true=>
    rw[hu] at hk
    simp only[cond_true] at hk
    refine skip ag hk ?_
    rw[hg]
    simp only[wanted,hU t hu]
    rfl
   |false=>
   rw[hu] at hk
   simp only[cond_false] at hk
   split at hk<;>try (cases hk;done)
   rename_i gv hgv
   obtain⟨x,hcv,hk⟩:=qe7 hk
   subst hcv
   have hx:c.f.get qaf t=.p (.bool x):=ag.f t _ hgv
   have hw:wanted c.f o.guard=some (cond x b (!b)):=by
    rw[hg]
    simp only[wanted,hx]
   have ag':=ag.known hgv
   cases x with
   |true=>
    simp only[cond_true] at hk hw
    cases b with
    |true=>exact go ag' hk hw
    |false=>exact skip ag' hk hw
   |false=>
    simp only[cond_false] at hk hw
    cases b with
    |true=>exact skip ag' hk hw
    |false=>exact go ag' hk hw
end Go.AI
namespace Go.AI
theorem qbd {α T:Type}(z:α):∀(k:Nat) (g:List α->T) (l:List α),l.length=k->qgn z k (qjH k g) l=g l
 |0,g,l,h=>by
  have:l=[]:=zax.1 h
  subst this;rfl
 |k+1,g,[],h=>by cases h
 |k+1,g,v::l,h=>by
  show qgn z k (qjH k fun l=>g (v::l)) l=g (v::l)
  exact qbd z k _ l (by simpa using h)
theorem qmH (a b i:Nat):tb (qe4 a b) i=(tb a i&&!tb b i):=by
 rw[qe8,qe8,qe8]
 unfold qe4
 show(a^^^(a&&&b)).testBit i=_
 rw[Nat.testBit_xor,Nat.testBit_and]
 cases a.testBit i<;>cases b.testBit i<;>rfl
theorem qh4 {F1 F0:FL}:∀{vs:List Nat} {xs:List zA},qiV F1 vs=some xs->xs.length=vs.length/\∀t v,qap (qoO vs xs F0) t=some v->qap F1 t=some v\/qap F0 t=some v
 |[],xs,h=>by
  simp only[qiV,zaa] at h
  subst h
  exact⟨rfl,fun t v h=> .inr h⟩
 |u::r,xs,h=>by
  simp only[qiV] at h
  split at h<;>try (cases h;done)
  rename_i x hx
  split at h<;>try (cases h;done)
  rename_i l hl
  simp only[zaa] at h
  subst h
  obtain⟨h1,h2⟩:=qh4 (F0:=F0) hl
  refine⟨by simp[h1],fun t v hv=>?_⟩
  simp only[qoO] at hv
  rw[qaj] at hv
  split at hv
  ·rename_i e
   simp only[zaa] at hv
   subst e;subst hv
   exact .inl hx
  ·exact h2 t v hv
theorem qh5 {L1:LL}:∀{gl gs:List Nat},qhw L1 gl=some gs->gs.length=gl.length/\∀i g,qap (qoP gl gs) i=some g->∃p,qap L1 i=some p/\p.1=g
 |[],gs,h=>by
  simp only[qhw,zaa] at h
  subst h
  exact⟨rfl,fun i g h=>by cases h⟩
 |u::r,gs,h=>by
  simp only[qhw] at h
  split at h<;>try (cases h;done)
  rename_i x hx
  split at h<;>try (cases h;done)
  rename_i l hl
  simp only[zaa] at h
  subst h
  obtain⟨h1,h2⟩:=qh5 hl
  refine⟨by simp[h1],fun i g hv=>?_⟩
  simp only[qoP] at hv
  rw[qaj] at hv
  split at hv
  ·rename_i e
   simp only[zaa] at hv
   subst e
   exact⟨x,hx,hv⟩
  ·exact h2 i g hv
theorem qh6 {L L1:LL}{al:Nat}{gm:List (Nat×Nat)}:∀{cl:List Nat} {cs:List (List zA)},qhx L1 cl=some cs->cs.length=cl.length/\
  ∀i p,qap (qlo L al gm cl cs) i=some p->(∃q,qap L1 i=some q/\p.2=q.2)/\((tb al i=true/\qap gm i=some p.1)\/(tb al i=false/\∃q,qap L i=some q/\q.1=p.1))
 |[],cs,h=>by
  simp only[qhx,zaa] at h
  subst h
  exact⟨rfl,fun i p h=>by cases h⟩
 |u::r,cs,h=>by
  simp only[qhx] at h
  split at h<;>try (cases h;done)
  rename_i x hx
  split at h<;>try (cases h;done)
  rename_i l hl
  simp only[zaa] at h
  subst h
  obtain⟨h1,h2⟩:=qh6 (L:=L) (al:=al) (gm:=gm) hl
  refine⟨by simp[h1],fun i p hv=>?_⟩
  simp only[qlo] at hv
  cases hb:tb al u with
  |true=>
   rw[hb] at hv
   simp only[cond_true] at hv
   split at hv
   ·rename_i g hg
    rw[qaj] at hv
    split at hv
    ·rename_i e
     simp only[zaa] at hv
     subst e;subst hv
     exact⟨⟨x,hx,rfl⟩,.inl ⟨hb,hg⟩⟩
    ·exact h2 i p hv
   ·exact h2 i p hv
  |false=>
   rw[hb] at hv
   simp only[cond_false] at hv
   split at hv
   ·rename_i q hq
    rw[qaj] at hv
    split at hv
    ·rename_i e
     simp only[zaa] at hv
     subst e;subst hv
     exact⟨⟨x,hx,rfl⟩,.inr ⟨hb,q,hq,rfl⟩⟩
    ·exact h2 i p hv
   ·exact h2 i p hv
theorem qem {m:Nat}{F:FL}:∀{ts:List Nat} {t:Nat} {v:zA},qap (qgo m F ts) t=some v->tb m t=true/\qap F t=some v
 |[],t,v,h=>by cases h
 |u::r,t,v,h=>by
  simp only[qgo] at h
  split at h
  ·rename_i x hx
   cases hb:tb m u with
   |true=>
    rw[hb] at h
    simp only[cond_true] at h
    rw[qaj] at h
    split at h
    ·rename_i e
     simp only[zaa] at h
     subst e;subst h
     exact⟨hb,hx⟩
    ·exact qem h
   |false=>
    rw[hb] at h
    exact qem h
  ·exact qem h
theorem qgt {al:Nat}:∀{L:LL} {i:Nat} {p:Nat×List zA},qap (qhm al L) i=some p->tb al i=false/\qap L i=some p
 |[],i,p,h=>by cases h
 |(j,q)::r,i,p,h=>by
  simp only[qhm] at h
  cases hb:tb al j with
  |true=>
   rw[hb] at h
   simp only[cond_true] at h
   obtain⟨h1,h2⟩:=qgt h
   refine⟨h1,?_⟩
   rw[qaj,if_neg (fun e=>by subst e;rw[hb] at h1;cases h1)]
   exact h2
  |false=>
   rw[hb] at h
   simp only[cond_false] at h
   rw[qaj] at h⊢
   split at h
   ·rename_i e
    subst e
    rw[if_pos rfl]
    exact⟨hb,h⟩
   ·rename_i e
    rw[if_neg e]
    exact qgt h
theorem qhp {α:Type}:∀{l m:List (Nat×α)} {n:Nat} {v:α},qap (l++m) n=some v->qap l n=some v\/qap m n=some v
 |[],m,n,v,h=> .inr h
 |(k,x)::r,m,n,v,h=>by
  rw[List.cons_append,qaj] at h
  rw[qaj]
  split at h
  ·rename_i e
   rw[if_pos e]
   exact .inl h
  ·rename_i e
   rw[if_neg e]
   exact qhp h
theorem qk5 {nt:Nat}{ef:Ef}{lv:Nat}{F F1:FL}{L L1:LL}{h h1:HH}{c c1:Cfg}{vs ts gl cl:List Nat}{xs:List zA}{gs:List Nat}{cs:List (List zA)}(ag:AG nt F L h c)(ag1:AG nt F1 L1 h1 c1)(kp:KP ef c c1)
  (hx:qiV F1 vs=some xs)(hg:qhw L1 gl=some gs)(hc:qhx L1 cl=some cs):
  AG nt (qoO vs xs (qgo (qe4 lv ef.d) F ts)) (qlo L ef.al (qoP gl gs) cl cs++cond ef.st [] (qhm ef.al L)) [] c1:=by
 refine⟨fun t v hv=>?_,fun i p hp=>?_,fun d l hd=>(by cases hd),ag1.hf⟩
 ·rcases(qh4 hx).2 t v hv with h|h
  ·exact ag1.f t v h
  ·obtain⟨h2,h3⟩:=qem h
   rw[qmH,zae,zaC] at h2
   rw[kp.f t h2.2]
   exact ag.f t v h3
 ·rcases qhp hp with h|h
  ·obtain⟨⟨q,hq,e⟩,h2⟩:=(qh6 hc).2 i p h
   obtain⟨h3,h4⟩:=ag1.l i q hq
   refine⟨?_,h4⟩
   have:p.1=q.1:=by
    rcases h2 with⟨_,h2⟩|⟨h2,q',hq',e'⟩
    ·obtain⟨p',hp',e'⟩:=(qh5 hg).2 i _ h2
     rw[hq] at hp'
     cases hp'
     exact e'.symm
    ·rw[<-e',<-h3,kp.g i h2,(ag.l i q' hq').1]
   rw[h3]
   exact Prod.ext this.symm e.symm
  ·cases hs:ef.st with
   |true=>rw[hs] at h;cases h
   |false=>
    rw[hs] at h
    simp only[cond_false] at h
    obtain⟨h2,h3⟩:=qgt h
    obtain⟨h4,h5⟩:=ag.l i p h3
    exact⟨by rw[kp.l hs i h2,h4],by rw[kp.hl];exact h5⟩
theorem qhq {ef:Ef}{c c1:Cfg}(kp:KP ef c c1){T:Type}(g:ASt->T):qo6 ef.cs (qq0 c.s ef.cs g) c1.s=g c1.s:=by
 cases h:ef.cs with
 |true=>rfl
 |false=>
  show g c.s=g c1.s
  rw[kp.s h]
theorem qen {nt nl:Nat}{ef:Ef}{lv:Nat}{F:FL}{L:LL}{h:HH}{c:Cfg}{kn:KN}{body:KN->Res}{r:zA×ASt}(ag:AG nt F L h c)(hk:qjB nt nl ef lv F L c.s kn body=some r):
  ∃j:KN,body j=some r/\∀{F1:FL} {L1:LL} {h1:HH} {c1:Cfg} {r':zA×ASt},AG nt F1 L1 h1 c1->KP ef c c1->j F1 L1 h1 c1.s=some r'->∃F2 L2,AG nt F2 L2 [] c1/\kn F2 L2 [] c1.s=some r':=by
 unfold qjB at hk
 simp only[jn] at hk
 refine⟨_,hk,?_⟩
 intro F1 L1 h1 c1 r' ag1 kp hj
 split at hj<;>try (cases hj;done)
 rename_i xs hx
 split at hj<;>try (cases hj;done)
 rename_i gs hg
 split at hj<;>try (cases hj;done)
 rename_i cs hc
 rw[qbd _ _ _ _ (qh4 (F0:=[]) hx).1,qbd _ _ _ _ (qh5 hg).1,qbd _ _ _ _ (qh6 (L:=[]) (al:=0) (gm:=[]) hc).1,qhq kp] at hj
 exact⟨_,_,qk5 ag ag1 kp hx hg hc,hj⟩
end Go.AI
namespace Go.AI
theorem qcX {tr:TrL}{cs:List Cfg}(h:TA tr cs){j:Nat}{p:LL×ASt}(hp:qdh tr j=some p):∃c,qdh cs j=some c/\LA p.1 c.l/\p.2=c.s:=by
 rw[qbs] at hp
 have hj:j<tr.length:=by
  rcases Nat.lt_or_ge j tr.length with h|h
  ·exact h
  ·rw[List.getElem?_eq_none h] at hp;cases hp
 obtain⟨c,hc⟩:∃c,cs[j]? =some c:=⟨cs[j]'(by rw[<-h.1];exact hj),zai _⟩
 obtain⟨h1,h2⟩:=h.2 j p c hp hc
 exact⟨c,by rw[qbs,hc],h1,h2⟩
theorem qmI {e:Env}{L:LL}{c:Cfg}(hL:LA L c.l){a:zA}{n:Nat}{cs:List zA}(h:qkW e L c.s a n=some cs):qax e.E c.l c.s a n=some cs:=by
 unfold qkW at h
 split at h
 ·rename_i i g off
  split at h<;>try (cases h;done)
  rename_i p hp
  obtain⟨h1,_⟩:=hL i p hp
  simp only[qax,h1]
  exact h
 ·exact h
 ·cases h
theorem qnj {e:Env}{L:LL}{c:Cfg}(hL:LA L c.l){a:zA}{n:Option Nat}{v:zA}(h:ldC n (qkW e L c.s a (cnt n))=some v):(qax e.E c.l c.s a (cnt n)).bind (zA.ofCells n)=some v:=by
 unfold ldC at h
 split at h<;>try (cases h;done)
 rename_i cs hcs
 rw[qmI hL hcs]
 exact h
theorem qk6 {e:Env}{f:Tr zA}{n:Option Nat}{a:Arg}{c:Cfg}{v:zA}(h:(qax e.E c.l c.s (a.ev f) (cnt n)).bind (zA.ofCells n)=some v):rdv e f (.load n a) c.l c.s=some v:=by
 unfold rdv
 rw[qh3 (c:=⟨f,c.l,[],none,c.s⟩) h]
 rfl
theorem qfb {a b:Option zA}(h:qcg a b=true):∃x y,a=some x/\b=some y:=by
 unfold qcg at h
 split at h
 ·exact⟨_,_,rfl,rfl⟩
 ·cases h
theorem qqg {e:Env}{tr:TrL}{cs:List Cfg}(h:TA tr cs){f:Tr zA}{a:Arg}{v:zA}(hv:a.ev f=v){n:Option Nat}{b:Bool}{j:Nat}(hk:okJ e tr v n b j=true):b=true\/qgB e cs f (.load n a) j=true:=by
 unfold okJ at hk
 rw[zaG] at hk
 rcases hk with hk|hk
 ·exact .inl hk
 ·right
  split at hk<;>try (cases hk;done)
  rename_i p hp
  split at hk<;>try (cases hk;done)
  rename_i p' hp'
  obtain⟨c,hc,hl,hs⟩:=qcX h hp
  obtain⟨c',hc',hl',hs'⟩:=qcX h hp'
  unfold qgB
  rw[hc,hc']
  simp only
  rw[hs,hs'] at hk
  obtain⟨x,y,hx,hy⟩:=qfb hk
  rw[hx,hy] at hk
  subst hv
  rw[qk6 (qnj hl hx),qk6 (qnj hl' hy)]
  exact hk
theorem qnk {e:Env}{tr:TrL}{cs:List Cfg}(h:TA tr cs){f:Tr zA}{o i:Ins}(key:∀{c:Cfg} {v:zA},rdV e c.s i=some v->rdv e f o c.l c.s=some v){j:Nat}(hk:okS e (tr.map fun x=>x.2) i j=true):qgB e cs f o j=true:=by
 unfold okS at hk
 split at hk<;>try (cases hk;done)
 rename_i p hp1
 split at hk<;>try (cases hk;done)
 rename_i p' hp'
 have at1:∀{j s},qdh (tr.map fun x=>x.2) j=some s->∃q,qdh tr j=some q/\q.2=s:=by
  intro j s hj
  rw[qbs,zav,zac] at hj
  obtain⟨q,hq,e⟩:=hj
  exact⟨q,by rw[qbs,hq],e⟩
 obtain⟨q,hq,rfl⟩:=at1 hp1
 obtain⟨q',hq',rfl⟩:=at1 hp'
 obtain⟨c,hc,_,hs⟩:=qcX h hq
 obtain⟨c',hc',_,hs'⟩:=qcX h hq'
 unfold qgB
 rw[hc,hc']
 simp only
 rw[hs,hs'] at hk
 obtain⟨x,y,hx,hy⟩:=qfb hk
 rw[hx,hy] at hk
 rw[key hx,key hy]
 exact hk
theorem qqh {e:Env}{F:FL}{f:Tr zA}(hF:∀t v,qap F t=some v->f.get qaf t=v){o i:Ins}(hl:qoU o=false)(hp:qaX o=false)(hi:o.o F=some i){c:Cfg}{v:zA}(hv:rdV e c.s i=some v):rdv e f o c.l c.s=some v:=by
 rw[qkZ,zac] at hv
 obtain⟨⟨u,c1⟩,hv,rfl⟩:=hv
 unfold rdv
 rw[qnf hF (c:=⟨f,c.l,[],none,c.s⟩) rfl hl hp hi u c1 hv]
 rfl
theorem qqi {e:Env}{f:Tr zA}{n:Option Nat}{a:Arg}{l o:Nat}(ha:a.ev f=.ptr l o){c:Cfg}{v:zA}(hv:rdV e c.s (.load n (.c (.ptr l o)))=some v):rdv e f (.load n a) c.l c.s=some v:=by
 rw[qkZ,zac] at hv
 obtain⟨⟨u,c1⟩,hv,rfl⟩:=hv
 refine qk6 ?_
 rw[ha]
 simp only[qag,zab,zac] at hv⊢
 obtain⟨cs,h1,w,h2,h3⟩:=hv
 simp only[zad] at h3
 exact⟨cs,h1,by rw[h2,h3.1]⟩
theorem qqj {loc:Nat}{e:Env}{nt:Nat}{tr:TrL}{cs:List Cfg}(h:TA tr cs){F:FL}{L:LL}{hh:HH}{c:Cfg}(ag:AG nt F L hh c){k:Chk}(hk:okC loc e tr F k=true):qfh e cs c k=true:=by
 unfold okC at hk
 unfold qfh
 split at hk
 ·rename_i n a hop
  rw[hop]
  split at hk<;>try (cases hk;done)
  rename_i u ha
  have hu:=qdX ag.f ha
  simp only[qjN,hu]
  simp only[qaV] at hk
  cases hloc:qgm loc a with
  |true=>
   rw[hloc] at hk
   simp only[cond_true] at hk
   unfold okV at hk
   split at hk
   ·simp only[zaj] at hk⊢
    intro ⟨j,kd⟩ hj
    rcases qqg h hu (hk ⟨j,kd⟩ hj) with h1|h1
    ·simp only at h1
     simp only[h1,Bool.true_or]
    ·simp only at h1
     simp only[h1,Bool.or_true]
   ·rfl
   ·cases hk
  |false=>
   rw[hloc] at hk
   simp only[cond_false] at hk
   unfold okW at hk
   split at hk
   ·unfold okQ at hk
    simp only[zaj] at hk⊢
    intro ⟨j,kd⟩ hj
    have:=qnk h (qqi hu) (hk ⟨j,kd⟩ hj)
    simp only at this
    simp only[this,Bool.or_true]
   ·rfl
   ·rfl
   ·rfl
   ·cases hk
 ·rename_i op hno
  simp only[qaV] at hk
  cases hr:qbH k.op with
  |false=>rw[hr] at hk;cases hk
  |true=>
   rw[hr] at hk
   simp only[cond_true] at hk
   split at hk<;>try (cases hk;done)
   rename_i i hi
   have hlp:qoU k.op=false/\qaX k.op=false:=by
    cases ho:k.op<;>rw[ho] at hr hno<;>first|exact⟨rfl,rfl⟩|(cases hr;done)|exact absurd rfl (hno _ _)
   have had:qjN c.f k.op=2:=by
    cases ho:k.op<;>rw[ho] at hr hno<;>first|rfl|(cases hr;done)|exact absurd rfl (hno _ _)
   rw[had]
   unfold okQ at hk
   simp only[zaj] at hk⊢
   intro ⟨j,kd⟩ hj
   have:=qnk h (qqh ag.f hlp.1 hlp.2 hi) (hk ⟨j,kd⟩ hj)
   simp only at this
   simp only[this,Bool.or_true]
theorem qk7 {al:Nat}:∀{pre:List (Nat×List zA)} {L L0:LL} {l:Tr (Nat×List zA)},qo7 pre L=some L0->LA L l->
  LA L0 (preL l pre)/\(∀i,(preL l pre).has i=l.has i)/\∀i,tb (qoN pre) i=false->(preL l pre).get (0,[]) i=l.get (0,[]) i
 |[],L,L0,l,h,hl=>by
  simp only[qo7,zaa] at h
  subst h
  exact⟨hl,fun _=>rfl,fun _ _=>rfl⟩
 |(i,zs)::r,L,L0,l,h,hl=>by
  simp only[qo7] at h
  split at h<;>try (cases h;done)
  rename_i p hp
  obtain⟨h1,h2⟩:=hl i p hp
  have hl':=LA.set hl h2 (p.1+1,zs)
  obtain⟨k1,k2,k3⟩:=qk7 (al:=al) h hl'
  have e:preL l ((i,zs)::r)=preL (l.set i (p.1+1,zs)) r:=by
   simp only[preL,h1]
  rw[e]
  refine⟨k1,fun j=>by rw[k2,Tr.has_set],fun j hj=>?_⟩
  simp only[qoN,List.foldr_cons] at hj
  obtain⟨h3,h4⟩:=qh2 hj
  rw[k3 j h4,Tr.get_set_ne _ _ _ _ _ (qbh h3)]
theorem KP.sub {a b:Ef}{c c':Cfg}(h:KP a c c')(h1:∀t,tb b.d t=false->tb a.d t=false)(h2:∀t,tb b.al t=false->tb a.al t=false)(h3:b.st=false->a.st=false)(h4:b.cs=false->a.cs=false):KP b c c':=
 ⟨fun t ht=>h.f t (h1 t ht),fun i hi=>h.g i (h2 i hi),fun hs i hi=>h.l (h3 hs) i (h2 i hi),fun hs=>h.s (h4 hs),h.rd,h.hf,h.hl⟩
theorem qqk {nt:Nat}{pre hpre:List (Nat×List zA)}{F:FL}{L L0:LL}{h:HH}{c:Cfg}{s0:ASt}{h0:HH}(ag:AG nt F L h c)(hp:qo7 pre L=some L0)(hh:preH c.s hpre=(s0,h0)):
  AG nt F L0 h0 {c with l:=preL c.l pre,h:=h0,s:=s0}/\KP ⟨0,qoN pre,false,!hpre.isEmpty⟩ c {c with l:=preL c.l pre,h:=h0,s:=s0}:=by
 obtain⟨h1,h2,h3⟩:=qk7 (al:=0) hp ag.l
 refine⟨⟨ag.f,h1,fun _ _ h=>h,ag.hf⟩,⟨fun _ _=>rfl,fun i hi=>by rw[show({c with l:=preL c.l pre,h:=h0,s:=s0}:Cfg).l=preL c.l pre from rfl,h3 i hi],fun _ i hi=>h3 i hi,fun hs=>?_,rfl,fun _=>rfl,h2⟩⟩
 simp only[Bool.not_eq_false',List.isEmpty_iff] at hs
 subst hs
 simp only[preH,zad] at hh
 exact hh.1.symm
theorem qi1 {e:Env}{n:Nat}{a:CC}{nt:Nat}{ef:Ef}{k:KC}{r:zA×ASt}{T:Type}{base:Cfg}{z:T}{f:T->T}{enter:T->Cfg->Res}
  (hz:∀c r',enter z c≠some r')
  (hf:∀ih c,KP ef base c->enter (f ih) c=some r->∃x c',qaY e n a c=some (x,c')/\KP ef base c'/\((x=.normal/\enter ih c'=some r)\/(x≠.normal/\∃F L h,AG nt F L h c'/\k x F L h c'.s=some r))):
  ∀m c,KP ef base c->enter (lp z f m) c=some r->∃x c',qfN m (qaY e n a) c=some (x,c')/\KP ef base c'/\x≠.normal/\∃F L h,AG nt F L h c'/\k x F L h c'.s=some r
 |0,c,_,h=>absurd h (hz c r)
 |m+1,c,kp,h=>by
  obtain⟨x,c',h1,h2,h3⟩:=hf (lp z f m) c kp h
  have e1:qfN (m+1) (qaY e n a) c=(qaY e n a c).bind fun r=>match r with
   |(.normal,c)=>qfN m (qaY e n a) c
   |r=>some r:=rfl
  rw[e1,h1]
  rcases h3 with⟨rfl,h4⟩|⟨hx,h4⟩
  ·exact qi1 hz hf m c' h2 h4
  ·cases x with
   |normal=>exact absurd rfl hx
   |exit i=>exact⟨.exit i,c',rfl,h2,hx,h4⟩
   |ret=>exact⟨.ret,c',rfl,h2,hx,h4⟩
theorem qi2 {F:FL}{g:Nat->zA}(hF:∀t v,qap F t=some v->g t=v):∀{vs:List Nat} {xs:List zA},qiV F vs=some xs->xs=vs.map g
 |[],xs,h=>by
  simp only[qiV,zaa] at h
  subst h;rfl
 |u::r,xs,h=>by
  simp only[qiV] at h
  split at h<;>try (cases h;done)
  rename_i x hx
  split at h<;>try (cases h;done)
  rename_i l hl
  simp only[zaa] at h
  subst h
  rw[qi2 hF hl,zaF,hF u x hx]
theorem qi3 {L:LL}{g:Nat->Nat×List zA}(hL:∀t v,qap L t=some v->g t=v):∀{vs:List Nat} {xs:List Nat},qhw L vs=some xs->xs=vs.map fun i=>(g i).1
 |[],xs,h=>by
  simp only[qhw,zaa] at h
  subst h;rfl
 |u::r,xs,h=>by
  simp only[qhw] at h
  split at h<;>try (cases h;done)
  rename_i x hx
  split at h<;>try (cases h;done)
  rename_i l hl
  simp only[zaa] at h
  subst h
  rw[qi3 hL hl,zaF,hL u x hx]
theorem qi4 {L:LL}{g:Nat->Nat×List zA}(hL:∀t v,qap L t=some v->g t=v):∀{vs:List Nat} {xs:List (List zA)},qhx L vs=some xs->xs=vs.map fun i=>(g i).2
 |[],xs,h=>by
  simp only[qhx,zaa] at h
  subst h;rfl
 |u::r,xs,h=>by
  simp only[qhx] at h
  split at h<;>try (cases h;done)
  rename_i x hx
  split at h<;>try (cases h;done)
  rename_i l hl
  simp only[zaa] at h
  subst h
  rw[qi4 hL hl,zaF,hL u x hx]
theorem qi5 {L:LL}:∀{vs:List Nat} {xs:List Nat},qhw L vs=some xs->∀t∈vs,∃v,qap L t=some v
 |[],_,_,t,ht=>by cases ht
 |u::r,xs,h,t,ht=>by
  simp only[qhw] at h
  split at h<;>try (cases h;done)
  rename_i x hx
  split at h<;>try (cases h;done)
  rename_i l hl
  rcases zaI.1 ht with rfl|ht
  ·exact⟨x,hx⟩
  ·exact qi5 hl t ht
theorem qi6 {L:LL}:∀{vs:List Nat} {xs:List (List zA)},qhx L vs=some xs->∀t∈vs,∃v,qap L t=some v
 |[],_,_,t,ht=>by cases ht
 |u::r,xs,h,t,ht=>by
  simp only[qhx] at h
  split at h<;>try (cases h;done)
  rename_i x hx
  split at h<;>try (cases h;done)
  rename_i l hl
  rcases zaI.1 ht with rfl|ht
  ·exact⟨x,hx⟩
  ·exact qi6 hl t ht
theorem qdF {α:Type}(g:Nat->α):∀{us:List Nat} {t:Nat},t∈us->qap (us.map fun t=>(t,g t)) t=some (g t)
 |[],t,h=>by cases h
 |u::r,t,h=>by
  rw[zaF,qaj]
  split
  ·rename_i e;subst e;rfl
  ·rename_i e
   rcases zaI.1 h with h|h
   ·exact absurd h.symm e
   ·exact qdF g h
theorem qc4 {α:Type}(g:Nat->α):∀{us:List Nat} {t:Nat} {v:α},qap (us.map fun t=>(t,g t)) t=some v->g t=v
 |[],t,v,h=>by cases h
 |u::r,t,v,h=>by
  rw[zaF,qaj] at h
  split at h
  ·rename_i e
   simp only[zaa] at h
   subst e;exact h
  ·exact qc4 g h
theorem qi7 {F:FL}{g:Nat->zA}:∀{us:List Nat},(∀t∈us,qap F t=some (g t))->qiV F us=some (us.map g)
 |[],_=>rfl
 |u::r,h=>by
  simp only[qiV,h u (zaz ..),qi7 fun t ht=>h t (zaE _ ht),zaF]
theorem qi8 {L:LL}{g:Nat->Nat×List zA}:∀{us:List Nat},(∀t∈us,qap L t=some (g t))->qhw L us=some (us.map fun i=>(g i).1)
 |[],_=>rfl
 |u::r,h=>by
  simp only[qhw,h u (zaz ..),qi8 fun t ht=>h t (zaE _ ht),zaF]
theorem qi9 {L:LL}{g:Nat->Nat×List zA}:∀{us:List Nat},(∀t∈us,qap L t=some (g t))->qhx L us=some (us.map fun i=>(g i).2)
 |[],_=>rfl
 |u::r,h=>by
  simp only[qhx,h u (zaz ..),qi9 fun t ht=>h t (zaE _ ht),zaF]
theorem qdf (g:Nat->Nat×List zA):∀{L:LL} {t:Nat} {p:Nat×List zA},qap L t=some p->qap (L.map fun p=>(p.1,g p.1)) t=some (g t)
 |[],t,p,h=>by cases h
 |(u,q)::r,t,p,h=>by
  rw[qaj] at h
  rw[zaF,qaj]
  split at h
  ·rename_i e
   simp only
   rw[if_pos e,e]
  ·rename_i e
   rw[if_neg e]
   exact qdf g h
theorem qfc (g:Nat->Nat×List zA):∀{L:LL} {t:Nat} {q:Nat×List zA},qap (L.map fun p=>(p.1,g p.1)) t=some q->(∃p,qap L t=some p)/\q=g t
 |[],t,q,h=>by cases h
 |(u,p)::r,t,q,h=>by
  rw[zaF,qaj] at h
  rw[qaj]
  split at h
  ·rename_i e
   simp only[zaa] at h
   simp only at e
   subst e
   exact⟨⟨p,by rw[if_pos rfl]⟩,h.symm⟩
  ·rename_i e
   rw[if_neg e]
   exact qfc g h
theorem qmJ {nt nl n:Nat}{ef:Ef}{lv:Nat}{F:FL}{L:LL}{h:HH}{c:Cfg}{body:FL->LL->ASt->KN->Res}{r:zA×ASt}{e:Env}{a:CC}{k:KC}(ag:AG nt F L h c)(hk:qoS nt nl n ef lv F L c.s body=some r)
  (hb:∀{F1 L1 c1} {j:KN},AG nt F1 L1 [] c1->KP ef c c1->body F1 L1 c1.s j=some r->∃x c' F2 L2 h2,qaY e n a c1=some (x,c')/\KP ef c1 c'/\AG nt F2 L2 h2 c'/\((x=.normal/\j F2 L2 h2 c'.s=some r)\/(x≠.normal/\k x F2 L2 h2 c'.s=some r))):
  ∃x c',qfN n (qaY e n a) c=some (x,c')/\KP ef c c'/\x≠.normal/\∃F2 L2 h2,AG nt F2 L2 h2 c'/\k x F2 L2 h2 c'.s=some r:=by
 unfold qoS at hk
 simp only at hk
 generalize hvs:qaL (Nat.land lv ef.d) 0 nt=vs at hk
 generalize hgl:qaL ef.al 0 nl=gl at hk
 generalize hcl:cond ef.st (qaL (qoN (L.map fun x=>(x.1,[]))) 0 nl) gl=cl at hk
 generalize hF0:qgo (qe4 lv ef.d) F (qaL lv 0 nt)=F0 at hk
 split at hk<;>try (cases hk;done)
 rename_i xs hx
 split at hk<;>try (cases hk;done)
 rename_i gs hg
 split at hk<;>try (cases hk;done)
 rename_i cs hc
 let enter:Fn zA vs.length (Fn Nat gl.length (Fn (List zA) cl.length (FnS ef.cs Res)))->Cfg->Res:=fun f c1=>
  match (vs.map fun t=>c1.f.get qaf t,gl.map fun i=>(c1.l.get (0,[]) i).1,cl.map fun i=>(c1.l.get (0,[]) i).2) with
  |(xs,gs,cs)=>qo6 ef.cs (qgn [] cl.length (qgn 0 gl.length (qgn qaf vs.length f xs) gs) cs) c1.s
 have same:∀{F1 L1 h1 c1 xs gs cs},AG nt F1 L1 h1 c1->qiV F1 vs=some xs->qhw L1 gl=some gs->qhx L1 cl=some cs->∀f,qo6 ef.cs (qgn [] cl.length (qgn 0 gl.length (qgn qaf vs.length f xs) gs) cs) c1.s=enter f c1:=by
  intro F1 L1 h1 c1 xs gs cs ag1 h1 h2 h3 f
  have e1:=qi2 (g:=fun t=>c1.f.get qaf t) ag1.f h1
  have e2:=qi3 (g:=fun i=>c1.l.get (0,[]) i) (fun i p hi=>(ag1.l i p hi).1) h2
  have e3:=qi4 (g:=fun i=>c1.l.get (0,[]) i) (fun i p hi=>(ag1.l i p hi).1) h3
  subst e1;subst e2;subst e3
  rfl
 rw[same ag hx hg hc] at hk
 have head:∀{c1},KP ef c c1->∃xs' gs' cs',xs'=vs.map (fun t=>c1.f.get qaf t)/\gs'=gl.map (fun i=>(c1.l.get (0,[]) i).1)/\cs'=cl.map (fun i=>(c1.l.get (0,[]) i).2)/\
   AG nt (qoO vs xs' F0) (qlo L ef.al (qoP gl gs') cl cs'++cond ef.st [] (qhm ef.al L)) [] c1:=by
  intro c1 kp
  refine⟨_,_,_,rfl,rfl,rfl,?_⟩
  subst hF0
  refine qk5 (F1:=vs.map fun t=>(t,c1.f.get qaf t)) (L1:=L.map fun p=>(p.1,c1.l.get (0,[]) p.1)) (h1:=[]) ag ⟨fun t v hv=>qc4 _ hv,fun i p hp=>?_,fun d l hd=>(by cases hd),fun t ht=>by rw[kp.hf];exact ag.hf t ht⟩ kp
   (qi7 fun t ht=>qdF _ ht) (qi8 fun t ht=>?_) (qi9 fun t ht=>?_)
  ·obtain⟨⟨q,hq⟩,e⟩:=qfc _ hp
   exact⟨e.symm,by rw[kp.hl];exact(ag.l i q hq).2⟩
  ·obtain⟨p,hp⟩:=qi5 hg t ht
   exact qdf (fun i=>c1.l.get (0,[]) i) hp
  ·obtain⟨p,hp⟩:=qi6 hc t ht
   exact qdf (fun i=>c1.l.get (0,[]) i) hp
 refine qi1 (z:=_) (f:=_) (enter:=enter) ?_ ?_ n c (KP.refl _ _) hk
 ·intro c1 r' h
  simp only[enter] at h
  rw[qbd _ _ _ _ (by simp),qbd _ _ _ _ (by simp),qbd _ _ _ _ (by simp)] at h
  cases hs:ef.cs with
  |true=>rw[hs] at h;cases h
  |false=>rw[hs] at h;cases h
 ·intro ih c1 kp h
  obtain⟨xs',gs',cs',e1,e2,e3,ag1⟩:=head kp
  simp only[enter] at h
  rw[<-e1,<-e2,<-e3,qbd _ _ _ _ (by rw[e1];simp),qbd _ _ _ _ (by rw[e2];simp),qbd _ _ _ _ (by rw[e3];simp),qhq kp] at h
  obtain⟨x,c',F2,L2,h2,k1,k2,k3,k4⟩:=hb ag1 kp h
  refine⟨x,c',k1,kp.trans k2,?_⟩
  rcases k4 with⟨rfl,k4⟩|⟨hx',k4⟩
  ·left
   refine⟨rfl,?_⟩
   split at k4<;>try (cases k4;done)
   rename_i ys hy
   split at k4<;>try (cases k4;done)
   rename_i zs hz
   split at k4<;>try (cases k4;done)
   rename_i ws hw
   rw[same k3 hy hz hw] at k4
   exact k4
  ·exact .inr ⟨hx',F2,L2,h2,k3,k4⟩
end Go.AI
namespace Go.AI
theorem qce {loc nt nl:Nat}{e:Env}{n:Nat}:∀(cc:CC) {nrm:Nat} {ex:List (Nat×Nat)} {rt:Nat} {F:FL} {L:LL} {h:HH} {c:Cfg} {k:KC} {r:zA×ASt},AG nt F L h c->qfo loc nt nl e n cc nrm ex rt F L h c.s k=some r->
  ∃x c' F' L' h',qaY e n cc c=some (x,c')/\KP (qhZ loc cc) c c'/\AG nt F' L' h' c'/\k x F' L' h' c'.s=some r
 |.skip,nrm,ex,rt,F,L,h,c,k,r,ag,hk=>by
  simp only[qfo,qaV] at hk
  exact⟨.normal,c,F,L,h,rfl,KP.refl _ _,ag,hk⟩
 |.reg ops,nrm,ex,rt,F,L,h,c,k,r,ag,hk=>by
  simp only[qfo,qaV] at hk
  cases hg:qe6 ops with
  |true=>
   rw[hg] at hk
   simp only[cond_true] at hk
   obtain⟨j,hj,hjn⟩:=qen ag hk
   obtain⟨cN,tr,F1,L1,trl,k1,k2,k3,k3',k4,k5,k6,k7,k8⟩:=qdY ops ag (fun t ht=>by rw[qdW] at ht;cases ht) hj
   obtain⟨F2,L2,k9,k10⟩:=hjn k4 k6 k5
   exact⟨.normal,cN,F2,L2,[],by rw[qaY,k1];rfl,k6,k9,k10⟩
  |false=>
   rw[hg] at hk
   simp only[cond_false] at hk
   obtain⟨cN,tr,F1,L1,trl,k1,k2,k3,k3',k4,k5,k6,k7,k8⟩:=qdY ops ag (fun t ht=>by rw[qdW] at ht;cases ht) hk
   exact⟨.normal,cN,F1,L1,h,by rw[qaY,k1];rfl,k6,k4,k5⟩
 |.regd pre hpre ops chk,nrm,ex,rt,F,L,h,c,k,r,ag,hk=>by
  simp only[qfo,qaV] at hk
  split at hk<;>try (cases hk;done)
  rename_i L0 hL0
  generalize hph:preH c.s hpre=sh at hk
  obtain⟨s0,h0⟩:=sh
  simp only at hk
  obtain⟨ag0,kp0⟩:=qqk ag hL0 hph
  have e0:qaY e n (.regd pre hpre ops chk) c=(qbb e ops {c with l:=preL c.l pre,h:=h0,s:=s0}).bind fun tr=>match qbq c tr with
   |last=>cond (chk.all (qfh e tr last)) (some (.normal,last)) none:=by
   rw[qaY,hph]
  have fin:∀{cN tr F1 L1 trl},qbb e ops {c with l:=preL c.l pre,h:=h0,s:=s0}=some tr->(∀d,qbq d tr=cN)->AG nt F1 L1 h0 cN->TA trl tr->chk.all (okC loc e trl F1)=true->qaY e n (.regd pre hpre ops chk) c=some (.normal,cN):=by
   intro cN tr F1 L1 trl k2 k3 k4 k8 hc
   rw[e0,k2,zap,k3]
   have:chk.all (qfh e tr cN)=true:=by
    rw[zaj] at hc⊢
    exact fun q hq=>qqj k8 k4 (hc q hq)
   show cond (chk.all (qfh e tr cN)) (some (EX.normal,cN)) none=_
   rw[this,cond_true]
  cases hg:qe6 ops with
  |true=>
   rw[hg] at hk
   simp only[cond_true] at hk
   obtain⟨j,hj,hjn⟩:=qen ag0 hk
   obtain⟨cN,tr,F1,L1,trl,k1,k2,k3,k3',k4,k5,k6,k7,k8⟩:=qdY ops ag0 (fun t ht=>by rw[qdW] at ht;cases ht) hj
   obtain⟨hc,k5⟩:=qac k5
   obtain⟨F2,L2,k9,k10⟩:=hjn k4 k6 k5
   exact⟨.normal,cN,F2,L2,[],fin k2 k3' k4 k8 hc,kp0.right.trans k6.left,k9,k10⟩
  |false=>
   rw[hg] at hk
   simp only[cond_false] at hk
   obtain⟨cN,tr,F1,L1,trl,k1,k2,k3,k3',k4,k5,k6,k7,k8⟩:=qdY ops ag0 (fun t ht=>by rw[qdW] at ht;cases ht) hk
   obtain⟨hc,k5⟩:=qac k5
   exact⟨.normal,cN,F1,L1,h0,fin k2 k3' k4 k8 hc,kp0.right.trans k6.left,k4,k5⟩
 |.seq a b,nrm,ex,rt,F,L,h,c,k,r,ag,hk=>by
  simp only[qfo,qaV] at hk
  obtain⟨x,c1,F1,L1,h1,k1,k2,k3,k4⟩:=qce a ag hk
  cases x with
  |normal=>
   obtain⟨y,c2,F2,L2,h2,k5,k6,k7,k8⟩:=qce b k3 k4
   exact⟨y,c2,F2,L2,h2,by rw[qaY,k1];exact k5,k2.left.trans k6.right,k7,k8⟩
  |exit i=>exact⟨.exit i,c1,F1,L1,h1,by rw[qaY,k1];rfl,k2.left,k3,k4⟩
  |ret=>exact⟨.ret,c1,F1,L1,h1,by rw[qaY,k1];rfl,k2.left,k3,k4⟩
 |.cond x a b,nrm,ex,rt,F,L,h,c,k,r,ag,hk=>by
  simp only[qfo,qaV] at hk
  split at hk<;>try (cases hk;done)
  rename_i v hv
  have hx:=qdX ag.f hv
  cases hf:(qe5 a&&qe5 b) with
  |true=>
   rw[hf] at hk
   simp only[cond_true] at hk
   obtain⟨j,hj,hjn⟩:=qen ag hk
   obtain⟨t,hcv,hj⟩:=qe7 hj
   subst hcv
   cases t with
   |true=>
    try simp only[cond_true] at hj
    obtain⟨y,c1,F1,L1,h1,k1,k2,k3,k4⟩:=qce a ag hj
    cases y with
    |normal=>
     obtain⟨F2,L2,k5,k6⟩:=hjn k3 k2.left k4
     exact⟨.normal,c1,F2,L2,[],by rw[qaY,hx];exact k1,k2.left,k5,k6⟩
    |exit i=>exact⟨.exit i,c1,F1,L1,h1,by rw[qaY,hx];exact k1,k2.left,k3,k4⟩
    |ret=>exact⟨.ret,c1,F1,L1,h1,by rw[qaY,hx];exact k1,k2.left,k3,k4⟩
   |false=>
    try simp only[cond_false] at hj
    obtain⟨y,c1,F1,L1,h1,k1,k2,k3,k4⟩:=qce b ag hj
    cases y with
    |normal=>
     obtain⟨F2,L2,k5,k6⟩:=hjn k3 k2.right k4
     exact⟨.normal,c1,F2,L2,[],by rw[qaY,hx];exact k1,k2.right,k5,k6⟩
    |exit i=>exact⟨.exit i,c1,F1,L1,h1,by rw[qaY,hx];exact k1,k2.right,k3,k4⟩
    |ret=>exact⟨.ret,c1,F1,L1,h1,by rw[qaY,hx];exact k1,k2.right,k3,k4⟩
  |false=>
   rw[hf] at hk
   simp only[cond_false] at hk
   obtain⟨t,hcv,hk⟩:=qe7 hk
   subst hcv
   cases t with
   |true=>
    try simp only[cond_true] at hk
    obtain⟨y,c1,F1,L1,h1,k1,k2,k3,k4⟩:=qce a ag hk
    exact⟨y,c1,F1,L1,h1,by rw[qaY,hx];exact k1,k2.left,k3,k4⟩
   |false=>
    try simp only[cond_false] at hk
    obtain⟨y,c1,F1,L1,h1,k1,k2,k3,k4⟩:=qce b ag hk
    exact⟨y,c1,F1,L1,h1,by rw[qaY,hx];exact k1,k2.right,k3,k4⟩
 |.block id a,nrm,ex,rt,F,L,h,c,k,r,ag,hk=>by
  simp only[qfo,qaV] at hk
  cases hf:Nat.blt 1 (exN id a+cond (qe5 a) 1 0) with
  |true=>
   rw[hf] at hk
   simp only[cond_true] at hk
   obtain⟨j,hj,hjn⟩:=qen ag hk
   obtain⟨y,c1,F1,L1,h1,k1,k2,k3,k4⟩:=qce a ag hj
   cases y with
   |normal=>
    obtain⟨F2,L2,k5,k6⟩:=hjn k3 k2 k4
    exact⟨.normal,c1,F2,L2,[],by rw[qaY,k1];rfl,k2,k5,k6⟩
   |exit i=>
    simp only at k4
    cases hi:Nat.beq i id with
    |true=>
     rw[hi] at k4
     obtain⟨F2,L2,k5,k6⟩:=hjn k3 k2 k4
     exact⟨.normal,c1,F2,L2,[],by rw[qaY,k1];simp only[zaq,hi,cond_true],k2,k5,k6⟩
    |false=>
     rw[hi] at k4
     exact⟨.exit i,c1,F1,L1,h1,by rw[qaY,k1];simp only[zaq,hi,cond_false],k2,k3,k4⟩
   |ret=>exact⟨.ret,c1,F1,L1,h1,by rw[qaY,k1];rfl,k2,k3,k4⟩
  |false=>
   rw[hf] at hk
   simp only[cond_false] at hk
   obtain⟨y,c1,F1,L1,h1,k1,k2,k3,k4⟩:=qce a ag hk
   cases y with
   |normal=>exact⟨.normal,c1,F1,L1,h1,by rw[qaY,k1];rfl,k2,k3,k4⟩
   |exit i=>
    simp only at k4
    cases hi:Nat.beq i id with
    |true=>
     rw[hi] at k4
     exact⟨.normal,c1,F1,L1,h1,by rw[qaY,k1];simp only[zaq,hi,cond_true],k2,k3,k4⟩
    |false=>
     rw[hi] at k4
     exact⟨.exit i,c1,F1,L1,h1,by rw[qaY,k1];simp only[zaq,hi,cond_false],k2,k3,k4⟩
   |ret=>exact⟨.ret,c1,F1,L1,h1,by rw[qaY,k1];rfl,k2,k3,k4⟩
 |.loop a,nrm,ex,rt,F,L,h,c,k,r,ag,hk=>by
  simp only[qfo,qaV] at hk
  obtain⟨x,c',k1,k2,k3,F2,L2,h2,k4,k5⟩:=qmJ (e:=e) (a:=a) (k:=k) ag hk (by
   intro F1 L1 c1 j ag1 kp hj
   obtain⟨y,c2,F2,L2,h2,m1,m2,m3,m4⟩:=qce a ag1 hj
   refine⟨y,c2,F2,L2,h2,m1,m2,m3,?_⟩
   cases y with
   |normal=>exact .inl ⟨rfl,m4⟩
   |exit i=>exact .inr ⟨(fun e=>by cases e),m4⟩
   |ret=>exact .inr ⟨(fun e=>by cases e),m4⟩)
  exact⟨x,c',F2,L2,h2,by rw[qaY];exact k1,k2,k4,k5⟩
 |.rangeFunc f ps a b,nrm,ex,rt,F,L,h,c,k,r,ag,hk=>by cases hk
 |.exit id,nrm,ex,rt,F,L,h,c,k,r,ag,hk=>by
  simp only[qfo,qaV] at hk
  exact⟨.exit id,c,F,L,h,rfl,KP.refl _ _,ag,hk⟩
 |.ret,nrm,ex,rt,F,L,h,c,k,r,ag,hk=>by
  simp only[qfo,qaV] at hk
  exact⟨.ret,c,F,L,h,rfl,KP.refl _ _,ag,hk⟩
 |.bad,nrm,ex,rt,F,L,h,c,k,r,ag,hk=>by
  simp only[qfo,qaV] at hk;cases hk
theorem qql {cs:List zA}{off:Nat}{n:Option Nat}{v:zA}(h:ldL cs off n=some v):∃ds,cut cs off (cnt n)=some ds/\zA.ofCells n ds=some v:=by
 unfold ldL at h
 simp only[qe9] at h
 cases n with
 |none=>
  simp only at h
  split at h<;>try (cases h;done)
  rename_i w hw
  exact⟨[w],hw,h⟩
 |some m=>
  simp only at h
  split at h<;>try (cases h;done)
  rename_i w hw
  exact⟨w,hw,h⟩
theorem qja {loc nt:Nat}{e:Env}{F:FL}{L:LL}{h:HH}{c:Cfg}(ag:AG nt F L h c):∀(rs:List RV) {k:List zA->Res} {r:zA×ASt},rvK loc e F L c.s rs k=some r->∃l,rvs e c rs=some l/\k l=some r
 |[],k,r,hk=>⟨[],rfl,hk⟩
 |.t n::rs,k,r,hk=>by
  simp only[rvK,qaV] at hk
  split at hk<;>try (cases hk;done)
  rename_i v hv
  obtain⟨l,h1,h2⟩:=qja ag rs hk
  exact⟨v::l,by rw[rvs,h1,ag.f n v hv];rfl,h2⟩
 |.l a n::rs,k,r,hk=>by
  simp only[rvK,qaV] at hk
  split at hk<;>try (cases hk;done)
  rename_i v hv
  have hav:=ag.f a v hv
  have fin:∀{u},(qax e.E c.l c.s v (cnt n)).bind (zA.ofCells n)=some u->rvK loc e F L c.s rs (fun l=>k (u::l))=some r->∃l,rvs e c (.l a n::rs)=some l/\k l=some r:=by
   intro u hu hk
   obtain⟨l,h1,h2⟩:=qja ag rs hk
   refine⟨u::l,?_,h2⟩
   simp only[zab] at hu
   obtain⟨cs,hcs,hu⟩:=hu
   rw[rvs,hav,hcs,zap,hu,zap,h1]
   rfl
  cases hl:tb loc a with
  |true=>
   rw[hl] at hk
   simp only[cond_true] at hk
   split at hk<;>try (cases hk;done)
   rename_i i g off
   split at hk<;>try (cases hk;done)
   rename_i p hp
   obtain⟨hg,hk⟩:=qac hk
   simp only[zab] at hk
   obtain⟨u,hu,hk⟩:=hk
   obtain⟨ds,h1,h2⟩:=qql hu
   refine fin ?_ hk
   simp only[qax,(ag.l i p hp).1,hg,cond_true,h1,zap,h2]
  |false=>
   rw[hl] at hk
   simp only[cond_false,zab] at hk
   obtain⟨u,hu,hk⟩:=hk
   exact fin (qng hu) hk
theorem qfd (d:Nat):∀(args:List zA) (f:Tr zA) (i:Nat),(∀j,j<i+args.length->f.has j=true)->(∀t v,qap (qp5 i args) t=some v->(qaS f i args).get qaf t=v)/\(∀t,t<i->(qaS f i args).get qaf t=f.get qaf t)/\∀t,(qaS f i args).has t=f.has t
 |[],f,i,_=>⟨fun t v h=>(by cases h),fun _ _=>rfl,fun _=>rfl⟩
 |v::r,f,i,hh=>by
  obtain⟨h1,h2,h3⟩:=qfd d r (f.set i v) (i+1) fun j hj=>by
   rw[Tr.has_set]
   exact hh j (by simp only[zaO];omega)
  refine⟨fun t x hx=>?_,fun t ht=>?_,fun t=>?_⟩
  ·simp only[qp5] at hx
   rw[qaj] at hx
   split at hx
   ·rename_i e
    simp only[zaa] at hx
    subst e;subst hx
    show(qaS (f.set i v) (i+1) r).get qaf i=v
    rw[h2 i (by omega)]
    exact Tr.get_set_eq _ _ _ _ (hh i (by simp only[zaO];omega))
   ·exact h1 t x hx
  ·show(qaS (f.set i v) (i+1) r).get qaf t=_
   rw[h2 t (by omega),Tr.get_set_ne _ _ _ _ _ (by omega)]
  ·show(qaS (f.set i v) (i+1) r).has t=_
   rw[h3,Tr.has_set]
theorem qdg {m:Nat}:∀{k i x:Nat},x∈qaL m i k->x<i+k
 |0,i,x,h=>by cases h
 |k+1,i,x,h=>by
  simp only[qaL] at h
  cases hb:tb m i with
  |true=>
   rw[hb] at h
   rcases zaI.1 h with h|h
   ·omega
   ·have:=qdg h;omega
  |false=>
   rw[hb] at h
   have:=qdg h;omega
theorem qjC {al k:Nat}{i:Nat}{p:Nat×List zA}(h:qap ((qaL al 0 k).map fun i=>(i,((0,[]):Nat×List zA))) i=some p):p=(0,[])/\i<k:=by
 have:∀(us:List Nat),qap (us.map fun i=>(i,((0,[]):Nat×List zA))) i=some p->p=(0,[])/\i∈us:=by
  intro us hu
  induction us with
  |nil=>cases hu
  |cons u r ih=>
   rw[zaF,qaj] at hu
   split at hu
   ·rename_i e
    simp only[zaa] at hu
    exact⟨hu.symm,by rw[<-e];exact zaz ..⟩
   ·obtain⟨h1,h2⟩:=ih hu
    exact⟨h1,zaE _ h2⟩
 obtain⟨h1,h2⟩:=this _ h
 have:=qdg h2
 exact⟨h1,by omega⟩
theorem qmK {cf:CF}{e:Env}{n:Nat}{args:List zA}{s s':ASt}{v:zA}(hn:args.length<2^cf.depth)(h:qad cf e n args s=some (v,s')):
  ∃r,qaY e n cf.body ⟨qaS (Tr.mk qaf cf.depth) 0 args,Tr.mk (0,[]) cf.ldepth,[],none,s⟩=some r/\qfO e cf r=some v/\r.2.s=s':=by
 unfold qad at h
 have hm:∀j,j<2^cf.depth-1->(Tr.mk qaf cf.depth).has j=true:=fun j hj=>Tr.has_mk _ _ _ (by omega)
 obtain⟨k1,k2,k3⟩:=qfd 0 args (Tr.mk qaf cf.depth) 0 fun j hj=>hm j (by omega)
 let c0:Cfg:=⟨qaS (Tr.mk qaf cf.depth) 0 args,Tr.mk (0,[]) cf.ldepth,[],none,s⟩
 have ag:AG (2^cf.depth-1) (qp5 0 args) ((qaL (qhZ (qhk cf.body 0) cf.body).al 0 (2^cf.ldepth-1)).map fun i=>(i,(0,[]))) [] c0:=by
  refine⟨k1,fun i p hp=>?_,fun d l hd=>(by cases hd),fun t ht=>by rw[show c0.f=qaS (Tr.mk qaf cf.depth) 0 args from rfl,k3];exact hm t ht⟩
  obtain⟨e1,e2⟩:=qjC hp
  subst e1
  exact⟨Tr.get_mk _ _ _,Tr.has_mk _ _ _ (by omega)⟩
 obtain⟨x,c1,F1,L1,h1,m1,m2,m3,m4⟩:=qce (c:=c0) cf.body ag h
 refine⟨(x,c1),m1,?_⟩
 cases x with
 |exit i=>cases m4
 |normal=>
  obtain⟨l,h2,h3⟩:=qja m3 cf.res m4
  simp only[zaa,zad] at h3
  exact⟨by simp only[qfO,h2,zaq,h3.1],h3.2⟩
 |ret=>
  obtain⟨l,h2,h3⟩:=qja m3 cf.res m4
  simp only[zaa,zad] at h3
  exact⟨by simp only[qfO,h2,zaq,h3.1],h3.2⟩
end Go.AI
namespace Go.AI
variable {P:Program}
abbrev Bd:=Env->List zA->ASt->Res
noncomputable def qk8 (bd:Nat->Option Bd):Sp:=fun e f args s=>match bd f with
 |some b=>bF (qkV qq1 args) ((b e args s).bind fun r=>bF (awG r.1) (some r) none) none
 |none=>none
def qk9 (c:Option CF)(np:Nat):Bool:=match c with
 |some cf=>!cf.pure&&(!cf.clone&&(cf.keepA&&(cf.keepR&&(Nat.beq np cf.np&&Nat.blt np (2^cf.depth)))))
 |none=>false
def qae (c:Option CF):CF:=match c with
 |some cf=>cf
 |none=>⟨0,0,0,false,false,false,false,.bad,[]⟩
theorem qla {c:Option CF}{np:Nat}(h:qk9 c np=true):∃cf,c=some cf/\qae c=cf/\cf.pure=false/\cf.clone=false/\cf.keepA=true/\cf.keepR=true/\np=cf.np/\np<2^cf.depth:=by
 unfold qk9 at h
 split at h
 ·rename_i cf
  simp only[zae,zaC] at h
  obtain⟨h1,h2,h3,h4,h5,h6⟩:=h
  exact⟨cf,rfl,rfl,h1,h2,h3,h4,beq_iff.1 h5,blt_iff.1 h6⟩
 ·cases h
def qai (CP:Nat->Option CF)(f:Nat)(b:Bd):Prop:=∃np,qk9 (CP f) np=true/\∀e args s r,b e args s=some r->args.length=np/\∃n,qad (qae (CP f)) e n args s=some r
theorem qgu {CP:Nat->Option CF}(pk:ProgOK P CP){bd:Nat->Option Bd}(hb:∀f b,bd f=some b->qai CP f b):SpOK P CP (qk8 bd):=⟨by
 intro e se f args s v s' h
 unfold qk8 at h
 split at h<;>try (cases h;done)
 rename_i b hbf
 obtain⟨np,hok,hb2⟩:=hb f b hbf
 obtain⟨cf,hcf,hcf2,hp,hcl,hkA,hkR,hnp,hdep⟩:=qla hok
 simp only[qdB,qde,qk0,qqa] at h
 obtain⟨haw,h⟩:=qac h
 simp only[zab] at h
 obtain⟨⟨v1,s1⟩,hrun,h⟩:=h
 obtain⟨hpl,h⟩:=qac h
 simp only[zaa,zad] at h
 obtain⟨rfl,rfl⟩:=h
 obtain⟨hlen,n,hbody⟩:=hb2 e args s _ hrun
 rw[hcf2] at hbody
 subst hnp
 refine⟨fun h2=>?_,?_⟩
 ·unfold qa6 at h2
  rw[hcf] at h2
  simp only[hp] at h2
  cases h2
 ·intro U pd l G w vs mr ha
  obtain⟨fn,fl,hf,hc,hname⟩:=pk.code f cf hcf
  obtain⟨body,hb,_⟩:=qck hc
  rw[qaO hf hb hname vs w]
  obtain⟨r,hr,hu,hs⟩:=qmK (by rw[hlen];exact hdep) hbody
  have h0:∀i,(Tr.mk ((0,[]):Nat×List zA) cf.ldepth).get (0,[]) i=(0,[]):=fun i=>Tr.get_mk _ _ _
  have mr0:=mr.sub h0
  refine CallsIn.mono (qkq se pk.orders hf hc hlen mr0 ⟨ha.1,fun i c x hci hx=>moves_sub.atC (ha.2 i c x hci hx) (qaU haw hci)⟩ hr hu) fun ex w' ⟨x,h1,G',h2,h3,h4⟩=>⟨x,h1,?_⟩
  rw[hs] at h3
  exact qf6 mr h2 h3 h4 hpl⟩
abbrev NL:Nat:=1000000
def B0 (g:Env->Nat->ASt->Res):Bd:=fun e l s=>match l with|[]=>g e NL s|_=>none
def B1 (g:Env->Nat->zA->ASt->Res):Bd:=fun e l s=>match l with|[a]=>g e NL a s|_=>none
def B2 (g:Env->Nat->zA->zA->ASt->Res):Bd:=fun e l s=>match l with|[a,b]=>g e NL a b s|_=>none
def B3 (g:Env->Nat->zA->zA->zA->ASt->Res):Bd:=fun e l s=>match l with|[a,b,c]=>g e NL a b c s|_=>none
def B4 (g:Env->Nat->zA->zA->zA->zA->ASt->Res):Bd:=fun e l s=>match l with|[a,b,c,d]=>g e NL a b c d s|_=>none
def B5 (g:Env->Nat->zA->zA->zA->zA->zA->ASt->Res):Bd:=fun e l s=>match l with|[a,b,c,d,x]=>g e NL a b c d x s|_=>none
def B6 (g:Env->Nat->zA->zA->zA->zA->zA->zA->ASt->Res):Bd:=fun e l s=>match l with|[a,b,c,d,x,y]=>g e NL a b c d x y s|_=>none
def B7 (g:Env->Nat->zA->zA->zA->zA->zA->zA->zA->ASt->Res):Bd:=fun e l s=>match l with|[a,b,c,d,x,y,z]=>g e NL a b c d x y z s|_=>none
section
variable {CP:Nat->Option CF} {f:Nat}
theorem qrC {g:Env->Nat->zA->zA->zA->zA->zA->zA->zA->ASt->Res}(h:qk9 (CP f) 7=true)(k:∀e n a b c d x y z s,qad (qae (CP f)) e n [a,b,c,d,x,y,z] s=g e n a b c d x y z s):qai CP f (B7 g):=⟨7,h,fun e args s r hr=>by
 unfold B7 at hr;split at hr
 ·exact⟨rfl,NL,by rw[k];exact hr⟩
 ·cases hr⟩
theorem qfp {g:Env->Nat->ASt->Res}(h:qk9 (CP f) 0=true)(k:∀e n s,qad (qae (CP f)) e n [] s=g e n s):qai CP f (B0 g):=⟨0,h,fun e args s r hr=>by
 unfold B0 at hr;split at hr
 ·exact⟨rfl,NL,by rw[k];exact hr⟩
 ·cases hr⟩
theorem qat {g:Env->Nat->zA->ASt->Res}(h:qk9 (CP f) 1=true)(k:∀e n a s,qad (qae (CP f)) e n [a] s=g e n a s):qai CP f (B1 g):=⟨1,h,fun e args s r hr=>by
 unfold B1 at hr;split at hr
 ·exact⟨rfl,NL,by rw[k];exact hr⟩
 ·cases hr⟩
theorem qao {g:Env->Nat->zA->zA->ASt->Res}(h:qk9 (CP f) 2=true)(k:∀e n a b s,qad (qae (CP f)) e n [a,b] s=g e n a b s):qai CP f (B2 g):=⟨2,h,fun e args s r hr=>by
 unfold B2 at hr;split at hr
 ·exact⟨rfl,NL,by rw[k];exact hr⟩
 ·cases hr⟩
theorem qa0 {g:Env->Nat->zA->zA->zA->ASt->Res}(h:qk9 (CP f) 3=true)(k:∀e n a b c s,qad (qae (CP f)) e n [a,b,c] s=g e n a b c s):qai CP f (B3 g):=⟨3,h,fun e args s r hr=>by
 unfold B3 at hr;split at hr
 ·exact⟨rfl,NL,by rw[k];exact hr⟩
 ·cases hr⟩
theorem qbG {g:Env->Nat->zA->zA->zA->zA->ASt->Res}(h:qk9 (CP f) 4=true)(k:∀e n a b c d s,qad (qae (CP f)) e n [a,b,c,d] s=g e n a b c d s):qai CP f (B4 g):=⟨4,h,fun e args s r hr=>by
 unfold B4 at hr;split at hr
 ·exact⟨rfl,NL,by rw[k];exact hr⟩
 ·cases hr⟩
theorem qfq {g:Env->Nat->zA->zA->zA->zA->zA->ASt->Res}(h:qk9 (CP f) 5=true)(k:∀e n a b c d x s,qad (qae (CP f)) e n [a,b,c,d,x] s=g e n a b c d x s):qai CP f (B5 g):=⟨5,h,fun e args s r hr=>by
 unfold B5 at hr;split at hr
 ·exact⟨rfl,NL,by rw[k];exact hr⟩
 ·cases hr⟩
theorem qoY {g:Env->Nat->zA->zA->zA->zA->zA->zA->ASt->Res}(h:qk9 (CP f) 6=true)(k:∀e n a b c d x y s,qad (qae (CP f)) e n [a,b,c,d,x,y] s=g e n a b c d x y s):qai CP f (B6 g):=⟨6,h,fun e args s r hr=>by
 unfold B6 at hr;split at hr
 ·exact⟨rfl,NL,by rw[k];exact hr⟩
 ·cases hr⟩
inductive OptBd (CP:Nat->Option CF)(f:Nat):Option Bd->Prop where
 |none:OptBd CP f Option.none
 |some {b:Bd} (h:qai CP f b):OptBd CP f (Option.some b)
end
def qhr (CP:Nat->Option CF):Tr (Option Bd)->(i st:Nat)->Prop
 |.node v l r,i,st=>OptBd CP i v/\qhr CP l (i+st) (2*st)/\qhr CP r (i+2*st) (2*st)
 |.nil,_,_=>True
theorem qfe {CP:Nat->Option CF}:∀(t:Tr (Option Bd)) (i st:Nat),qhr CP t i st->∀j,OptBd CP (i+st*j) (t.get Option.none j)
 |.nil,_,_,_,_=> .none
 |.node v l r,i,st,⟨h1,h2,h3⟩,j=>by
  unfold Tr.get
  cases e1:Nat.beq j 0 with
  |true=>
   rw[beq_iff.1 e1]
   exact h1
  |false=>
   have h0:j≠0:=fun e=>by rw[qaA e] at e1;cases e1
   cases e2:Nat.beq (j%2) 1 with
   |true=>
    have h4:j%2=1:=beq_iff.1 e2
    have:=qfe l _ _ h2 (j/2)
    have e3:i+st+2*st*(j/2)=i+st*j:=by
     have:j=2*(j/2)+1:=by omega
     calc i+st+2*st*(j/2)=i+st*(2*(j/2)+1):=by rw[Nat.mul_add,Nat.mul_one,<-Nat.mul_assoc,Nat.mul_comm st 2];omega
      _=i+st*j:=by rw[<-this]
    rw[e3] at this
    exact this
   |false=>
    have h4:j%2≠1:=fun e=>by rw[qaA e] at e2;cases e2
    have:=qfe r _ _ h3 (j/2-1)
    have e3:i+2*st+2*st*(j/2-1)=i+st*j:=by
     have:j=2*(j/2-1)+2:=by omega
     calc i+2*st+2*st*(j/2-1)=i+st*(2*(j/2-1)+2):=by rw[Nat.mul_add,<-Nat.mul_assoc,Nat.mul_comm st 2];omega
      _=i+st*j:=by rw[<-this]
    rw[e3] at this
    exact this
theorem qjD {CP:Nat->Option CF}{t:Tr (Option Bd)}(h:qhr CP t 0 1)(f:Nat)(b:Bd)(hb:t.get Option.none f=some b):qai CP f b:=by
 have:=qfe t 0 1 h f
 rw[hb,zaL,Nat.one_mul] at this
 cases this with|some h=>exact h
end Go.AI
namespace Go.AI
open Go.Proofs Go.RowKit Go.Shelf
variable {P:Program} {E:Rom} {U pd:Nat->Option (List zA)} {l:Tr (Nat×List zA)} {s:ASt} {G:Gh} {w w':World}
def qmL (vs:List (Nat×List zP)):Rom:=fun k=>match qap vs (k-PB) with
 |some ps=>cond (Nat.ble PB k) (some (.cells (ps.map .p))) none
 |none=>none
theorem qlb {vs:List (Nat×List zP)}{k:Nat}{o:zH}(h:qmL vs k=some o):PB<=k/\∃ps,(k-PB,ps)∈vs/\o=.cells (ps.map .p):=by
 unfold qmL at h
 split at h
 ·rename_i ps hps
  obtain⟨h1,h2⟩:=qac h
  simp only[zaa] at h2
  exact⟨ble_iff.1 h1,ps,qew hps,h2.symm⟩
 ·cases h
theorem qlc (h:MR P E U pd l s G w){vs:List (Nat×List zP)}(hE:∀g ps,(g,ps)∈vs->ps.all qmt=true/\∃cs,E (PB+g)=some (.cells cs)/\qcY cs=some ps):
  MR P (qmL vs) (fun _=>none) (fun _=>none) .nil s00 G.still w:=by
 refine⟨fun b hb=>h.own b (qhI (lo:=0) rfl hb),fun k b h=>(by cases h),zaf _,fun k zs h=>(by cases h),fun i zs h=>(by cases h),rfl,fun i g cs h hg _=>(by cases h;exact absurd rfl hg),fun i g b h=>(by cases h),fun k o h=>(by rw[show qaD s00.heap k=none from qd9 k] at h;cases h),?_,
  fun t n sz h=>(by cases h),fun b t n sz h=>(qda (lo:=0) h).elim,fun b b' t n n' sz sz' h=>(qda (lo:=0) h).elim⟩
 intro k o hk
 obtain⟨hge,ps,hmem,rfl⟩:=qlb hk
 obtain⟨hlit,cs,hc,hcs⟩:=hE _ _ hmem
 have ek:PB+(k-PB)=k:=by omega
 rw[ek] at hc
 refine⟨fun h2=>absurd h2 (by omega),fun _=>?_⟩
 obtain⟨j,hown,cs',ecs,hj,_,c,T,fr,hfr,h3,h5⟩:=(h.ro _ _ hc).2 hge
 simp only[zH.cells.injEq] at ecs
 subst ecs
 obtain⟨hl,hpure⟩:=qcR hcs
 refine⟨j,?_,ps.map .p,rfl,by simp;omega,?_,c,T,fr,hfr,by simp;omega,fun i a v ha hv=>?_⟩
 ·show(G.fix 0).own _=_
  unfold Gh.fix
  simp only[hown]
 ·simp only[zaj]
  intro a ha
  obtain⟨p,_,rfl⟩:=zaS.1 ha
  rfl
 ·simp only[zav,zac] at ha
  obtain⟨p,hp,rfl⟩:=ha
  have hi:i<cs.length:=by rw[<-hl];exact(zah.1 hp).1
  have hv2:=h5 i _ v (zai hi) hv
  exact .p _ _ (PR.lit (zaj.1 hlit p (zaw hp)) (qcQ (hpure i _ p (zai hi) hp) hv2).1)
def isT:Option (zA×ASt)->Bool
 |some (.p (.bool true),_)=>true
 |_=>false
theorem qnl {x:Option (zA×ASt)}(h:isT x=true):∃s,x=some (.p (.bool true),s):=by
 unfold isT at h
 split at h
 ·exact⟨_,rfl⟩
 ·cases h
def spT (fa g1 g2:Nat)(tbl:List zP):Sp:=fun e f args s=>cond (Nat.beq f fa) (match args with
 |[]=>match e.E (PB+g1) with
  |some (.cells cs)=>match qcY cs with
   |some ps=>cond (qb4 ps tbl) (match e.E (PB+g2) with
    |some (.cells [.p (.int .i64 _)])=>some (.p (.bool true),s)
    |_=>none) none
   |none=>none
  |_=>none
 |_=>none) none
def qrS (CP:Nat->Option CF)(sp:Sp)(fa g1 g2:Nat)(tbl:List zP):Prop:=
 (∀m,∃n,isT ((qbQ CP sp n (qmL [(g1,tbl),(g2,[.int .i64 m])])).call fa [] s00)=true)/\tbl.all qmt=true/\qa6 CP fa=false
theorem qqm {CP:Nat->Option CF}{sp:Sp}(pk:ProgOK P CP)(sk:SpOK P CP sp){fa g1 g2:Nat}{tbl:List zP}(hr:qrS CP sp fa g1 g2 tbl):SpOK P CP (spT fa g1 g2 tbl) where
 ok:=fun {e} se {f args s v s'} h=>by
  obtain⟨hrun,hlit,hpf⟩:=hr
  unfold spT at h
  cases h1:Nat.beq f fa with
  |false=>rw[h1] at h;cases h
  |true=>
  rw[h1] at h
  simp only[cond_true] at h
  have ef:=beq_iff.1 h1
  subst ef
  split at h<;>try (cases h;done)
  split at h<;>try (cases h;done)
  rename_i cs hE
  split at h<;>try (cases h;done)
  rename_i ps hps
  obtain⟨hsm,h⟩:=qac h
  split at h<;>try (cases h;done)
  rename_i m hE2
  simp only[zaa,zad] at h
  obtain⟨rfl,rfl⟩:=h
  have:=qbc _ _ hsm
  subst this
  refine⟨fun _=>rfl,fun {U pd l G w vs} mr ha=>?_⟩
  obtain⟨n,hn⟩:=hrun m
  obtain⟨s1,hx⟩:=qnl hn
  have mr0:=qlc (vs:=[(g1,ps),(g2,[.int .i64 m])]) mr fun g qs hm=>by
   simp only[zaI,zad,List.not_mem_nil,or_false] at hm
   rcases hm with⟨rfl,rfl⟩|⟨rfl,rfl⟩
   ·exact⟨hlit,cs,hE,hps⟩
   ·exact⟨rfl,_,hE2,rfl⟩
  rw[<-qb0 CP sp n (qmL _)] at mr0
  have hvs:vs= #[]:=by
   have:=ha.1
   simp at this
   exact Array.eq_empty_of_size_eq_zero this.symm
  subst hvs
  refine((qiL pk sk n _).call hx mr0 VRs.nil).mono fun u w' ⟨G',x1,mr',hv⟩=>?_
  have k:Keep w w':=⟨x1.size,x1.os,x1.tape,x1.output,fun b hb=>(x1.still b hb (qbY G 0 b)).1⟩
  refine⟨G,k.ext G,mr.keep k,?_⟩
  cases hv with|p _ _ hp=>
  cases hp
  exact .p _ _ (.bool _)
def Gv (vs:List (Nat×List zP)):Gh:=⟨fun b=>match qap vs b with|some ps=> .ro ps.length|none=> .free,fun _=>none,fun _ _=>none,0,0⟩
def qld (vs:List (Nat×List zP))(w:World):Prop:=∀g ps,qap vs g=some ps->ps.all qmt=true/\0<ps.length/\∀(i:Nat) p,ps[i]? =some p->∃v,w.cell? ⟨g,i,none⟩=some v/\∀S w,PR S w p v
theorem mrV {vs:List (Nat×List zP)}(hv:qld vs w):MR P (qmL vs) (fun _=>none) (fun _=>none) .nil s00 (Gv vs) w:=by
 have row:∀g ps,qap vs g=some ps->∃c T fr,w.heap[g]? =some (.cells c T fr)/\ps.length<=c.size/\∀(i:Nat) p v,ps[i]? =some p->c[i]? =some v->∀S w,PR S w p v:=by
  intro g ps hg
  obtain⟨_,h0,h1⟩:=hv g ps hg
  obtain⟨v0,hv0,_⟩:=h1 0 ps[0] (zai h0)
  have hcell:∃c T fr,w.heap[g]? =some (.cells c T fr):=by
   unfold World.cell? at hv0
   simp only at hv0
   split at hv0
   ·rename_i c T fr hh;exact⟨c,T,fr,hh⟩
   ·cases hv0
  obtain⟨c,T,fr,hh⟩:=hcell
  have at1:∀(i:Nat),w.cell? ⟨g,i,none⟩=c[i]?:=by
   intro i
   simp[World.cell?,hh]
  refine⟨c,T,fr,hh,?_,fun i p v hp hc=>?_⟩
  ·rcases Nat.lt_or_ge c.size ps.length with h|h
   ·obtain⟨v,hv1,_⟩:=h1 c.size ps[c.size] (zai h)
    rw[at1] at hv1
    simp at hv1
   ·exact h
  ·obtain⟨v',hv1,hp1⟩:=h1 i p hp
   rw[at1,hc] at hv1
   cases hv1
   exact hp1
 refine⟨fun b hb=>?_,fun k b h=>(by cases h),zaf _,fun k zs h=>(by cases h),fun i zs h=>(by cases h),rfl,fun i g cs h hg _=>(by cases h;exact absurd rfl hg),fun i g b h=>(by cases h),fun k o h=>(by rw[show qaD s00.heap k=none from qd9 k] at h;cases h),?_,
  fun t n sz h=>(by cases h),fun b t n sz h=>?_,fun b b' t n n' sz sz' h=>?_⟩
 ·cases ha:qap vs b with
  |none=>exact absurd (by simp only[Gv,ha]) hb
  |some ps=>
   obtain⟨c,T,fr,hh,_⟩:=row b ps ha
   exact(zag.1 hh).1
 ·intro k o hk
  unfold qmL at hk
  split at hk<;>try (cases hk;done)
  rename_i ps hps
  obtain⟨h1,h2⟩:=qac hk
  simp only[zaa] at h2
  subst h2
  have hge:=ble_iff.1 h1
  refine⟨fun h2=>absurd h2 (by omega),fun _=>?_⟩
  obtain⟨c,T,fr,hh,hsz,hc⟩:=row _ _ hps
  refine⟨ps.length,by simp only[Gv,hps],ps.map .p,rfl,by simp,zaj.2 fun a ha=>(by obtain⟨p,_,rfl⟩:=zaS.1 ha;rfl),c,T,fr,hh,by simpa using hsz,fun i a v ha hv=>?_⟩
  simp only[zav,zac] at ha
  obtain⟨p,hp,rfl⟩:=ha
  exact .p _ _ (hc i p v hp hv _ _)
 ·simp only[Gv] at h
  split at h<;>cases h
 ·simp only[Gv] at h
  split at h<;>cases h
theorem qoZ {CP:Nat->Option CF}{sp:Sp}(pk:ProgOK P CP)(sk:SpOK P CP sp){n f:Nat}{vs:List (Nat×List zP)}{args:List zA}(h:isT ((qd2 CP sp n (qmL vs)).call f args s00)=true)(hf:(CP f).isSome=true)(hv:qld vs w){us:Array Value}
  (ha:∀G w,VRs G w args us.toList):Calls P f us w fun e w'=>e=.returned (.bool true)/\Below w.heap.size w w':=by
 rw[qe2] at h
 obtain⟨s1,hx⟩:=qnl h
 refine Calls.mono (qnV pk sk hx hf (mrV hv) (ha _ _)) fun e w' ⟨u,he,G',x,_,hvr⟩=>⟨by rw[he,hvr.bool_inv],?_⟩
 have hs:∀b,((Gv vs).own b).still:=fun b=>by
  simp only[Gv]
  split<;>trivial
 exact⟨x.os,x.tape,x.output,x.size,fun i hi=>(x.still i hi (hs i)).1⟩
end Go.AI
namespace Go.Proofs
open Go.Shelf
def Tryz.lays154_ren:Go.Shelf.Ren:=⟨fun|154=>22|167=>276|138=>53|165=>54|143=>55|166=>15|197=>56|169=>18|195=>104|218=>105|240=>41|241=>106|219=>107|260=>108|276=>71|277=>165|217=>166|225=>167|224=>168|267=>169|266=>214|314=>215|n=>n,fun|9=>9|3=>3|4=>4|72=>49|0=>0|76=>52|105=>105|21=>21|5=>5|70=>46|20=>20|37=>47|75=>51|127=>91|164=>134|46=>238|119=>239|139=>242|138=>241|146=>296|51=>110|80=>60|n=>n,fun|1=>0|3=>1|4=>2|n=>n⟩
theorem Tryz.lays154:Go.Proofs.Lays.n154 Tryz.prog Tryz.lays154_ren:={
 mixed:=by kernel_rfl
 f138:=Tryz.func53.trans (congrArg some (by kernel_rfl))
 f143:=Tryz.func55.trans (congrArg some (by kernel_rfl))
 f154:=Tryz.func22.trans (congrArg some (by kernel_rfl))
 f165:=Tryz.func54.trans (congrArg some (by kernel_rfl))
 f166:=Tryz.func15.trans (congrArg some (by kernel_rfl))
 f169:=Tryz.func18.trans (congrArg some (by kernel_rfl))
 f195:=Tryz.func104.trans (congrArg some (by kernel_rfl))
 f197:=Tryz.func56.trans (congrArg some (by kernel_rfl))
 f217:=Tryz.func166.trans (congrArg some (by kernel_rfl))
 f218:=Tryz.func105.trans (congrArg some (by kernel_rfl))
 f219:=Tryz.func107.trans (congrArg some (by kernel_rfl))
 f224:=Tryz.func168.trans (congrArg some (by kernel_rfl))
 f225:=Tryz.func167.trans (congrArg some (by kernel_rfl))
 f240:=Tryz.func41.trans (congrArg some (by kernel_rfl))
 f241:=Tryz.func106.trans (congrArg some (by kernel_rfl))
 f260:=Tryz.func108.trans (congrArg some (by kernel_rfl))
 f266:=Tryz.func214.trans (congrArg some (by kernel_rfl))
 f267:=Tryz.func169.trans (congrArg some (by kernel_rfl))
 f276:=Tryz.func71.trans (congrArg some (by kernel_rfl))
 f277:=Tryz.func165.trans (congrArg some (by kernel_rfl))
 f314:=Tryz.func215.trans (congrArg some (by kernel_rfl))
 t0:=Tryz.underlying0
 a0:=Tryz.isAgg0
 z0:=Tryz.sizeOf0
 v0:=Tryz.zeroValue0
 t3:=Tryz.underlying3
 a3:=Tryz.isAgg3
 z3:=Tryz.sizeOf3
 v3:=Tryz.zeroValue3
 t4:=Tryz.underlying4
 a4:=Tryz.isAgg4
 z4:=Tryz.sizeOf4
 v4:=Tryz.zeroValue4
 t5:=Tryz.underlying5
 a5:=Tryz.isAgg5
 z5:=Tryz.sizeOf5
 v5:=Tryz.zeroValue5
 t9:=Tryz.underlying9
 a9:=Tryz.isAgg9
 z9:=Tryz.sizeOf9
 v9:=Tryz.zeroValue9
 t20:=Tryz.underlying20
 a20:=Tryz.isAgg20
 z20:=Tryz.sizeOf20
 v20:=Tryz.zeroValue20
 t21:=Tryz.underlying21
 a21:=Tryz.isAgg21
 z21:=Tryz.sizeOf21
 v21:=Tryz.zeroValue21
 t37:=Tryz.underlying47
 a37:=Tryz.isAgg47
 z37:=Tryz.sizeOf47
 v37:=Tryz.zeroValue47
 t46:=Tryz.underlying238
 a46:=Tryz.isAgg238
 z46:=Tryz.sizeOf238
 v46:=Tryz.zeroValue238
 t51:=Tryz.underlying110
 a51:=Tryz.isAgg110
 z51:=Tryz.sizeOf110
 v51:=Tryz.zeroValue110
 t70:=Tryz.underlying46
 a70:=Tryz.isAgg46
 z70:=Tryz.sizeOf46
 v70:=Tryz.zeroValue46
 t72:=Tryz.underlying49
 a72:=Tryz.isAgg49
 z72:=Tryz.sizeOf49
 v72:=Tryz.zeroValue49
 t75:=Tryz.underlying51
 a75:=Tryz.isAgg51
 z75:=Tryz.sizeOf51
 v75:=Tryz.zeroValue51
 t76:=Tryz.underlying52
 a76:=Tryz.isAgg52
 z76:=Tryz.sizeOf52
 v76:=Tryz.zeroValue52
 t105:=Tryz.underlying105
 a105:=Tryz.isAgg105
 z105:=Tryz.sizeOf105
 v105:=Tryz.zeroValue105
 t119:=Tryz.underlying239
 a119:=Tryz.isAgg239
 z119:=Tryz.sizeOf239
 t127:=Tryz.underlying91
 a127:=Tryz.isAgg91
 z127:=Tryz.sizeOf91
 v127:=Tryz.zeroValue91
 t138:=Tryz.underlying241
 a138:=Tryz.isAgg241
 z138:=Tryz.sizeOf241
 v138:=Tryz.zeroValue241
 t139:=Tryz.underlying242
 a139:=Tryz.isAgg242
 z139:=Tryz.sizeOf242
 v139:=Tryz.zeroValue242
 t146:=Tryz.underlying296
 a146:=Tryz.isAgg296
 z146:=Tryz.sizeOf296
 v146:=Tryz.zeroValue296
 t164:=Tryz.underlying134
 a164:=Tryz.isAgg134
 z164:=Tryz.sizeOf134
 v164:=Tryz.zeroValue134
 g1:=by kernel_rfl
 g3:=by kernel_rfl
 g4:=by kernel_rfl}
theorem Tryz.Builder_Extra_154:Builder.Extra Tryz.prog Tryz.lays154_ren:={
 sizeBuilder:=by kernel_rfl
 liesBuilder:=by kernel_rfl
 t5:=Tryz.underlying5
 a5:=Tryz.isAgg5
 z5:=Tryz.sizeOf5
 v5:=Tryz.zeroValue5
 infoByte:=by kernel_rfl
 cellsByte:=by kernel_rfl
 sizeByte:=by kernel_rfl
 neB5:=by decide}
theorem Tryz.lays138:Go.Proofs.Lays.n138 Tryz.prog Tryz.lays154_ren:={Tryz.lays154 with}
theorem Tryz.lays166:Go.Proofs.Lays.n166 Tryz.prog Tryz.lays154_ren:={Tryz.lays154 with}
theorem Tryz.lays169:Go.Proofs.Lays.n169 Tryz.prog Tryz.lays154_ren:={Tryz.lays154 with}
theorem Tryz.lays167:Go.Proofs.Lays.n167 Tryz.prog Tryz.lays154_ren:={Tryz.lays154 with
 f167:=Tryz.func276.trans (congrArg some (by kernel_rfl))}
end Go.Proofs
namespace Go.AI.Tryz
open Go Go.Proofs
theorem disable (w:World):(callFunc 288 #[]).run Tryz.prog w=.ok (.value (.tuple #[])) w:=run_call_mark0 Tryz.func288 (by kernel_rfl) (by kernel_rfl) (by kernel_rfl) .disable (by kernel_rfl) w
theorem enable (w:World):(callFunc 290 #[]).run Tryz.prog w=.ok (.value (.tuple #[])) w:=run_call_mark0 Tryz.func290 (by kernel_rfl) (by kernel_rfl) (by kernel_rfl) .enable (by kernel_rfl) w
theorem acquire (a:Addr)(w:World):(callFunc 291 #[.pointer (some a)]).run Tryz.prog w=.ok (.value (.tuple #[])) w:=run_call_marked Tryz.func291 (by kernel_rfl) (by kernel_rfl) (by kernel_rfl) .acquire (by kernel_rfl) a w
theorem releaseMerge (a:Addr)(w:World):(callFunc 293 #[.pointer (some a)]).run Tryz.prog w=.ok (.value (.tuple #[])) w:=run_call_marked Tryz.func293 (by kernel_rfl) (by kernel_rfl) (by kernel_rfl) .releaseMerge (by kernel_rfl) a w
set_option maxRecDepth 100000 in
set_option maxHeartbeats 1600000 in
theorem qfr (a:Addr)(x:Value)(u:FrameMode)(w:World)(hc:w.cell? a=some x)(hz:w.frozen? a=false):
  CallsD Tryz.prog 177 #[.pointer (some a),.bool true] u w fun e u' w'=>u'=u/\(e=.returned (.tuple #[])/\w'=w.drew.setCell a (.int .u32 1)):=by
 have hc':w.drew.cell? a=some x:=by go_simp
 have hz':w.drew.frozen? a=false:=by go_simp
 have hst:=run_call_store (P:=Tryz.prog) Tryz.func223 (by kernel_rfl) (by kernel_rfl) (by kernel_rfl) (by kernel_rfl) (k:=.u32) (y:=1) hc' hz'
 go_enter_d Tryz.func177,Tryz.ntmps177
 go_wp2
 go_region_calls
 all_goals (go_end0;exact⟨rfl,rfl⟩)
set_option maxRecDepth 100000 in
set_option maxHeartbeats 1600000 in
theorem qff (a:Addr)(u:FrameMode)(w:World)(hc:w.cell? a=some (.int .i32 1))(hz:w.frozen? a=false):
  CallsD Tryz.prog 176 #[.pointer (some a)] u w fun e u' w'=>u'=u/\(e=.returned (.tuple #[])/\w'=w.setCell a (.int .i32 0)):=by
 have hd:=disable
 have he:=enable
 have hr:=releaseMerge
 have hadd:=run_call_add (P:=Tryz.prog) Tryz.func294 (by kernel_rfl) (by kernel_rfl) (by kernel_rfl) .i32 (by kernel_rfl) (y:= -1) (s:=0) hc hz (by simp[go_sem];rfl)
 have hcv:=run_convert_to_unsafe (P:=Tryz.prog) (src:=366) (dst:=134) Tryz.underlying366 Tryz.underlying134 (by kernel_rfl) hc
 go_enter_d Tryz.func176,Tryz.ntmps176
 go_wp2
 go_end0
 go_wp2
 go_end0
 exact⟨rfl,rfl⟩
set_option maxRecDepth 100000 in
set_option maxHeartbeats 1600000 in
theorem qle (a:Addr)(w:World)(hc:w.cell? a=some (.int .i32 0))(hz:w.frozen? a=false):
  Calls Tryz.prog 175 #[.pointer (some a)] w fun e w'=>e=.returned (.tuple #[])/\w'=w.setCell a (.int .i32 1):=by
 have hd:=disable
 have he:=enable
 have ha:=acquire
 have hcas:=run_call_cas_hit (P:=Tryz.prog) Tryz.func289 (by kernel_rfl) (by kernel_rfl) (by kernel_rfl) .i32 (by kernel_rfl) (y:=1) hc hz
 have hc':(w.setCell a (.int .i32 1)).cell? a=some (.int .i32 1):=World.cell?_setCell_same w a _ hc
 have hcv:=run_convert_to_unsafe (P:=Tryz.prog) (src:=366) (dst:=134) Tryz.underlying366 Tryz.underlying134 (by kernel_rfl) hc'
 go_enter Tryz.func175,Tryz.ntmps175
 go_wp2
 first|go_end0|(simp only[Exit.inBlock,Exit.then];refine bodyPost_ret (results_none rfl _ _ _) rfl ?_)|refine bodyPost_ret (results_none rfl _ _ _) rfl ?_
 go_wp2
 go_end0
 exact⟨rfl,rfl⟩
set_option maxRecDepth 100000 in
set_option maxHeartbeats 1600000 in
theorem qmM (b off:Nat)(fn:Nat)(first cap:Array Value)(w:World)(Q:World->Prop)
  (h0:w.cell? ⟨b,off,none⟩=some (.int .u32 0))(h1:w.cell? ⟨b,off+1,none⟩=some (.int .i32 0))(f0:w.frozen? ⟨b,off,none⟩=false)(f1:w.frozen? ⟨b,off+1,none⟩=false)
  (he:(callFunc fn (first++cap)).run Tryz.prog (w.setCell ⟨b,off+1,none⟩ (.int .i32 1))=.ok (.enter fn (first++cap)) (w.setCell ⟨b,off+1,none⟩ (.int .i32 1)))
  (hf:Calls Tryz.prog fn (first++cap) (w.setCell ⟨b,off+1,none⟩ (.int .i32 1)) fun e w2=>(∃v,e=.returned v)/\Q w2)
  (hQ:∀w2,Q w2->w2.cell? ⟨b,off,none⟩=some (.int .u32 0)/\w2.cell? ⟨b,off+1,none⟩=some (.int .i32 1)/\w2.frozen? ⟨b,off,none⟩=false/\w2.frozen? ⟨b,off+1,none⟩=false):
  Calls Tryz.prog 111 #[.pointer (some ⟨b,off,none⟩),.func (.func fn) first cap] w fun e w'=>e=.returned (.tuple #[])/\∃w2,Q w2/\w'=(w2.drew.setCell ⟨b,off,none⟩ (.int .u32 1)).setCell ⟨b,off+1,none⟩ (.int .i32 0):=by
 have hl:=run_call_load (P:=Tryz.prog) Tryz.func174 (by kernel_rfl) (by kernel_rfl) (by kernel_rfl) .u32 (by kernel_rfl) (w:=w.setCell ⟨b,off+1,none⟩ (.int .i32 1)) (a:=⟨b,off,none⟩) (x:=0) ((World.cell?_setCell_other _ ⟨b,off+1,none⟩ ⟨b,off,none⟩ _ (by simp)).trans h0)
 have hnot:∀(x:Bool) (w:World),(Op.unary .not (.bool x)).run Tryz.prog w=.ok (.bool (!x)) w:=fun _ _=>rfl
 go_enter_defers Tryz.func111,Tryz.ntmps111
 go_wp2_with (go_at_call 175;refine(qle ⟨b,off+1,none⟩ _ (by go_simp) (by go_simp)).mono ?_;rintro e w' ⟨rfl,rfl⟩)
 go_wp2
 refine hf.mono ?_
 rintro e w2 ⟨⟨v,rfl⟩,hq⟩
 obtain⟨k0,k1,k2,k3⟩:=hQ w2 hq
 go_wp2
 refine leaves_cons (f:=177) (args:= #[.pointer (some ⟨b,off,none⟩),.bool true]) (by simp) (by simp[go_sem]) ?_
 refine(qfr ⟨b,off,none⟩ (.int .u32 0) .returning _ k0 k2).mono ?_
 rintro e u' w'' ⟨rfl,rfl,rfl⟩
 refine leaves_cons (f:=176) (args:= #[.pointer (some ⟨b,off+1,none⟩)]) (by simp[settle]) (by simp[go_sem]) ?_
 refine(qff ⟨b,off+1,none⟩ _ _ ?_ (by simp[k3])).mono ?_
 ·refine(World.cell?_setCell_other _ ⟨b,off,none⟩ ⟨b,off+1,none⟩ _ (by simp)).trans ?_
  rw[World.cell?_drew]
  exact k1
 rintro e u' w'' ⟨rfl,rfl,rfl⟩
 simp[Leaves,settle,results,Tryz.results111]
 exact⟨w2,hq,rfl⟩
set_option maxRecDepth 100000 in
set_option maxHeartbeats 1600000 in
theorem qo0 (b off:Nat)(fn:Nat)(first cap:Array Value)(w:World)(Q:World->Prop)
  (h0:w.cell? ⟨b,off,none⟩=some (.int .u32 0))(h1:w.cell? ⟨b,off+1,none⟩=some (.int .i32 0))(f0:w.frozen? ⟨b,off,none⟩=false)(f1:w.frozen? ⟨b,off+1,none⟩=false)
  (he:(callFunc fn (first++cap)).run Tryz.prog (w.setCell ⟨b,off+1,none⟩ (.int .i32 1))=.ok (.enter fn (first++cap)) (w.setCell ⟨b,off+1,none⟩ (.int .i32 1)))
  (hf:Calls Tryz.prog fn (first++cap) (w.setCell ⟨b,off+1,none⟩ (.int .i32 1)) fun e w2=>(∃v,e=.returned v)/\Q w2)
  (hQ:∀w2,Q w2->w2.cell? ⟨b,off,none⟩=some (.int .u32 0)/\w2.cell? ⟨b,off+1,none⟩=some (.int .i32 1)/\w2.frozen? ⟨b,off,none⟩=false/\w2.frozen? ⟨b,off+1,none⟩=false):
  Calls Tryz.prog 58 #[.pointer (some ⟨b,off,none⟩),.func (.func fn) first cap] w fun e w'=>e=.returned (.tuple #[])/\∃w2,Q w2/\w'=(w2.drew.setCell ⟨b,off,none⟩ (.int .u32 1)).setCell ⟨b,off+1,none⟩ (.int .i32 0):=by
 have hl:=run_call_load (P:=Tryz.prog) Tryz.func174 (by kernel_rfl) (by kernel_rfl) (by kernel_rfl) .u32 (by kernel_rfl) h0
 have hnot:∀(x:Bool) (w:World),(Op.unary .not (.bool x)).run Tryz.prog w=.ok (.bool (!x)) w:=fun _ _=>rfl
 go_enter Tryz.func58,Tryz.ntmps58
 go_wp2_with (first|(go_at_call 111;refine(qmM b off fn first cap _ Q h0 h1 f0 f1 he hf hQ).mono ?_;rintro e w' ⟨rfl,hw⟩)|(go_at_call 110;go_in))
 go_end0
 exact⟨rfl,hw⟩
theorem qqn:qm5 Tryz.prog 58:=fun b off fn first cap w Q h0 h1 f0 f1 he hf hQ=>qo0 b off fn first cap w Q h0 h1 f0 f1 he hf hQ
theorem qh7 (args:Array Value)(w:World):(callFunc 58 args).run Tryz.prog w=.ok (.enter 58 args) w:=by
 obtain⟨body,hb⟩:∃body,Tryz.f58.body=some body:=⟨_,rfl⟩
 exact qaO Tryz.func58 hb (by kernel_rfl) args w
end Go.AI.Tryz
namespace Go.AI.Tryz
open Go Go.Proofs
set_option maxRecDepth 100000 in
set_option maxHeartbeats 400000 in
theorem qlf (a b c:Addr)(w:World):
  CallsD Tryz.prog 75 #[.pointer (some a),.pointer (some b),.pointer (some c)] .returning w fun e u' w'=>e=.returned (.tuple #[])/\u'=.returning/\w'=w:=by
 refine callsD_of_wpS Tryz.func75 rfl fun c₀ cs hu=>?_
 apply wpS_seq
 apply wpS_region
 simp[wpOpsS,go_sem,recoverD,hu,Tryz.ntmps75,Exit.thenS]
 refine wpS_of_wp (wp_block ?_)
 apply wp_seq
 apply wp_region
 simp[wpOps,go_sem,Exit.then]
 refine .inl (wp_cond (t:=true) (by simp[Act.eval,Array.replicate]) ?_)
 simp only[if_true]
 apply wp_region
 simp[wpOps,go_sem,Exit.inBlock,Exit.then]
 refine .inl ?_
 cases c₀
 simp_all [bodyPostS,results,Tryz.results75]
set_option maxRecDepth 100000 in
set_option maxHeartbeats 1600000 in
theorem qmN (rv:Value)(fn:Nat)(first cap:Array Value)(w:World)(Q:Value->World->Prop)
  (he:(callFunc fn (first++cap)).run Tryz.prog (tw3 85 3 4 w)=.ok (.enter fn (first++cap)) (tw3 85 3 4 w))
  (hf:Calls Tryz.prog fn (first++cap) (tw3 85 3 4 w) fun e w2=>∃v,e=.returned v/\Q v w2)
  (hQ:∀v w2,Q v w2->v.oneCell'=true/\∀i,i<3->(∃z,w2.cell? ⟨w.heap.size+i,0,none⟩=some z)/\w2.frozen? ⟨w.heap.size+i,0,none⟩=false):
  Calls Tryz.prog 44 #[rv,.func (.func fn) first cap] w fun e w'=>∃v w2,Q v w2/\e=.returned (.tuple #[v,.int .i64 0,.bool true])/\w'=((w2.setCell ⟨w.heap.size,0,none⟩ v).setCell ⟨w.heap.size+1,0,none⟩ (.int .i64 0)).setCell ⟨w.heap.size+2,0,none⟩ (.bool true):=by
 unfold tw3 at he hf
 go_enter_defers Tryz.func44,Tryz.ntmps44
 go_wp2
 refine hf.mono ?_
 rintro e w2 ⟨v,rfl,hq⟩
 obtain⟨h1,hQ⟩:=hQ v w2 hq
 obtain⟨⟨z0,k0⟩,f0⟩:=hQ 0 (by omega)
 obtain⟨⟨z1,k1⟩,f1⟩:=hQ 1 (by omega)
 obtain⟨⟨z2,k2⟩,f2⟩:=hQ 2 (by omega)
 rw[Nat.add_zero] at k0 f0
 have s0:=qdV (P:=Tryz.prog) h1 k0 f0
 have s1:=qdV (P:=Tryz.prog) (v:=.int .i64 0) rfl (w:=w2.setCell ⟨w.heap.size,0,none⟩ v) (a:=⟨w.heap.size+1,0,none⟩) ((World.cell?_setCell_other w2 ⟨w.heap.size,0,none⟩ ⟨w.heap.size+1,0,none⟩ v (by simp)).trans k1) (by simp[f1])
 have s2:=qdV (P:=Tryz.prog) (v:=.bool true) rfl (w:=(w2.setCell ⟨w.heap.size,0,none⟩ v).setCell ⟨w.heap.size+1,0,none⟩ (.int .i64 0)) (a:=⟨w.heap.size+1+1,0,none⟩) ((World.cell?_setCell_other _ ⟨w.heap.size+1,0,none⟩ ⟨w.heap.size+1+1,0,none⟩ _ (by simp)).trans ((World.cell?_setCell_other w2 ⟨w.heap.size,0,none⟩ ⟨w.heap.size+1+1,0,none⟩ v (by simp)).trans k2)) (by simp[f2])
 go_wp2
 rw[s0,Result.andThen_ok]
 go_wp2
 have e0:((((w2.setCell ⟨w.heap.size,0,none⟩ v).setCell ⟨w.heap.size+1,0,none⟩ (.int .i64 0)).setCell ⟨w.heap.size+1+1,0,none⟩ (.bool true))).cell? ⟨w.heap.size,0,none⟩=some v:=
  (World.cell?_setCell_other _ ⟨w.heap.size+1+1,0,none⟩ ⟨w.heap.size,0,none⟩ _ (by simp)).trans ((World.cell?_setCell_other _ ⟨w.heap.size+1,0,none⟩ ⟨w.heap.size,0,none⟩ _ (by simp)).trans (World.cell?_setCell_same w2 _ _ k0))
 have e1:((((w2.setCell ⟨w.heap.size,0,none⟩ v).setCell ⟨w.heap.size+1,0,none⟩ (.int .i64 0)).setCell ⟨w.heap.size+1+1,0,none⟩ (.bool true))).cell? ⟨w.heap.size+1,0,none⟩=some (.int .i64 0):=
  (World.cell?_setCell_other _ ⟨w.heap.size+1+1,0,none⟩ ⟨w.heap.size+1,0,none⟩ _ (by simp)).trans (World.cell?_setCell_same _ _ _ ((World.cell?_setCell_other w2 ⟨w.heap.size,0,none⟩ ⟨w.heap.size+1,0,none⟩ v (by simp)).trans k1))
 have e2:((((w2.setCell ⟨w.heap.size,0,none⟩ v).setCell ⟨w.heap.size+1,0,none⟩ (.int .i64 0)).setCell ⟨w.heap.size+1+1,0,none⟩ (.bool true))).cell? ⟨w.heap.size+1+1,0,none⟩=some (.bool true):=
  World.cell?_setCell_same _ _ _ ((World.cell?_setCell_other _ ⟨w.heap.size+1,0,none⟩ ⟨w.heap.size+1+1,0,none⟩ _ (by simp)).trans ((World.cell?_setCell_other w2 ⟨w.heap.size,0,none⟩ ⟨w.heap.size+1+1,0,none⟩ v (by simp)).trans k2))
 refine leaves_cons (f:=75) (args:= #[.pointer (some ⟨w.heap.size,0,none⟩),.pointer (some ⟨w.heap.size+1,0,none⟩),.pointer (some ⟨w.heap.size+1+1,0,none⟩)]) (by simp) (by simp[go_sem]) ?_
 refine(qlf ⟨w.heap.size,0,none⟩ ⟨w.heap.size+1,0,none⟩ ⟨w.heap.size+1+1,0,none⟩ _).mono ?_
 rintro e u' w'' ⟨rfl,rfl,rfl⟩
 generalize hW:((w2.setCell ⟨w.heap.size,0,none⟩ v).setCell ⟨w.heap.size+1,0,none⟩ (.int .i64 0)).setCell ⟨w.heap.size+1+1,0,none⟩ (.bool true)=W at e0 e1 e2⊢
 simp[Leaves,settle,results,Tryz.results44,go_sem,e0,e1,e2]
 exact⟨v,w2,hq,rfl,hW.symm⟩
theorem qo1:qkM Tryz.prog 44 85 3 4:=fun rv fn first cap w Q he hf hQ=>qmN rv fn first cap w Q he hf hQ
theorem qd4 (args:Array Value)(w:World):(callFunc 44 args).run Tryz.prog w=.ok (.enter 44 args) w:=by
 obtain⟨body,hb⟩:∃body,Tryz.f44.body=some body:=⟨_,rfl⟩
 exact qaO Tryz.func44 hb (by kernel_rfl) args w
end Go.AI.Tryz
namespace Go.AI.Tryz
open Go Go.Proofs
set_option maxRecDepth 100000 in
set_option maxHeartbeats 1600000 in
theorem qqo:qkN Tryz.prog 129 127 141:=fun rv w Q hp=>by
 go_enter Tryz.func129,Tryz.ntmps129
 go_wp2_with (go_at_call 127;refine hp.mono ?_;rintro e w' ⟨n,rfl,hq⟩)
 simp[go_sem,Oper.upon]
 exact⟨rfl,n,rfl,hq⟩
set_option maxRecDepth 100000 in
set_option maxHeartbeats 1600000 in
theorem qqp:qkO Tryz.prog 79 77 129 141:=fun rv b w Q1 Q hm hf=>by
 go_enter Tryz.func79,Tryz.ntmps79
 go_wp2_with (first|(go_at_call 77;refine hm.mono ?_;rintro e w' ⟨rfl,hq⟩)|(go_at_call 129;refine(hf _ hq).mono ?_;rintro e w' ⟨n,rfl,hq⟩))
 exact⟨rfl,n,rfl,hq⟩
set_option maxRecDepth 100000 in
set_option maxHeartbeats 1600000 in
theorem qqq:qkP Tryz.prog 45 76 77 79 141 2 4:=fun rv w Q1 Q2 Q3 Q ho hi hd hn=>by
 go_enter Tryz.func45,Tryz.ntmps45
 go_wp2_with (go_at_call 76;refine ho.mono ?_;rintro e w' ⟨k,rfl,hq⟩)
 go_at_call 77
 refine(hi _ _ hq).mono ?_
 rintro e w2 ⟨rfl,hq2⟩
 obtain⟨⟨z,hz⟩,hfz,hc⟩:=hd k w2 hq2
 go_wp2_with (go_at_call 100000)
 refine hc.mono ?_
 rintro e w3 ⟨rfl,hq3⟩
 go_wp2_with (go_at_call 79;refine(hn k _ hq3).mono ?_;rintro e w4 ⟨n,rfl,hq4⟩)
 exact⟨rfl,n,rfl,hq4⟩
set_option maxRecDepth 100000 in
set_option maxHeartbeats 1600000 in
theorem qjE (x y z:Nat)(n:Int)(w:World)(z0 z1 z2:Value)(hxy:x≠y)(hxz:x≠z)(hyz:y≠z)(lx:x<w.heap.size)(ly:y<w.heap.size)(lz:z<w.heap.size)
  (k0:w.cell? ⟨x,0,none⟩=some z0)(k1:w.cell? ⟨y,0,none⟩=some z1)(k2:w.cell? ⟨z,0,none⟩=some z2)(f0:w.frozen? ⟨x,0,none⟩=false)(f1:w.frozen? ⟨y,0,none⟩=false)(f2:w.frozen? ⟨z,0,none⟩=false):
  CallsD Tryz.prog 75 #[.pointer (some ⟨x,0,none⟩),.pointer (some ⟨y,0,none⟩),.pointer (some ⟨z,0,none⟩)] (.panicking [{v:=.iface 141 (.agg #[.int .i64 n]),recovered:=false}]) w fun e u' w'=>e=.returned (.tuple #[])/\u'=.panicking [{v:=.iface 141 (.agg #[.int .i64 n]),recovered:=true}]/\w'=((((w.alloc (.cells #[.int .i64 n] 141)).setCell ⟨x,0,none⟩ (.pointer none)).setCell ⟨y,0,none⟩ (.int .i64 n)).setCell ⟨z,0,none⟩ (.bool false)).drew:=by
 refine callsD_of_wpS Tryz.func75 rfl fun c₀ cs hu=>?_
 apply wpS_seq
 apply wpS_region
 simp[wpOpsS,go_sem,recoverD,hu,Tryz.ntmps75,Exit.thenS]
 refine wpS_of_wp (wp_block ?_)
 apply wp_seq
 apply wp_region
 simp[wpOps,go_sem,Exit.then]
 refine .inl ?_
 generalize hQ:(Exit.inBlock 0 _:Exit->Act->World->Prop)=Q'
 change Code.wp _ _ Q' {tmps:= #[.pointer (some ⟨x,0,none⟩),.pointer (some ⟨y,0,none⟩),.pointer (some ⟨z,0,none⟩),undef,undef,undef,.iface 141 (.agg #[.int .i64 n]),undef,.bool false,undef,undef,undef,undef,undef],defers:=[]} w
 have has:∀w:World,(Instr.typeAssert (.iface 141 (.agg #[.int .i64 n])) 20 141 true).run Tryz.prog w=.ok (.tuple #[.agg #[.int .i64 n],.bool true]) w:=fun w=>by kernel_rfl
 go_wp2
 have c0:(w.alloc (.cells #[.int .i64 n] 141)).cell? ⟨x,0,none⟩=some z0:=(World.cell?_alloc_past _ _ _ lx).trans k0
 have c1:(w.alloc (.cells #[.int .i64 n] 141)).cell? ⟨y,0,none⟩=some z1:=(World.cell?_alloc_past _ _ _ ly).trans k1
 have c2:(w.alloc (.cells #[.int .i64 n] 141)).cell? ⟨z,0,none⟩=some z2:=(World.cell?_alloc_past _ _ _ lz).trans k2
 have cq:(w.alloc (.cells #[.int .i64 n] 141)).cell? ⟨w.heap.size,0,none⟩=some (.int .i64 n):=World.cell?_alloc_at _ _ _ _ rfl
 have d0:(w.alloc (.cells #[.int .i64 n] 141)).frozen? ⟨x,0,none⟩=false:=(World.frozen?_alloc_past _ _ _ lx).trans f0
 have d1:(w.alloc (.cells #[.int .i64 n] 141)).frozen? ⟨y,0,none⟩=false:=(World.frozen?_alloc_past _ _ _ ly).trans f1
 have d2:(w.alloc (.cells #[.int .i64 n] 141)).frozen? ⟨z,0,none⟩=false:=(World.frozen?_alloc_past _ _ _ lz).trans f2
 have lq:x≠w.heap.size/\y≠w.heap.size/\z≠w.heap.size:=⟨by omega,by omega,by omega⟩
 have hN:∀(tm:Array Value),Q' .normal {tmps:=tm,defers:=[]} ((((w.alloc (.cells #[.int .i64 n] 141)).setCell ⟨x,0,none⟩ (.pointer none)).setCell ⟨y,0,none⟩ (.int .i64 n)).setCell ⟨z,0,none⟩ (.bool false)).drew:=fun tm=>by
  subst hQ
  simp[Exit.inBlock]
  cases c₀
  simp_all [bodyPostS,results,Tryz.results75]
 clear hQ
 generalize hW:World.alloc w (.cells #[.int .i64 n] 141)=W at*
 generalize w.heap.size=q at*
 obtain⟨l0,l1,l2⟩:=lq
 have m0:=hxy.symm
 have m1:=hxz.symm
 have m2:=hyz.symm
 have m3:=l0.symm
 have m4:=l1.symm
 have m5:=l2.symm
 go_region
 all_goals exact hN _
set_option maxRecDepth 100000 in
set_option maxHeartbeats 1600000 in
theorem qlg (rv:Value)(fn:Nat)(first cap:Array Value)(w:World)(Q:Int->World->Prop)
  (he:(callFunc fn (first++cap)).run Tryz.prog (tw3 85 3 4 w)=.ok (.enter fn (first++cap)) (tw3 85 3 4 w))
  (hf:Calls Tryz.prog fn (first++cap) (tw3 85 3 4 w) fun e w2=>∃n,e=pan 141 n/\Q n w2)
  (hQ:∀n w2,Q n w2->∀i,i<3->(∃z,w2.cell? ⟨w.heap.size+i,0,none⟩=some z)/\w2.frozen? ⟨w.heap.size+i,0,none⟩=false):
  Calls Tryz.prog 44 #[rv,.func (.func fn) first cap] w fun e w'=>∃n w2,Q n w2/\e=.returned (.tuple #[.pointer none,.int .i64 n,.bool false])/\w'=((((w2.alloc (.cells #[.int .i64 n] 141)).setCell ⟨w.heap.size,0,none⟩ (.pointer none)).setCell ⟨w.heap.size+1,0,none⟩ (.int .i64 n)).setCell ⟨w.heap.size+2,0,none⟩ (.bool false)).drew:=by
 unfold tw3 at he hf
 go_enter_defers Tryz.func44,Tryz.ntmps44
 go_wp2
 refine hf.mono ?_
 rintro e w2 ⟨n,rfl,hq⟩
 have hQ:=hQ n w2 hq
 obtain⟨⟨z0,k0⟩,f0⟩:=hQ 0 (by omega)
 obtain⟨⟨z1,k1⟩,f1⟩:=hQ 1 (by omega)
 obtain⟨⟨z2,k2⟩,f2⟩:=hQ 2 (by omega)
 rw[Nat.add_zero] at k0 f0
 have lt:∀{b:Nat} {z:Value},w2.cell? ⟨b,0,none⟩=some z->b<w2.heap.size:=fun {b z} h=>by
  by_cases hb:b<w2.heap.size
  ·exact hb
  ·simp[World.cell?,Array.getElem?_eq_none (Nat.le_of_not_lt hb)] at h
 change Leaves Tryz.prog Tryz.f44 _ _ _ (.panicking _) w2
 refine leaves_cons (f:=75) (args:= #[.pointer (some ⟨w.heap.size,0,none⟩),.pointer (some ⟨w.heap.size+1,0,none⟩),.pointer (some ⟨w.heap.size+1+1,0,none⟩)]) (by simp) (by simp[go_sem]) ?_
 refine(qjE w.heap.size (w.heap.size+1) (w.heap.size+1+1) n w2 z0 z1 z2 (by omega) (by omega) (by omega) (lt k0) (lt k1) (lt k2) k0 k1 k2 f0 f1 f2).mono ?_
 rintro e u' w'' ⟨rfl,rfl,rfl⟩
 generalize hW0:w2.alloc (.cells #[.int .i64 n] 141)=W0
 have p0:W0.cell? ⟨w.heap.size,0,none⟩=some z0:=by subst hW0;exact(World.cell?_alloc_past _ _ _ (lt k0)).trans k0
 have p1:W0.cell? ⟨w.heap.size+1,0,none⟩=some z1:=by subst hW0;exact(World.cell?_alloc_past _ _ _ (lt k1)).trans k1
 have p2:W0.cell? ⟨w.heap.size+1+1,0,none⟩=some z2:=by subst hW0;exact(World.cell?_alloc_past _ _ _ (lt k2)).trans k2
 have e0:(((W0.setCell ⟨w.heap.size,0,none⟩ (.pointer none)).setCell ⟨w.heap.size+1,0,none⟩ (.int .i64 n)).setCell ⟨w.heap.size+1+1,0,none⟩ (.bool false)).drew.cell? ⟨w.heap.size,0,none⟩=some (.pointer none):=
  (World.cell?_setCell_other _ ⟨w.heap.size+1+1,0,none⟩ ⟨w.heap.size,0,none⟩ _ (by simp)).trans ((World.cell?_setCell_other _ ⟨w.heap.size+1,0,none⟩ ⟨w.heap.size,0,none⟩ _ (by simp)).trans (World.cell?_setCell_same W0 _ _ p0))
 have e1:(((W0.setCell ⟨w.heap.size,0,none⟩ (.pointer none)).setCell ⟨w.heap.size+1,0,none⟩ (.int .i64 n)).setCell ⟨w.heap.size+1+1,0,none⟩ (.bool false)).drew.cell? ⟨w.heap.size+1,0,none⟩=some (.int .i64 n):=
  (World.cell?_setCell_other _ ⟨w.heap.size+1+1,0,none⟩ ⟨w.heap.size+1,0,none⟩ _ (by simp)).trans (World.cell?_setCell_same _ _ _ ((World.cell?_setCell_other W0 ⟨w.heap.size,0,none⟩ ⟨w.heap.size+1,0,none⟩ _ (by simp)).trans p1))
 have e2:(((W0.setCell ⟨w.heap.size,0,none⟩ (.pointer none)).setCell ⟨w.heap.size+1,0,none⟩ (.int .i64 n)).setCell ⟨w.heap.size+1+1,0,none⟩ (.bool false)).drew.cell? ⟨w.heap.size+1+1,0,none⟩=some (.bool false):=
  World.cell?_setCell_same _ _ _ ((World.cell?_setCell_other _ ⟨w.heap.size+1,0,none⟩ ⟨w.heap.size+1+1,0,none⟩ _ (by simp)).trans ((World.cell?_setCell_other W0 ⟨w.heap.size,0,none⟩ ⟨w.heap.size+1+1,0,none⟩ _ (by simp)).trans p2))
 generalize hW:(((W0.setCell ⟨w.heap.size,0,none⟩ (.pointer none)).setCell ⟨w.heap.size+1,0,none⟩ (.int .i64 n)).setCell ⟨w.heap.size+1+1,0,none⟩ (.bool false)).drew=W at e0 e1 e2⊢
 simp[Leaves,settle,results,Tryz.results44,go_sem,e0,e1,e2]
 refine⟨n,w2,hq,?_⟩
 subst hW0
 simp[hW]
theorem qmO:qiU Tryz.prog 44 85 3 4 141:=fun rv fn first cap w Q he hf hQ=>qlg rv fn first cap w Q he hf hQ
theorem qmP (args:Array Value)(w:World):(callFunc 45 args).run Tryz.prog w=.ok (.enter 45 args) w:=by
 obtain⟨body,hb⟩:∃body,Tryz.f45.body=some body:=⟨_,rfl⟩
 exact qaO Tryz.func45 hb (by kernel_rfl) args w
theorem qmQ (args:Array Value)(w:World):(callFunc 76 args).run Tryz.prog w=.ok (.enter 76 args) w:=by
 obtain⟨body,hb⟩:∃body,Tryz.f76.body=some body:=⟨_,rfl⟩
 exact qaO Tryz.func76 hb (by kernel_rfl) args w
theorem qmR (args:Array Value)(w:World):(callFunc 77 args).run Tryz.prog w=.ok (.enter 77 args) w:=by
 obtain⟨body,hb⟩:∃body,Tryz.f77.body=some body:=⟨_,rfl⟩
 exact qaO Tryz.func77 hb (by kernel_rfl) args w
theorem qlh (args:Array Value)(w:World):(callFunc 127 args).run Tryz.prog w=.ok (.enter 127 args) w:=by
 obtain⟨body,hb⟩:∃body,Tryz.f127.body=some body:=⟨_,rfl⟩
 exact qaO Tryz.func127 hb (by kernel_rfl) args w
end Go.AI.Tryz
