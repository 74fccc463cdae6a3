/- Part 2: an interpreter for the code of the model, proved sound. No condition. -/
import Derived.Test.YtgecccghlgpmjaaGreatPa
import Derived.LoopNIn
import Derived.RowKit3
import Derived.ChangeArms
import Derived.ChangeSame
set_option linter.unusedVariables false
set_option linter.unusedSimpArgs false
open Array renaming getElem?_toList→zaL,getElem?_eq_some_iff→zaQ,getD_eq_getD_getElem?→zaW,getElem?_eq_getElem→za3,length_toList→zbc
open Bool renaming and_eq_true→zag,false_eq_true→zai,not_true→zak,not_false→zal,and_self→zat,false_and→zav,or_eq_false_iff→zaU,not_eq_true'→za0,or_eq_true→za5,false_or→za6,true_or→zbl
open List renaming getElem?_eq_getElem→zah,map_cons→zam,getElem?_eq_some_iff→zao,length_cons→zar,getElem?_cons_zero→zas,mem_cons_self→zau,length_append→zaw,mem_cons_of_mem→zax,mem_cons→zaA,getElem?_append_right→zaC,cons_append→zaF,append_assoc→zaH,mem_append→zaI,mem_of_getElem?→zaM,all_eq_true→zaN,getElem?_cons_succ→zaO,getElem?_append_left→zaP,mem_singleton→zaV,length_map→zaZ,length_eq_zero_iff→za1,getElem?_map→za9,mem_range→zba
open Nat renaming le_refl→zan,lt_irrefl→zaX,zero_le→zaY,lt_of_lt_of_le→za2,lt_succ_self→zbe,le_trans→zbf,lt_or_ge→zbi,add_zero→zbk,lor→zbm
open Option renaming bind_some→zaa,map_some→zab,map_eq_some_iff→zad,bind_eq_some_iff→zae,getD_some→zaE
open Option.some renaming injEq→zac
open Prod.mk renaming injEq→zaq
namespace Go.AI
variable {P:Program} {e:Env} {lof:Nat->Option Nat} {nt base:Nat} {ops:Array Oper} {cs:List COp} {ms:List Nat} {tr:Nat->Cfg} {G0:Gh} {w0:World} {U0:Nat->Option (List zA)}
theorem qdp {o:Oper}{t:TypeId}{i:Ins}(h:qoq P lof true o=some i)(hop:o.op=.alloc t):∃z d,zeroCells P t=some z/\o.dst=some d/\((∃q,i=.alloced q/\lof d=some q)\/(i=.halloced d/\lof d=none)):=by
 simp only[qoq,hop,zae,zad] at h
 obtain⟨d,hd,z,hz,h⟩:=h
 split at h
 ·rename_i j hj
  exact⟨z,d,hz,hd,.inl ⟨j,h.symm,hj⟩⟩
 ·rename_i hj
  exact⟨z,d,hz,hd,.inr ⟨h.symm,hj⟩⟩
theorem qkp {i:Ins}:qjY i=false->(∀q,i≠.alloced q)/\∀d,i≠.halloced d:=by
 intro h
 exact⟨fun q e=>(by subst e;cases h),fun q e=>(by subst e;cases h)⟩
section
variable (D:Drawn P e lof nt ops cs ms tr) {S:Nat->Prop} {U pd:Nat->Option (List zA)} {m:Nat} {G:Gh} {a:Act} {w:World} (I:Inv P e U0 nt base ops cs tr G0 w0 S U pd m G a w)
include D I
theorem Inv.loads {i:Nat}{co:COp}(hi:cs[i]? =some co){n:Option Nat}{g:Arg}(hl:qia co.op=some (n,g))(hw:wanted (tr i).f co.guard=some true)(hS:¬S i)(hcl:∀k j,S k->qcw ms k j=true->S j)(hrd:∀k,qcw ms i k=true->S k):
  loadFrom e.E (tr m).l (tr m).s (g.ev (tr i).f) (cnt n)=loadFrom e.E (tr i).l (tr i).s (g.ev (tr i).f) (cnt n):=by
 have hil:i<cs.length:=(zao.1 hi).1
 have fls:∀k j,qcw ms k j≠true->qcw ms k j=false:=fun k j h=>by cases e:qcw ms k j<;>simp_all
 rcases Nat.le_total m i with hmi|hmi
 ·symm
  refine D.load hmi (by omega) fun j b h1 h2 hj hb=>D.chk i j co b n g hi hl hw hj hb (fls _ _ fun h=>?_) (fls _ _ fun h=>?_)
  ·have:=D.wlt _ _ h;omega
  ·have:=(I.heavy j b hj hb).1 (hrd j h);omega
 ·refine D.load hmi I.mle fun j b h1 h2 hj hb=>D.chk i j co b n g hi hl hw hj hb (fls _ _ fun h=>?_) (fls _ _ fun h=>?_)
  ·exact hS (hcl j i ((I.heavy j b hj hb).2 h2) h)
  ·have:=D.wlt _ _ h;omega
theorem qs9 {ro:Option Nat}(se:SoundEnv P e){i:Nat}{o:Oper}{co:COp}(ho:ops[i]? =some o)(hi:cs[i]? =some co)(hS:¬S i)(hcl:∀k j,S k->qcw ms k j=true->S j)(hrd:∀k,qcw ms i k=true->S k){K:Act->World->Prop}{Q:Exit->Act->World->Prop}
  (k:∀U' pd' m' G' a' w',Inv P e U0 nt base ops cs tr G0 w0 (fun j=>S j\/j=i) U' pd' m' G' a' w'->K a' w'):
  if Region.wanted o (yielded ops a.tmps) then o.wpIn (FW ro) 0 P a w K Q else(∀f,o.about P w a.eval=some f->(FW ro).fn f)/\K (a.put o.dst undef) w:=by
 have hil:i<cs.length:=(zao.1 hi).1
 have hco:=D.cop i o co ho hi
 obtain⟨hins,hdst,hdn⟩:=qgg hco
 have hrds:=fun {t} (ht:t∈co.reads)=>I.reads D hi hS hcl hrd ht
 obtain⟨b,hb,hT,hF⟩:=qfs (D.step i co hi)
 rw[qkl hco hb (fun t b' hg=>hrds (by unfold COp.reads;rw[hg];simp))]
 have hputf:∀(z:Cfg) (v:zA),z.f=(tr i).f->∀t,co.dst=some t->t<nt/\v=(z.put co.dst v).f.get qaq t:=by
  intro z v hz t ht
  have htn:=hdn t (by rw[<-hdst];exact ht)
  refine⟨htn,?_⟩
  rw[ht]
  exact(Tr.get_set_eq _ _ _ _ (by rw[hz];exact D.has i (by omega) t htn)).symm
 have hmem:∃m',m'<=cs.length/\(∀(j:Nat) b,cs[j]? =some b->b.op.heavy=true->((S j\/j=i)↔j<m'))/\(co.op.heavy=true->m'=i+1/\(tr m).l=(tr i).l/\(tr m).s=(tr i).s)/\(co.op.heavy=false->m'=m):=by
  cases hh:co.op.heavy with
  |true=>
   obtain⟨h1,h2,h3⟩:=I.place D hi hh hS hcl hrd
   exact⟨i+1,by omega,h3,fun _=>⟨rfl,h1.symm,h2.symm⟩,fun e=>by cases e⟩
  |false=>exact⟨m,I.mle,I.light D hi hh,(fun e=>by cases e),fun _=>rfl⟩
 obtain⟨m',hm',hheavy,hmh,hml⟩:=hmem
 cases b with
 |false=>
  rw[if_neg (by simp)]
  have hnp:qjY co.op=false:=by
   cases hq:qjY co.op with
   |false=>rfl
   |true=>
    rw[D.grd i co hi hq] at hb
    cases hb
  obtain⟨hpd,hu⟩:=I.pd_same D hi (qkp hnp)
  have hstep:=hF rfl
  refine⟨fun _ _=>trivial,k U pd m' G _ w ?_⟩
  have hls:(tr m').l=(tr m).l/\(tr m').s=(tr m).s:=by
   cases hh:co.op.heavy with
   |true=>
    obtain⟨e1,e2,e3⟩:=hmh hh
    rw[e1,hstep,Cfg.put_l,Cfg.put_s]
    exact⟨e2.symm,e3.symm⟩
   |false=>rw[hml hh];exact⟨rfl,rfl⟩
  rw[<-hdst]
  exact I.next D hi hS hcl hm' hheavy hpd hu (Ext.refl G w) (by rw[hls.1,hls.2];exact I.mr) .undef (fun t ht=>by rw[hstep];exact hputf (tr i) qaq rfl t ht)
 |true=>
  rw[if_pos rfl]
  obtain⟨v,z,hev,hstep⟩:=hT rfl
  have hR:qa8 G w (tr i).f a (co.op.args.flatMap Arg.tmps):=fun t ht=>hrds (by unfold COp.reads;exact List.mem_append_right _ ht)
  have hlike:=D.like i (by omega)
  have hlm:=D.like m I.mle
  cases hq:qjY co.op with
  |false=>
   have hnp:=qkp hq
   obtain⟨hpd,hu⟩:=I.pd_same D hi hnp
   cases hh:co.op.heavy with
   |true=>
    obtain⟨e1,e2,e3⟩:=hmh hh
    obtain⟨hzf,_⟩:=qg1 hh hev
    obtain⟨k1,k2,k3,k4,k5⟩:=qsh (c:=tr i) (c':=z) se (by rw[<-e2,<-e3];exact I.mr) hins (fun _=>hnp) (fun t j hj=>by rw[hlike.has];exact D.lh t j hj) (fun e=>by cases e) hR hev
    refine qdN hins k5 fun u w' ⟨G',x,mr,hv⟩=>k U pd m' G' _ w' ?_
    rw[<-hdst]
    exact I.next D hi hS hcl hm' hheavy hpd hu x (by rw[e1,hstep,Cfg.put_l,Cfg.put_s];exact mr) hv (fun t ht=>by rw[hstep];exact hputf z v hzf t ht)
   |false=>
    have hlight:=(D.kind i co hi).resolve_left (by rw[hh];simp)
    have hz:=qg0 hlight hev
    have em:=hml hh
    have pureok:PureOK P G w o a v:=by
     cases hpu:qdL co.op with
     |true=>
      rw[qin hpu] at hev
      simp only[zad,zaq] at hev
      obtain⟨v',hv',rfl,_⟩:=hev
      exact qoK hins hpu (I.mr.free (zan _)) hR hv'
     |false=>
      have hload:∃n g,co.op=.load n g:=by
       generalize co.op=q at hpu hlight hq
       cases q<;>first|exact⟨_,_,rfl⟩|(cases hpu;done)|(cases hlight;done)|cases hq
      obtain⟨n,g,hg⟩:=hload
      rw[hg] at hev hins
      simp only[qaJ,zae,zad,zaq] at hev
      obtain⟨cs',hcs,v',hv',rfl,_⟩:=hev
      rw[<-I.loads D hi (by rw[hg];rfl) hb hS hcl hrd] at hcs
      have hop:∃t x,o.op=.load t x/\shp P t=some n/\qbS x=some g:=by
       obtain⟨t,x,hop⟩:=D.ldo i o co ho hi (by rw[hg];rfl)
       simp only[qoq,hop,zae,zad] at hins
       obtain⟨n',hn,g',hg',hins⟩:=hins
       injection hins with i1 i2
       subst i1;subst i2
       exact⟨t,x,hop,hn,hg'⟩
      obtain⟨t,x,hop,hn,hgx⟩:=hop
      refine qoL I.mr t x hop hn hgx (fun q hq'=>hR q ?_) hcs hv'
      rw[hg]
      simpa[Ins.args] using hq'
    have k5:=pureok.eff I.mr
    refine qdN hins k5 fun u w' ⟨G',x,mr,hv⟩=>k U pd m' G' _ w' ?_
    rw[<-hdst]
    exact I.next D hi hS hcl hm' hheavy hpd hu x (by rw[em];exact mr) hv (fun t ht=>by rw[hstep,hz];exact hputf (tr i) v rfl t ht)
  |true=>
   obtain⟨t,hop⟩:=D.pre i o co ho hi hq
   obtain⟨zz,d,hzz,hd,hcase⟩:=qdp hins hop
   have hh:co.op.heavy=false:=by
    rcases hcase with⟨q,e,_⟩|⟨e,_⟩<;>rw[e]<;>rfl
   have em:=hml hh
   rcases hcase with⟨q,eq,hq'⟩|⟨eq,hq'⟩
   ·have hal:AL P ops cs i q zz:=⟨o,co,t,ho,hi,eq,hop,hzz⟩
    have hpdq:pd q=some zz:=(I.pd_ q zz).2 ⟨i,hS,hal⟩
    have k5:=qnM (a:=a) (o:=o) I.mr t hop hzz hpdq
    rw[eq] at hev
    simp only[qaJ,zac,zaq] at hev
    obtain⟨rfl,rfl⟩:=hev
    refine qdN hins k5 fun u w' ⟨G',x,mr,hv⟩=>k U (upd pd q none) m' G' _ w' ?_
    rw[<-hdst]
    have hgen:((tr m).l.get (0,[]) q).1=((tr i).l.get (0,[]) q).1:=(hlm.gen q).trans (hlike.gen q).symm
    rw[hgen] at hv
    refine I.next D hi hS hcl hm' hheavy (fun q' z'=>?_) ?_ x (by rw[em];exact mr) hv (fun t ht=>by rw[hstep];exact hputf _ _ rfl t ht)
    ·by_cases e':q'=q
     ·subst e'
      rw[qba]
      constructor
      ·intro e';cases e'
      ·rintro ⟨k,h1,h2⟩
       exact absurd (.inr (D.al1 k i q' z' zz h2 hal)) h1
     ·rw[qaL _ _ _ e',I.pd_]
      constructor
      ·rintro ⟨k,h1,h2⟩
       refine⟨k,fun h=>h.elim h1 fun ek=>?_,h2⟩
       subst ek
       obtain⟨_,co',_,_,h3,h4,_⟩:=h2
       rw[hi] at h3
       cases h3
       rw[eq] at h4
       injection h4 with h4
       exact e' h4.symm
      ·rintro ⟨k,h1,h2⟩
       exact⟨k,fun h=>h1 (.inl h),h2⟩
    ·intro q' z'
     rw[I.u_]
     constructor
     ·rintro (h|⟨k,h1,h2⟩)
      ·exact .inl h
      refine .inr ⟨k,fun h=>h.elim h1 fun ek=>?_,h2⟩
      subst ek
      obtain⟨_,co',_,_,_,h3,h4,_⟩:=h2
      rw[hi] at h3
      cases h3
      rw[eq] at h4
      cases h4
     ·rintro (h|⟨k,h1,h2⟩)
      ·exact .inl h
      exact .inr ⟨k,fun h=>h1 (.inl h),h2⟩
   ·obtain⟨q,hqd⟩:=D.hl2 i co d hi eq
    have hhl:HL P ops cs (tr 0).h i q zz:=⟨o,co,t,d,ho,hi,eq,hqd,hop,hzz⟩
    have huq:U q=some zz:=(I.u_ q zz).2 (.inr ⟨i,hS,hhl⟩)
    have hu0:=I.u0 d q hqd
    have k5:=qlq (a:=a) (o:=o) I.mr t hop hzz huq
    rw[eq] at hev
    simp only[qaJ,zad,zaq] at hev
    rw[hlike.h,hqd] at hev
    obtain⟨q',e1,rfl,rfl⟩:=hev
    injection e1 with e1
    subst e1
    refine qdN hins k5 fun u w' ⟨G',x,mr,hv⟩=>k (upd U q none) pd m' G' _ w' ?_
    rw[<-hdst]
    refine I.next D hi hS hcl hm' hheavy ?_ (fun q' z'=>?_) x (by rw[em];exact mr) hv (fun t ht=>by rw[hstep];exact hputf _ _ rfl t ht)
    ·intro q' z'
     rw[I.pd_]
     constructor
     ·rintro ⟨k,h1,h2⟩
      refine⟨k,fun h=>h.elim h1 fun ek=>?_,h2⟩
      subst ek
      obtain⟨_,co',_,_,h3,h4,_⟩:=h2
      rw[hi] at h3
      cases h3
      rw[eq] at h4
      cases h4
     ·rintro ⟨k,h1,h2⟩
      exact⟨k,fun h=>h1 (.inl h),h2⟩
    ·by_cases e':q'=q
     ·subst e'
      rw[qba]
      constructor
      ·intro e';cases e'
      ·rintro (h|⟨k,h1,h2⟩)
       ·rw[hu0] at h;cases h
       exact absurd (.inr (D.hl1 k i q' z' zz h2 hhl)) h1
     ·rw[qaL _ _ _ e',I.u_]
      constructor
      ·rintro (h|⟨k,h1,h2⟩)
       ·exact .inl h
       refine .inr ⟨k,fun h=>h.elim h1 fun ek=>?_,h2⟩
       subst ek
       obtain⟨_,co',_,d',_,h3,h4,h5,_⟩:=h2
       rw[hi] at h3
       cases h3
       rw[eq] at h4
       injection h4 with h4
       subst h4
       rw[hqd] at h5
       injection h5 with h5
       exact e' h5.symm
      ·rintro (h|⟨k,h1,h2⟩)
       ·exact .inl h
       exact .inr ⟨k,fun h=>h1 (.inl h),h2⟩
end
end Go.AI
namespace Go.AI
variable {P:Program} {E:qaR} {lof:Nat->Option Nat} {U pd:Nat->Option (List zA)} {l:Tr (Nat×List zA)} {s:ASt} {G:Gh} {w:World}
def qkq {α:Type}:List (Nat×α)->Prop
 |[]=>True
 |(d,_)::r=>qas r d=none/\qkq r
theorem qoZ {α:Type}{l:List (Nat×α)}{k:Nat}{v:α}(h:qas l k=some v):(l.map (·.1)).contains k=true:=by
 rw[List.contains_iff_mem]
 exact List.mem_map.2 ⟨_,qj0 h,rfl⟩
theorem qg3 {α:Type}{l:List (Nat×α)}{k:Nat}(h:(l.map (·.1)).contains k=false):qas l k=none:=by
 cases e:qas l k with
 |none=>rfl
 |some v=>rw[qoZ e] at h;cases h
structure PreOK (P:Program)(lof:Nat->Option Nat)(l:List Oper)(A B:List (Nat×List zA)):Prop where
 al:∀(i:Nat) o t,l[i]? =some o->o.op=.alloc t->o.guard=none/\∃d z,o.dst=some d/\zeroCells P t=some z/\((∃q,lof d=some q/\qas A q=some z)\/(lof d=none/\qas B d=some z))
 a:∀q z,qas A q=some z->∃(i:Nat) (o:Oper) (t:TypeId) (d:Nat),l[i]? =some o/\o.op=.alloc t/\o.dst=some d/\lof d=some q/\zeroCells P t=some z
 b:∀d z,qas B d=some z->∃(i:Nat) (o:Oper) (t:TypeId),l[i]? =some o/\o.op=.alloc t/\o.dst=some d/\lof d=none/\zeroCells P t=some z
 ua:∀(i j:Nat) o o' t t' d d' q,l[i]? =some o->l[j]? =some o'->o.op=.alloc t->o'.op=.alloc t'->o.dst=some d->o'.dst=some d'->lof d=some q->lof d'=some q->i=j
 ub:∀(i j:Nat) o o' t t' d,l[i]? =some o->l[j]? =some o'->o.op=.alloc t->o'.op=.alloc t'->o.dst=some d->o'.dst=some d->lof d=none->i=j
 na:qkq A
 nb:qkq B
theorem qi4:∀(l:List Oper) (A B:List (Nat×List zA)),qnI P lof l=some (A,B)->PreOK P lof l A B
 |[],A,B,h=>by
  simp only[qnI,zac,zaq] at h
  obtain⟨rfl,rfl⟩:=h
  exact⟨fun i o t h=>(by simp at h),fun q z h=>(by cases h),fun q z h=>(by cases h),fun i j o o' t t' d d' q h=>(by simp at h),fun i j o o' t t' d h=>(by simp at h),trivial,trivial⟩
 |o::r,A,B,h=>by
  simp only[qnI,zae] at h
  obtain⟨⟨A',B'⟩,hr,h⟩:=h
  have K:=qi4 r A' B' hr
  by_cases hal:∃t,o.op=.alloc t
  ·obtain⟨t,hop⟩:=hal
   simp only[hop,zae] at h
   obtain⟨d,hd,h⟩:=h
   obtain⟨hg,h⟩:=qcq h
   simp only[zae] at h
   obtain⟨z,hz,h⟩:=h
   have hgn:o.guard=none:=by cases e:o.guard with
    |none=>rfl
    |some g=>rw[e] at hg;cases hg
   split at h
   ·rename_i q hq
    obtain⟨hc,h⟩:=qcq h
    simp only[zac,zaq] at h
    obtain⟨rfl,rfl⟩:=h
    have hnk:=qg3 hc
    have hother:∀(j:Nat) o' t' d',r[j]? =some o'->o'.op=.alloc t'->o'.dst=some d'->lof d'=some q->False:=by
     intro j o' t' d' hj hop' hd' hl'
     obtain⟨_,d2,z2,e1,_,e3⟩:=K.al j o' t' hj hop'
     rw[hd'] at e1
     cases e1
     rcases e3 with⟨q2,e4,e5⟩|⟨e4,_⟩
     ·rw[hl'] at e4;cases e4;rw[hnk] at e5;cases e5
     ·rw[hl'] at e4;cases e4
    refine⟨fun i o' t' hi hop'=>?_,fun q' z' hq'=>?_,fun d' z' hd'=>?_,fun i j o1 o2 t1 t2 d1 d2 q' h1 h2 h3 h4 h5 h6 h7 h8=>?_,fun i j o1 o2 t1 t2 d1 h1 h2 h3 h4 h5 h6 h7=>?_,⟨hnk,K.na⟩,K.nb⟩
    ·cases i with
     |zero=>
      simp only[zas,zac] at hi
      subst hi
      rw[hop] at hop'
      cases hop'
      exact⟨hgn,d,z,hd,hz,.inl ⟨q,hq,by rw[qap,if_pos rfl]⟩⟩
     |succ i=>
      obtain⟨k1,d',z',k2,k3,k4⟩:=K.al i o' t' (by simpa using hi) hop'
      refine⟨k1,d',z',k2,k3,k4.imp (fun⟨q',k5,k6⟩=>⟨q',k5,?_⟩) id⟩
      rw[qap,if_neg (fun e=>by subst e;rw[hnk] at k6;cases k6)]
      exact k6
    ·rw[qap] at hq'
     split at hq'
     ·rename_i e
      subst e
      cases hq'
      exact⟨0,o,t,d,rfl,hop,hd,hq,hz⟩
     ·obtain⟨i,o',t',d',k1,k2⟩:=K.a q' z' hq'
      exact⟨i+1,o',t',d',by simpa using k1,k2⟩
    ·obtain⟨i,o',t',k1,k2⟩:=K.b d' z' hd'
     exact⟨i+1,o',t',by simpa using k1,k2⟩
    ·cases i with
     |zero=>
      cases j with
      |zero=>rfl
      |succ j=>
       simp only[zas,zac] at h1
       subst h1
       rw[hd] at h5
       cases h5
       rw[hq] at h7
       cases h7
       exact(hother j o2 t2 d2 (by simpa using h2) h4 h6 h8).elim
     |succ i=>
      cases j with
      |zero=>
       simp only[zas,zac] at h2
       subst h2
       rw[hd] at h6
       cases h6
       rw[hq] at h8
       cases h8
       exact(hother i o1 t1 d1 (by simpa using h1) h3 h5 h7).elim
      |succ j=>rw[K.ua i j o1 o2 t1 t2 d1 d2 q' (by simpa using h1) (by simpa using h2) h3 h4 h5 h6 h7 h8]
    ·cases i with
     |zero=>
      simp only[zas,zac] at h1
      subst h1
      rw[hd] at h5
      cases h5
      rw[hq] at h7
      cases h7
     |succ i=>
      cases j with
      |zero=>
       simp only[zas,zac] at h2
       subst h2
       rw[hd] at h6
       cases h6
       rw[hq] at h7
       cases h7
      |succ j=>rw[K.ub i j o1 o2 t1 t2 d1 (by simpa using h1) (by simpa using h2) h3 h4 h5 h6 h7]
   ·rename_i hq
    obtain⟨hc,h⟩:=qcq h
    simp only[zac,zaq] at h
    obtain⟨rfl,rfl⟩:=h
    have hnk:=qg3 hc
    have hother:∀(j:Nat) o' t',r[j]? =some o'->o'.op=.alloc t'->o'.dst=some d->False:=by
     intro j o' t' hj hop' hd'
     obtain⟨_,d2,z2,e1,_,e3⟩:=K.al j o' t' hj hop'
     rw[hd'] at e1
     cases e1
     rcases e3 with⟨q2,e4,e5⟩|⟨_,e4⟩
     ·rw[hq] at e4;cases e4
     ·rw[hnk] at e4;cases e4
    refine⟨fun i o' t' hi hop'=>?_,fun q' z' hq'=>?_,fun d' z' hd'=>?_,fun i j o1 o2 t1 t2 d1 d2 q' h1 h2 h3 h4 h5 h6 h7 h8=>?_,fun i j o1 o2 t1 t2 d1 h1 h2 h3 h4 h5 h6 h7=>?_,K.na,⟨hnk,K.nb⟩⟩
    ·cases i with
     |zero=>
      simp only[zas,zac] at hi
      subst hi
      rw[hop] at hop'
      cases hop'
      exact⟨hgn,d,z,hd,hz,.inr ⟨hq,by rw[qap,if_pos rfl]⟩⟩
     |succ i=>
      obtain⟨k1,d',z',k2,k3,k4⟩:=K.al i o' t' (by simpa using hi) hop'
      refine⟨k1,d',z',k2,k3,k4.imp id fun⟨k5,k6⟩=>⟨k5,?_⟩⟩
      rw[qap,if_neg (fun e=>by subst e;rw[hnk] at k6;cases k6)]
      exact k6
    ·obtain⟨i,o',t',d',k1,k2⟩:=K.a q' z' hq'
     exact⟨i+1,o',t',d',by simpa using k1,k2⟩
    ·rw[qap] at hd'
     split at hd'
     ·rename_i e
      subst e
      cases hd'
      exact⟨0,o,t,rfl,hop,hd,hq,hz⟩
     ·obtain⟨i,o',t',k1,k2⟩:=K.b d' z' hd'
      exact⟨i+1,o',t',by simpa using k1,k2⟩
    ·cases i with
     |zero=>
      simp only[zas,zac] at h1
      subst h1
      rw[hd] at h5
      cases h5
      rw[hq] at h7
      cases h7
     |succ i=>
      cases j with
      |zero=>
       simp only[zas,zac] at h2
       subst h2
       rw[hd] at h6
       cases h6
       rw[hq] at h8
       cases h8
      |succ j=>rw[K.ua i j o1 o2 t1 t2 d1 d2 q' (by simpa using h1) (by simpa using h2) h3 h4 h5 h6 h7 h8]
    ·cases i with
     |zero=>
      cases j with
      |zero=>rfl
      |succ j=>
       simp only[zas,zac] at h1
       subst h1
       rw[hd] at h5
       cases h5
       exact(hother j o2 t2 (by simpa using h2) h4 h6).elim
     |succ i=>
      cases j with
      |zero=>
       simp only[zas,zac] at h2
       subst h2
       rw[hd] at h6
       cases h6
       exact(hother i o1 t1 (by simpa using h1) h3 h5).elim
      |succ j=>rw[K.ub i j o1 o2 t1 t2 d1 (by simpa using h1) (by simpa using h2) h3 h4 h5 h6 h7]
  ·have h':(A',B')=(A,B):=by
    split at h
    ·rename_i t hop
     exact absurd ⟨t,hop⟩ hal
    ·simpa using h
   simp only[zaq] at h'
   obtain⟨rfl,rfl⟩:=h'
   have sc:∀{i:Nat} {o':Oper} {t':TypeId},(o::r)[i]? =some o'->o'.op=.alloc t'->∃k,i=k+1/\r[k]? =some o':=by
    intro i o' t' hi hop'
    cases i with
    |zero=>
     simp only[zas,zac] at hi
     subst hi
     exact absurd ⟨t',hop'⟩ hal
    |succ i=>exact⟨i,rfl,by simpa using hi⟩
   refine⟨fun i o' t' hi hop'=>?_,fun q' z' hq'=>?_,fun d' z' hd'=>?_,fun i j o1 o2 t1 t2 d1 d2 q' h1 h2 h3 h4 h5 h6 h7 h8=>?_,fun i j o1 o2 t1 t2 d1 h1 h2 h3 h4 h5 h6 h7=>?_,K.na,K.nb⟩
   ·obtain⟨k,rfl,hk⟩:=sc hi hop'
    exact K.al k o' t' hk hop'
   ·obtain⟨i,o',t',d',k1,k2⟩:=K.a q' z' hq'
    exact⟨i+1,o',t',d',by simpa using k1,k2⟩
   ·obtain⟨i,o',t',k1,k2⟩:=K.b d' z' hd'
    exact⟨i+1,o',t',by simpa using k1,k2⟩
   ·obtain⟨k,rfl,hk⟩:=sc h1 h3
    obtain⟨k',rfl,hk'⟩:=sc h2 h4
    rw[K.ua k k' o1 o2 t1 t2 d1 d2 q' hk hk' h3 h4 h5 h6 h7 h8]
   ·obtain⟨k,rfl,hk⟩:=sc h1 h3
    obtain⟨k',rfl,hk'⟩:=sc h2 h4
    rw[K.ub k k' o1 o2 t1 t2 d1 hk hk' h3 h4 h5 h6 h7]
theorem MR.lay (h:MR P E U pd l s G w){i:Nat}(hp:pd i=none)(hh:l.has i=true)(zs:List zA):MR P E U (upd pd i (some zs)) (l.set i ((l.get (0,[]) i).1+1,zs)) s G w:=by
 refine⟨h.own,h.bOf,h.lo_,h.un,fun j z hj=>?_,h.nt,fun j g cs hj hg hpj=>?_,fun j g b hb=>?_,h.heap,h.ro,h.tok⟩
 ·rw[Tr.get_set _ _ _ _ _ hh]
  by_cases e:j=i
  ·subst e
   rw[qba] at hj
   cases hj
   rw[if_pos rfl]
   exact⟨rfl,by simp⟩
  ·rw[qaL _ _ _ e] at hj
   rw[if_neg (fun e'=>e e'.symm)]
   exact h.pdz j z hj
 ·by_cases e:j=i
  ·subst e;rw[qba] at hpj;cases hpj
  ·rw[qaL _ _ _ e] at hpj
   rw[Tr.get_set_ne _ _ _ _ _ (fun e'=>e e'.symm)] at hj
   exact h.loc j g cs hj hg hpj
 ·obtain⟨h1,h2,h3⟩:=h.lam j g b hb
  by_cases e:j=i
  ·subst e
   rw[Tr.get_set_eq _ _ _ _ hh]
   exact⟨h1,by simp only;omega,fun _=>by simp only;omega⟩
  ·rw[Tr.get_set_ne _ _ _ _ _ (fun e'=>e e'.symm),qaL _ _ _ e]
   exact⟨h1,h2,h3⟩
theorem MR.preL:∀(A:List (Nat×List zA)) {pd:Nat->Option (List zA)} {l:Tr (Nat×List zA)},MR P E U pd l s G w->qkq A->(∀q z,qas A q=some z->pd q=none/\l.has q=true)->
  MR P E U (fun q=>match qas A q with|some z=>some z|none=>pd q) (preL l A) s G w/\(∀j,(preL l A).has j=l.has j)
 |[],pd,l,h,_,_=>⟨h,fun _=>rfl⟩
 |(i,zs)::r,pd,l,h,hn,hp=>by
  obtain⟨h1,h2⟩:=hp i zs (by rw[qap,if_pos rfl])
  have k:=h.lay h1 h2 zs
  obtain⟨k1,k2⟩:=MR.preL r k hn.2 (fun q z hq=>by
   have e:q≠i:=fun e=>by subst e;rw[hn.1] at hq;cases hq
   obtain⟨h3,h4⟩:=hp q z (by rw[qap,if_neg (fun e'=>e e'.symm)];exact hq)
   exact⟨by rw[qaL _ _ _ e];exact h3,by rw[Tr.has_set];exact h4⟩)
  refine⟨?_,fun j=>?_⟩
  ·have:(fun q=>match qas ((i,zs)::r) q with|some z=>some z|none=>pd q)=(fun q=>match qas r q with|some z=>some z|none=>upd pd i (some zs) q):=by
    funext q
    rw[qap]
    by_cases e:i=q
    ·subst e
     rw[if_pos rfl,hn.1]
     simp[qba]
    ·rw[if_neg e]
     cases qas r q with
     |some z=>rfl
     |none=>simp only;rw[qaL _ _ _ (fun e'=>e e'.symm)]
   rw[this]
   exact k1
  ·show(Go.AI.preL (l.set i ((l.get (0,[]) i).1+1,zs)) r).has j=_
   rw[k2,Tr.has_set]
theorem MR.layH (h:MR P E U pd l s G w)(zs:List zA):MR P E (upd U s.next (some zs)) pd l (qal s (.cells zs)) G w:=by
 refine⟨h.own,fun k b hb=>Nat.lt_succ_of_lt (h.bOf k b hb),Nat.le_succ_of_le h.lo_,fun k z hk=>?_,h.pdz,h.nt,h.loc,h.lam,fun k o hk=>?_,h.ro,h.tok⟩
 ·show G.bOf k=none∧qas ((s.next,zH.cells zs)::s.heap) k=_∧_
  rw[qap]
  by_cases e:k=s.next
  ·subst e
   rw[qba] at hk
   cases hk
   exact⟨h.bOf_next,by rw[if_pos rfl],h.lo_⟩
  ·rw[qaL _ _ _ e] at hk
   rw[if_neg (fun e'=>e e'.symm)]
   exact h.un k z hk
 ·have hk':qas ((s.next,zH.cells zs)::s.heap) k=some o:=hk
  rw[qap] at hk'
  split at hk'
  ·rename_i e
   subst e
   exact⟨zbe _,.inl h.bOf_next⟩
  ·obtain⟨h1,h2⟩:=h.heap k o hk'
   exact⟨Nat.lt_succ_of_lt h1,h2⟩
theorem MR.preH:∀(B:List (Nat×List zA)) {U:Nat->Option (List zA)} {s:ASt},MR P E U pd l s G w->qkq B->∃U',MR P E U' pd l (preH s B).1 G w/\
  (∀q z,U' q=some z↔U q=some z\/∃d,qas (preH s B).2 d=some q/\qas B d=some z)/\(∀d z,qas B d=some z->∃q,qas (preH s B).2 d=some q)/\(∀d q,qas (preH s B).2 d=some q->s.next<=q)/\
  (∀d d' q,qas (preH s B).2 d=some q->qas (preH s B).2 d'=some q->d=d')
 |[],U,s,h,_=>⟨U,h,fun q z=>⟨.inl,fun h=>h.elim id fun⟨d,h1,_⟩=>(by cases h1)⟩,fun d z h=>(by cases h),fun d q h=>(by cases h),fun d d' q h=>(by cases h)⟩
 |(d0,zs)::r,U,s,h,hn=>by
  obtain⟨U',k1,k2,k3,k4,k5⟩:=MR.preH r (h.layH zs) hn.2
  have e1:(Go.AI.preH s ((d0,zs)::r)).1=(Go.AI.preH (qal s (.cells zs)) r).1:=rfl
  have e2:(Go.AI.preH s ((d0,zs)::r)).2=(d0,s.next)::(Go.AI.preH (qal s (.cells zs)) r).2:=rfl
  have hlt:∀d q,qas (Go.AI.preH (qal s (.cells zs)) r).2 d=some q->s.next<q:=fun d q hq=>k4 d q hq
  have hUn:∀z,U s.next=some z->False:=fun z hz=>by
   have:=(h.heap _ _ (h.un _ _ hz).2.1).1
   omega
  refine⟨U',by rw[e1];exact k1,fun q z=>?_,fun d z hd=>?_,fun d q hq=>?_,fun d d' q hq hq'=>?_⟩
  ·rw[k2,e2]
   constructor
   ·rintro (hq|⟨d,h1,h2⟩)
    ·by_cases e:q=s.next
     ·subst e
      rw[qba] at hq
      cases hq
      exact .inr ⟨d0,by rw[qap,if_pos rfl],by rw[qap,if_pos rfl]⟩
     ·rw[qaL _ _ _ e] at hq
      exact .inl hq
    ·have e:d0≠d:=fun e=>by subst e;rw[hn.1] at h2;cases h2
     exact .inr ⟨d,by rw[qap,if_neg e];exact h1,by rw[qap,if_neg e];exact h2⟩
   ·rintro (hq|⟨d,h1,h2⟩)
    ·have e:q≠s.next:=fun e=>by subst e;exact hUn z hq
     exact .inl (by rw[qaL _ _ _ e];exact hq)
    ·rw[qap] at h1 h2
     by_cases e:d0=d
     ·rw[if_pos e] at h1 h2
      cases h1;cases h2
      exact .inl (qba _ _ _)
     ·rw[if_neg e] at h1 h2
      exact .inr ⟨d,h1,h2⟩
  ·rw[e2]
   rw[qap] at hd⊢
   by_cases e:d0=d
   ·rw[if_pos e];exact⟨_,rfl⟩
   ·rw[if_neg e] at hd⊢
    exact k3 d z hd
  ·rw[e2,qap] at hq
   split at hq
   ·cases hq;exact zan _
   ·have:=hlt d q hq;omega
  ·rw[e2,qap] at hq hq'
   split at hq<;>split at hq'
   ·rename_i e e';rw[<-e,<-e']
   ·cases hq;have:=hlt _ _ hq';omega
   ·cases hq';have:=hlt _ _ hq;omega
   ·exact k5 d d' q hq hq'
end Go.AI
namespace Go.AI
variable {P:Program} {e:Env} {lof:Nat->Option Nat} {nt base:Nat} {ops:Array Oper}
theorem qi5 {dr:Bool}:∀(l:List Oper) (cs:List COp),qoy P lof dr nt ops l=some cs->cs.length=l.length/\∀(i:Nat) o co,l[i]? =some o->cs[i]? =some co->cOp P lof dr nt ops o=some co
 |[],cs,h=>by
  simp only[qoy,zac] at h
  subst h
  exact⟨rfl,fun i o co h=>by simp at h⟩
 |o::r,cs,h=>by
  simp only[qoy,zae,zad] at h
  obtain⟨c,hc,cs',hcs,rfl⟩:=h
  obtain⟨h1,h2⟩:=qi5 r cs' hcs
  refine⟨by simp[h1],fun i o' co hi hj=>?_⟩
  cases i with
  |zero=>
   simp only[zas,zac] at hi hj
   subst hi;subst hj
   exact hc
  |succ i=>exact h2 i o' co (by simpa using hi) (by simpa using hj)
theorem qd1 {α:Type}{l:List α}{i:Nat}{x:α}(h:l[i]? =some x):(i,x)∈qnH l:=by
 have hi:i<l.length:=(zao.1 h).1
 unfold qnH
 refine List.mem_iff_getElem?.2 ⟨i,?_⟩
 rw[List.getElem?_zip_eq_some]
 exact⟨by simp[hi],h⟩
theorem qu5 (se:SoundEnv P e){cs:List COp}{ms:List Nat}{T:List Cfg}{c0 last:Cfg}(hstep:∀(i:Nat) co,cs[i]? =some co->∃x y,T[i]? =some x/\T[i+1]? =some y/\qlk e x co=some y)(hkind:∀(i:Nat) co,cs[i]? =some co->co.op.heavy=true\/co.op.light=true)
  (hall:(qjX ms (qnH cs)).all (qhO e T last)=true)(hst:(qjX ms (qnH cs)).all (qiS (qnH cs))=true)(hlast:(T[cs.length]?).getD c0=last)
  {i j:Nat}{co b:COp}{n:Option Nat}{g:Arg}(hi:cs[i]? =some co)(hl:qia co.op=some (n,g))(hj:cs[j]? =some b)(hb:b.op.heavy=true)(hw1:qcw ms j i=false)(hw2:qcw ms i j=false):
  loadFrom e.E ((T[j+1]?).getD c0).l ((T[j+1]?).getD c0).s (g.ev ((T[i]?).getD c0).f) (cnt n)=loadFrom e.E ((T[j]?).getD c0).l ((T[j]?).getD c0).s (g.ev ((T[i]?).getD c0).f) (cnt n):=by
 have hjs:(j,b.op.kind)∈(qnH cs).filterMap (fun(j,b)=>if b.op.heavy&&!(qcw ms j i)&&!(qcw ms i j) then some (j,b.op.kind) else none):=
  List.mem_filterMap.2 ⟨(j,b),qd1 hj,by simp[hb,hw1,hw2]⟩
 obtain⟨k,hk,hkat,hkn,hka,hkj⟩:∃k:Chk,k∈qjX ms (qnH cs)/\k.at_=i/\k.n=n/\k.a=g/\(j,b.op.kind)∈k.js:=by
  generalize hjs':(qnH cs).filterMap (fun(j,b)=>if b.op.heavy&&!(qcw ms j i)&&!(qcw ms i j) then some (j,b.op.kind) else none)=js at hjs
  cases js with
  |nil=>cases hjs
  |cons y ys=>
   refine⟨{at_:=i,n:=n,a:=g,js:=y::ys},List.mem_filterMap.2 ⟨(i,co),qd1 hi,?_⟩,rfl,rfl,rfl,hjs⟩
   simp only[hl,zaa,hjs']
 subst hkat;subst hkn;subst hka
 have hok:=zaN.1 hall k hk
 have hsy:=zaN.1 hst k hk
 have hT:T.length>=cs.length+1\/cs.length=0:=by
  rcases Nat.eq_zero_or_pos cs.length with h|h
  ·exact .inr h
  ·obtain⟨x,y,_,h2,_⟩:=hstep (cs.length-1) _ (zah (by omega))
   have:=(zao.1 h2).1
   exact .inl (by omega)
 have hil:k.at_<cs.length:=(zao.1 hi).1
 have hjl:j<cs.length:=(zao.1 hj).1
 have haddr:k.a.ev last.f=k.a.ev ((T[k.at_]?).getD c0).f:=by
  cases hka:k.a with
  |c v=>rfl
  |t t=>
   show last.f.get qaq t=((T[k.at_]?).getD c0).f.get qaq t
   rw[<-hlast]
   have key:∀q,k.at_<=q->q<=cs.length->((T[q]?).getD c0).f.get qaq t=((T[k.at_]?).getD c0).f.get qaq t:=by
    intro q
    induction q with
    |zero=>intro h1 _;rw[show k.at_=0 by omega]
    |succ q ih=>
     intro h1 h2
     by_cases h:k.at_=q+1
     ·rw[h]
     ·have hq:cs[q]? =some (cs[q]'(by omega)):=zah (by omega)
      obtain⟨x,y,h3,h4,h5⟩:=hstep q _ hq
      rw[<-ih (by omega) (by omega),h3,h4]
      refine(qdO (hkind q _ hq) h5).2.1 t fun hd=>?_
      have:=zaN.1 hsy (q,cs[q]'(by omega)) (qd1 hq)
      simp only[za5,za0,zaN] at this
      rcases this with h|h
      ·have:Nat.ble k.at_ q=true:=ble_iff.2 (by omega)
       rw[this] at h;cases h
      ·have:=h t (by unfold qiR;rw[hd];exact zaV.2 rfl)
       rw[hka] at this
       simp[Arg.tmps] at this
   exact key cs.length (by omega) (zan _)
 rw[<-haddr]
 obtain⟨x,y,h3,h4,h5⟩:=hstep j b hj
 rw[h3,h4]
 simp only[zaE]
 have hl3:qeP T j=some x:=by rw[qe4];exact h3
 have hl4:qeP T (j+1)=some y:=by rw[qe4];exact h4
 unfold qhO at hok
 split at hok
 ·rename_i i' g' o' hav
  rw[hav]
  have:=zaN.1 hok _ hkj
  simp only[za5] at this
  rcases this with h|h
  ·have hkd:=blt_iff.1 h
   have hsame:y.l=x.l:=by
    obtain⟨bb,_,hT1,hF1⟩:=qfs h5
    cases bb with
    |false=>rw[hF1 rfl,Cfg.put_l]
    |true=>
     obtain⟨v,z,hev,rfl⟩:=hT1 rfl
     rw[Cfg.put_l]
     generalize hop:b.op=op at hkd hev
     cases op<;>first|(exfalso;exact Nat.not_lt_zero _ hkd;done)|(exfalso;exact absurd hkd (Nat.not_lt_of_le (zaY _));done)|(exfalso;exact absurd hkd (zaX 1);done)|skip
     ·simp only[qaJ,zad,zaq] at hev
      obtain⟨_,_,_,rfl⟩:=hev
      rfl
     ·simp only[qaJ,zad,zaq] at hev
      obtain⟨_,_,_,rfl⟩:=hev
      rfl
   show loadFrom e.E y.l y.s (.lptr i' g' o') (cnt k.n)=loadFrom e.E x.l x.s (.lptr i' g' o') (cnt k.n)
   unfold loadFrom
   rw[hsame]
  ·rw[hl3,hl4] at h
   exact(qg2 h).symm
 ·rename_i l' o' hav
  rw[hav]
  have:=zaN.1 hok _ hkj
  simp only[za5,zag] at this
  rcases this with⟨h,hpu⟩|h
  ·have hkd:=blt_iff.1 h
   have hsame:y.s=x.s:=by
    obtain⟨bb,_,hT1,hF1⟩:=qfs h5
    cases bb with
    |false=>rw[hF1 rfl,Cfg.put_s]
    |true=>
     obtain⟨v,z,hev,rfl⟩:=hT1 rfl
     rw[Cfg.put_s]
     generalize hop:b.op=op at hkd hev hpu
     cases op<;>first|(exfalso;exact Nat.not_lt_zero _ hkd;done)|(exfalso;exact absurd hkd (Nat.not_lt_of_le (zaY _));done)|(exfalso;exact absurd hkd (zaX 1);done)|skip
     simp only[qaJ,zad,zaq] at hev
     obtain⟨⟨r,s'⟩,hcall,_,rfl⟩:=hev
     exact se.pure (by simpa[Ins.kind] using hpu) hcall
   show loadFrom e.E y.l y.s (.ptr l' o') (cnt k.n)=loadFrom e.E x.l x.s (.ptr l' o') (cnt k.n)
   unfold loadFrom
   rw[hsame]
  ·rw[hl3,hl4] at h
   exact(qg2 h).symm
 ·rename_i hav
  rw[hav]
  rfl
 ·rename_i hav
  rw[hav]
  rfl
 ·cases hok
end Go.AI
namespace Go.AI
variable {P:Program} {e:Env} {lof:Nat->Option Nat} {nt base:Nat} {ops:Array Oper} {U0:Nat->Option (List zA)}
theorem qiq {A B:List (Nat×List zA)}{cs:List COp}{chk:List Chk}(h:qnJ P lof nt ops=some (.regd A B cs chk)):
  qoy P lof true nt ops ops.toList=some cs/\qnI P lof ops.toList=some (A,B)/\chk=qjX (qee (ops.toList.map qcv) []) (qnH cs)/\qgO ops.toList=true/\qoz (qee (ops.toList.map qcv) []) (qnH cs)=true/\
  cs.all (fun o=>o.op.heavy||o.op.light)=true/\(ops.toList.zip cs).all (fun(o,c)=>qjZ o.op c.op)=true/\chk.all (qiS (qnH cs))=true:=by
 simp only[qnJ,zae] at h
 obtain⟨l,hl,⟨a,b⟩,hab,h⟩:=h
 obtain⟨hc,h⟩:=qat h
 simp only[zac,CC.regd.injEq] at h
 obtain⟨rfl,rfl,rfl,rfl⟩:=h
 simp only[zag] at hc
 exact⟨hl,hab,rfl,hc.1,hc.2.1,hc.2.2.1,hc.2.2.2.1,hc.2.2.2.2⟩
theorem qre (se:SoundEnv P e){A B:List (Nat×List zA)}{cs:List COp}{chk:List Chk}(hc:qnJ P lof nt ops=some (.regd A B cs chk)){c0:Cfg}{s0:ASt}(hh:c0.h=(preH s0 B).2)
  (hinj:∀d d' q,qas c0.h d=some q->qas c0.h d'=some q->d=d')(hex:∀d z,qas B d=some z->∃q,qas c0.h d=some q){T:List Cfg}(hT:qcl e cs c0=some T)(hchk:chk.all (qhO e T (qcP c0 T))=true)
  (hlh:∀t j,lof t=some j->c0.l.has j=true)(hhas:∀t,t<nt->c0.f.has t=true):
  Drawn P e lof nt ops cs (qee (ops.toList.map qcv) []) (fun i=>(T[i]?).getD c0)/\PreOK P lof ops.toList A B/\(T[cs.length]?).getD c0=qcP c0 T/\(T[0]?).getD c0=c0:=by
 obtain⟨h1,h2,h3,h4,h5,h6,h7,h8⟩:=qiq hc
 obtain⟨k1',k2⟩:=qi5 _ _ h1
 have k1:cs.length=ops.size:=by rw[k1',zbc]
 obtain⟨t1,t2,t3,t4⟩:=qi3 e cs c0 T hT
 have K:=qi4 _ _ _ h2
 have hk:∀(i:Nat) co,cs[i]? =some co->co.op.heavy=true\/co.op.light=true:=fun i co hi=>by
  have:=zaN.1 h6 co (zaM hi)
  simpa using this
 have hlast:(T[cs.length]?).getD c0=qcP c0 T:=by rw[t4 c0];rfl
 have h0:(T[0]?).getD c0=c0:=by rw[t2];rfl
 have hsame:∀(i:Nat) o co,ops[i]? =some o->cs[i]? =some co->qjZ o.op co.op=true:=fun i o co hi hj=>by
  have:(o,co)∈ops.toList.zip cs:=List.mem_iff_getElem?.2 ⟨i,List.getElem?_zip_eq_some.2 ⟨by rw[zaL];exact hi,hj⟩⟩
  exact zaN.1 h7 _ this
 have hpre:∀(i:Nat) o co,ops[i]? =some o->cs[i]? =some co->qjY co.op=true->∃t,o.op=.alloc t:=fun i o co hi hj hp=>by
  have:=hsame i o co hi hj
  simp only[qjZ,zag,za5,za0,hp] at this
  have:=this.1.resolve_left (by simp)
  cases hop:o.op<;>rw[hop] at this<;>first|exact⟨_,rfl⟩|cases this
 have hal:∀{i q z},AL P ops cs i q z->∃(o:Oper) (t:TypeId) (d:Nat),ops.toList[i]? =some o/\o.op=.alloc t/\o.dst=some d/\lof d=some q:=by
  rintro i q z ⟨o,co,t,ho,hco,hq,hop,_⟩
  obtain⟨hins,_⟩:=qgg (k2 i o co (by rw[zaL];exact ho) hco)
  obtain⟨z',d,_,hd,hcase⟩:=qdp hins hop
  rcases hcase with⟨q',e1,e2⟩|⟨e1,_⟩
  ·rw[hq] at e1
   cases e1
   exact⟨o,t,d,by rw[zaL];exact ho,hop,hd,e2⟩
  ·rw[hq] at e1;cases e1
 have hhl:∀{i d:Nat} {co:COp},(∃(o:Oper) (t:TypeId),ops[i]? =some o/\cs[i]? =some co/\co.op=.halloced d/\o.op=.alloc t)->∃(o:Oper) (t:TypeId),ops.toList[i]? =some o/\o.op=.alloc t/\o.dst=some d/\lof d=none:=by
  rintro i d co ⟨o,t,ho,hco,hq,hop⟩
  obtain⟨hins,_⟩:=qgg (k2 i o co (by rw[zaL];exact ho) hco)
  obtain⟨z',d',_,hd,hcase⟩:=qdp hins hop
  rcases hcase with⟨q',e1,e2⟩|⟨e1,e2⟩
  ·rw[hq] at e1;cases e1
  ·rw[hq] at e1
   cases e1
   exact⟨o,t,by rw[zaL];exact ho,hop,hd,e2⟩
 have hof:∀(i:Nat) co,cs[i]? =some co->∃o,ops[i]? =some o:=fun i co hi=>⟨_,za3 (by have:=(zao.1 hi).1;omega)⟩
 refine⟨⟨k1,fun i o co hi hj=>k2 i o co (by rw[zaL];exact hi) hj,fun i co hi=>?_,hk,fun i j a b hij hi hj=>?_,fun k i hw=>?_,fun i j q z z' hi hj=>?_,fun i j q z z' hi hj=>?_,fun i co d hi hd=>?_,hpre,fun i o co hi hj hp=>?_,fun i co hi hp=>?_,
  fun i j co b n g hi hl hw hj hb hw1 hw2=>qu5 se t3 hk (by rw[<-h3];exact hchk) (by rw[<-h3];exact h8) hlast hi hl hj hb hw1 hw2,by simp only[h0];exact hlh,by simp only[h0];exact hhas⟩,K,hlast,h0⟩
 ·obtain⟨x,y,q1,q2,q3⟩:=t3 i co hi
  simp only[q1,q2,zaE]
  exact q3
 ·have:=zaN.1 (zaN.1 h5 (i,a) (qd1 hi)) (j,b) (qd1 hj)
  simp only[blt_iff.2 hij,zak,za6] at this
  exact this
 ·refine qrc (fun k es hes e' he'=>?_) k i hw
  simp only[za9,zad] at hes
  obtain⟨o,ho,rfl⟩:=hes
  have:=zaN.1 (zaN.1 h4 (k,o) (qd1 ho)) e' he'
  exact blt_iff.1 this
 ·obtain⟨o,t,d,a1,a2,a3,a4⟩:=hal hi
  obtain⟨o',t',d',b1,b2,b3,b4⟩:=hal hj
  exact K.ua i j o o' t t' d d' q a1 b1 a2 b2 a3 b3 a4 b4
 ·obtain⟨o,co,t,d,ho,hco,hq,hqd,hop,_⟩:=hi
  obtain⟨o',co',t',d',ho',hco',hq',hqd',hop',_⟩:=hj
  simp only[h0] at hqd hqd'
  have:=hinj d d' q hqd hqd'
  subst this
  obtain⟨o1,t1,a1,a2,a3,a4⟩:=hhl ⟨o,t,ho,hco,hq,hop⟩
  obtain⟨o2,t2,b1,b2,b3,b4⟩:=hhl ⟨o',t',ho',hco',hq',hop'⟩
  exact K.ub i j o1 o2 t1 t2 d a1 b1 a2 b2 a3 b3 a4
 ·obtain⟨o,ho⟩:=hof i co hi
  obtain⟨t,hop⟩:=hpre i o co ho hi (by rw[hd];rfl)
  obtain⟨o',t',a1,a2,a3,a4⟩:=hhl ⟨o,t,ho,hi,hd,hop⟩
  obtain⟨_,d',z,b1,b2,b3⟩:=K.al i o' t' a1 a2
  rw[a3] at b1
  cases b1
  simp only[h0]
  rcases b3 with⟨q,e1,_⟩|⟨_,e1⟩
  ·rw[a4] at e1;cases e1
  ·exact hex d z e1
 ·have:=hsame i o co hi hj
  simp only[qjZ,zag,za5,za0,hp] at this
  have:=this.2.resolve_left (by simp)
  cases hop:o.op<;>rw[hop] at this<;>first|exact⟨_,_,rfl⟩|cases this
 ·obtain⟨o,ho⟩:=hof i co hi
  obtain⟨t,hop⟩:=hpre i o co ho hi hp
  obtain⟨hg,_⟩:=K.al i o t (by rw[zaL];exact ho) hop
  have hco:=k2 i o co (by rw[zaL];exact ho) hi
  simp only[cOp,hg,zaa] at hco
  obtain⟨_,hco⟩:=qat hco
  simp only[zad] at hco
  obtain⟨_,_,rfl⟩:=hco
  rfl
theorem qrf {ro:Option Nat}(se:SoundEnv P e){cs:List COp}{tr:Nat->Cfg}{G0:Gh}{w0:World}(D:Drawn P e lof nt ops cs (qee (ops.toList.map qcv) []) tr)(hback:qgO ops.toList=true){Q:Exit->Act->World->Prop}
  (hq:∀(S:Nat->Prop) U pd m G a w,(∀i,i<ops.size->S i)->Inv P e U0 nt base ops cs tr G0 w0 S U pd m G a w->Q .normal a w):
  ∀(fuel:Nat) (listed:Array Bool) U pd m G a w,listed.size=ops.size->(List.range ops.size).countP (fun i=>!listed.getD i false)<=fuel->(∀k j,listed.getD k false=true->qcw (qee (ops.toList.map qcv) []) k j=true->listed.getD j false=true)->
   Inv P e U0 nt base ops cs tr G0 w0 (fun i=>listed.getD i false=true) U pd m G a w->wpAnyIn (FW ro) 0 P .any ops Q fuel listed a w:=by
 have hb:∀(k:Nat) es,(ops.toList.map qcv)[k]? =some es->∀e'∈es,e'<k:=by
  intro k es hes e' he'
  simp only[za9,zad] at hes
  obtain⟨o,ho,rfl⟩:=hes
  exact blt_iff.1 (zaN.1 (zaN.1 hback (k,o) (qd1 ho)) e' he')
 have hready:∀(listed:Array Bool) i,listed.size=ops.size->(i∈Region.ready .any ops listed↔∃o,ops[i]? =some o/\listed.getD i false=false/\∀e'∈qcv o,listed.getD e' false=true):=by
  intro listed i hsz
  unfold Region.ready
  rw[List.mem_filter,zba]
  constructor
  ·rintro ⟨hi,h⟩
   have hoi:ops[i]? =some (ops[i]'hi):=za3 hi
   simp only[zag,za0,hoi,zab,zaE,Array.all_eq_true_iff_forall_mem] at h
   refine⟨ops[i],hoi,?_,fun e' he'=>?_⟩
   ·rw[zaW,za3 (by omega)] at h⊢
    exact h.1
   ·unfold qcv at he'
    obtain⟨x,hx,rfl⟩:=List.mem_map.1 he'
    obtain⟨h1,h2⟩:=List.mem_filter.1 hx
    have:=h.2 x (by simpa using h1)
    simp only[za5,za0] at this
    exact this.resolve_left (by rw[h2];simp)
  ·rintro ⟨o,ho,hl,he⟩
   have hi:i<ops.size:=(zaQ.1 ho).1
   refine⟨hi,?_⟩
   simp only[zag,za0,ho,zab,zaE,Array.all_eq_true_iff_forall_mem]
   refine⟨?_,fun x hx=>?_⟩
   ·rw[zaW,za3 (by omega)] at hl⊢
    exact hl
   ·cases hbx:Region.binds .any x with
    |false=>rfl
    |true=>
     simp only[zak,za6]
     exact he x.on (by unfold qcv;exact List.mem_map.2 ⟨x,List.mem_filter.2 ⟨by simpa using hx,hbx⟩,rfl⟩)
 have hdone:∀(listed:Array Bool),listed.size=ops.size->Region.ready .any ops listed=[]->∀i,i<ops.size->listed.getD i false=true:=by
  intro listed hsz hr i
  induction i using Nat.strongRecOn with
  |_ i ih=>
   intro hi
   cases hl:listed.getD i false with
   |true=>rfl
   |false=>
    have hoi:ops[i]? =some (ops[i]'hi):=za3 hi
    have:i∈Region.ready .any ops listed:=(hready listed i hsz).2 ⟨_,hoi,hl,fun e' he'=>by
     have:=hb i (qcv ops[i]) (by simp[hoi]) e' he'
     exact ih e' this (by omega)⟩
    rw[hr] at this
    cases this
 intro fuel
 induction fuel with
 |zero=>
  intro listed U pd m G a w hsz hcnt hcl I
  have hall:∀i,i<ops.size->listed.getD i false=true:=by
   intro i hi
   have:=List.countP_eq_zero.1 (Nat.le_zero.1 hcnt) i (zba.2 hi)
   simpa using this
  refine⟨?_,hq _ U pd m G a w hall I⟩
  apply List.eq_nil_iff_forall_not_mem.2
  intro i hi
  obtain⟨o,ho,hl,_⟩:=(hready listed i hsz).1 hi
  rw[hall i (zaQ.1 ho).1] at hl
  cases hl
 |succ fuel ih=>
  intro listed U pd m G a w hsz hcnt hcl I
  refine⟨fun hr=>hq _ U pd m G a w (hdone listed hsz hr) I,fun i hi=>?_⟩
  obtain⟨o,ho,hl,he⟩:=(hready listed i hsz).1 hi
  have hio:i<ops.size:=(zaQ.1 ho).1
  have hlen:=D.len
  have hci:cs[i]? =some (cs[i]'(by omega)):=zah (by omega)
  have hoi:(ops.toList.map qcv)[i]? =some (qcv o):=by simp[ho]
  have hrd:∀k,qcw (qee (ops.toList.map qcv) []) i k=true->listed.getD k false=true:=by
   intro k hw
   obtain⟨e',he',h⟩:=(qkn hoi (hb i _ hoi) k).1 hw
   rcases h with rfl|h
   ·exact he e' he'
   ·exact hcl e' k (he e' he') h
  unfold wpOpIn
  simp only[ho]
  have hget:∀j,(listed.setIfInBounds i true).getD j false=if j=i then true else listed.getD j false:=by
   intro j
   rw[zaW,zaW,Array.getElem?_setIfInBounds]
   by_cases e1:i=j
   ·subst e1;simp[hsz,hio]
   ·rw[if_neg e1,if_neg (fun e2=>e1 e2.symm)]
  refine qs9 D I se ho hci (by simp[hl]) hcl hrd fun U' pd' m' G' a' w' I'=>?_
  refine ih (listed.setIfInBounds i true) U' pd' m' G' a' w' (by simpa using hsz) ?_ (fun k j hk hw=>?_) ?_
  ·have hlt:(List.range ops.size).countP (fun j=>!(listed.setIfInBounds i true).getD j false)<(List.range ops.size).countP (fun j=>!listed.getD j false):=by
    have key:∀(l:List Nat),i∈l->l.countP (fun j=>!(listed.setIfInBounds i true).getD j false)<l.countP (fun j=>!listed.getD j false):=by
     intro l
     induction l with
     |nil=>intro h;cases h
     |cons x l ihl=>
      intro h
      have hle:∀l:List Nat,l.countP (fun j=>!(listed.setIfInBounds i true).getD j false)<=l.countP (fun j=>!listed.getD j false):=fun l=>
       List.countP_mono_left fun j _ h=>by
        rw[hget] at h
        split at h
        ·cases h
        ·exact h
      rw[List.countP_cons,List.countP_cons]
      by_cases hx:x=i
      ·subst hx
       rw[hget,if_pos rfl,hl]
       have:=hle l
       simp only[zak,zai,if_false,zal,if_true]
       omega
      ·have:=ihl ((zaA.1 h).resolve_left (fun e=>hx e.symm))
       rw[hget,if_neg hx]
       omega
    exact key _ (zba.2 hio)
   omega
  ·rw[hget] at hk⊢
   split
   ·rfl
   ·split at hk
    ·rename_i e1
     subst e1
     exact hrd j hw
    ·exact hcl k j hk hw
  ·have:(fun j=>(listed.setIfInBounds i true).getD j false=true)=(fun j=>listed.getD j false=true∨j=i):=by
    funext j
    rw[hget]
    by_cases e1:j=i
    ·simp[e1]
    ·simp[e1]
   rw[this]
   exact I'
end Go.AI
namespace Go.AI
variable {P:Program} {e:Env} {lof:Nat->Option Nat} {nt base:Nat} {ops:Array Oper} {U0:Nat->Option (List zA)} {G:Gh} {w:World} {a:Act}
theorem qmH {ro:Option Nat}(se:SoundEnv P e)(hm:P.follows .mixedOrders=true){id:Nat}{Q:Exit->Act->World->Prop}{cc:CC}{c c':Cfg}{ex:EX}{n:Nat}(hc:qnJ P lof nt ops=some cc)(cr:CR P e.E U0 lof nt base c G w a)(hev:qbs e n cc c=some (ex,c'))
  (hq:∀G' a' w',Ext G w G' w'->CR P e.E U0 lof nt base c' G' w' a'->c'.rd=c.rd->Q .normal a' w'):ex=.normal/\(Code.region id ops true).wpIn (FW ro) 0 P Q a w:=by
 obtain⟨A,B,cs,chk,rfl⟩:∃A B cs chk,cc=.regd A B cs chk:=by
  simp only[qnJ,zae] at hc
  obtain⟨l,hl,⟨x,y⟩,hab,h⟩:=hc
  obtain⟨_,h⟩:=qat h
  simp only[zac] at h
  exact⟨_,_,_,_,h.symm⟩
 have hspec:=qiq hc
 have K0:=qi4 _ _ _ hspec.2.1
 simp only[qbs,zae] at hev
 obtain⟨T,hT,hev⟩:=hev
 obtain⟨hchk,hev⟩:=qat hev
 simp only[zac,zaq] at hev
 obtain⟨rfl,rfl⟩:=hev
 refine⟨rfl,wpIn_region_any hm ?_⟩
 have hkd:Keep w {w with drawn:=w.drawn+1}:=⟨zan _,rfl,rfl,rfl,fun _ _=>rfl,fun _=>rfl⟩
 have mr1:=cr.mr.keep hkd
 obtain⟨mr2,hhas2⟩:=mr1.preL A K0.na (fun q z hqz=>by
  obtain⟨_,_,_,d,_,_,_,h4,_⟩:=K0.a q z hqz
  exact⟨rfl,cr.lh d q h4⟩)
 obtain⟨U',mr3,hU,hex,hlo,hinj⟩:=mr2.preH B K0.nb
 generalize hc0:({c with l:=preL c.l A,h:=(preH c.s B).2,s:=(preH c.s B).1}:Cfg)=c0 at hT
 have e0l:c0.l=preL c.l A:=by rw[<-hc0]
 have e0s:c0.s=(preH c.s B).1:=by rw[<-hc0]
 have e0h:c0.h=(preH c.s B).2:=by rw[<-hc0]
 have e0f:c0.f=c.f:=by rw[<-hc0]
 have e0rd:c0.rd=c.rd:=by rw[<-hc0]
 obtain⟨t1,t2,t3,t4⟩:=qi3 e cs c0 T hT
 have hlo2:qcP c T=qcP c0 T:=by
  have:=(t4 c).symm.trans (t4 c0)
  injection this
 rw[hlo2] at hchk hq
 obtain⟨D,K,hlast,h0⟩:=qre se hc (c0:=c0) (s0:=c.s) e0h (by rw[e0h];exact hinj) (by rw[e0h];exact hex) hT hchk (fun t j hj=>by rw[e0l,hhas2];exact cr.lh t j hj) (fun t ht=>by rw[e0f];exact cr.fr.2 t (by rw[cr.sz];exact ht))
 have h0':(fun i=>(T[i]?).getD c0) 0=c0:=h0
 have k2:=(qi5 _ _ hspec.1).2
 have hlen:=D.len
 have I0:Inv P e U0 nt base ops cs (fun i=>(T[i]?).getD c0) G w (fun i=>(Array.replicate ops.size false).getD i false=true) U' (fun q=>match qas A q with|some z=>some z|none=>none) 0 G a {w with drawn:=w.drawn+1}:=by
  have hS:∀i,¬((Array.replicate ops.size false).getD i false=true):=by
   intro i
   rw[zaW,Array.getElem?_replicate]
   split<;>simp
  refine⟨hkd.ext G,by simp only[h0];rw[e0l,e0s];exact mr3,zaY _,fun j b hj hb=>⟨fun h=>absurd h (hS j),fun h=>absurd h (Nat.not_lt_zero j)⟩,fun t=>⟨c.f.get qaq t,(cr.fr.1 t).ext (hkd.ext G),.inr ⟨fun j b hj=>absurd hj (hS j),by simp only[h0];rw[e0f]⟩⟩,cr.sz,cr.df.ext (hkd.ext G),fun q z=>?_,fun q z=>?_,fun d q hd=>?_⟩
  ·constructor
   ·intro h
    have hA:qas A q=some z:=by
     cases e:qas A q with
     |none=>rw[e] at h;cases h
     |some z'=>rw[e] at h;exact h
    obtain⟨i,o,t,d,a1,a2,a3,a4,a5⟩:=K.a q z hA
    have hi:i<cs.length:=by
     have:=(zao.1 a1).1
     rw[zbc] at this
     omega
    have hci:cs[i]? =some (cs[i]'hi):=zah hi
    obtain⟨hins,_⟩:=qgg (k2 i o _ a1 hci)
    obtain⟨z',d',_,hd,hcase⟩:=qdp hins a2
    rw[a3] at hd
    cases hd
    refine⟨i,hS i,o,_,t,by rw[<-zaL];exact a1,hci,?_,a2,a5⟩
    rcases hcase with⟨q',e1,e2⟩|⟨_,e2⟩
    ·rw[a4] at e2;cases e2;exact e1
    ·rw[a4] at e2;cases e2
   ·rintro ⟨i,_,o,co,t,ho,hco,hq',hop,hz⟩
    obtain⟨_,d,z',b1,b2,b3⟩:=K.al i o t (by rw[zaL];exact ho) hop
    obtain⟨hins,_⟩:=qgg (k2 i o co (by rw[zaL];exact ho) hco)
    obtain⟨z2,d',c1,hd,hcase⟩:=qdp hins hop
    rw[b1] at hd
    cases hd
    rw[hz] at b2
    cases b2
    rcases hcase with⟨q',e1,e2⟩|⟨e1,_⟩
    ·rw[hq'] at e1
     cases e1
     rcases b3 with⟨q2,e3,e4⟩|⟨e3,_⟩
     ·rw[e2] at e3;cases e3;rw[e4]
     ·rw[e2] at e3;cases e3
    ·rw[hq'] at e1;cases e1
  ·rw[hU]
   constructor
   ·rintro (h|⟨d,h1,h2⟩)
    ·exact .inl h
    ·refine .inr ?_
     obtain⟨i,o,t,a1,a2,a3,a4,a5⟩:=K.b d z h2
     have hi:i<cs.length:=by
      have:=(zao.1 a1).1
      rw[zbc] at this
      omega
     have hci:cs[i]? =some (cs[i]'hi):=zah hi
     obtain⟨hins,_⟩:=qgg (k2 i o _ a1 hci)
     obtain⟨z',d',_,hd,hcase⟩:=qdp hins a2
     rw[a3] at hd
     cases hd
     refine⟨i,hS i,o,_,t,d,by rw[<-zaL];exact a1,hci,?_,by simp only[h0];rw[e0h];exact h1,a2,a5⟩
     rcases hcase with⟨q',e1,e2⟩|⟨e1,_⟩
     ·rw[a4] at e2;cases e2
     ·exact e1
   ·rintro (h|⟨i,_,o,co,t,d,ho,hco,hq',hqd,hop,hz⟩)
    ·exact .inl h
    obtain⟨_,d2,z',b1,b2,b3⟩:=K.al i o t (by rw[zaL];exact ho) hop
    obtain⟨hins,_⟩:=qgg (k2 i o co (by rw[zaL];exact ho) hco)
    obtain⟨z2,d',c1,hd,hcase⟩:=qdp hins hop
    rw[b1] at hd
    cases hd
    rw[hz] at b2
    cases b2
    simp only[h0] at hqd
    rw[e0h] at hqd
    rcases hcase with⟨q',e1,e2⟩|⟨e1,e2⟩
    ·rw[hq'] at e1;cases e1
    ·rw[hq'] at e1
     cases e1
     rcases b3 with⟨q2,e3,_⟩|⟨_,e3⟩
     ·rw[e2] at e3;cases e3
     ·exact .inr ⟨d,hqd,e3⟩
  ·simp only[h0] at hd
   rw[e0h] at hd
   cases e1:U0 q with
   |none=>rfl
   |some z=>
    have h1:=(mr2.heap _ _ (mr2.un q z e1).2.1).1
    have h2:=hlo d q hd
    omega
 refine qrf (ro:=ro) (base:=base) (G0:=G) (w0:=w) se D hspec.2.2.2.1 (fun S U pd m G' a' w' hall I=>?_) ops.size _ U' _ 0 G a _ (by simp) ?_ (fun k j hk _=>?_) I0
 ·
  have hnoS:∀i,¬S i->cs[i]? =none:=fun i hi=>by
   cases e1:cs[i]? with
   |none=>rfl
   |some b=>
    have:=(zao.1 e1).1
    exact absurd (hall i (by omega)) hi
  have hpd0:pd=fun _=>none:=by
   funext q
   cases e1:pd q with
   |none=>rfl
   |some z=>
    obtain⟨i,h1,o,co,t,h2,h3,_⟩:=(I.pd_ q z).1 e1
    rw[hnoS i h1] at h3
    cases h3
  have hu0:U=U0:=by
   funext q
   cases e1:U q with
   |none=>
    cases e2:U0 q with
    |none=>rfl
    |some z=>rw[(I.u_ q z).2 (.inl e2)] at e1;cases e1
   |some z=>
    rcases(I.u_ q z).1 e1 with h|⟨i,h1,o,co,t,d,h2,h3,_⟩
    ·exact h.symm
    ·rw[hnoS i h1] at h3
     cases h3
  subst hpd0;subst hu0
  obtain⟨hl,hs⟩:=D.mem I.mle (zan _) fun j b h1 h2 hj=>by
   cases hb:b.op.heavy with
   |false=>rfl
   |true=>
    have:=(I.heavy j b hj hb).1 (hall j (by omega))
    omega
  simp only[hlast] at hl hs
  have hlike:=D.like cs.length (zan _)
  simp only[hlast,h0] at hlike
  refine hq G' a' w' I.ext ⟨⟨fun t=>?_,fun t ht=>?_⟩,I.sz,by rw[hl,hs];exact I.mr,fun t j hj=>by rw[hlike.has,e0l,hhas2];exact cr.lh t j hj,I.df,zbf cr.bs I.ext.size⟩ (hlike.rd.trans e0rd)
  ·obtain⟨v,hv,hcase⟩:=I.tmp t
   rcases hcase with⟨i,co,hSi,hi,hd,rfl,hlst⟩|⟨hno,rfl⟩
   ·have hil:=(zao.1 hi).1
    have:=D.frame (t:=t) (i:=i+1) (k:=cs.length) (by omega) (zan _) fun j b h1 h2 hj=>hlst j b (hall j (by omega)) (by omega) hj
    simp only[hlast] at this
    rw[this]
    exact hv
   ·have:=D.frame (t:=t) (i:=0) (k:=cs.length) (by omega) (zan _) fun j b h1 h2 hj=>hno j b (hall j (by omega)) hj
    simp only[hlast] at this
    rw[this]
    exact hv
  ·have:=D.has cs.length (zan _) t (by rw[←I.sz];exact ht)
   simp only[hlast] at this
   exact this
 ·exact zbf List.countP_le_length (by simp)
 ·rw[zaW,Array.getElem?_replicate] at hk
  split at hk<;>simp at hk
end Go.AI
namespace Go.AI
variable {P:Program} {e:Env} {lof:Nat->Option Nat} {nt base:Nat} {U0:Nat->Option (List zA)}
def qsi:EX->Exit
 |.normal=> .normal
 |.exit i=> .exit i
 |.ret=> .ret
def RoR (G:Gh):Option Nat->Option Nat->Prop
 |none,none=>True
 |some b,some k=>G.bOf k=some b
 |_,_=>False
theorem RoR.ext {G G':Gh}{w w':World}(x:Ext G w G' w'){ro rd:Option Nat}(h:RoR G ro rd):RoR G' ro rd:=by
 cases ro<;>cases rd<;>first|exact h|exact x.bOf _ _ h
theorem qnP (k:Nat)(b:Cfg->Option (EX×Cfg))(c:Cfg):qfK (k+1) b c=(b c).bind fun r=>match r with
  |(.normal,c)=>qfK k b c
  |r=>some r:=rfl
theorem qu6 {G:Gh}{w:World}{c:zA}{v:Value}(h:VR G w c v):VR G w (far c) v:=by
 unfold far
 cases qmj c with
 |true=>exact h
 |false=>exact .junk v
theorem qrg (c:zA):qmj (far c)=true\/far c=.junk:=by
 unfold far
 cases e:qmj c with
 |true=>exact .inl (by simpa using e)
 |false=>exact .inr rfl
theorem qkr (f:Tr zA)(t:Nat):(f.map far).get qaq t=far (f.get qaq t):=by
 have:=Tr.get_map far qaq f t
 have e:far qaq=qaq:=rfl
 rw[e] at this
 exact this
theorem qta (l:Tr (Nat×List zA))(i:Nat):(l.map fun _=>((0,[]):Nat×List zA)).get (0,[]) i=(0,[]):=by
 have:=Tr.get_map (fun _:Nat×List zA=>((0,[]):Nat×List zA)) (0,[]) l i
 exact this
theorem qrh {ro:Option Nat}{c:Cfg}{G:Gh}{w:World}{a:Act}(cr:CR P e.E U0 lof nt base c G w a)(hro:RoR G ro c.rd)(hin:qjV c=true){ps:Array Tmp}{assign body:Code}{aa bb:CC}(ha:qcC P lof nt assign=some aa)(hb:qcC P lof nt body=some bb)
  (hps:∀p∈ps.toList,p<nt)(fn:FuncId):∃l mark w1 G1,(Instr.enterLoop fn a.tmps ps assign body ro).run P w=.ok (l,mark) w1∧Ext G w G1 w1∧G1.bOf c.s.next=some l∧
   CR P e.E U0 lof nt base {c with s:=qal c.s (.loop 0 none (c.f.map far) (c.l.map fun _=>(0,[])) ps.toList aa bb)} G1 w1 {a with defers:=mark++a.defers}:=by
 have second:∀(d:Nat) (mark:List Deferred) (G0:Gh) (w0:World),Ext G w G0 w0->MR P e.E U0 (fun _=>none) c.l c.s G0 w0->Marks base G0 w0 (mark++a.defers)->
   ∃G1,Ext G w G1 (w0.alloc (.loop {state:=.ready,pending:=none,fn:=fn,tmps:=a.tmps,params:=ps,assign:=assign,body:=body,defers:=d}))/\G1.bOf c.s.next=some w0.heap.size/\
    CR P e.E U0 lof nt base {c with s:=qal c.s (.loop 0 none (c.f.map far) (c.l.map fun _=>(0,[])) ps.toList aa bb)} G1 (w0.alloc (.loop {state:=.ready,pending:=none,fn:=fn,tmps:=a.tmps,params:=ps,assign:=assign,body:=body,defers:=d})) {a with defers:=mark++a.defers}:=by
  intro d mark G0 w0 x0 mr0 hm
  have x1:=mr0.ext_addH (Keep.alloc w0 (.loop {state:=.ready,pending:=none,fn:=fn,tmps:=a.tmps,params:=ps,assign:=assign,body:=body,defers:=d})) (b:=w0.heap.size) (q:=c.s.next) (zan _) mr0.bOf_next mr0.lo_
  have x:=x0.trans x1
  refine⟨_,x,by simp[Gh.addH,qba],⟨cr.fr.ext x,cr.sz,?_,cr.lh,hm.ext x1,zbf cr.bs x.size⟩⟩
  refine mr0.addH (Keep.alloc w0 _) (zan _) (qdY w0 _) (o:=.loop 0 none (c.f.map far) (c.l.map fun _=>(0,[])) ps.toList aa bb) ⟨_,heap_alloc_new w0 _,trivial,trivial,⟨fun t=>?_,fun t ht=>?_⟩,fun t=>?_,rfl,fun p hp=>?_,fun i=>qta _ _,lof,?_,?_,fun t i hi=>?_⟩
  ·rw[qkr]
   exact qu6 ((cr.fr.1 t).ext x)
  ·rw[Tr.has_map]
   exact cr.fr.2 t ht
  ·rw[qkr]
   exact qrg _
  ·show p<a.tmps.size
   rw[cr.sz]
   exact hps p hp
  ·rw[<-cr.sz] at ha;exact ha
  ·rw[<-cr.sz] at hb;exact hb
  ·rw[Tr.has_map];exact cr.lh t i hi
 cases ro with
 |none=>
  let G0:Gh:={G with own:=upd G.own w.heap.size .misc}
  have hf:=cr.mr.free (zan w.heap.size)
  have k0:=Keep.alloc w (.deferred (some []))
  have x0:Ext G w G0 (w.alloc (.deferred (some []))):=Ext.new k0 (zan _) (fun y hy=>qaL _ _ _ hy) hf (fun _ _ h=>h) (fun _ _ _ h=>h) (zan _) rfl (fun _ _=>rfl) (fun t n sz h=>by simp[G0,qba] at h)
  have hne:∀y r,G.own y=r->r≠.free->y≠w.heap.size:=fun y r h1 h2 e=>h2 (by rw[<-h1,e,hf])
  have st:Step G w G0 (w.alloc (.deferred (some []))) (fun y=>y=w.heap.size):=⟨x0,fun y hy hn=>⟨k0.same y hy,qaL _ _ _ hn⟩⟩
  have h:=cr.mr
  have mr0:MR P e.E U0 (fun _=>none) c.l c.s G0 (w.alloc (.deferred (some []))):=by
   refine⟨fun y hy=>?_,h.bOf,h.lo_,h.un,h.pdz,h.nt,h.loc.step st (fun y q r ho=>hne y _ ho (by simp)),h.lam,h.heap.step st (fun y q ho=>hne y _ ho (by simp)) (fun _ _ _ h=>h),h.ro.step st (fun y q ho=>hne y _ ho (by simp)),
    h.tok.step (fun y t n sz ho=>by simp only[G0];rw[qaL _ _ _ (hne y _ ho (by simp))];exact ho) (fun y t n sz ho=>?_) (fun y _ _ _ ho=>k0.same y (h.own y (by rw[ho];simp)))⟩
   ·by_cases e':y=w.heap.size
    ·subst e';simp
    ·simp only[G0] at hy
     rw[qaL _ _ _ e'] at hy
     exact za2 (h.own y hy) k0.size
   ·have hy:y≠w.heap.size:=fun e'=>by subst e';simp[G0,qba] at ho
    simp only[G0] at ho
    rw[qaL _ _ _ hy] at ho
    exact ho
  have hold:∀(ds:List Deferred),Marks base G w ds->∀d'∈ds,d'.target≠.collected w.heap.size:=by
   intro ds
   induction ds with
   |nil=>intro _ d' hd';cases hd'
   |cons d ds ih=>
    rintro ⟨⟨r,q1,q2,q3,q4,q5⟩,q6⟩ d' hd'
    rcases zaA.1 hd' with rfl|hd'
    ·rw[q1]
     intro e'
     injection e' with e'
     have:=(zaQ.1 q4).1
     omega
    ·exact ih q6 d' hd'
  obtain⟨G1,x1,hb1,cr1⟩:=second w.heap.size [{target:=.collected w.heap.size,args:= #[]}] G0 (w.alloc (.deferred (some []))) x0 mr0
   ⟨⟨w.heap.size,rfl,cr.bs,qba _ _ _,heap_alloc_new w _,hold a.defers cr.df⟩,cr.df.ext x0⟩
  refine⟨_,_,_,G1,?_,x1,hb1,cr1⟩
  simp[Instr.enterLoop]
 |some lr=>
  obtain⟨k,hrd,hbk⟩:∃k,c.rd=some k/\G.bOf k=some lr:=by
   cases hr:c.rd with
   |none=>rw[hr] at hro;exact hro.elim
   |some k=>rw[hr] at hro;exact⟨k,rfl,hro⟩
  have hloop:∃r,w.heap[lr]? =some (.loop r):=by
   unfold qjV at hin
   rw[hrd] at hin
   simp only at hin
   split at hin<;>try (cases hin;done)
   rename_i hk
   rcases(cr.mr.heap k _ hk).2 with e'|⟨b,h1,h2,r,h3,_⟩
   ·rw[hbk] at e';cases e'
   ·rw[hbk] at h1;cases h1;exact⟨r,h3⟩
  obtain⟨r,hr⟩:=hloop
  obtain⟨G1,x1,hb1,cr1⟩:=second r.defers [] G w (Ext.refl G w) cr.mr cr.df
  refine⟨_,_,_,G1,?_,x1,hb1,cr1⟩
  simp[Instr.enterLoop,Instr.getLoop,getObj,hr]
  simp[Sem.run,hr]
end Go.AI
namespace Go.AI
variable {P:Program} {e:Env} {lof:Nat->Option Nat} {nt base:Nat} {U0:Nat->Option (List zA)}
theorem qg4 (u:Value)(vs:Array Value)(w:World)(f:Fn)(first cap:Array Value)(h:u=.func f first cap):(Deferred.ofValue u vs).run P w=.ok {target:=.fn f cap,args:=first++vs} w:=by subst h;rfl
theorem qri:∀{st:Nat},stR st .busy->st=1
 |0,h=>h.elim
 |1,_=>rfl
 |2,h=>h.elim
 |_+3,h=>h.elim
theorem qrj {G:Gh}{w:World}{c:Cfg}{a:Act}{l k:Nat}{st:Nat}{pend:Option CC}{f:Tr zA}{lo:Tr (Nat×List zA)}{ps:List Nat}{x y:CC}(cr:CR P e.E U0 lof nt base c G w a)(hb:G.bOf k=some l)(hk:qas c.s.heap k=some (.loop st pend f lo ps x y))(hst:st≠1){hp:qaR}(hset:qaK c.s.heap k .gone=some hp):
  ∃jump w',(Instr.endLoop l).run P w=.ok jump w'/\qqZ pend jump/\Ext G w G w'/\CR P e.E U0 lof nt base {c with s:={c.s with heap:=hp}} G w' a:=by
 rcases(cr.mr.heap k _ hk).2 with e'|⟨b,h1,h2,r,h3,h4⟩
 ·rw[hb] at e';cases e'
 rw[hb] at h1
 cases h1
 have hne:r.state≠.busy:=fun hs=>hst (qri (by rw[<-hs];exact h4.st_))
 have sw:=Swap.setObj h3 (.loop {r with state:=.exhausted})
 have x:=Ext.chg (G:=G) sw (by rw[h2];exact fun e=>e) (by rw[h2];intros;simp)
 obtain⟨_,hm⟩:=cr.mr.chgH sw hb h2 hset (ob:=.gone) ⟨_,(MapKept.heap_set h3).1⟩
 refine⟨r.pending,_,?_,h4.pend_,x,⟨cr.fr.ext x,cr.sz,hm,cr.lh,cr.df.ext x,zbf cr.bs x.size⟩⟩
 simp[Instr.endLoop,Instr.getLoop,getObj,setObj,Sem.run,h3,hne]
theorem qmI {x:Option CC}{cc:CC}(h:qqX x=some cc):x=some cc\/cc=.bad:=by
 cases x with
 |none=>
  simp only[qqX,zac] at h
  exact .inr h.symm
 |some y=>exact .inl h
theorem qd2 (se:SoundEnv P e)(hm:P.follows .mixedOrders=true){ro:Option Nat}(n:Nat):∀(code:Code) {cc:CC},qcC P lof nt code=some cc->∀{c c':Cfg} {ex:EX} {G:Gh} {w:World} {a:Act} {Q:Exit->Act->World->Prop},
  CR P e.E U0 lof nt base c G w a->RoR G ro c.rd->qbs e n cc c=some (ex,c')->(∀G' a' w',Ext G w G' w'->CR P e.E U0 lof nt base c' G' w' a'->c'.rd=c.rd->Q (qsi ex) a' w')->code.wpIn (FW ro) 0 P Q a w
 |.skip,cc,hc,c,c',ex,G,w,a,Q,cr,hro,hev,hq=>by
  simp only[qcC,zac] at hc
  subst hc
  simp only[qbs,zac,zaq] at hev
  obtain⟨rfl,rfl⟩:=hev
  exact wpIn_skip (hq G a w (Ext.refl G w) cr rfl)
 |.region id ops false,cc,hc,c,c',ex,G,w,a,Q,cr,hro,hev,hq=>by
  simp only[qcC] at hc
  rcases qmI hc with hc|rfl
  ·simp only[zad] at hc
   obtain⟨cs,hcs,rfl⟩:=hc
   simp only[qbs,zad,zaq] at hev
   obtain⟨c1,hev,rfl,rfl⟩:=hev
   exact qs8 se hcs cr hev hq
  ·simp only[qbs,reduceCtorEq] at hev
 |.region id ops true,cc,hc,c,c',ex,G,w,a,Q,cr,hro,hev,hq=>by
  simp only[qcC] at hc
  rcases qmI hc with hc|rfl
  ·have he:ex=.normal:=(qmH (ro:=ro) (id:=id) (Q:=fun _ _ _=>True) se hm hc cr hev (fun _ _ _ _ _ _=>trivial)).1
   subst he
   exact(qmH se hm hc cr hev hq).2
  ·simp only[qbs,reduceCtorEq] at hev
 |.seq x y,cc,hc,c,c',ex,G,w,a,Q,cr,hro,hev,hq=>by
  simp only[qcC,zae,zad] at hc
  obtain⟨cx,hx,cy,hy,rfl⟩:=hc
  simp only[qbs,zae] at hev
  obtain⟨⟨ex1,c1⟩,h1,h2⟩:=hev
  refine wpIn_seq (qd2 se hm n x hx cr hro h1 fun G1 a1 w1 x1 cr1 hrd1=>?_)
  cases ex1 with
  |normal=>
   exact qd2 se hm n y hy cr1 (by rw[hrd1];exact hro.ext x1) h2 fun G2 a2 w2 x2 cr2 hrd2=>hq G2 a2 w2 (x1.trans x2) cr2 (hrd2.trans hrd1)
  |exit i=>
   simp only[zac,zaq] at h2
   obtain⟨rfl,rfl⟩:=h2
   exact hq G1 a1 w1 x1 cr1 hrd1
  |ret=>
   simp only[zac,zaq] at h2
   obtain⟨rfl,rfl⟩:=h2
   exact hq G1 a1 w1 x1 cr1 hrd1
 |.cond x p q,cc,hc,c,c',ex,G,w,a,Q,cr,hro,hev,hq=>by
  simp only[qcC,zae,zad] at hc
  obtain⟨g,hg,cp,hp,cq,hcq,rfl⟩:=hc
  have hv:=qbf hg (cr.fr.reads (a:=a) g.tmps)
  simp only[qbs] at hev
  split at hev
  ·rename_i hx
   rw[hx] at hv
   exact wpIn_cond_true hv.bool_inv (qd2 se hm n p hp cr hro hev hq)
  ·rename_i hx
   rw[hx] at hv
   exact wpIn_cond_false hv.bool_inv (qd2 se hm n q hcq cr hro hev hq)
  ·cases hev
 |.block id x,cc,hc,c,c',ex,G,w,a,Q,cr,hro,hev,hq=>by
  simp only[qcC,zad] at hc
  obtain⟨cx,hx,rfl⟩:=hc
  simp only[qbs,zad] at hev
  obtain⟨⟨ex1,c1⟩,h1,h2⟩:=hev
  refine wpIn_block (qd2 se hm n x hx cr hro h1 fun G1 a1 w1 x1 cr1 hrd1=>?_)
  cases ex1 with
  |normal=>
   simp only[zaq] at h2
   obtain⟨rfl,rfl⟩:=h2
   exact hq G1 a1 w1 x1 cr1 hrd1
  |exit i=>
   simp only[zaq] at h2
   obtain⟨rfl,rfl⟩:=h2
   have:=hq G1 a1 w1 x1 cr1 hrd1
   show if i=id then _ else _
   by_cases e1:i=id
   ·rw[if_pos e1]
    rw[qaE e1] at this
    exact this
   ·rw[if_neg e1]
    rw[beq_false e1] at this
    exact this
  |ret=>
   simp only[zaq] at h2
   obtain⟨rfl,rfl⟩:=h2
   exact hq G1 a1 w1 x1 cr1 hrd1
 |.loop x,cc,hc,c,c',ex,G,w,a,Q,cr,hro,hev,hq=>by
  simp only[qcC,zad] at hc
  obtain⟨cx,hx,rfl⟩:=hc
  simp only[qbs] at hev
  have key:∀k {c:Cfg} {G1:Gh} {w1:World} {a1:Act},Ext G w G1 w1->CR P e.E U0 lof nt base c G1 w1 a1->RoR G1 ro c.rd->qfK k (qbs e n cx) c=some (ex,c')->(∀G' a' w',Ext G1 w1 G' w'->CR P e.E U0 lof nt base c' G' w' a'->c'.rd=c.rd->Q (qsi ex) a' w')->Code.roundsIn (FW ro) 0 P x Q k a1 w1:=by
   intro k
   induction k with
   |zero=>intro c G1 w1 a1 _ _ _ h;cases h
   |succ k ih=>
    intro c G1 w1 a1 x1 cr1 hro1 h hq1
    rw[qnP] at h
    simp only[zae] at h
    obtain⟨⟨ex2,c2⟩,h1,h2⟩:=h
    rw[roundsIn_succ]
    refine qd2 se hm n x hx cr1 hro1 h1 fun G2 a2 w2 x2 cr2 hrd2=>?_
    cases ex2 with
    |normal=>exact ih (x1.trans x2) cr2 (by rw[hrd2];exact hro1.ext x2) h2 fun G3 a3 w3 x3 cr3 hrd3=>hq1 G3 a3 w3 (x2.trans x3) cr3 (hrd3.trans hrd2)
    |exit i=>
     simp only[zac,zaq] at h2
     obtain⟨rfl,rfl⟩:=h2
     exact hq1 G2 a2 w2 x2 cr2 hrd2
    |ret=>
     simp only[zac,zaq] at h2
     obtain⟨rfl,rfl⟩:=h2
     exact hq1 G2 a2 w2 x2 cr2 hrd2
  exact wpIn_loop_rounds n (key n (Ext.refl G w) cr hro hev hq)
 |.rangeFunc g ps x y,cc,hc,c,c',ex,G,w,a,Q,cr,hro,hev,hq=>by
  simp only[qcC,zae] at hc
  obtain⟨gg,hg,cx,hx,cy,hy,hc⟩:=hc
  obtain⟨hps,hc⟩:=qat hc
  simp only[zac] at hc
  subst hc
  simp only[qbs] at hev
  obtain⟨hin,hev⟩:=qat hev
  simp only[zag] at hin
  simp only[zae] at hev
  obtain⟨⟨rv,s1⟩,hcall,hev⟩:=hev
  simp only at hev
  split at hev<;>try (cases hev;done)
  rename_i st pend lf ll lps lx ly hloop
  obtain⟨hst,hev⟩:=qcq hev
  have hst1:st≠1:=fun e'=>by subst e';cases hst
  simp only[zae] at hev
  obtain⟨hp,hset,hev⟩:=hev
  refine wpIn_rangeFunc fun fn _=>?_
  obtain⟨l,mark,w1,G1,hent,x1,hbl,cr1⟩:=qrh cr hro hin.1 hx hy (fun p hp=>blt_iff.1 (zaN.1 hps p hp)) fn
  have hfv:=(qbf hg (cr.fr.reads (a:=a) gg.tmps)).ext x1
  have hargs:VRs G1 w1 [.yield c.s.next] #[Value.func (.yield l) #[] #[]].toList:=VRs.nil.cons (.yield _ _ hbl)
  obtain⟨f0,first,cap,hu,hcf⟩:=se.callf hcall hin.2 cr1.mr hfv hargs
  have hcv:=se.callv hcall cr1.mr hfv hargs
  refine⟨l,mark,w1,{target:=.fn (.func f0) cap,args:=first++ #[Value.func (.yield l) #[] #[]]},w1,f0,first++ #[Value.func (.yield l) #[] #[]]++cap,w1,hent,?_,fun _ _=>trivial,?_,(fun h=>by cases h),?_⟩
  ·show(Deferred.ofValue (a.eval g) _).run P w1=_
   rw[qg4 _ _ _ (.func f0) first cap hu,show Array.map a.eval (rangeCall g l).args= #[Value.func (.yield l) #[] #[]] by simp[rangeCall,Act.eval]]
  ·exact hcf
  ·have hn:NextP P (qem P e.E U0 (fun _=>none) G1 w1 c.l s1 rv) (.ok (.enter f0 (first++ #[Value.func (.yield l) #[] #[]]++cap)) w1):=by
    rw[Sem.run_bind,qg4 _ _ _ (.func f0) first cap hu] at hcv
    simp only[Result.andThen_ok,invoke] at hcv
    rw[hcf] at hcv
    exact hcv
   refine CallsIn.mono (F:=Fence.wide) hn fun en w2 h=>?_
   obtain⟨u,rfl,G2,x2,mr2,hvr⟩:=h
   have cr2:CR P e.E U0 lof nt base {c with s:=s1} G2 w2 {a with defers:=mark++a.defers}:=⟨cr1.fr.ext x2,cr1.sz,mr2,cr1.lh,cr1.df.ext x2,zbf cr1.bs x2.size⟩
   obtain⟨jump,w3,hend,hpend,x3,cr3⟩:=qrj (k:=c.s.next) cr2 (x2.bOf _ _ hbl) hloop hst1 hset
   refine⟨jump,w3,hend,?_⟩
   have hx:=(x1.trans x2).trans x3
   cases pend with
   |none=>
    simp only[zac,zaq] at hev
    obtain⟨rfl,rfl⟩:=hev
    cases jump with
    |none=>exact hq G2 _ w3 hx cr3 rfl
    |some j=>exact hpend.elim
   |some pc=>
    cases pc with
    |ret=>
     simp only[zac,zaq] at hev
     obtain⟨rfl,rfl⟩:=hev
     cases jump with
     |none=>exact hpend.elim
     |some j=>
      cases j with
      |ret=>exact wpIn_ret (hq G2 _ w3 hx cr3 rfl)
      |_=>exact hpend.elim
    |exit i=>
     simp only[zac,zaq] at hev
     obtain⟨rfl,rfl⟩:=hev
     cases jump with
     |none=>exact hpend.elim
     |some j=>
      cases j with
      |exit i'=>
       have:i=i':=hpend
       subst this
       exact wpIn_exit (hq G2 _ w3 hx cr3 rfl)
      |_=>exact hpend.elim
    |_=>cases hev
 |.exit i,cc,hc,c,c',ex,G,w,a,Q,cr,hro,hev,hq=>by
  simp only[qcC,zac] at hc
  subst hc
  simp only[qbs,zac,zaq] at hev
  obtain⟨rfl,rfl⟩:=hev
  exact wpIn_exit (hq G a w (Ext.refl G w) cr rfl)
 |.ret,cc,hc,c,c',ex,G,w,a,Q,cr,hro,hev,hq=>by
  simp only[qcC,zac] at hc
  subst hc
  simp only[qbs,zac,zaq] at hev
  obtain⟨rfl,rfl⟩:=hev
  exact wpIn_ret (hq G a w (Ext.refl G w) cr rfl)
 |.label _,cc,hc,_,_,_,_,_,_,_,_,_,hev,_=>by
  simp only[qcC,zac] at hc
  subst hc
  simp only[qbs,reduceCtorEq] at hev
 |.goto _,cc,hc,_,_,_,_,_,_,_,_,_,hev,_=>by
  simp only[qcC,zac] at hc
  subst hc
  simp only[qbs,reduceCtorEq] at hev
 |.scope _,cc,hc,_,_,_,_,_,_,_,_,_,hev,_=>by
  simp only[qcC,zac] at hc
  subst hc
  simp only[qbs,reduceCtorEq] at hev
 |.refuse _,cc,hc,_,_,_,_,_,_,_,_,_,hev,_=>by
  simp only[qcC,zac] at hc
  subst hc
  simp only[qbs,reduceCtorEq] at hev
end Go.AI
namespace Go.AI
variable {P:Program} {e:Env} {lof:Nat->Option Nat} {nt base:Nat}
section
variable {E:qaR} {U pd:Nat->Option (List zA)} {l:Tr (Nat×List zA)} {s:ASt} {G G0:Gh} {w w0 w':World} {r:Nat}
theorem qir (sw:Swap r w w')(hr:G.own r=.misc):∀(ad:Addr) v,w.cell? ad=some v->G.S ad.block ad.off->w'.cell? ad=some v/\G.S ad.block ad.off:=by
 intro ad v hc hs
 refine⟨?_,hs⟩
 have:ad.block≠r:=fun e'=>by
  unfold Gh.S at hs
  rw[e',hr] at hs
  exact hs
 unfold World.cell? at hc⊢
 rw[sw.same _ this]
 exact hc
theorem PR.quiet (sw:Swap r w w')(hr:G.own r=.misc){c:zP}{v:Value}(h:PR G.S w c v):PR G.S w' c v:=h.mono (qir sw hr)
theorem Right.quiet (sw:Swap r w w')(hr:G.own r=.misc){n:Nat}{cs:List zP}{t:Nat}{a:Option Addr}{cap:Nat}(h:Right G w n cs t a cap):Right G w' n cs t a cap:=by
 refine⟨h.1,fun b m sz hb=>?_⟩
 obtain⟨h1,h2⟩:=h.2 b m sz hb
 refine⟨h1,fun e'=>?_⟩
 obtain⟨h3,h4,h5,c,E,h6,h7⟩:=h2 e'
 exact⟨h3,h4,h5,c,E,by rw[sw.same b (fun e'=>by rw[e',hr] at hb;cases hb)];exact h6,h7⟩
theorem VR.quiet (sw:Swap r w w')(hr:G.own r=.misc){c:zA}{v:Value}(h:VR G w c v):VR G w' c v:=by
 induction h with
 |p c v hp=>exact .p c v (hp.quiet sw hr)
 |full n cs a hp=>exact .full n cs a (hp.quiet sw hr)
 |own n cs t a cap hp q=>exact .own n cs t a cap (hp.quiet sw hr) (q.quiet sw hr)
 |lptr i g off b hb=>exact .lptr i g off b hb
 |ptr l off b hb=>exact .ptr l off b hb
 |elem cs i ad he=>
  refine .elem cs i ad fun j c hc=>?_
  obtain⟨v,h1,h2,h3,h4⟩:=he j c hc
  exact⟨v,(qir sw hr (ad.add j) v h1 (by rw[qc3,qel];exact h2)).1,h2,h3.quiet sw hr,h4⟩
 |func f fs cps vs us hl hm _ _ ih ik=>exact .func f fs cps vs us hl hm ih ik
 |yield l b hb=>exact .yield l b hb
 |map l b hb=>exact .map l b hb
 |agg cs vs hl h1 _ ih=>exact .agg cs vs hl h1 ih
 |tuple cs vs hl _ ih=>exact .tuple cs vs hl ih
 |junk v=>exact .junk v
theorem BR.quiet (sw:Swap r w w')(hr:G.own r=.misc){b:Nat}(hb:b≠r){cs:List zA}(h:BR G w b cs):BR G w' b cs:=by
 obtain⟨c,E,h1,h2,h3,h4⟩:=h
 exact⟨c,E,by rw[sw.same b hb];exact h1,h2,h3,fun j a v ha hv=>(h4 j a v ha hv).quiet sw hr⟩
theorem OR.quiet (sw:Swap r w w')(hr:G.own r=.misc){b:Nat}(hb:b≠r){o:zH}(h:OR P G w b o):OR P G w' b o:=by
 cases o with
 |cells cs=>exact⟨h.1.quiet sw hr hb,h.2⟩
 |map es=>
  obtain⟨ents,clock,h1,h2,h3⟩:=h
  exact⟨ents,clock,by rw[sw.same b hb];exact h1,h2,fun j k y e ha hv=>⟨(h3 j k y e ha hv).1.quiet sw hr,(h3 j k y e ha hv).2.quiet sw hr⟩⟩
 |loop st pend f l ps a c=>
  obtain⟨q,h1,h2⟩:=h
  exact⟨q,by rw[sw.same b hb];exact h1,⟨h2.st_,h2.pend_,⟨fun t=>(h2.f_.1 t).quiet sw hr,h2.f_.2⟩,h2.aw,h2.ps_,h2.psl,h2.l_,h2.code⟩⟩
 |gone=>
  obtain⟨q,h1⟩:=h
  exact⟨q,by rw[sw.same b hb];exact h1⟩
theorem MR.quiet (h:MR P E U pd l s G w)(sw:Swap r w w')(hr:G.own r=.misc):MR P E U pd l s G w':=by
 have hne:∀y q,G.own y=q->q≠.misc->y≠r:=fun y q h1 h2 e'=>h2 (by rw[<-h1,e',hr])
 refine⟨fun b hb=>by rw[sw.size];exact h.own b hb,h.bOf,h.lo_,h.un,h.pdz,h.nt,fun i g cs hl hg hp=>?_,h.lam,fun k o hk=>?_,fun k o hk=>?_,h.tok.step (fun _ _ _ _ h=>h) (fun _ _ _ _ h=>h) (fun y _ _ _ ho=>sw.same y (hne y _ ho (by simp)))⟩
 ·obtain⟨b,h1,h2,h3⟩:=h.loc i g cs hl hg hp
  exact⟨b,h1,h2,h3.quiet sw hr (hne b _ h2 (by simp))⟩
 ·obtain⟨h1,h2⟩:=h.heap k o hk
  exact⟨h1,h2.imp id fun⟨b,h3,h4,h5⟩=>⟨b,h3,h4,h5.quiet sw hr (hne b _ h4 (by simp))⟩⟩
 ·obtain⟨h1,h2⟩:=h.ro k o hk
  exact⟨h1,h2.imp id fun⟨b,j,h3,h4,h5⟩=>⟨b,j,h3,h4,h5.quiet sw hr (hne b _ h4 (by simp))⟩⟩
theorem Ext.quiet (x:Ext G0 w0 G w)(sw:Swap r w w')(hr:w0.heap.size<=r):Ext G0 w0 G w' where
 size:=by rw[sw.size];exact x.size
 os:=sw.os.trans x.os
 tape:=sw.tape.trans x.tape
 output:=sw.output.trans x.output
 still:=fun b hb hs=>by
  obtain⟨h1,h2⟩:=x.still b hb hs
  exact⟨(sw.same b (by omega)).trans h1,h2⟩
 tok:=fun b t n sz hb ho=>by
  obtain⟨h1,h2⟩:=x.tok b t n sz hb ho
  refine⟨fun o v hlt hc=>?_,h2⟩
  have:=h1 o v hlt hc
  unfold World.cell? at this⊢
  rw[sw.same b (by omega)]
  exact this
 shape:=fun b t n sz c E' ho hc hx=>by
  obtain⟨c',h1,h2⟩:=x.shape b t n sz c E' ho hc hx
  have:=(zaQ.1 hc).1
  exact⟨c',by rw[sw.same b (by omega)];exact h1,h2⟩
 loc:=x.loc
 lcl:=x.lcl
 bOf:=x.bOf
 lam:=x.lam
 nt:=x.nt
 cold:=fun a=>(sw.cold a).trans (x.cold a)
 lo_:=x.lo_
 low:=x.low
 old:=x.old
end
end Go.AI
namespace Go.AI
variable {P:Program} {e:Env} {lof:Nat->Option Nat} {nt base:Nat} {U0:Nat->Option (List zA)}
theorem qo0 {c:Cfg}{G:Gh}{w:World}{a:Act}(fr:FR G w c.f a.tmps)(mr:MR P e.E U0 (fun _=>none) c.l c.s G w):∀(rs:List ResultVar) (res:List RV) (vs:List zA),qqQ P rs=some res->rvs e c res=some vs->
  ∃us:List Value,(rs.mapM (fun(r:ResultVar)=>match r with|.tmp t=>(pure (a.tmps.getD t undef):Sem Value)|.cell x t=>do loadVar t (<-asAddr (a.tmps.getD x undef)))).run P w=.ok us w/\VRs G w vs us
 |[],res,vs,hc,hv=>by
  simp only[qqQ,zac] at hc
  subst hc
  simp only[rvs,zac] at hv
  subst hv
  exact⟨[],rfl,.nil⟩
 |.tmp t::rs,res,vs,hc,hv=>by
  simp only[qqQ,zad] at hc
  obtain⟨res',hr,rfl⟩:=hc
  simp only[rvs,zad] at hv
  obtain⟨vs',hv',rfl⟩:=hv
  obtain⟨us,h1,h2⟩:=qo0 fr mr rs res' vs' hr hv'
  refine⟨a.tmps.getD t undef::us,?_,h2.cons (fr.1 t)⟩
  simp only[List.mapM_cons,Sem.run_bind,Sem.run_pure,Result.andThen_ok,h1]
 |.cell x t::rs,res,vs,hc,hv=>by
  simp only[qqQ,zae,zad] at hc
  obtain⟨n,hn,res',hr,rfl⟩:=hc
  simp only[rvs,zae,zad] at hv
  obtain⟨cs,hcs,v,hv1,vs',hv',rfl⟩:=hv
  obtain⟨us,h1,h2⟩:=qo0 fr mr rs res' vs' hr hv'
  obtain⟨ad,ls,k1,k2,k3,k4,k5⟩:=qik mr (fr.1 x) hcs
  obtain⟨u,k6,k7,k8⟩:=qmv (P:=P) hn k2 k5
  have k9:(loadVar t ad).run P w=.ok u w:=by
   simpa[Instr.loadAt,Instr.sureAddr] using k6
  have k10:VR G w v u:=by
   obtain⟨q1,q2⟩:=qig hv1 k3 k4
   cases n with
   |none=>
    obtain⟨u',e',q3⟩:=q1 rfl
    rw[k7 rfl] at e'
    cases e'
    exact q3
   |some m=>
    rw[k8 m rfl]
    exact q2 m rfl
  refine⟨u::us,?_,h2.cons k10⟩
  rw[List.mapM_cons]
  simp only[Sem.run_bind,k1,show asAddr (.pointer (some ad))=pure ad from rfl,Sem.run_pure,Result.andThen_ok,k9,h1]
theorem qu7 {G:Gh}{w:World}{vs:List zA}{us:List Value}(h:VRs G w vs us):VR G w (qh9 vs) (if h:us.toArray.size=1 then us.toArray[0] else .tuple us.toArray):=by
 match vs,us,h with
 |[],[],_=>exact .undef
 |[v],[u],h=>exact h.2 0 v u rfl rfl
 |v::v'::vs,u::u'::us,h=>
  have hs:(u::u'::us).toArray.size≠1:=by simp
  rw[dif_neg hs]
  exact .tuple _ _ (by simpa using h.1) fun i c x hc hx=>h.2 i c x hc (by simpa using hx)
 |[],_::_,h=>simp[VRs] at h
 |_::_,[],h=>simp[VRs] at h
 |[_],_::_::_,h=>simp[VRs] at h
 |_::_::_,[_],h=>simp[VRs] at h
theorem qnQ {c:Cfg}{G:Gh}{w:World}{a:Act}(fr:FR G w c.f a.tmps)(mr:MR P e.E U0 (fun _=>none) c.l c.s G w){fn:Func}{res:List RV}{vs:List zA}(hc:qqQ P fn.results.toList=some res)(hv:rvs e c res=some vs):
  ∃u,(results fn a.tmps).run P w=.ok u w/\VR G w (qh9 vs) u:=by
 obtain⟨us,h1,h2⟩:=qo0 fr mr _ _ _ hc hv
 refine⟨_,?_,qu7 h2⟩
 unfold results
 rw[Sem.run_bind,Array.mapM_eq_mapM_toList,map_eq_pure_bind,Sem.run_bind]
 have h3:=h1
 refine(congrArg (fun r=>Result.andThen (Result.andThen r _) _) h3).trans ?_
 rfl
theorem qmJ {c:Cfg}{G0 G:Gh}{w0:World}{a:Act}{fn:Func}{res:List RV}{vs:List zA}(hc:qqQ P fn.results.toList=some res)(hv:rvs e c res=some vs){R:Ending->World->Prop}
  (hR:∀u w',Ext G0 w0 G w'->MR P e.E U0 (fun _=>none) c.l c.s G w'->VR G w' (qh9 vs) u->R (.returned u) w'):
  ∀(ds:List Deferred) (w:World),Ext G0 w0 G w->FR G w c.f a.tmps->MR P e.E U0 (fun _=>none) c.l c.s G w->Marks w0.heap.size G w ds->LeavesInM Fence.wide 0 P fn a.tmps R ds .returning w
 |[],w,x,fr,mr,_=>by
  obtain⟨u,h1,h2⟩:=qnQ fr mr hc hv
  exact⟨u,h1,hR u w x mr h2⟩
 |d::ds,w,x,fr,mr,⟨⟨r,h1,h2,h3,h4,h5⟩,hm⟩=>by
  have sw:=Swap.setObj h4 (.deferred none)
  refine⟨by simp,.inl ⟨r,_,h1,?_,qmJ hc hv hR ds _ (x.quiet sw h2) ⟨fun t=>(fr.1 t).quiet sw h3,fr.2⟩ (mr.quiet sw h3) ?_⟩⟩
  ·simp[Instr.takeDeferred,getObj,setObj,Sem.run,h4]
  ·have:∀ds:List Deferred,(∀d'∈ds,d'.target≠.collected r)→Marks w0.heap.size G w ds→Marks w0.heap.size G {w with heap:=w.heap.setIfInBounds r (.deferred none)} ds:=by
    intro ds
    induction ds with
    |nil=>intros;trivial
    |cons d ds ih=>
     rintro hne ⟨⟨q,k1,k2,k3,k4,k5⟩,k6⟩
     have hqr:q≠r:=fun e'=>hne d (zau) (by rw[k1,e'])
     exact⟨⟨q,k1,k2,k3,by rw[sw.same q hqr];exact k4,k5⟩,ih (fun d' hd'=>hne d' (zax _ hd')) k6⟩
   exact this ds h5 hm
end Go.AI
namespace Go.AI
variable {P:Program}
theorem qg5:∀(args:List zA) (f:Tr zA) (k t:Nat),(qbB f k args).has t=f.has t
 |[],_,_,_=>rfl
 |v::r,f,k,t=>by
  rw[qbB,qg5 r,Tr.has_set]
theorem qg6:∀(args:List zA) (f:Tr zA) (k t:Nat),(∀i,i<args.length->f.has (k+i)=true)->(qbB f k args).get qaq t=if k<=t then(match args[t-k]? with|some v=>v|none=>f.get qaq t) else f.get qaq t
 |[],f,k,t,_=>by simp[qbB]
 |v::r,f,k,t,h=>by
  rw[qbB,qg6 r (f.set k v) (k+1) t (fun i hi=>by
   rw[Tr.has_set]
   have:=h (i+1) (by simp;omega)
   rw[show k+1+i=k+(i+1) by omega]
   exact this)]
  have hk:=h 0 (by simp)
  rw[zbk] at hk
  by_cases h1:k+1<=t
  ·rw[if_pos h1,if_pos (by omega),show t-k=(t-(k+1))+1 by omega,zaO]
   cases r[t-(k+1)]? with
   |some v=>rfl
   |none=>exact Tr.get_set_ne _ _ _ _ _ (by omega)
  ·rw[if_neg h1]
   by_cases h2:k=t
   ·subst h2
    rw[if_pos (zan _),Nat.sub_self,zas,Tr.get_set_eq _ _ _ _ hk]
   ·rw[if_neg (by omega),Tr.get_set_ne _ _ _ _ _ h2]
theorem qis {fl:Flag}{fn:Func}{cf:CF}(h:qoA P fl fn=some cf):∃body,fn.body=some body/\fn.ntmps<2^cf.depth/\fl.locals.length<2^cf.ldepth/\cf.np<=fn.ntmps/\qqQ P fn.results.toList=some cf.res/\qcC P (fun t=>qib fl.locals t 0) fn.ntmps body=some cf.body:=by
 unfold qoA at h
 split at h
 ·cases h
 ·rename_i body hb
  obtain⟨hc,h⟩:=qat h
  simp only[zae,zad] at h
  obtain⟨res,hr,b,hcb,rfl⟩:=h
  simp only[zag] at hc
  exact⟨body,hb,blt_iff.1 hc.1,blt_iff.1 hc.2.1,ble_iff.1 hc.2.2,hr,hcb⟩
theorem qks:∀(l:List Nat) (t k i:Nat),qib l t k=some i->i<k+l.length
 |[],_,_,_,h=>by cases h
 |x::r,t,k,i,h=>by
  unfold qib at h
  cases hb:Nat.beq x t with
  |true=>
   rw[hb] at h
   simp only[cond_true,zac] at h
   subst h
   simp
  |false=>
   rw[hb] at h
   have:=qks r t (k+1) i h
   simp
   omega
theorem qo1 {e:Env}(se:SoundEnv P e)(hm:P.follows .mixedOrders=true){f:FuncId}{fn:Func}{fl:Flag}{cf:CF}(hf:P.funcs[f]? =some fn)(hcf:qoA P fl fn=some cf){n:Nat}{U:Nat->Option (List zA)}{args:List zA}{s:ASt}{G:Gh}{w:World}{vs:Array Value}
  (hnp:args.length=cf.np)(mr:MR P e.E U (fun _=>none) (Tr.mk (0,[]) cf.ldepth) s G w)(ha:VRs G w args vs.toList){r:EX×Cfg}(hev:qbs e n cf.body ⟨qbB (Tr.mk qaq cf.depth) 0 args,Tr.mk (0,[]) cf.ldepth,[],none,s⟩=some r){v:zA}(hl:qgo e cf r=some v):
  CallsIn Fence.wide 0 P f vs w fun ex w'=>∃u,ex=.returned u/\∃G',Ext G w G' w'/\MR P e.E U (fun _=>none) r.2.l r.2.s G' w'/\VR G' w' v u:=by
 obtain⟨body,hb,hd,hld,hle,hres,hcode⟩:=qis hcf
 obtain⟨ex,c'⟩:=r
 have hsz:vs.size=args.length:=by have:=ha.1;simpa using this.symm
 have hin:∀t,t<fn.ntmps->(Tr.mk qaq cf.depth).has t=true:=fun t ht=>Tr.has_mk _ _ _ (by omega)
 have hlen:(vs++Array.replicate (fn.ntmps-vs.size) undef).size=fn.ntmps:=by simp;omega
 have cr:CR P e.E U (fun t=>qib fl.locals t 0) fn.ntmps w.heap.size ⟨qbB (Tr.mk qaq cf.depth) 0 args,Tr.mk (0,[]) cf.ldepth,[],none,s⟩ G w {tmps:=vs++Array.replicate (fn.ntmps-vs.size) undef,defers:=[]}:=by
  refine⟨⟨fun t=>?_,fun t ht=>?_⟩,hlen,mr,fun t j hj=>Tr.has_mk _ _ _ (by have:=qks _ _ _ _ hj;omega),trivial,zan _⟩
  ·show VR G w ((qbB (Tr.mk qaq cf.depth) 0 args).get qaq t) ((vs++Array.replicate (fn.ntmps-vs.size) undef).getD t undef)
   rw[qg6 _ _ _ _ (fun i hi=>hin _ (by omega)),if_pos (zaY _),Nat.sub_zero,Tr.get_mk]
   by_cases ht:t<args.length
   ·rw[zah ht,zaW,Array.getElem?_append_left (by omega),za3 (by omega),zaE]
    exact ha.2 t _ _ (zah ht) (by rw[zaL];exact za3 (by omega))
   ·rw[List.getElem?_eq_none (by omega),zaW,Array.getElem?_append_right (by omega),Array.getElem?_replicate]
    have hu:((if t-vs.size<fn.ntmps-vs.size then some undef else none:Option Value).getD undef)=undef:=by split<;>rfl
    rw[hu]
    exact .undef
  ·rw[qg5]
   exact hin t (by rw[hlen] at ht;exact ht)
 refine callsIn_of_wp_marks (F:=Fence.wide) hf hb trivial ?_
 refine qd2 (ro:=none) se hm n body hcode cr trivial hev fun G' a' w' x cr' _=>?_
 unfold qgo at hl
 have fin:∀vs',rvs e c' cf.res=some vs'->qh9 vs'=v->LeavesInM Fence.wide 0 P fn a'.tmps (fun ex w'=>∃u,ex=.returned u/\∃G',Ext G w G' w'/\MR P e.E U (fun _=>none) c'.l c'.s G' w'/\VR G' w' v u) a'.defers .returning w':=by
  intro vs' hvs hv
  refine qmJ (G:=G') hres hvs (fun u w2 x2 mr2 hu=>⟨u,rfl,G',x2,mr2,by rw[<-hv];exact hu⟩) a'.defers w' x cr'.fr cr'.mr cr'.df
 cases ex with
 |normal=>
  simp only[zad] at hl
  obtain⟨vs',h1,h2⟩:=hl
  exact fin vs' h1 h2
 |ret=>
  simp only[zad] at hl
  obtain⟨vs',h1,h2⟩:=hl
  exact fin vs' h1 h2
 |exit i=>cases hl
theorem qkt {f:FuncId}{fn:Func}{body:Code}(hf:P.funcs[f]? =some fn)(hb:fn.body=some body)(hn:(fn.name== "runtime.NumGoroutine")=false)(vs:Array Value)(w:World):(callFunc f vs).run P w=.ok (.enter f vs) w:=by
 unfold callFunc
 have h1:∀x:Program,(program:Sem Program).run P w=.ok P w:=fun _=>rfl
 rw[Sem.run_bind,h1 P]
 simp only[Result.andThen_ok,hf,hn,hb,Option.isNone_some,zai,if_false]
 rfl
structure ProgOK (P:Program)(CP:Nat->Option CF):Prop where
 orders:P.follows .mixedOrders=true
 code:∀f cf,CP f=some cf->∃fn fl,P.funcs[f]? =some fn/\qoA P fl fn=some cf/\(fn.name== "runtime.NumGoroutine")=false
theorem qe8 (CP:Nat->Option CF)(n:Nat)(E:qaR):(qag CP n E).E=E:=by cases n<;>rfl
theorem qfP {G:Gh}{w:World}{args:List zA}{vs:List Value}(keep:Bool)(h:VRs G w args vs):VRs G w (cond keep args (args.map qaD)) vs:=by
 cases keep with
 |true=>exact h
 |false=>
  refine⟨by simpa using h.1,fun i c v hc hv=>?_⟩
  simp only[cond_false,za9,zad] at hc
  obtain⟨d,hd,rfl⟩:=hc
  exact qi0 (h.2 i d v hd hv)
theorem qnR {args:List zA}(keep:Bool)(h:args.all qbF=true):(cond keep args (args.map qaD)).all qbF=true:=by
 cases keep with
 |true=>exact h
 |false=>
  simp only[cond_false,zaN]
  intro x hx
  obtain⟨y,hy,rfl⟩:=List.mem_map.1 hx
  exact qls y (zaN.1 h y hy)
theorem qrk {args:List zA}(keep:Bool):(cond keep args (args.map qaD)).length=args.length:=by cases keep<;>simp
theorem qku {CP:Nat->Option CF}(pk:ProgOK P CP){n:Nat}(ih:∀E,SoundEnv P (qag CP n E)){E:qaR}{f:Nat}{args:List zA}{s s':ASt}{v:zA}(h:qcp CP (qag CP n) n E f args s=some (v,s')){U pd:Nat->Option (List zA)}{l:Tr (Nat×List zA)}{G:Gh}{w:World}{vs:Array Value}
  (mr:MR P E U pd l s G w)(ha:VRs G w args vs.toList):(callFunc f vs).run P w=.ok (.enter f vs) w/\NextP P (qem P E U pd G w l s' v) ((callFunc f vs).run P w):=by
 unfold qcp at h
 simp only[zae] at h
 obtain⟨cf,hcf,h⟩:=h
 obtain⟨fn,fl,hf,hc,hname⟩:=pk.code f cf hcf
 obtain⟨body,hb,_⟩:=qis hc
 have hrun:=qkt hf hb hname vs w
 refine⟨hrun,?_⟩
 rw[hrun]
 obtain⟨hg,h⟩:=qat h
 simp only[zag] at hg
 have hnp:=beq_iff.1 hg.1
 have h0:∀i,(Tr.mk ((0,[]):Nat×List zA) cf.ldepth).get (0,[]) i=(0,[]):=fun i=>Tr.get_mk _ _ _
 have quiet:∀(as_:List zA) (u:zA),as_.length=cf.np->as_.all qbF=true->VRs G w as_ vs.toList->qml (qag CP n (s.heap++E)) n cf as_ s=some u->
   CallsIn Fence.wide 0 P f vs w fun ex w'=>∃x,ex=.returned x/\∃G',Ext (G.fix s.next) w G' w'/\VR G' w' u x:=by
  intro as_ u hlen haw hvr hr
  unfold qml at hr
  simp only[zae] at hr
  obtain⟨r,hr1,hr2⟩:=hr
  have mr0:=mr.fix h0
  rw[<-qe8 CP n (s.heap++E)] at mr0
  refine CallsIn.mono (qo1 (ih (s.heap++E)) pk.orders hf hc hlen mr0 ⟨hvr.1,fun i c x hci hx=>(qgZ s.next).atC (hvr.2 i c x hci hx) (qcH haw hci)⟩ hr1 hr2) fun ex w' ⟨x,h1,G',h2,_,h3⟩=>⟨x,h1,G',h2,h3⟩
 cases hcl:cf.clone&&qgc (args.map qaD) with
 |true=>
  rw[hcl] at h
  simp only[cond_true,zae] at h
  obtain⟨a,ha1,b,hb1,h⟩:=h
  obtain⟨hab,h⟩:=qat h
  simp only[zac,zaq] at h
  obtain⟨rfl,rfl⟩:=h
  simp only[zag] at hcl hab
  have ha2:=qfP false ha
  simp only[cond_false] at ha2
  have hone:args.map qaD=[.p (.sl 0 [])]:=by
   have:=hcl.2
   unfold qgc at this
   split at this
   ·assumption
   ·cases this
  rw[hone] at ha2
  have hlen1:args.length=1:=by have:=congrArg List.length hone;simpa using this
  have hvs:vs.size=1:=by have:=ha.1;simp at this;omega
  have hv0:vs[0]? =some vs[0]:=za3 (by omega)
  have hvx:=ha2.2 0 _ _ rfl (by rw[zaL];exact hv0)
  obtain⟨ad,cap,ex0,_⟩:=qfN (n:=0) (cs:=[]) rfl hvx
  have hfull:∀{q:zA} {G':Gh} {w':World} {x:Value},qe3 q=true->VR G' w' q x->∃a',x=.slice a' 0 0:=by
   intro q G' w' x hq hx
   unfold qe3 at hq
   split at hq
   ·cases hx with
    |full _ _ a' _=>exact⟨a',rfl⟩
   ·cases hq
  have done:∀(as0:zA) (q:zA),qbF as0=true->VR G w as0 vs[0]->qe3 q=true->qml (qag CP n (s.heap++E)) n cf [as0] s=some q->NextP P (qem P E U pd G w l s (.sl 0 [] .full)) (.ok (.enter f vs) w):=by
   intro as0 q haw hvr hq hr
   refine CallsIn.mono (quiet [as0] q (by rw[<-hnp,hlen1];rfl) (by simp[haw]) ⟨by simp[hvs],fun i c x hci hx=>?_⟩ hr) fun en w' ⟨x,h1,G',h2,h3⟩=>⟨x,h1,?_⟩
   ·cases i with
    |zero=>
     simp only[zas,zac] at hci
     rw[zaL,hv0] at hx
     cases hci;cases hx
     exact hvr
    |succ i=>simp at hci
   ·obtain⟨a',rfl⟩:=hfull hq h3
    exact⟨G,(qgy h2).ext G,mr.keep (qgy h2),.full 0 [] a' (PR.nil_row _ _)⟩
  cases ad with
  |none=>exact done (.p .nilSl) a rfl (by rw[ex0];exact .p _ _ (.nilSl cap)) hab.1 ha1
  |some ad=>exact done (.p .emSl) b rfl (by rw[ex0];exact .p _ _ (.emSl ad cap)) hab.2 hb1
 |false=>
  rw[hcl] at h
  simp only[cond_false] at h
  have ha':=qfP cf.keepA ha
  have haw:=qnR cf.keepA hg.2
  have hlen:(cond cf.keepA args (args.map qaD)).length=cf.np:=by rw[qrk];exact hnp
  cases hp:cf.pure with
  |true=>
   rw[hp] at h
   simp only[cond_true,zae] at h
   obtain⟨u,hu,h⟩:=h
   obtain⟨hpl,h⟩:=qat h
   simp only[zac,zaq] at h
   obtain⟨rfl,rfl⟩:=h
   exact CallsIn.mono (quiet _ u hlen haw ha' hu) fun ex w' ⟨x,h1,G',h2,h3⟩=>⟨x,h1,qoV mr h2 (qi0 h3) hpl⟩
  |false=>
   rw[hp] at h
   simp only[cond_false,zae] at h
   obtain⟨r,hr,u,hu,h⟩:=h
   obtain⟨hpl,h⟩:=qat h
   simp only[zac,zaq] at h
   obtain⟨rfl,rfl⟩:=h
   have mr0:=mr.sub h0
   rw[<-qe8 CP n E] at mr0
   refine CallsIn.mono (qo1 (ih E) pk.orders hf hc hlen mr0 ⟨ha'.1,fun i c x hci hx=>moves_sub.atC (ha'.2 i c x hci hx) (qcH haw hci)⟩ hr hu) fun ex w' ⟨x,h1,G',h2,h3,h4⟩=>⟨x,h1,?_⟩
   rw[qe8] at h3
   refine qmC mr h2 h3 ?_ hpl
   cases cf.keepR with
   |true=>exact h4
   |false=>exact qi0 h4
theorem VRs.map_whole {G:Gh}{w:World}{cs:List zP}{vs:Array Value}(hl:cs.length=vs.size)(h:∀(i:Nat) c v,cs[i]? =some c->vs[i]? =some v->PR G.S w c v):VRs G w (cs.map zP.whole) vs.toList:=by
 refine⟨by simpa using hl,fun i c v hc hv=>?_⟩
 simp only[za9,zad] at hc
 obtain⟨d,hd,rfl⟩:=hc
 exact qmA (h i d v hd (by simpa using hv))
theorem VRs.of_arr {G:Gh}{w:World}{cs:List zA}{vs:Array Value}(hl:cs.length=vs.size)(h:∀(i:Nat) c v,cs[i]? =some c->vs[i]? =some v->VR G w c v):VRs G w cs vs.toList:=
 ⟨by simpa using hl,fun i c v hc hv=>h i c v hc (by simpa using hv)⟩
theorem qkv (fn:Nat)(first cap vs:Array Value)(w:World):((do let d <-Deferred.ofValue (.func (.func fn) first cap) vs;invoke d.target d.args:Sem Next).run P w)=(callFunc fn (first++vs++cap)).run P w:=rfl
theorem qg7 {nt:Nat}:∀(ps:List Nat) (args:List zA) (vs:List Value) (f f1:Tr zA) (tmps:Array Value) {G:Gh} {w:World},FR G w f tmps->(∀p∈ps,p<tmps.size)->VRs G w args vs->qdM f ps args=some f1->tmps.size=nt->
  FR G w f1 ((ps.zip vs).foldl (fun tmps (x:Nat×Value)=>tmps.setIfInBounds x.1 x.2) tmps)/\((ps.zip vs).foldl (fun tmps (x:Nat×Value)=>tmps.setIfInBounds x.1 x.2) tmps).size=nt/\ps.length=vs.length
 |[],[],vs,f,f1,tmps,G,w,hf,_,hv,h,hs=>by
  simp only[qdM,zac] at h
  subst h
  have:vs=[]:=by
   have:=hv.1
   simp at this
   exact List.eq_nil_of_length_eq_zero this.symm
  subst this
  exact⟨hf,hs,rfl⟩
 |p::ps,a::args,[],f,f1,tmps,G,w,hf,_,hv,h,hs=>by simp[VRs] at hv
 |p::ps,a::args,v::vs,f,f1,tmps,G,w,hf,hp,hv,h,hs=>by
  simp only[qdM] at h
  have hv0:=hv.2 0 a v rfl rfl
  have:=qg7 (nt:=nt) ps args vs (f.set p a) f1 (tmps.setIfInBounds p v) (hf.put (hp p zau) hv0) (fun q hq=>by simpa using hp q (zax _ hq))
   ⟨by have:=hv.1;simpa using this,fun i c x hc hx=>hv.2 (i+1) c x (by simpa using hc) (by simpa using hx)⟩ h (by simpa using hs)
  refine⟨this.1,this.2.1,by simp[this.2.2]⟩
 |[],_::_,_,_,_,_,_,_,_,_,_,h,_=>by cases h
 |_::_,[],_,_,_,_,_,_,_,_,_,h,_=>by cases h
end Go.AI
namespace Go.AI
variable {P:Program}
theorem qlu {E:qaR}{U pd:Nat->Option (List zA)}{l:Tr (Nat×List zA)}{s:ASt}{G:Gh}{w:World}(mr:MR P E U pd l s G w){q b st:Nat}{pend:Option CC}{f:Tr zA}{lo:Tr (Nat×List zA)}{ps:List Nat}{x y:CC}(hb:G.bOf q=some b)(hq:qas s.heap q=some (.loop st pend f lo ps x y)):
  ∃r,w.heap[b]? =some (.loop r)/\G.own b=.loc q/\LoopR P G w st pend f lo ps x y r:=by
 rcases(mr.heap q _ hq).2 with e|⟨b',h1,h2,r,h3,h4⟩
 ·rw[hb] at e;cases e
 ·rw[hb] at h1;cases h1;exact⟨r,h3,h2,h4⟩
theorem qmK {E:qaR}{U pd:Nat->Option (List zA)}{l:Tr (Nat×List zA)}{s:ASt}{G:Gh}{w:World}(mr:MR P E U pd l s G w){q b st st':Nat}{pend pend':Option CC}{f:Tr zA}{lo:Tr (Nat×List zA)}{ps:List Nat}{x y:CC}(hb:G.bOf q=some b){r:Loop}(hr:w.heap[b]? =some (.loop r))(ho:G.own b=.loc q)(hl:LoopR P G w st pend f lo ps x y r)
  {state:LoopState}{jump:Option Code}(hs:stR st' state)(hj:qqZ pend' jump){hp:qaR}(hset:qaK s.heap q (.loop st' pend' f lo ps x y)=some hp):
  Ext G w G {w with heap:=w.heap.setIfInBounds b (.loop {r with state:=state,pending:=jump})}/\MR P E U pd l {s with heap:=hp} G {w with heap:=w.heap.setIfInBounds b (.loop {r with state:=state,pending:=jump})}:=by
 have sw:=Swap.setObj hr (.loop {r with state:=state,pending:=jump})
 have x:=Ext.chg (G:=G) sw (by rw[ho];exact fun e=>e) (by rw[ho];intros;simp)
 exact mr.chgH sw hb ho hset (ob:=.loop st' pend' f lo ps _ _) ⟨_,(MapKept.heap_set hr).1,hs,hj,hl.f_.ext x,hl.aw,hl.ps_,hl.psl,hl.l_,hl.code⟩
theorem qrl {CP:Nat->Option CF}(pk:ProgOK P CP){n:Nat}(ih:∀E,SoundEnv P (qag CP n E)){E:qaR}{call:Nat->List zA->ASt->Option (zA×ASt)}{q:Nat}{args:List zA}{s s':ASt}{v:zA}(h:qeT call (qag CP n) n E (.yield q) args s=some (v,s')){U pd:Nat->Option (List zA)}{l:Tr (Nat×List zA)}{G:Gh}{w:World}{u:Value}{vs:Array Value}
  (mr:MR P E U pd l s G w)(hu:VR G w (.yield q) u)(ha:VRs G w args vs.toList):NextP P (qem P E U pd G w l s' v) ((do let d <-Deferred.ofValue u vs;invoke d.target d.args:Sem Next).run P w):=by
 cases hu with|yield _ b hb=>
 unfold qeT at h
 simp only at h
 split at h<;>try (cases h;done)
 rename_i pend f lo ps aa bb hq
 obtain⟨haw,h⟩:=qat h
 simp only[zae] at h
 obtain⟨f1,hf1,⟨ex1,c1⟩,h1,h⟩:=h
 cases ex1 with
 |exit i=>cases h
 |ret=>cases h
 |normal=>
 simp only at h
 split at h<;>try (cases h;done)
 rename_i p2 f2 l2 ps2 a2 b2 hq1
 simp only[zae] at h
 obtain⟨hp,hset,⟨ex2,c2⟩,h2,h⟩:=h
 unfold endRound at h
 simp only at h
 split at h<;>try (cases h;done)
 rename_i st3 p3 f3 l3 ps3 a3 b3 hq3
 simp only[zad,zaq] at h
 obtain⟨hp3,hset3,rfl,rfl⟩:=h
 obtain⟨r,hr,ho,hL⟩:=qlu mr hb hq
 have mr0:=mr.sub (l0:=lo) hL.l_
 rw[<-qe8 CP n E] at mr0
 have hargs:VRs G.sub w args vs.toList:=⟨ha.1,fun i c x hc hx=>moves_sub.atC (ha.2 i c x hc hx) (qcH haw hc)⟩
 have hfr:FR G.sub w f r.tmps:=⟨fun t=>by
  rcases hL.aw t with e|e
  ·exact moves_sub.at (hL.f_.1 t) e
  ·rw[e];exact .junk _,hL.f_.2⟩
 obtain⟨k1,k2,k3⟩:=qg7 ps args vs.toList f f1 r.tmps hfr (fun p hp=>hL.psl p hp) hargs hf1 rfl
 have hsz:vs.size=r.params.size:=by
  rw[<-hL.ps_] at k3
  simpa using k3.symm
 have hrun:(do let d <-Deferred.ofValue (.func (.yield b) #[] #[]) vs;invoke d.target d.args:Sem Next).run P w=.ok (.round b r.fn ((r.params.zip vs).foldl (fun tmps (t,a)=>tmps.setIfInBounds t a) r.tmps) r.assign r.body) w:=by
  have e1:(do let d <-Deferred.ofValue (.func (.yield b) #[] #[]) vs;invoke d.target d.args:Sem Next).run P w=(Instr.yield b (#[]++vs)).run P w:=rfl
  rw[e1]
  simp[Instr.yield,Instr.getLoop,getObj,Sem.run,hr,hsz]
 rw[hrun]
 have htm:(r.params.zip vs).foldl (fun tmps (t,a)=>tmps.setIfInBounds t a) r.tmps=(ps.zip vs.toList).foldl (fun tmps (x:Nat×Value)=>tmps.setIfInBounds x.1 x.2) r.tmps:=by
  rw[<-hL.ps_,<-Array.foldl_toList,Array.toList_zip]
 rw[htm]
 obtain⟨lof,hca,hcb,hlof⟩:=hL.code
 have cr0:CR P (qag CP n E).E U lof r.tmps.size w.heap.size ⟨f1,lo,[],some q,s⟩ G.sub w {tmps:=(ps.zip vs.toList).foldl (fun tmps (x:Nat×Value)=>tmps.setIfInBounds x.1 x.2) r.tmps,defers:=[]}:=⟨k1,k2,mr0,hlof,trivial,zan _⟩
 refine roundIn_of_wpIn (F:=Fence.wide) trivial ?_
 refine qd2 (ro:=some b) (ih E) pk.orders n r.assign hca cr0 hb h1 fun G1 a1 w1 x1 cr1 hrd1=>?_
 have hb1:=x1.bOf _ _ hb
 obtain⟨r1,hr1,ho1,hL1⟩:=qlu cr1.mr hb1 hq1
 have hready:r1.state=.ready:=by
  have:=hL1.st_
  cases hs:r1.state<;>rw[hs] at this<;>first|rfl|exact this.elim
 obtain⟨x2,mr2⟩:=qmK cr1.mr hb1 hr1 ho1 hL1 (state:=.busy) (jump:=r1.pending) (st':=1) trivial hL1.pend_ hset
 refine⟨{w1 with heap:=w1.heap.setIfInBounds b (.loop {r1 with state:=.busy,pending:=r1.pending})},?_,?_⟩
 ·simp[Instr.beginRound,Instr.getLoop,getObj,setObj,Sem.run,hr1,hready]
 have cr2:CR P (qag CP n E).E U lof r.tmps.size w.heap.size {c1 with s:={c1.s with heap:=hp}} G1 {w1 with heap:=w1.heap.setIfInBounds b (.loop {r1 with state:=.busy,pending:=r1.pending})} a1:=
  ⟨cr1.fr.ext x2,cr1.sz,mr2,cr1.lh,cr1.df.ext x2,zbf cr1.bs x2.size⟩
 refine qd2 (ro:=some b) (ih E) pk.orders n r.body hcb cr2 (by rw[show({c1 with s:={c1.s with heap:=hp}}:Cfg).rd=some q from hrd1];exact x2.bOf _ _ hb1) h2 fun G3 a3' w3 x3 cr3 hrd3=>?_
 have hb3:=x3.bOf _ _ (x2.bOf _ _ hb1)
 obtain⟨r3,hr3,ho3,hL3⟩:=qlu cr3.mr hb3 hq3
 have hx:=(x1.trans x2).trans x3
 have fin:∀(state:LoopState) (jump:Option Code),stR (qow ex2) state->qqZ (qeS ex2) jump->qem P E U pd G w l {c2.s with heap:=hp3} (.p (.bool (qjU ex2))) (.bool (qjU ex2)) {w3 with heap:=w3.heap.setIfInBounds b (.loop {r3 with state:=state,pending:=jump})}:=by
  intro state jump hs hj
  obtain⟨x4,mr4⟩:=qmK cr3.mr hb3 hr3 ho3 hL3 hs hj hset3
  rw[qe8] at mr4
  exact qmC mr (hx.trans x4) mr4 (.bool _) rfl
 cases ex2 with
 |normal=>
  refine⟨.bool true,_,?_,.bool true,rfl,fin .ready none trivial trivial⟩
  simp[Instr.endRound,Instr.getLoop,getObj,setObj,Sem.run,hr3]
 |ret=>
  refine⟨.bool false,_,?_,.bool false,rfl,fin .done (some .ret) trivial trivial⟩
  simp[Instr.endRound,Instr.getLoop,getObj,setObj,Sem.run,hr3]
 |exit i=>
  refine⟨.bool false,_,?_,.bool false,rfl,fin .done (some (.exit i)) trivial rfl⟩
  simp[Instr.endRound,Instr.getLoop,getObj,setObj,Sem.run,hr3]
theorem qmL {CP:Nat->Option CF}(pk:ProgOK P CP):∀(n:Nat) (E:qaR),SoundEnv P (qag CP n E)
 |0,E=>⟨fun h=>(by cases h),fun h=>(by cases h),fun h=>(by cases h),fun _ h=>(by cases h)⟩
 |n+1,E=>by
  have ih:=qmL pk n
  have hcall:∀{f args s v s'},qcp CP (qag CP n) n E f args s=some (v,s')->∀{U pd l G w} {vs:Array Value},MR P E U pd l s G w->VRs G w args vs.toList->(callFunc f vs).run P w=.ok (.enter f vs) w/\NextP P (qem P E U pd G w l s' v) ((callFunc f vs).run P w):=
   by intro f args s v s' h U pd l G w vs mr ha;exact qku pk ih h mr ha
  have hfun:∀{fv args s v s'},qeT (qcp CP (qag CP n) n E) (qag CP n) n E fv args s=some (v,s')->quQ fv=true->∀{U pd l G w u} {vs:Array Value},MR P E U pd l s G w->VR G w fv u->VRs G w args vs.toList->
    ∃fn first cap,u=.func (.func fn) first cap/\(callFunc fn (first++vs++cap)).run P w=.ok (.enter fn (first++vs++cap)) w/\NextP P (qem P E U pd G w l s' v) ((callFunc fn (first++vs++cap)).run P w):=by
   intro fv args s v s' h hf U pd l G w u vs mr hu ha
   cases fv with
   |p c=>
    cases c with
    |func fn x y=>
     cases hu with|p _ _ hu=>
     cases hu with|func _ _ _ first cap hl hm hx hy=>
     have hargs:VRs G w (x.map zP.whole++(args++y.map zP.whole)) (first++vs++cap).toList:=by
      rw[Array.toList_append,Array.toList_append,zaH]
      exact(VRs.map_whole hl hx).append (ha.append (VRs.map_whole hm hy))
     exact⟨fn,first,cap,rfl,hcall h mr hargs⟩
    |_=>cases hf
   |func fn x y=>
    cases hu with|func _ _ _ first cap hl hm hx hy=>
    have hargs:VRs G w (x++(args++y)) (first++vs++cap).toList:=by
     rw[Array.toList_append,Array.toList_append,zaH]
     exact(VRs.of_arr hl hx).append (ha.append (VRs.of_arr hm hy))
    exact⟨fn,first,cap,rfl,hcall h mr hargs⟩
   |_=>cases hf
  refine⟨?_,?_,?_,?_⟩
  ·intro f args s v s' h U pd l G w vs mr ha
   exact(hcall h mr ha).2
  ·intro fv args s v s' h U pd l G w u vs mr hu ha
   cases hf:quQ fv with
   |true=>
    obtain⟨fn,first,cap,rfl,_,h2⟩:=hfun h hf mr hu ha
    rw[qkv]
    exact h2
   |false=>
    have:∃q,fv=.yield q:=by
     have h':qeT (qcp CP (qag CP n) n E) (qag CP n) n E fv args s=some (v,s'):=h
     unfold qeT at h'
     split at h'
     ·cases hf
     ·cases hf
     ·exact⟨_,rfl⟩
     ·cases h'
    obtain⟨q,rfl⟩:=this
    exact qrl (call:=qcp CP (qag CP n) n E) pk ih h mr hu ha
  ·intro fv args s v s' h hf U pd l G w u vs mr hu ha
   obtain⟨fn,first,cap,h1,h2,_⟩:=hfun h hf mr hu ha
   exact⟨fn,first,cap,h1,h2⟩
  ·intro f args s v s' hp h
   have hp':qda CP f=true:=hp
   have h':qcp CP (qag CP n) n E f args s=some (v,s'):=h
   unfold qda at hp'
   unfold qcp at h'
   simp only[zae] at h'
   obtain⟨cf,hcf,h'⟩:=h'
   rw[hcf] at hp'
   simp only at hp'
   obtain⟨_,h'⟩:=qat h'
   cases hcl:cf.clone&&qgc (args.map qaD) with
   |true=>
    rw[hcl] at h'
    simp only[cond_true,zae] at h'
    obtain⟨a,_,b,_,h'⟩:=h'
    obtain⟨_,h'⟩:=qat h'
    simp only[zac,zaq] at h'
    exact h'.2.symm
   |false=>
    rw[hcl,hp'] at h'
    simp only[cond_false,cond_true,zae] at h'
    obtain⟨u,_,h'⟩:=h'
    obtain⟨_,h'⟩:=qat h'
    simp only[zac,zaq] at h'
    exact h'.2.symm
end Go.AI
namespace Go.AI
variable {P:Program}
def G00:Gh:=⟨fun _=> .free,fun _=>none,fun _ _=>none,0,0⟩
def s00:ASt:=⟨0,[],0,[]⟩
theorem qx1 (P:Program)(w:World):MR P [] (fun _=>none) (fun _=>none) .nil s00 G00 w:=
 ⟨fun b hb=>absurd rfl hb,fun k b h=>(by cases h),zan _,fun k zs h=>(by cases h),fun i zs h=>(by cases h),rfl,fun i g cs h hg _=>(by cases h;exact absurd rfl hg),fun i g b h=>(by cases h),fun k o h=>(by cases h),fun k o h=>(by cases h),
  fun t n sz h=>(by cases h),fun b t n sz h=>(by cases h),fun b b' t n n' sz sz' h=>(by cases h)⟩
theorem qmM {G:Gh}{w w':World}(x:Ext G00 w G w'):RowKit.Grown w w':=by
 refine⟨⟨x.os,x.output,fun i hi=>?_⟩,x.cold,x.size⟩
 rw[(x.still i hi trivial).1]
 split<;>simp_all
theorem qo2 {CP:Nat->Option CF}(pk:ProgOK P CP){n f:Nat}{args:List zA}{v:zA}{s':ASt}(h:(qag CP n []).call f args s00=some (v,s')){w:World}{vs:Array Value}(ha:VRs G00 w args vs.toList):
  Calls P f vs w fun e w'=>∃u,e=.returned u/\RowKit.Grown w w'/\∃G',Ext G00 w G' w'/\VR G' w' v u:=by
 cases n with
 |zero=>cases h
 |succ n=>
  have ih:=qmL pk n
  have h':qcp CP (qag CP n) n [] f args s00=some (v,s'):=h
  obtain⟨h1,h2⟩:=qku pk ih h' (qx1 P w) ha
  rw[h1] at h2
  refine(callsIn_wide (n:=0)).1 (CallsIn.mono h2 fun e w' ⟨u,he,G',x,_,hv⟩=>⟨u,he,qmM x,G',x,hv⟩)
end Go.AI
namespace Go.AI
noncomputable section
def bF {α:Type}(b:Bool)(t f:α):α:=Bool.rec (motive:=fun _=>α) f t b
def xF {α:Type}(x:EX)(a:α)(f:Nat->α)(b:α):α:=EX.rec (motive:=fun _=>α) a f b x
def qwr (t:Tr zA):Nat->zA:=
 Tr.rec (motive:=fun _=>Nat->zA) (fun _=>qaq) (fun v _ _ a b i=>bF (Nat.beq i (nat_lit 0)) v (bF (Nat.beq (Nat.mod i (nat_lit 2)) (nat_lit 1)) (a (Nat.div i (nat_lit 2))) (b (Nat.sub (Nat.div i (nat_lit 2)) (nat_lit 1))))) t
theorem qtb (t:Tr zA):∀i,qwr t i=t.get qaq i:=by
 induction t with
 |nil=>intro i;rfl
 |node v l r ihl ihr=>
  intro i
  show bF (Nat.beq i 0) v (bF (Nat.beq (i%2) 1) (qwr l (i/2)) (qwr r (i/2-1)))=_
  unfold Tr.get
  rw[ihl,ihr]
  cases Nat.beq i 0<;>cases Nat.beq (i%2) 1<;>rfl
def qrm {α:Type}(t:Tr α):Nat->α->Tr α:=
 Tr.rec (motive:=fun _=>Nat->α->Tr α) (fun _ _=> .nil) (fun v l r a b i x=>bF (Nat.beq i (nat_lit 0)) (.node x l r) (bF (Nat.beq (Nat.mod i (nat_lit 2)) (nat_lit 1)) (.node v (a (Nat.div i (nat_lit 2)) x) r) (.node v l (b (Nat.sub (Nat.div i (nat_lit 2)) (nat_lit 1)) x)))) t
theorem qi6 {α:Type}(t:Tr α):∀i x,qrm t i x=t.set i x:=by
 induction t with
 |nil=>intro i x;rfl
 |node v l r ihl ihr=>
  intro i x
  show bF (Nat.beq i 0) (Tr.node x l r) (bF (Nat.beq (i%2) 1) (Tr.node v (qrm l (i/2) x) r) (Tr.node v l (qrm r (i/2-1) x)))=_
  unfold Tr.set
  rw[ihl,ihr]
  cases Nat.beq i 0<;>cases Nat.beq (i%2) 1<;>rfl
def evA (x:Arg):Tr zA->zA:=Arg.rec (motive:=fun _=>Tr zA->zA) (fun n f=>qwr f n) (fun v _=>v) x
theorem qeU (x:Arg)(f:Tr zA):evA x f=x.ev f:=by cases x with
 |t n=>exact qtb f n
 |c v=>rfl
abbrev R:=Option (zA×Cfg)
def qcb {α β:Type}(x:Option α)(k:α->Option β):Option β:=Option.rec (motive:=fun _=>Option β) none k x
theorem qbp {α β:Type}(x:Option α)(k:α->Option β):qcb x k=x.bind k:=by cases x<;>rfl
def qsj (t:Tr (Nat×List zA)):Nat->Nat×List zA:=
 Tr.rec (motive:=fun _=>Nat->Nat×List zA) (fun _=>(0,[])) (fun v _ _ a b i=>bF (Nat.beq i (nat_lit 0)) v (bF (Nat.beq (Nat.mod i (nat_lit 2)) (nat_lit 1)) (a (Nat.div i (nat_lit 2))) (b (Nat.sub (Nat.div i (nat_lit 2)) (nat_lit 1))))) t
theorem qo3 (t:Tr (Nat×List zA)):∀i,qsj t i=t.get (0,[]) i:=by
 induction t with
 |nil=>intro i;rfl
 |node v l r ihl ihr=>
  intro i
  show bF (Nat.beq i 0) v (bF (Nat.beq (i%2) 1) (qsj l (i/2)) (qsj r (i/2-1)))=_
  unfold Tr.get
  rw[ihl,ihr]
  cases Nat.beq i 0<;>cases Nat.beq (i%2) 1<;>rfl
def qmN {α:Type}(l:List α):Nat->List α:=List.rec (motive:=fun _=>Nat->List α) (fun _=>[]) (fun x xs ih n=>bF (Nat.beq n 0) (x::xs) (ih (n-1))) l
theorem qkw {α:Type}(l:List α):∀n,qmN l n=qhK l n:=by
 induction l with
 |nil=>intro n;rfl
 |cons x xs ih=>
  intro n
  show bF (Nat.beq n 0) (x::xs) (qmN xs (n-1))=_
  unfold qhK
  rw[ih]
  cases Nat.beq n 0<;>rfl
def qmO {α:Type}(l:List α):Nat->List α:=List.rec (motive:=fun _=>Nat->List α) (fun _=>[]) (fun x _ ih n=>bF (Nat.beq n 0) [] (x::ih (n-1))) l
theorem qkx {α:Type}(l:List α):∀n,qmO l n=qhL l n:=by
 induction l with
 |nil=>intro n;rfl
 |cons x xs ih=>
  intro n
  show bF (Nat.beq n 0) [] (x::qmO xs (n-1))=_
  unfold qhL
  rw[ih]
  cases Nat.beq n 0<;>rfl
def quG {α:Type}(l:List α):Nat:=List.rec (motive:=fun _=>Nat) 0 (fun _ _ ih=>Nat.succ ih) l
theorem qlv {α:Type}(l:List α):quG l=l.length:=by
 induction l with
 |nil=>rfl
 |cons x xs ih=>show Nat.succ (quG xs)=_;rw[ih];rfl
def qws {α:Type}(l m:List α):List α:=List.rec (motive:=fun _=>List α) m (fun x _ ih=>x::ih) l
theorem qo4 {α:Type}(l m:List α):qws l m=l++m:=by
 induction l with
 |nil=>rfl
 |cons x xs ih=>show x::qws xs m=_;rw[ih];rfl
def qu8 {α:Type}(xs:List α)(off n:Nat):Option (List α):=bF (Nat.ble (off+n) (quG xs)) (some (qmO (qmN xs off) n)) none
theorem qlw {α:Type}(xs:List α)(off n:Nat):qu8 xs off n=cut xs off n:=by
 unfold qu8 cut
 rw[qlv,qkw,qkx]
 cases Nat.ble (off+n) xs.length<;>rfl
def qtc {α:Type}(xs:List α)(off:Nat)(ys:List α):Option (List α):=bF (Nat.ble (off+quG ys) (quG xs)) (some (qws (qmO xs off) (qws ys (qmN xs (off+quG ys))))) none
theorem qrn {α:Type}(xs:List α)(off:Nat)(ys:List α):qtc xs off ys=over xs off ys:=by
 unfold qtc over
 rw[qlv,qlv,qkw,qkx,qo4,qo4]
 cases Nat.ble (off+ys.length) xs.length<;>rfl
def qmP {α:Type}(l:List (Nat×α))(n:Nat):Option α:=List.rec (motive:=fun _=>Option α) none (fun x _ ih=>bF (Nat.beq x.1 n) (some x.2) ih) l
theorem qky {α:Type}(l:List (Nat×α))(n:Nat):qmP l n=qas l n:=by
 induction l with
 |nil=>rfl
 |cons x xs ih=>
  obtain⟨k,v⟩:=x
  show bF (Nat.beq k n) (some v) (qmP xs n)=_
  unfold qas
  rw[ih]
  cases Nat.beq k n<;>rfl
def qw5 (l:List zP):List zA:=List.rec (motive:=fun _=>List zA) [] (fun x _ ih=> .p x::ih) l
theorem qtd (l:List zP):qw5 l=l.map .p:=by
 induction l with
 |nil=>rfl
 |cons x xs ih=>show zA.p x::qw5 xs=_;rw[ih];rfl
def qi7 (E:qaR)(s:ASt)(l:Nat):Option (List zA):=
 match qmP s.heap l with
 |some (.cells cs)=>some cs
 |some _=>none
 |none=>match qmP E l with
  |some (.cells cs)=>some cs
  |_=>none
theorem qlx (E:qaR)(s:ASt)(l:Nat):qi7 E s l=qar E s l:=by
 unfold qi7 qar
 rw[qky,qky]
 cases qas s.heap l with
 |none=>
  cases qas E l with
  |none=>rfl
  |some o=>cases o<;>rfl
 |some o=>cases o<;>rfl
def qeq (E:qaR)(lo:Tr (Nat×List zA))(s:ASt)(a:zA)(n:Nat):Option (List zA):=
 match a with
 |.lptr i g off=>bF (Nat.beq g (qsj lo i).1) (qu8 (qsj lo i).2 off n) none
 |.ptr l off=>qcb (qi7 E s l) fun cs=>qu8 cs off n
 |.elem cs off=>qcb (qu8 cs off n) fun cs=>some (qw5 cs)
 |_=>none
theorem qkz (E:qaR)(lo:Tr (Nat×List zA))(s:ASt)(a:zA)(n:Nat):qeq E lo s a n=loadFrom E lo s a n:=by
 cases a<;>try rfl
 ·simp only[qeq,loadFrom,qo3,qlw]
  generalize lo.get (0,[]) _=p
  obtain⟨g',cs⟩:=p
  simp only
  generalize Nat.beq _ g'=b
  cases b<;>rfl
 ·simp only[qeq,loadFrom,qbp,qlw,qlx]
 ·simp only[qeq,loadFrom,qbp,qlw,qtd]
  cases cut _ _ n<;>rfl
def qi8 (c:Cfg)(a:zA)(cs:List zA):Option Cfg:=
 match a with
 |.lptr i g off=>bF (Nat.beq g (qsj c.l i).1) (qcb (qtc (qsj c.l i).2 off cs) fun new=>some {c with l:=qrm c.l i ((qsj c.l i).1,new)}) none
 |a=>qbP c a cs
theorem qly (c:Cfg)(a:zA)(cs:List zA):qi8 c a cs=qbP c a cs:=by
 cases a<;>try rfl
 simp only[qi8,qbP,qo3,qrn,qbp,qi6]
 generalize c.l.get (0,[]) _=p
 obtain⟨g',old⟩:=p
 simp only
 generalize Nat.beq _ g'=b
 cases b
 ·rfl
 ·show(over old _ cs).bind _=_
  cases over old _ cs<;>rfl
def mkF {α:Type}(x:α)(d:Nat):Tr α:=Nat.rec (motive:=fun _=>Tr α) .nil (fun _ t=> .node x t t) d
theorem qo5 {α:Type}(x:α)(d:Nat):mkF x d=Tr.mk x d:=by
 induction d with
 |zero=>rfl
 |succ d ih=>show Tr.node x (mkF x d) (mkF x d)=_;rw[ih];rfl
def qgz (args:List zA):Tr zA->Nat->Tr zA:=List.rec (motive:=fun _=>Tr zA->Nat->Tr zA) (fun f _=>f) (fun v _ ih f i=>ih (qrm f i v) (i+1)) args
theorem qg8 (args:List zA):∀f i,qgz args f i=qbB f i args:=by
 induction args with
 |nil=>intro f i;rfl
 |cons v r ih=>
  intro f i
  show qgz r (qrm f i v) (i+1)=_
  rw[ih,qi6]
  rfl
def iMov (x:Arg)(_:Env)(c:Cfg):R:=some (evA x c.f,c)
def qte (b x y:Arg)(_:Env)(c:Cfg):R:=match evA b c.f with
  |.p (.bool t)=>some (cond t (evA x c.f) (evA y c.f),c)
  |_=>none
def qu9 (i:Nat)(zs:List zA)(e:Env)(c:Cfg):R:=qaJ e c (.alloc i zs)
def qw6 (i:Nat)(n:Option Nat)(x:Arg)(_:Env)(c:Cfg):R:=qcb (zA.cells n (evA x c.f)) fun cs=>match c.l.get (0,[]) i with
  |(g,_)=>some (.lptr i (g+1) 0,{c with l:=qrm c.l i (g+1,cs)})
def qtf (n:Option Nat)(a:Arg)(e:Env)(c:Cfg):R:=qcb (qeq e.E c.l c.s (evA a c.f) (cnt n)) fun cs=>qcb (zA.ofCells n cs) fun v=>some (v,c)
def qo6 (n:Option Nat)(a x:Arg)(_:Env)(c:Cfg):R:=qcb (zA.cells n (evA x c.f)) fun cs=>qcb (qi8 c (evA a c.f) cs) fun c=>some (qaq,c)
def qw7 (o:BinOp)(x y:Arg)(_:Env)(c:Cfg):R:=qcb (qnF o (evA x c.f) (evA y c.f)) fun v=>some (.p v,c)
def faA (off:Nat)(c:Cfg)(v:zA):R:=match v with
  |.lptr i g o=>some (.lptr i g (o+off),c)
  |.ptr l o=>some (.ptr l (o+off),c)
  |.elem cs o=>some (.elem cs (o+off),c)
  |_=>none
def iFa (off:Nat)(x:Arg)(_:Env)(c:Cfg):R:=faA off c (evA x c.f)
def qwt (xs:List Arg)(f:Tr zA):List zA:=List.rec (motive:=fun _=>List zA) [] (fun x _ ih=>evA x f::ih) xs
theorem qo7 (xs:List Arg)(f:Tr zA):qwt xs f=xs.map (Arg.ev f):=by
 induction xs with
 |nil=>rfl
 |cons x xs ih=>
  show evA x f::qwt xs f=_
  rw[ih,qeU];rfl
def qtg (f:Nat)(args:List Arg)(e:Env)(c:Cfg):R:=qcb (e.call f (qwt args c.f) c.s) fun r=>some (r.1,{c with s:=r.2})
def qo8 (f:Arg)(args:List Arg)(e:Env)(c:Cfg):R:=qcb (e.callv (evA f c.f) (qwt args c.f) c.s) fun r=>some (r.1,{c with s:=r.2})
def qsk (o:Ins):Env->Cfg->R:=
 Ins.rec (motive:=fun _=>Env->Cfg->R) iMov qte qu9 (fun i e c=>qaJ e c (.alloced i)) qw6 (fun z e c=>qaJ e c (.halloc z)) (fun z e c=>qaJ e c (.halloced z)) (fun n x e c=>qaJ e c (.hbox n x))
  (fun z ps e c=>qaJ e c (.build z ps)) (fun n z ps e c=>qaJ e c (.mks n z ps)) qtf qo6 (fun x e c=>qaJ e c (.nck x)) qw7 (fun k n x y e c=>qaJ e c (.eqv k n x y)) (fun k n x y e c=>qaJ e c (.eqs k n x y))
  (fun x e c=>qaJ e c (.not x)) (fun k x e c=>qaJ e c (.cvt k x)) (fun f a b e c=>qaJ e c (.mkf f a b)) (fun s b x e c=>qaJ e c (.mksl s b x)) (fun s x l h e c=>qaJ e c (.slice s x l h)) (fun x l h e c=>qaJ e c (.sstr x l h)) iFa
  (fun s x i e c=>qaJ e c (.ia s x i)) (fun x i e c=>qaJ e c (.idx x i)) (fun x i e c=>qaJ e c (.ext x i)) qtg qo8 (fun s b x y e c=>qaJ e c (.app s b x y)) (fun s x e c=>qaJ e c (.len s x)) (fun m x y e c=>qaJ e c (.minmax m x y))
  (fun e c=>qaJ e c .mkmap) (fun k m x y e c=>qaJ e c (.insert k m x y)) (fun k z ok m x e c=>qaJ e c (.look k z ok m x)) o
theorem qo9 (o:Ins)(e:Env)(c:Cfg):qsk o e c=qaJ e c o:=by
 cases o<;>try rfl
 case mov x=>show some (evA x c.f,c)=_;rw[qeU];rfl
 case pick b x y=>
  show qte b x y e c=_
  unfold qte
  simp only[qeU,qaJ,qaF]
  split<;>simp_all
 case box i n x=>
  show qw6 i n x e c=_
  unfold qw6
  simp only[qeU,qbp,qi6,qaJ]
 case load n a=>
  show qtf n a e c=_
  unfold qtf
  simp only[qeU,qbp,qaJ,qkz]
  congr 1
  funext cs
  cases zA.ofCells n cs<;>rfl
 case store n a x=>
  show qo6 n a x e c=_
  unfold qo6
  simp only[qeU,qbp,qaJ,qly]
  congr 1
  funext cs
  cases qbP c (a.ev c.f) cs<;>rfl
 case bin o x y=>
  show qw7 o x y e c=_
  unfold qw7
  simp only[qeU,qbp,qaJ,qaF]
  cases qnF o (x.ev c.f) (y.ev c.f)<;>rfl
 case fa off x=>
  show faA off c (evA x c.f)=_
  rw[qeU]
  simp only[qaJ,qaF]
  cases x.ev c.f<;>rfl
 case call f args=>
  show qtg f args e c=_
  unfold qtg
  simp only[qo7,qbp,qaJ]
  cases e.call f (args.map (Arg.ev c.f)) c.s<;>rfl
 case callv f args=>
  show qo8 f args e c=_
  unfold qo8
  simp only[qo7,qeU,qbp,qaJ]
  cases e.callv (f.ev c.f) (args.map (Arg.ev c.f)) c.s<;>rfl
def qwu (d:Option Nat)(v:zA)(c:Cfg):Cfg:=Option.rec (motive:=fun _=>Cfg) c (fun t=>{c with f:=qrm c.f t v}) d
theorem qpa (d:Option Nat)(v:zA)(c:Cfg):qwu d v c=c.put d v:=by
 cases d with
 |none=>rfl
 |some t=>show({c with f:=qrm c.f t v}:Cfg)=_;rw[qi6];rfl
def goF (o:COp)(e:Env)(c:Cfg):Option Cfg:=qcb (qsk o.op e c) fun r=>some (qwu o.dst r.1 r.2)
def qnS (e:Env)(c:Cfg)(o:COp):Option Cfg:=Option.rec (motive:=fun _=>Option Cfg) (goF o e c) (fun _=>qcb (wanted c.f o.guard) fun b=>bF b (goF o e c) (some (qwu o.dst qaq c))) o.guard
theorem qmQ (e:Env)(c:Cfg)(o:COp):qnS e c o=qlk e c o:=by
 have hg:goF o e c=(qaJ e c o.op).map fun(v,c)=>c.put o.dst v:=by
  unfold goF
  rw[qbp,qo9]
  cases qaJ e c o.op with
  |none=>rfl
  |some r=>simp[qpa]
 unfold qnS qlk
 cases h:o.guard with
 |none=>
  show goF o e c=_
  rw[hg]
  rfl
 |some g=>
  show qcb (wanted c.f (some g)) (fun b=>bF b (goF o e c) (some (qwu o.dst qaq c)))=_
  rw[qbp,hg,qpa]
  congr 1
  funext b
  cases b<;>rfl
def qmR (e:Env)(l:List COp):Cfg->Option Cfg:=List.rec (motive:=fun _=>Cfg->Option Cfg) (fun c=>some c) (fun o _ ih c=>qcb (qnS e c o) ih) l
theorem qpb (e:Env)(l:List COp):∀c,qmR e l c=qfm e l c:=by
 induction l with
 |nil=>intro c;rfl
 |cons o l ih=>
  intro c
  show qcb (qnS e c o) (qmR e l)=_
  rw[qbp,qmQ,qfm]
  congr 1
  funext c
  exact ih c
def qi9 (e:Env)(l:List COp):Cfg->Option (List Cfg):=List.rec (motive:=fun _=>Cfg->Option (List Cfg)) (fun c=>some [c]) (fun o _ ih c=>qcb (qnS e c o) fun c'=>qcb (ih c') fun t=>some (c::t)) l
theorem qlz (e:Env)(l:List COp):∀c,qi9 e l c=qcl e l c:=by
 induction l with
 |nil=>intro c;rfl
 |cons o l ih=>
  intro c
  show qcb (qnS e c o) (fun c'=>qcb (qi9 e l c') fun t=>some (c::t))=_
  rw[qbp,qmQ,qcl]
  congr 1
  funext c'
  rw[qbp,ih]
  cases qcl e l c'<;>rfl
abbrev RC:=Option (EX×Cfg)
def cReg (ops:List COp)(e:Env)(_:Nat)(c:Cfg):RC:=qcb (qmR e ops c) fun c=>some (.normal,c)
def qth (pre hpre:List (Nat×List zA))(ops:List COp)(chk:List Chk)(e:Env)(_:Nat)(c:Cfg):RC:=
 match preH c.s hpre with
  |(s,h)=>qcb (qi9 e ops {c with l:=preL c.l pre,h:=h,s:=s}) fun tr=>
   match qcP c tr with
   |last=>cond (chk.all (qhO e tr last)) (some (.normal,last)) none
def cSeq (_ _:CC)(a b:Env->Nat->Cfg->RC)(e:Env)(n:Nat)(c:Cfg):RC:=qcb (a e n c) fun r=>xF r.1 (b e n r.2) (fun i=>some (.exit i,r.2)) (some (.ret,r.2))
def qti (v:zA)(a b:RC):RC:=match v with
  |.p (.bool t)=>bF t a b
  |_=>none
def qw8 (x:Arg)(_ _:CC)(a b:Env->Nat->Cfg->RC)(e:Env)(n:Nat)(c:Cfg):RC:=qti (evA x c.f) (a e n c) (b e n c)
def qva (id:Nat)(_:CC)(a:Env->Nat->Cfg->RC)(e:Env)(n:Nat)(c:Cfg):RC:=qcb (a e n c) fun r=>some (xF r.1 .normal (fun i=>bF (Nat.beq i id) .normal (.exit i)) .ret,r.2)
def qw9 (_:CC)(a:Env->Nat->Cfg->RC)(e:Env)(n:Nat)(c:Cfg):RC:=
 Nat.rec (motive:=fun _=>Cfg->RC) (fun _=>none) (fun _ ih c=>qcb (a e n c) fun r=>xF r.1 (ih r.2) (fun i=>some (.exit i,r.2)) (some (.ret,r.2))) n c
def qhV (cc:CC):Env->Nat->Cfg->RC:=
 CC.rec (motive:=fun _=>Env->Nat->Cfg->RC) (fun _ _ c=>some (.normal,c)) cReg qth cSeq qw8 qva qw9 (fun f ps a b _ _ e n c=>qbs e n (.rangeFunc f ps a b) c) (fun i _ _ c=>some (.exit i,c)) (fun _ _ c=>some (.ret,c)) (fun _ _ _=>none) cc
theorem qmS (cc:CC)(e:Env)(n:Nat):∀c,qhV cc e n c=qbs e n cc c:=by
 induction cc with
 |skip=>intro c;rfl
 |reg ops=>
  intro c
  show qcb (qmR e ops c) (fun c=>some (EX.normal,c))=_
  rw[qbp,qpb,qbs]
  cases qfm e ops c<;>rfl
 |regd pre hpre ops chk=>
  intro c
  show qth pre hpre ops chk e n c=_
  unfold qth
  simp only[qbp,qlz,qbs]
 |seq a b iha ihb=>
  intro c
  show qcb (qhV a e n c) (fun r=>xF r.1 (qhV b e n r.2) (fun i=>some (EX.exit i,r.2)) (some (EX.ret,r.2)))=_
  rw[qbp,iha,qbs]
  congr 1
  funext r
  obtain⟨x,c'⟩:=r
  cases x with
  |normal=>exact ihb c'
  |exit i=>rfl
  |ret=>rfl
 |cond x a b iha ihb=>
  intro c
  show qti (evA x c.f) (qhV a e n c) (qhV b e n c)=_
  rw[qeU,iha,ihb,qbs]
  unfold qti
  cases x.ev c.f with
  |p v=>cases v with
   |bool t=>cases t<;>rfl
   |_=>rfl
  |_=>rfl
 |block id a iha=>
  intro c
  show qcb (qhV a e n c) (fun r=>some (xF r.1 EX.normal (fun i=>bF (Nat.beq i id) EX.normal (EX.exit i)) EX.ret,r.2))=_
  rw[qbp,iha,qbs]
  cases qbs e n a c with
  |none=>rfl
  |some r=>
   obtain⟨x,c'⟩:=r
   cases x with
   |normal=>rfl
   |exit i=>
    show some (bF (Nat.beq i id) EX.normal (EX.exit i),c')=some (cond (Nat.beq i id) EX.normal (EX.exit i),c')
    cases Nat.beq i id<;>rfl
   |ret=>rfl
 |loop a iha=>
  intro c
  rw[qbs]
  have:∀k c,Nat.rec (motive:=fun _=>Cfg->RC) (fun _=>none) (fun _ ih c=>qcb (qhV a e n c) fun r=>xF r.1 (ih r.2) (fun i=>some (.exit i,r.2)) (some (.ret,r.2))) k c=qfK k (qbs e n a) c:=by
   intro k
   induction k with
   |zero=>intro c;rfl
   |succ k ih=>
    intro c
    show qcb (qhV a e n c) _=(qbs e n a c).bind _
    rw[qbp,iha]
    congr 1
    funext r
    obtain⟨x,c'⟩:=r
    cases x with
    |normal=>exact ih c'
    |exit i=>rfl
    |ret=>rfl
  exact this n c
 |rangeFunc f ps a b _ _=>intro c;rfl
 |exit i=>intro c;rfl
 |ret=>intro c;rfl
 |bad=>intro c;rfl
def qtj (e:Env)(n:Nat)(cf:CF)(args:List zA)(s:ASt):Option zA:=
 qcb (qhV cf.body e n ⟨qgz args (mkF qaq cf.depth) 0,mkF (0,[]) cf.ldepth,[],none,{s with heap:=[],toks:=[]}⟩) fun r=>qgo e cf r
theorem qro:qtj=qml:=by
 funext e n cf args s
 unfold qtj qml
 rw[qbp,qmS,qg8,qo5,qo5]
def aGo (env:qaR->Env)(n:Nat)(E:qaR)(args:List zA)(s:ASt)(cf:CF):Option (zA×ASt):=
 bF cf.pure
  (qcb (qtj (env (s.heap++E)) n cf args s) fun v=>bF (qeh s.next (qaD v)) (some (qaD v,s)) none)
  (qcb (qhV cf.body (env E) n ⟨qgz args (mkF qaq cf.depth) 0,mkF (0,[]) cf.ldepth,[],none,s⟩) fun r=>
   qcb (qgo (env E) cf r) fun v=>match cond cf.keepR v (qaD v) with
    |v=>bF (qmj v) (some (v,r.2.s)) none)
def qfQ (CP:Nat->Option CF)(env:qaR->Env)(n:Nat)(E:qaR)(f:Nat)(args:List zA)(s:ASt):Option (zA×ASt):=
 qcb (CP f) fun cf=>bF (Nat.beq args.length cf.np&&args.all qbF)
  (bF (cf.clone&&qgc (args.map qaD)) (qcp CP env n E f args s) (aGo env n E (cond cf.keepA args (args.map qaD)) s cf)) none
theorem qvb {α:Type}(b:Bool)(x y:α):bF b x y=cond b x y:=by cases b<;>rfl
theorem qnT:qfQ=qcp:=by
 funext CP env n E f args s
 unfold qfQ qcp
 rw[qbp]
 cases h:CP f with
 |none=>rfl
 |some cf=>
  simp only[zaa,qvb]
  cases Nat.beq args.length cf.np&&args.all qbF with
  |false=>rfl
  |true=>
   simp only[cond_true]
   cases h2:cf.clone&&qgc (args.map qaD) with
   |true=>
    simp only[cond_true]
   |false=>
    simp only[cond_false]
    unfold aGo
    simp only[qvb,qbp,qro,qmS,qg8,qo5]
def qkA (CP:Nat->Option CF)(n:Nat):qaR->Env:=
 Nat.rec (fun E=>{E:=E,pure:=qda CP,call:=fun _ _ _=>none,callv:=fun _ _ _=>none})
  (fun n env E=>{E:=E,pure:=qda CP,call:=qfQ CP env n E,callv:=qeT (qfQ CP env n E) env n E}) n
theorem qpc (CP:Nat->Option CF)(n:Nat):qkA CP n=qag CP n:=by
 induction n with
 |zero=>rfl
 |succ n ih=>
  funext E
  show({E:=E,pure:=qda CP,call:=qfQ CP (qkA CP n) n E,callv:=qeT (qfQ CP (qkA CP n) n E) (qkA CP n) n E}:Env)=_
  rw[ih,qnT]
  rfl
end
end Go.AI
namespace Go.AI
variable {P:Program}
structure Fact where
 f:Nat
 args:List zP
 res:zP
def qcI:List zA->Option (List zP)
 |[]=>some []
 |.p c::r=>(qcI r).map (c::·)
 |_::_=>none
def qft (M:List Fact)(f:Nat)(args:List zP):Option zP:=
 match M with
 |[]=>none
 |x::r=>cond (Nat.beq x.f f&&qdm x.args args) (some x.res) (qft r f args)
def qe9 (M:List Fact)(e:Env):Env:=
 {e with call:=fun f args s=>match (qcI (args.map qaD)).bind (qft M f) with
   |some r=>some (.p r,s)
   |none=>e.call f args s}
def qkB (P:Program)(CP:Nat->Option CF)(x:Fact):Prop:=∃n s',(qag CP n []).call x.f (x.args.map .p) s00=some (.p x.res,s')
def Gh.still (G:Gh):Gh:={own:=(G.fix 0).own,bOf:=fun _=>none,lam:=fun _ _=>none,nt:=0,lo:=0}
theorem qrp {E:qaR}{U pd:Nat->Option (List zA)}{l:Tr (Nat×List zA)}{s:ASt}{G:Gh}{w:World}(h:MR P E U pd l s G w):MR P [] (fun _=>none) (fun _=>none) .nil s00 G.still w:=
 ⟨fun b hb=>h.own b (qoU (lo:=0) rfl hb),fun k b h=>(by cases h),zan _,fun k zs h=>(by cases h),fun i zs h=>(by cases h),rfl,fun i g cs h hg _=>(by cases h;exact absurd rfl hg),fun i g b h=>(by cases h),fun k o h=>(by cases h),fun k o h=>(by cases h),
  fun t n sz h=>(by cases h),fun b t n sz h=>(qgY (lo:=0) h).elim,fun b b' t n n' sz sz' h=>(qgY (lo:=0) h).elim⟩
theorem qgh:∀{xs:List zA} {cs:List zP},qcI xs=some cs->xs=cs.map .p
 |[],cs,h=>by
  simp only[qcI,zac] at h
  subst h;rfl
 |x::xs,cs,h=>by
  cases x with
  |p c=>
   simp only[qcI,zad] at h
   obtain⟨ds,hd,rfl⟩:=h
   rw[qgh hd];rfl
  |_=>cases h
theorem qkC {f:Nat}{args:List zP}{r:zP}:∀{M:List Fact},qft M f args=some r->∃x∈M,x.f=f/\x.args=args/\x.res=r
 |[],h=>by cases h
 |x::M,h=>by
  unfold qft at h
  cases hb:Nat.beq x.f f&&qdm x.args args with
  |true=>
   rw[hb] at h
   simp only[cond_true,zac] at h
   simp only[zag] at hb
   exact⟨x,zau,beq_iff.1 hb.1,qc5 _ _ hb.2,h⟩
  |false=>
   rw[hb] at h
   obtain⟨y,hy,h1⟩:=qkC h
   exact⟨y,zax _ hy,h1⟩
theorem qtk {CP:Nat->Option CF}(pk:ProgOK P CP){M:List Fact}(hM:∀x∈M,qkB P CP x){e:Env}(se:SoundEnv P e):SoundEnv P (qe9 M e):=by
 refine⟨?_,fun h=>se.callv h,fun h=>se.callf h,?_⟩
 ·intro f args s v s' h U pd l G w vs mr ha
  have h':(match (qcI (args.map qaD)).bind (qft M f) with
   |some r=>some (.p r,s)
   |none=>e.call f args s)=some (v,s'):=h
  split at h'
  ·rename_i r hr
   simp only[zac,zaq] at h'
   obtain⟨rfl,rfl⟩:=h'
   simp only[zae] at hr
   obtain⟨cs,hcs,hr⟩:=hr
   obtain⟨x,hx,rfl,rfl,rfl⟩:=qkC hr
   obtain⟨n,s1,hrun⟩:=hM x hx
   have ha2:=qfP false ha
   simp only[cond_false] at ha2
   rw[qgh hcs] at ha2
   have hargs:VRs G.still w (x.args.map .p) vs.toList:=⟨ha2.1,fun i c u hc hu=>by
    have:=ha2.2 i c u hc hu
    simp only[za9,zad] at hc
    obtain⟨d,_,rfl⟩:=hc
    cases this with|p _ _ hp=>
    exact .p _ _ (hp.mono fun ad v h1 h2=>⟨h1,(qrb G 0 _ _).2 h2⟩)⟩
   have se0:=qmL pk n []
   have mr0:=qrp mr
   rw[<-qe8 CP n []] at mr0
   refine(se0.call hrun mr0 hargs).mono fun u w' ⟨G',x1,_,hv⟩=>?_
   have k:Keep w w':=⟨x1.size,x1.os,x1.tape,x1.output,fun b hb=>(x1.still b hb (qen G 0 b)).1,x1.cold⟩
   refine⟨G,k.ext G,mr.keep k,?_⟩
   cases hv with|p _ _ hp=>
   refine .p _ _ (hp.mono fun ad v h1 h2=>⟨h1,?_⟩)
   by_cases hb:ad.block<w.heap.size
   ·refine(qrb G 0 _ _).1 ?_
    have:=(x1.still _ hb (qen G 0 _)).2
    unfold Gh.S at h2⊢
    rw[this] at h2
    exact h2
   ·unfold Gh.S
    rw[mr.free (by omega)]
    trivial
  ·exact se.call h' mr ha
 ·intro f args s v s' hp h
  have h':(match (qcI (args.map qaD)).bind (qft M f) with
   |some r=>some (.p r,s)
   |none=>e.call f args s)=some (v,s'):=h
  split at h'
  ·simp only[zac,zaq] at h'
   exact h'.2.symm
  ·exact se.pure hp h'
def isB (b:Bool):Option zA->Bool
 |some (.p (.bool x))=>cond x b (!b)
 |_=>false
def qvc (CP:Nat->Option CF)(n f:Nat)(args:List zP):Option zA:=((qag CP n []).call f (args.map .p) s00).map (·.1)
theorem qtl {CP:Nat->Option CF}(n:Nat){f:Nat}{args:List zP}{b:Bool}(h:isB b (qvc CP n f args)=true):qkB P CP ⟨f,args,.bool b⟩:=by
 have hb:qvc CP n f args=some (.p (.bool b)):=by
  generalize qvc CP n f args=x at h
  unfold isB at h
  split at h
  ·rename_i y
   cases y<;>cases b<;>first|rfl|cases h
  ·cases h
 unfold qvc at hb
 simp only[zad] at hb
 obtain⟨⟨v,s'⟩,h1,h2⟩:=hb
 simp only at h2
 subst h2
 exact⟨n,s',h1⟩
end Go.AI
namespace Go.AI
variable {P:Program}
noncomputable def qxa (P:Program) (t:Tr (Option Flag)) (n:Nat):Option CF:=
 (t.get none n).bind fun fl=>(P.funcs[n]?).bind fun fn=>cond (fn.name== "runtime.NumGoroutine") none (qoA P fl fn)
theorem qtm {t:Tr (Option Flag)}(h:P.follows .mixedOrders=true):ProgOK P (qxa P t):=
 ⟨h,fun f cf hf=>by
  unfold qxa at hf
  obtain⟨fl,_,hf⟩:=zae.1 hf
  obtain⟨fn,h2,hf⟩:=zae.1 hf
  cases h3:fn.name== "runtime.NumGoroutine" with
  |true=>rw[h3,cond_true] at hf;cases hf
  |false=>rw[h3,cond_false] at hf;exact⟨fn,fl,h2,hf,h3⟩⟩
noncomputable def qaX (c:Option CF):CF:=c.getD ⟨0,0,0,false,false,false,false,.bad,[]⟩
end Go.AI
namespace Go.AI
abbrev FL:=List (Nat×zA)
abbrev LL:=List (Nat×(Nat×List zA))
abbrev HH:=List (Nat×Nat)
abbrev Res:=Option (zA×ASt)
def tb (m i:Nat):Bool:=Nat.beq (Nat.mod (Nat.shiftRight m i) 2) 1
def bit (i:Nat):Nat:=Nat.shiftLeft 1 i
def qbk (m:Nat):Nat->Nat->List Nat
 |_,0=>[]
 |i,k+1=>cond (tb m i) (i::qbk m (i+1) k) (qbk m (i+1) k)
def qgp (a b:Nat):Nat:=Nat.xor a (Nat.land a b)
def qwv:Arg->Nat
 |.t n=>bit n
 |.c _=>0
def qxb (xs:List Arg):Nat:=xs.foldr (fun x m=>zbm (qwv x) m) 0
def qgq:Option Nat->Nat
 |some t=>bit t
 |none=>0
def qtn:List COp->Nat->Nat
 |[],out=>out
 |o::r,out=>zbm (zbm (qgp (qtn r out) (qgq o.dst)) (qxb o.op.args)) (match o.guard with|some (t,_)=>bit t|none=>0)
def rvM:List RV->Nat
 |[]=>0
 |.t n::r=>zbm (bit n) (rvM r)
 |.l a _::r=>zbm (bit a) (rvM r)
def qxc (ks:List Chk)(out:Nat):Nat:=ks.foldr (fun k m=>zbm (qwv k.a) m) out
def exL:CC->List Nat
 |.seq a b=>exL a++exL b
 |.cond _ a b=>exL a++exL b
 |.block id a=>(exL a).filter fun i=>!Nat.beq i id
 |.loop a=>exL a
 |.exit i=>[i]
 |_=>[]
def exB (b:CC):Nat:=match exL b with
 |[]=>99999
 |i::_=>i
def qnU:CC->Nat->List (Nat×Nat)->Nat->Nat
 |.skip,nrm,_,_=>nrm
 |.reg ops,nrm,_,_=>qtn ops nrm
 |.regd _ _ ops chk,nrm,_,_=>qtn ops (qxc chk nrm)
 |.seq a b,nrm,ex,rt=>qnU a (qnU b nrm ex rt) ex rt
 |.cond x a b,nrm,ex,rt=>zbm (qwv x) (zbm (qnU a nrm ex rt) (qnU b nrm ex rt))
 |.block id a,nrm,ex,rt=>qnU a nrm ((id,nrm)::ex) rt
 |.loop a,_,ex,rt=>qnU a (qnU a 0 ex rt) ex rt
 |.rangeFunc f ps a b,nrm,ex,rt=>zbm (qwv f) (zbm (qgp (qnU a (qnU b 0 [] 0) [] 0) (ps.foldr (fun p m=>zbm (bit p) m) 0)) (zbm nrm (zbm rt (ex.foldr (fun p m=>zbm p.2 m) 0))))
 |.exit id,_,ex,_=>match qas ex id with|some m=>m|none=>0
 |.ret,_,_,rt=>rt
 |.bad,_,_,_=>0
def qpd:List COp->Nat->Nat
 |[],m=>m
 |o::r,m=>qpd r (match o.dst with
  |none=>m
  |some d=>match o.op with
   |.alloc .. =>zbm m (bit d)
   |.alloced _=>zbm m (bit d)
   |.box .. =>zbm m (bit d)
   |.fa _ (.t x)=>cond (tb m x) (zbm m (bit d)) m
   |.nck (.t x)=>cond (tb m x) (zbm m (bit d)) m
   |.mov (.t x)=>cond (tb m x) (zbm m (bit d)) m
   |_=>m)
def qfa:CC->Nat->Nat
 |.reg ops,m=>qpd ops m
 |.regd _ _ ops _,m=>qpd ops m
 |.seq a b,m=>qfa b (qfa a m)
 |.cond _ a b,m=>qfa b (qfa a m)
 |.block _ a,m=>qfa a m
 |.loop a,m=>qfa a m
 |_,m=>m
structure Ef where
 d:Nat
 al:Nat
 st:Bool
 cs:Bool
def Ef.or (a b:Ef):Ef:=⟨zbm a.d b.d,zbm a.al b.al,a.st||b.st,a.cs||b.cs⟩
def qlA (loc:Nat):Arg->Bool
 |.t n=>tb loc n
 |.c _=>false
def qqR (loc:Nat)(o:COp):Ef:=
 match o.op with
 |.alloc i _=>⟨qgq o.dst,bit i,false,false⟩
 |.box i _ _=>⟨qgq o.dst,bit i,false,false⟩
 |.store _ a _=>cond (qlA loc a) ⟨qgq o.dst,0,true,false⟩ ⟨qgq o.dst,0,false,true⟩
 |.halloc _=>⟨qgq o.dst,0,false,true⟩
 |.hbox _ _=>⟨qgq o.dst,0,false,true⟩
 |.mksl .. =>⟨qgq o.dst,0,false,true⟩
 |.call .. =>⟨qgq o.dst,0,false,true⟩
 |.callv .. =>⟨qgq o.dst,0,false,true⟩
 |.app .. =>⟨qgq o.dst,0,false,true⟩
 |.mkmap=>⟨qgq o.dst,0,false,true⟩
 |.insert .. =>⟨qgq o.dst,0,false,true⟩
 |_=>⟨qgq o.dst,0,false,false⟩
def qkD (loc:Nat):List COp->Ef
 |[]=>⟨0,0,false,false⟩
 |o::r=>(qqR loc o).or (qkD loc r)
def qsl (l:List (Nat×List zA)):Nat:=l.foldr (fun x m=>zbm (bit x.1) m) 0
def qit (loc:Nat):CC->Ef
 |.reg ops=>qkD loc ops
 |.regd pre hpre ops _=>(qkD loc ops).or ⟨0,qsl pre,false,!hpre.isEmpty⟩
 |.seq a b=>(qit loc a).or (qit loc b)
 |.cond _ a b=>(qit loc a).or (qit loc b)
 |.block _ a=>qit loc a
 |.loop a=>qit loc a
 |.rangeFunc _ _ a b=>⟨0,zbm (qit loc a).al (qit loc b).al,false,true⟩
 |_=>⟨0,0,false,false⟩
def qfu:CC->Bool
 |.seq a b=>qfu a&&qfu b
 |.cond _ a b=>qfu a||qfu b
 |.block id a=>qfu a||hasEx id a
 |.loop _=>false
 |.exit _=>false
 |.ret=>false
 |.bad=>false
 |_=>true
where
 hasEx (id:Nat):CC->Bool
 |.seq a b=>hasEx id a||hasEx id b
 |.cond _ a b=>hasEx id a||hasEx id b
 |.block _ a=>hasEx id a
 |.loop a=>hasEx id a
 |.exit j=>Nat.beq id j
 |_=>false
def exN (id:Nat):CC->Nat
 |.seq a b=>exN id a+exN id b
 |.cond _ a b=>exN id a+exN id b
 |.block _ a=>exN id a
 |.loop a=>exN id a
 |.exit j=>cond (Nat.beq id j) 1 0
 |.rangeFunc _ _ _ b=>cond (Nat.beq id (exB b)) 1 0
 |_=>0
def qg9:List COp->Bool
 |[]=>false
 |o::r=>(match o.guard with|some _=>true|none=>false)||qg9 r
def Fn (α:Type):Nat->Type->Type
 |0,T=>T
 |k+1,T=>α->Fn α k T
def qor {α T:Type}:(k:Nat)->(List α->T)->Fn α k T
 |0,g=>g []
 |k+1,g=>fun v=>qor k fun l=>g (v::l)
def qgr {α T:Type}(z:α):(k:Nat)->Fn α k T->List α->T
 |0,f,_=>f
 |k+1,f,v::l=>qgr z k (f v) l
 |k+1,f,[]=>qgr z k (f z) []
def FnS:Bool->Type->Type
 |true,T=>ASt->T
 |false,T=>T
def qww {T:Type}(s0:ASt):(b:Bool)->(ASt->T)->FnS b T
 |true,g=>g
 |false,g=>g s0
def qsm {T:Type}:(b:Bool)->FnS b T->ASt->T
 |true,f,s=>f s
 |false,f,_=>f
def jn {α β:Type}(x:α)(f:α->β):β:=f x
def lp {T:Type}(z:T)(f:T->T)(n:Nat):T:=Nat.rec (motive:=fun _=>T) z (fun _ ih=>f ih) n
def qlB (F:FL):List Nat->Option (List zA)
 |[]=>some []
 |t::r=>match qas F t with
  |some v=>match qlB F r with
   |some l=>some (v::l)
   |none=>none
  |none=>none
def qkE (L:LL):List Nat->Option (List Nat)
 |[]=>some []
 |i::r=>match qas L i with
  |some p=>match qkE L r with
   |some l=>some (p.1::l)
   |none=>none
  |none=>none
def qkF (L:LL):List Nat->Option (List (List zA))
 |[]=>some []
 |i::r=>match qas L i with
  |some p=>match qkF L r with
   |some l=>some (p.2::l)
   |none=>none
  |none=>none
def qhW (m:Nat)(F:FL):List Nat->FL
 |[]=>[]
 |t::r=>match qas F t with
  |some v=>cond (tb m t) ((t,v)::qhW m F r) (qhW m F r)
  |none=>qhW m F r
def qsn:List Nat->List zA->FL->FL
 |t::r,v::l,F=>(t,v)::qsn r l F
 |_,_,F=>F
def qso:List Nat->List Nat->List (Nat×Nat)
 |i::r,g::gs=>(i,g)::qso r gs
 |_,_=>[]
def qpe (L:LL)(al:Nat)(gm:List (Nat×Nat)):List Nat->List (List zA)->LL
 |i::r,c::cs=>cond (tb al i) (match qas gm i with
   |some g=>(i,(g,c))::qpe L al gm r cs
   |none=>qpe L al gm r cs) (match qas L i with
   |some p=>(i,(p.1,c))::qpe L al gm r cs
   |none=>qpe L al gm r cs)
 |_,_=>[]
def qja (al:Nat):LL->LL
 |[]=>[]
 |(i,p)::r=>cond (tb al i) (qja al r) ((i,p)::qja al r)
def Arg.o (F:FL):Arg->Option zA
 |.t n=>qas F n
 |.c v=>some v
def qlC (F:FL)(x:Arg):Option Arg:=match x with
 |.t n=>match qas F n with
  |some v=>some (.c v)
  |none=>none
 |.c v=>some (.c v)
def qkG (F:FL):List Arg->Option (List Arg)
 |[]=>some []
 |x::r=>match qlC F x with
  |some y=>match qkG F r with
   |some l=>some (y::l)
   |none=>none
  |none=>none
def qfv (F:FL):List (Nat×Option Nat×Arg)->Option (List (Nat×Option Nat×Arg))
 |[]=>some []
 |(o,n,x)::r=>match qlC F x with
  |some y=>match qfv F r with
   |some l=>some ((o,n,y)::l)
   |none=>none
  |none=>none
def qlD (F:FL):Option Arg->Option (Option Arg)
 |none=>some none
 |some x=>match qlC F x with
  |some y=>some (some y)
  |none=>none
def o1 (F:FL)(x:Arg)(k:Arg->Ins):Option Ins:=match qlC F x with|some y=>some (k y)|none=>none
def o2 (F:FL)(x y:Arg)(k:Arg->Arg->Ins):Option Ins:=match qlC F x with
 |some x=>match qlC F y with
  |some y=>some (k x y)
  |none=>none
 |none=>none
def o3 (F:FL)(x y z:Arg)(k:Arg->Arg->Arg->Ins):Option Ins:=match qlC F x with
 |some x=>match qlC F y with
  |some y=>match qlC F z with
   |some z=>some (k x y z)
   |none=>none
  |none=>none
 |none=>none
def Ins.o (F:FL):Ins->Option Ins
 |.mov x=>o1 F x .mov
 |.pick a b c=>o3 F a b c .pick
 |.alloc i z=>some (.alloc i z)
 |.alloced i=>some (.alloced i)
 |.box i n x=>o1 F x (.box i n)
 |.halloc z=>some (.halloc z)
 |.halloced d=>some (.halloced d)
 |.hbox n x=>o1 F x (.hbox n)
 |.build z ps=>match qfv F ps with|some ps=>some (.build z ps)|none=>none
 |.mks n z ps=>match qfv F ps with|some ps=>some (.mks n z ps)|none=>none
 |.load n a=>o1 F a (.load n)
 |.store n a x=>o2 F a x (.store n)
 |.nck x=>o1 F x .nck
 |.bin o x y=>o2 F x y (.bin o)
 |.eqv k n x y=>o2 F x y (.eqv k n)
 |.eqs k n x y=>o2 F x y (.eqs k n)
 |.not x=>o1 F x .not
 |.cvt k x=>o1 F x (.cvt k)
 |.mkf fn a b=>match qkG F a with
  |some a=>match qkG F b with
   |some b=>some (.mkf fn a b)
   |none=>none
  |none=>none
 |.mksl sz b c=>o1 F c (.mksl sz b)
 |.slice sz x lo hi=>match qlC F x with
  |some x=>match qlD F lo with
   |some lo=>match qlD F hi with
    |some hi=>some (.slice sz x lo hi)
    |none=>none
   |none=>none
  |none=>none
 |.sstr x lo hi=>match qlC F x with
  |some x=>match qlD F lo with
   |some lo=>match qlD F hi with
    |some hi=>some (.sstr x lo hi)
    |none=>none
   |none=>none
  |none=>none
 |.fa off x=>o1 F x (.fa off)
 |.ia sz x i=>o2 F x i (.ia sz)
 |.idx x i=>o2 F x i .idx
 |.ext x i=>o1 F x (.ext · i)
 |.call f args=>match qkG F args with|some l=>some (.call f l)|none=>none
 |.callv f args=>match qlC F f with
  |some f=>match qkG F args with
   |some l=>some (.callv f l)
   |none=>none
  |none=>none
 |.app sz b x y=>o2 F x y (.app sz b)
 |.len st x=>o1 F x (.len st)
 |.minmax mx x y=>o2 F x y (.minmax mx)
 |.mkmap=>some .mkmap
 |.insert kd m k v=>o3 F m k v (.insert kd)
 |.look kd z ok m k=>o2 F m k (.look kd z ok)
def pu (o:Ins):Option zA:=qaF .nil o
def stV (e:Env)(s:ASt)(o:Ins):Option (zA×ASt):=match qaJ e ⟨.nil,.nil,[],none,s⟩ o with
 |some (v,c)=>some (v,c.s)
 |none=>none
def qac {α β γ:Type}(x:Option (α×β))(k:α->β->Option γ):Option γ:=x.bind fun r=>k r.1 r.2
def up1 {α:Type}(x:α):α:=x
def up2 {α:Type}(x:α):α:=up1 x
def up3 {α:Type}(x:α):α:=up2 x
def up4 {α:Type}(x:α):α:=up3 x
def up5 {α:Type}(x:α):α:=up4 x
def up6 {α:Type}(x:α):α:=up5 x
abbrev cnd {α:Type}(b:Bool)(x y:α):α:=match b with
 |true=>x
 |false=>y
theorem qbG {α:Type}(b:Bool)(x y:α):cnd b x y=cond b x y:=by cases b<;>rfl
def qae (v:zA)(a b:Res):Res:=up6 (match v with
 |.p (.bool t)=>cond t a b
 |_=>none)
def ldL (cs:List zA)(off:Nat):Option Nat->Option zA
 |none=>match cut cs off 1 with
  |some [v]=>some v
  |_=>none
 |some n=>match cut cs off n with
  |some l=>some (.agg l)
  |none=>none
def ldH (e:Env)(s:ASt)(a:zA)(n:Option Nat):Option zA:=match a with
 |.ptr .. =>match loadFrom e.E .nil s a (cnt n) with
  |some cs=>zA.ofCells n cs
  |none=>none
 |.elem .. =>match loadFrom e.E .nil s a (cnt n) with
  |some cs=>zA.ofCells n cs
  |none=>none
 |_=>none
def stH (s:ASt)(a:zA)(cs:List zA):Option ASt:=match a with
 |.ptr .. =>match qbP ⟨.nil,.nil,[],none,s⟩ a cs with
  |some c=>some c.s
  |none=>none
 |_=>none
def faK (off:Nat)(v:zA)(k:zA->Res):Res:=up6 (match v with
 |.lptr i g o=>k (.lptr i g (o+off))
 |.ptr l o=>k (.ptr l (o+off))
 |.elem cs o=>k (.elem cs (o+off))
 |_=>none)
def qll (v:zA)(k:zA->Res):Res:=up6 (match v with
 |.ptr l o=>k (.ptr l o)
 |.lptr i g o=>k (.lptr i g o)
 |.elem cs o=>k (.elem cs o)
 |_=>none)
def iaV (sz:Nat)(x i:zA):Option (List zP×Nat):=match qhN i with
 |some i=>match qdE x with
  |some r=>cond (Nat.blt i r.1) (some (r.2,i*sz)) none
  |none=>none
 |none=>none
def qdX (s:ASt)(o:zH)(k:Nat->ASt->Res):Res:=k s.next (qal s o)
abbrev KO:=zA->LL->ASt->Res
def opK (loc:Nat)(e:Env)(F:FL)(L:LL)(h:HH)(s:ASt)(o:Ins)(k:KO):Res:=
 match o with
 |.mov x=>match x.o F with
  |some v=>k v L s
  |none=>none
 |.fa off x=>match x.o F with
  |some v=>faK off v fun v=>k v L s
  |none=>none
 |.nck x=>match x.o F with
  |some v=>qll v fun v=>k v L s
  |none=>none
 |.alloc i zs=>match qas L i with
  |some p=>k (.lptr i (p.1+1) 0) ((i,(p.1+1,zs))::L) s
  |none=>none
 |.alloced i=>match qas L i with
  |some p=>k (.lptr i p.1 0) L s
  |none=>none
 |.box i n x=>match x.o F with
  |some v=>match qas L i with
   |some p=>(zA.cells n v).bind fun cs=>k (.lptr i (p.1+1) 0) ((i,(p.1+1,cs))::L) s
   |none=>none
  |none=>none
 |.halloc zs=>cnd (zs.all qaY) (qdX s (.cells zs) fun l s=>k (.ptr l 0) L s) none
 |.halloced d=>match qas h d with
  |some l=>k (.ptr l 0) L s
  |none=>none
 |.hbox n x=>match x.o F with
  |some v=>(zA.cells n v).bind fun cs=>cnd (cs.all qaY) (qdX s (.cells cs) fun l s=>k (.ptr l 0) L s) none
  |none=>none
 |.load n a=>match a.o F with
  |some v=>cnd (qlA loc a) (match v with
   |.lptr i g off=>match qas L i with
    |some p=>cnd (Nat.beq g p.1) ((ldL p.2 off n).bind fun v=>k v L s) none
    |none=>none
   |_=>none) ((ldH e s v n).bind fun v=>k v L s)
  |none=>none
 |.store n a x=>match a.o F with
  |some v=>match x.o F with
   |some x=>(zA.cells n x).bind fun cs=>cnd (qlA loc a) (match v with
    |.lptr i g off=>match qas L i with
     |some p=>cnd (Nat.beq g p.1) ((over p.2 off cs).bind fun new=>k qaq ((i,(p.1,new))::L) s) none
     |none=>none
    |_=>none) ((stH s v cs).bind fun s=>k qaq L s)
   |none=>none
  |none=>none
 |.ia sz x i=>match x.o F with
  |some x=>match i.o F with
   |some i=>qac (iaV sz x i) fun cs o=>k (.elem cs o) L s
   |none=>none
  |none=>none
 |.mksl .. =>match o.o F with
  |some o=>qac (stV e s o) fun v s=>k v L s
  |none=>none
 |.call .. =>match o.o F with
  |some o=>qac (stV e s o) fun v s=>k v L s
  |none=>none
 |.callv .. =>match o.o F with
  |some o=>qac (stV e s o) fun v s=>k v L s
  |none=>none
 |.app .. =>match o.o F with
  |some o=>qac (stV e s o) fun v s=>k v L s
  |none=>none
 |.mkmap=>match o.o F with
  |some o=>qac (stV e s o) fun v s=>k v L s
  |none=>none
 |.insert .. =>match o.o F with
  |some o=>qac (stV e s o) fun v s=>k v L s
  |none=>none
 |.look .. =>match o.o F with
  |some o=>qac (stV e s o) fun v s=>k v L s
  |none=>none
 |_=>match o.o F with
  |some o=>(pu o).bind fun v=>k v L s
  |none=>none
abbrev TrL:=List (LL×ASt)
def qnV (nt:Nat)(d:Option Nat)(v:zA)(F:FL):Option FL:=match d with
 |none=>some F
 |some t=>cnd (Nat.blt t nt) (some ((t,v)::F)) none
def qlE (m:Nat):Option Nat->Nat
 |some t=>qgp m (bit t)
 |none=>m
def qlF (loc nt:Nat)(e:Env):List COp->Nat->FL->LL->HH->ASt->(FL->LL->ASt->TrL->Res)->Res
 |[],_,F,L,_,s,k=>k F L s [(L,s)]
 |o::r,U,F,L,h,s,k=>
  match o.guard with
  |none=>opK loc e F L h s o.op fun v L' s'=>match qnV nt o.dst v F with
   |some F=>qlF loc nt e r (qlE U o.dst) F L' h s' fun F1 L1 s1 tr=>k F1 L1 s1 ((L,s)::tr)
   |none=>none
  |some (t,b)=>cnd (tb U t)
   (match qnV nt o.dst qaq F with
    |some F=>qlF loc nt e r (zbm U (qgq o.dst)) F L h s fun F1 L1 s1 tr=>k F1 L1 s1 ((L,s)::tr)
    |none=>none)
   (match qas F t with
   |none=>none
   |some gv=>
    qae gv
     (cnd b (opK loc e ((t,.p (.bool true))::F) L h s o.op fun v L' s'=>match qnV nt o.dst v ((t,.p (.bool true))::F) with
       |some F=>qlF loc nt e r (qlE U o.dst) F L' h s' fun F1 L1 s1 tr=>k F1 L1 s1 ((L,s)::tr)
       |none=>none)
      (match qnV nt o.dst qaq ((t,.p (.bool true))::F) with
       |some F=>qlF loc nt e r (zbm U (qgq o.dst)) F L h s fun F1 L1 s1 tr=>k F1 L1 s1 ((L,s)::tr)
       |none=>none))
     (cnd b (match qnV nt o.dst qaq ((t,.p (.bool false))::F) with
       |some F=>qlF loc nt e r (zbm U (qgq o.dst)) F L h s fun F1 L1 s1 tr=>k F1 L1 s1 ((L,s)::tr)
       |none=>none)
      (opK loc e ((t,.p (.bool false))::F) L h s o.op fun v L' s'=>match qnV nt o.dst v ((t,.p (.bool false))::F) with
       |some F=>qlF loc nt e r (qlE U o.dst) F L' h s' fun F1 L1 s1 tr=>k F1 L1 s1 ((L,s)::tr)
       |none=>none)))
def qlG (e:Env)(L:LL)(s:ASt)(a:zA)(n:Nat):Option (List zA):=match a with
 |.lptr i g off=>match qas L i with
  |some p=>cond (Nat.beq g p.1) (cut p.2 off n) none
  |none=>none
 |.ptr l off=>loadFrom e.E .nil s (.ptr l off) n
 |_=>none
def okJ (e:Env)(tr:TrL)(a:zA)(n:Nat)(b:Bool)(j:Nat):Bool:=b||(match qeP tr j with
 |some c=>match qeP tr (j+1) with
  |some c'=>qaT (qlG e c.1 c.2 a n) (qlG e c'.1 c'.2 a n)
  |none=>false
 |none=>false)
def okV (e:Env)(tr:TrL)(a:zA)(n:Nat)(js:List (Nat×Nat)):Bool:=
 match a with
 |.lptr i g o=>js.all fun x=>okJ e tr (.lptr i g o) n (Nat.blt 0 x.2) x.1
 |.ptr l o=>js.all fun x=>okJ e tr (.ptr l o) n (Nat.blt 1 x.2&&e.pure (x.2-2)) x.1
 |.elem _ _=>true
 |.tuple []=>true
 |_=>false
def okC (e:Env)(tr:TrL)(F:FL)(k:Chk):Bool:=
 match k.a.o F with
 |some a=>okV e tr a (cnt k.n) k.js
 |none=>false
def quH:List (Nat×List zA)->LL->Option LL
 |[],L=>some L
 |(i,zs)::r,L=>match qas L i with
  |some p=>quH r ((i,(p.1+1,zs))::L)
  |none=>none
abbrev KN:=FL->LL->HH->ASt->Res
abbrev KC:=EX->FL->LL->HH->ASt->Res
def qnW (nt nl:Nat)(ef:Ef)(lv:Nat)(F:FL)(L:LL)(s:ASt)(kn:KN)(body:KN→Res):Res:=
 match qbk (Nat.land lv ef.d) 0 nt with
 |vs=>match qbk ef.al 0 nl with
  |gl=>match cond ef.st (qbk (qsl (L.map fun x=>(x.1,[]))) 0 nl) gl with
   |cl=>match qhW (qgp lv ef.d) F (qbk lv 0 nt) with
    |F0=>
     jn (qor (α:=zA) vs.length fun xs=>qor (α:=Nat) gl.length fun gs=>qor (α:=List zA) cl.length fun cs=>qww s ef.cs fun s=>kn (qsn vs xs F0) (qpe L ef.al (qso gl gs) cl cs++cond ef.st [] (qja ef.al L)) [] s)
      fun j=>body fun F1 L1 _ s1=>match qlB F1 vs with
       |some xs=>match qkE L1 gl with
        |some gs=>match qkF L1 cl with
         |some cs=>qsm ef.cs (qgr [] cl.length (qgr 0 gl.length (qgr qaq vs.length j xs) gs) cs) s1
         |none=>none
        |none=>none
       |none=>none
def qpf (nt nl n:Nat)(ef:Ef)(lv:Nat)(F:FL)(L:LL)(s:ASt)(body:FL→LL→ASt→KN→Res):Res:=
 match qbk (Nat.land lv ef.d) 0 nt with
 |vs=>match qbk ef.al 0 nl with
  |gl=>match cond ef.st (qbk (qsl (L.map fun x=>(x.1,[]))) 0 nl) gl with
   |cl=>match qhW (qgp lv ef.d) F (qbk lv 0 nt) with
    |F0=>match qlB F vs with
     |some xs=>match qkE L gl with
      |some gs=>match qkF L cl with
       |some cs=>
        qsm ef.cs (qgr [] cl.length (qgr 0 gl.length (qgr qaq vs.length
         (lp (qor (α:=zA) vs.length fun _=>qor (α:=Nat) gl.length fun _=>qor (α:=List zA) cl.length fun _=>qww s ef.cs fun _=>(none:Res))
          (fun ih=>qor (α:=zA) vs.length fun xs=>qor (α:=Nat) gl.length fun gs=>qor (α:=List zA) cl.length fun cs=>qww s ef.cs fun s=>
           body (qsn vs xs F0) (qpe L ef.al (qso gl gs) cl cs++cond ef.st [] (qja ef.al L)) s fun F1 L1 _ s1=>match qlB F1 vs with
            |some xs=>match qkE L1 gl with
             |some gs=>match qkF L1 cl with
              |some cs=>qsm ef.cs (qgr [] cl.length (qgr 0 gl.length (qgr qaq vs.length ih xs) gs) cs) s1
              |none=>none
             |none=>none
            |none=>none) n) xs) gs) cs) s
       |none=>none
      |none=>none
     |none=>none
def qpg (e:Env)(n nt:Nat)(v:zA)(ps:List Nat)(a b:CC)(F:FL)(L:LL)(s:ASt)(kn kx kr:ASt->Res)(r:zA):Prop:=
 ∀(c:Cfg) (f:Arg),(∀t u,qas F t=some u→c.f.get qaq t=u)→(∀i p,qas L i=some p→c.l.has i=true)→(∀t,t<nt→c.f.has t=true)→f.ev c.f=v→c.s=s→c.rd=none→
  ∃x s' s2 r',qbs e n (.rangeFunc f ps a b) c=some (x,{c with s:=s'})/\qaD r'=r/\(match x with
   |.normal=>kn s'=some (r',s2)
   |.exit i=>i=exB b/\kx s'=some (r',s2)
   |.ret=>kr s'=some (r',s2))
open Classical in
noncomputable def rfK (e:Env) (n nt:Nat) (v:zA) (ps:List Nat) (a b:CC) (F:FL) (L:LL) (s:ASt) (kn kx kr:ASt->Res):Res:=
 if h:∃r,qpg e n nt v ps a b F L s kn kx kr r then some (h.choose,s) else none
noncomputable def qfw (loc nt nl:Nat) (e:Env) (n:Nat):CC->Nat->List (Nat×Nat)->Nat->FL->LL->HH->ASt->KC->Res
 |.skip,_,_,_,F,L,h,s,k=>k .normal F L h s
 |.reg ops,nrm,_,_,F,L,h,s,k=>
  cnd (qg9 ops)
   (qnW nt nl (qkD loc ops) nrm F L s (k .normal) fun j=>qlF loc nt e ops 0 F L h s fun F L s _=>j F L h s)
   (qlF loc nt e ops 0 F L h s fun F L s _=>k .normal F L h s)
 |.regd pre hpre ops chk,nrm,_,_,F,L,_,s,k=>
  match quH pre L with
  |none=>none
  |some L0=>match preH s hpre with
   |(s0,h0)=>
    cnd (qg9 ops)
     (qnW nt nl (qkD loc ops) nrm F L0 s0 (k .normal) fun j=>qlF loc nt e ops 0 F L0 h0 s0 fun F L s tr=>cnd (chk.all (okC e tr F)) (j F L h0 s) none)
     (qlF loc nt e ops 0 F L0 h0 s0 fun F L s tr=>cnd (chk.all (okC e tr F)) (k .normal F L h0 s) none)
 |.seq a b,nrm,ex,rt,F,L,h,s,k=>
  qfw loc nt nl e n a (qnU b nrm ex rt) ex rt F L h s fun x F L h s=>match x with
   |.normal=>qfw loc nt nl e n b nrm ex rt F L h s k
   |x=>k x F L h s
 |.cond x a b,nrm,ex,rt,F,L,h,s,k=>
  match x.o F with
  |none=>none
  |some v=>cnd (qfu a&&qfu b)
   (qnW nt nl ((qit loc a).or (qit loc b)) nrm F L s (k .normal) fun j=>
    qae v (qfw loc nt nl e n a nrm ex rt F L h s fun x F L h s=>match x with
      |.normal=>j F L h s
      |x=>k x F L h s)
     (qfw loc nt nl e n b nrm ex rt F L h s fun x F L h s=>match x with
      |.normal=>j F L h s
      |x=>k x F L h s))
   (qae v (qfw loc nt nl e n a nrm ex rt F L h s k) (qfw loc nt nl e n b nrm ex rt F L h s k))
 |.block id a,nrm,ex,rt,F,L,h,s,k=>
  cnd (Nat.blt 1 (exN id a+cnd (qfu a) 1 0))
   (qnW nt nl (qit loc a) nrm F L s (k .normal) fun j=>
    qfw loc nt nl e n a nrm ((id,nrm)::ex) rt F L h s fun x F L h s=>match x with
     |.normal=>j F L h s
     |.exit i=>cnd (Nat.beq i id) (j F L h s) (k (.exit i) F L h s)
     |.ret=>k .ret F L h s)
   (qfw loc nt nl e n a nrm ((id,nrm)::ex) rt F L h s fun x F L h s=>match x with
     |.normal=>k .normal F L h s
     |.exit i=>cnd (Nat.beq i id) (k .normal F L h s) (k (.exit i) F L h s)
     |.ret=>k .ret F L h s)
 |.loop a,_,ex,rt,F,L,_,s,k=>
  match qnU a (qnU a 0 ex rt) ex rt with
  |lv=>qpf nt nl n (qit loc a) lv F L s fun F L s j=>qfw loc nt nl e n a lv ex rt F L [] s fun x F L h s=>match x with
   |.normal=>j F L h s
   |x=>k x F L h s
 |.rangeFunc f ps a b,_,_,_,F,L,h,s,k=>
  match f.o F with
  |some v=>rfK e n nt v ps a b F L s (fun s=>k .normal F L h s) (fun s=>k (.exit (exB b)) F L h s) (fun s=>k .ret F L h s)
  |none=>none
 |.exit id,_,_,_,F,L,h,s,k=>k (.exit id) F L h s
 |.ret,_,_,_,F,L,h,s,k=>k .ret F L h s
 |.bad,_,_,_,_,_,_,_,_=>none
def bn (o:BinOp)(x y:zA):Option zA:=pu (.bin o (.c x) (.c y))
def eqv (k:Nat)(n:Bool)(x y:zA):Option zA:=pu (.eqv k n (.c x) (.c y))
def eqs (k:List Nat)(n:Bool)(x y:zA):Option zA:=pu (.eqs k n (.c x) (.c y))
def nt (x:zA):Option zA:=pu (.not (.c x))
def cv (k:IntKind)(x:zA):Option zA:=pu (.cvt k (.c x))
def pk (c a b:zA):Option zA:=pu (.pick (.c c) (.c a) (.c b))
def bd (zs:List zA)(ps:List (Nat×Option Nat×Arg)):Option zA:=pu (.build zs ps)
def ms (n:Nat)(zs:List zP)(ps:List (Nat×Option Nat×Arg)):Option zA:=pu (.mks n zs ps)
def mf (f:Nat)(a b:List zA):Option zA:=pu (.mkf f (a.map .c) (b.map .c))
def sl (sz:Nat)(x:zA)(lo hi:Option Arg):Option zA:=pu (.slice sz (.c x) lo hi)
def ss (x:zA)(lo hi:Option Arg):Option zA:=pu (.sstr (.c x) lo hi)
def ex (x:zA)(i:Nat):Option zA:=pu (.ext (.c x) i)
def ln (st:Bool)(x:zA):Option zA:=pu (.len st (.c x))
def mm (mx:Bool)(x y:zA):Option zA:=pu (.minmax mx (.c x) (.c y))
def cl (e:Env)(f:Nat)(xs:List zA)(s:ASt):Option (zA×ASt):=stV e s (.call f (xs.map .c))
def clv (e:Env)(f:zA)(xs:List zA)(s:ASt):Option (zA×ASt):=stV e s (.callv (.c f) (xs.map .c))
def ap (e:Env)(sz b:Nat)(x y:zA)(s:ASt):Option (zA×ASt):=stV e s (.app sz b (.c x) (.c y))
def mk (e:Env)(sz b:Nat)(x:zA)(s:ASt):Option (zA×ASt):=stV e s (.mksl sz b (.c x))
def mkm (e:Env)(s:ASt):Option (zA×ASt):=stV e s .mkmap
def ins (e:Env)(kd:Nat)(m k v:zA)(s:ASt):Option (zA×ASt):=stV e s (.insert kd (.c m) (.c k) (.c v))
def lk (e:Env)(kd:Nat)(z:zA)(ok:Bool)(m k:zA)(s:ASt):Option (zA×ASt):=stV e s (.look kd z ok (.c m) (.c k))
def rvK (loc:Nat)(e:Env)(F:FL)(L:LL)(s:ASt):List RV->(List zA->Res)->Res
 |[],k=>k []
 |.t n::r,k=>match qas F n with
  |some v=>rvK loc e F L s r fun l=>k (v::l)
  |none=>none
 |.l a n::r,k=>match qas F a with
  |some v=>cnd (tb loc a) (match v with
   |.lptr i g off=>match qas L i with
    |some p=>cnd (Nat.beq g p.1) ((ldL p.2 off n).bind fun v=>rvK loc e F L s r fun l=>k (v::l)) none
    |none=>none
   |_=>none) ((ldH e s v n).bind fun v=>rvK loc e F L s r fun l=>k (v::l))
  |none=>none
def quI (i:Nat):List zA->FL
 |[]=>[]
 |v::r=>(i,v)::quI (i+1) r
noncomputable def qau (cf:CF) (e:Env) (n:Nat) (args:List zA) (s:ASt):Res:=
 match qfa cf.body 0 with
 |loc=>match qit loc cf.body with
  |ef=>qfw loc (2^cf.depth-1) (2^cf.ldepth-1) e n cf.body 0 [] (rvM cf.res) (quI 0 args) ((qbk ef.al 0 (2^cf.ldepth-1)).map fun i=>(i,(0,[]))) [] s fun x F L _ s=>match x with
   |.exit _=>none
   |_=>rvK loc e F L s cf.res fun l=>some (qh9 l,s)
end Go.AI
namespace Go.AI
abbrev i64 (n:Int):zA:=.p (.int .i64 n)
abbrev u8 (n:Int):zA:=.p (.int .u8 n)
abbrev bl (b:Bool):zA:=.p (.bool b)
abbrev un:zA:=.tuple []
end Go.AI
namespace Go.AI
theorem qha (m i:Nat):tb m i=m.testBit i:=by
 unfold tb
 have e:Nat.shiftRight m i=m/2^i:=Nat.shiftRight_eq_div_pow m i
 rw[Nat.testBit_eq_decide_div_mod_eq,e]
 cases h:Nat.beq (Nat.mod (m/2^i) 2) 1 with
 |true=>exact(decide_eq_true (Nat.eq_of_beq_eq_true h)).symm
 |false=>exact(decide_eq_false (fun h2=>by rw[show Nat.mod (m/2^i) 2=1 from h2] at h;cases h)).symm
theorem qkH (a b i:Nat):tb (zbm a b) i=(tb a i||tb b i):=by
 rw[qha,qha,qha]
 exact Nat.testBit_or a b i
theorem qmT (t i:Nat):tb (bit t) i=decide (t=i):=by
 rw[qha]
 unfold bit
 show(1<<<t).testBit i=_
 rw[Nat.one_shiftLeft,Nat.testBit_two_pow]
theorem qfR (i:Nat):tb 0 i=false:=by rw[qha];exact Nat.zero_testBit i
structure AG (nt:Nat)(F:FL)(L:LL)(h:HH)(c:Cfg):Prop where
 f:∀t v,qas F t=some v->c.f.get qaq t=v
 l:∀i p,qas L i=some p->c.l.get (0,[]) i=p/\c.l.has i=true
 h:∀d l,qas h d=some l->qas c.h d=some l
 hf:∀t,t<nt->c.f.has t=true
structure KP (ef:Ef)(c c':Cfg):Prop where
 f:∀t,tb ef.d t=false->c'.f.get qaq t=c.f.get qaq t
 g:∀i,tb ef.al i=false->(c'.l.get (0,[]) i).1=(c.l.get (0,[]) i).1
 l:ef.st=false->∀i,tb ef.al i=false->c'.l.get (0,[]) i=c.l.get (0,[]) i
 s:ef.cs=false->c'.s=c.s
 rd:c'.rd=c.rd
 hf:∀t,c'.f.has t=c.f.has t
 hl:∀i,c'.l.has i=c.l.has i
theorem KP.refl (ef:Ef)(c:Cfg):KP ef c c:=⟨fun _ _=>rfl,fun _ _=>rfl,fun _ _ _=>rfl,fun _=>rfl,rfl,fun _=>rfl,fun _=>rfl⟩
theorem KP.left {a b:Ef}{c c':Cfg}(h:KP a c c'):KP (a.or b) c c':=by
 refine⟨fun t ht=>h.f t ?_,fun i hi=>h.g i ?_,fun hs i hi=>h.l ?_ i ?_,fun hs=>h.s ?_,h.rd,h.hf,h.hl⟩
 ·simp only[Ef.or,qkH,zaU] at ht;exact ht.1
 ·simp only[Ef.or,qkH,zaU] at hi;exact hi.1
 ·simp only[Ef.or,zaU] at hs;exact hs.1
 ·simp only[Ef.or,qkH,zaU] at hi;exact hi.1
 ·simp only[Ef.or,zaU] at hs;exact hs.1
theorem KP.right {a b:Ef}{c c':Cfg}(h:KP b c c'):KP (a.or b) c c':=by
 refine⟨fun t ht=>h.f t ?_,fun i hi=>h.g i ?_,fun hs i hi=>h.l ?_ i ?_,fun hs=>h.s ?_,h.rd,h.hf,h.hl⟩
 ·simp only[Ef.or,qkH,zaU] at ht;exact ht.2
 ·simp only[Ef.or,qkH,zaU] at hi;exact hi.2
 ·simp only[Ef.or,zaU] at hs;exact hs.2
 ·simp only[Ef.or,qkH,zaU] at hi;exact hi.2
 ·simp only[Ef.or,zaU] at hs;exact hs.2
theorem KP.trans {a:Ef}{c c1 c2:Cfg}(h:KP a c c1)(k:KP a c1 c2):KP a c c2:=
 ⟨fun t ht=>(k.f t ht).trans (h.f t ht),fun i hi=>(k.g i hi).trans (h.g i hi),fun hs i hi=>(k.l hs i hi).trans (h.l hs i hi),fun hs=>(k.s hs).trans (h.s hs),k.rd.trans h.rd,fun t=>(k.hf t).trans (h.hf t),fun i=>(k.hl i).trans (h.hl i)⟩
section
variable {F:FL} {f:Tr zA} (hF:∀t v,qas F t=some v->f.get qaq t=v)
include hF
theorem qkI {x:Arg}{v:zA}(h:x.o F=some v):x.ev f=v:=by
 cases x with
 |t n=>exact hF n v h
 |c u=>
  simp only[Arg.o,zac] at h
  exact h
theorem qcT {x y:Arg}(h:qlC F x=some y):y.ev .nil=x.ev f/\∃v,y=.c v:=by
 cases x with
 |t n=>
  simp only[qlC] at h
  split at h
  ·rename_i v hv
   simp only[zac] at h
   subst h
   exact⟨(hF n v hv).symm,v,rfl⟩
  ·cases h
 |c u=>
  simp only[qlC,zac] at h
  subst h
  exact⟨rfl,u,rfl⟩
theorem qfx:∀{xs ys:List Arg},qkG F xs=some ys->ys.map (Arg.ev .nil)=xs.map (Arg.ev f)
 |[],ys,h=>by
  simp only[qkG,zac] at h
  subst h;rfl
 |x::xs,ys,h=>by
  simp only[qkG] at h
  split at h
  ·rename_i y hy
   split at h
   ·rename_i l hl
    simp only[zac] at h
    subst h
    simp only[zam,(qcT hF hy).1,qfx hl]
   ·cases h
  ·cases h
theorem qsp:∀{ps qs:List (Nat×Option Nat×Arg)} (zs:List zA),qfv F ps=some qs->qjR zs .nil qs=qjR zs f ps
 |[],qs,zs,h=>by
  simp only[qfv,zac] at h
  subst h;rfl
 |(o,n,x)::r,qs,zs,h=>by
  simp only[qfv] at h
  split at h
  ·rename_i y hy
   split at h
   ·rename_i l hl
    simp only[zac] at h
    subst h
    simp only[qjR,(qcT hF hy).1]
    congr 1;funext cs
    congr 1;funext zs
    exact qsp zs hl
   ·cases h
  ·cases h
theorem qsq:∀{ps qs:List (Nat×Option Nat×Arg)} (zs:List zP),qfv F ps=some qs->qgn zs .nil qs=qgn zs f ps
 |[],qs,zs,h=>by
  simp only[qfv,zac] at h
  subst h;rfl
 |(o,n,x)::r,qs,zs,h=>by
  simp only[qfv] at h
  split at h
  ·rename_i y hy
   split at h
   ·rename_i l hl
    simp only[zac] at h
    subst h
    simp only[qgn,(qcT hF hy).1]
    congr 1;funext cs
    congr 1;funext cs
    congr 1;funext zs
    exact qsq zs hl
   ·cases h
  ·cases h
theorem qgA {x y:Option Arg}(h:qlD F x=some y)(d:Nat):qiQ d .nil y=qiQ d f x:=by
 cases x with
 |none=>
  simp only[qlD,zac] at h
  subst h;rfl
 |some x=>
  simp only[qlD] at h
  split at h
  ·rename_i z hz
   simp only[zac] at h
   subst h
   simp only[qiQ,(qcT hF hz).1]
  ·cases h
theorem qkJ {x:Arg}{k:Arg->Ins}{i:Ins}(h:o1 F x k=some i):∃y,i=k y/\y.ev .nil=x.ev f:=by
 unfold o1 at h
 split at h
 ·rename_i y hy
  simp only[zac] at h
  exact⟨y,h.symm,(qcT hF hy).1⟩
 ·cases h
theorem qkK {x y:Arg}{k:Arg->Arg->Ins}{i:Ins}(h:o2 F x y k=some i):∃x' y',i=k x' y'/\x'.ev .nil=x.ev f/\y'.ev .nil=y.ev f:=by
 unfold o2 at h
 split at h
 ·rename_i x' hx
  split at h
  ·rename_i y' hy
   simp only[zac] at h
   exact⟨x',y',h.symm,(qcT hF hx).1,(qcT hF hy).1⟩
  ·cases h
 ·cases h
theorem qvd {x y z:Arg}{k:Arg->Arg->Arg->Ins}{i:Ins}(h:o3 F x y z k=some i):∃x' y' z',i=k x' y' z'/\x'.ev .nil=x.ev f/\y'.ev .nil=y.ev f/\z'.ev .nil=z.ev f:=by
 unfold o3 at h
 split at h
 ·rename_i x' hx
  split at h
  ·rename_i y' hy
   split at h
   ·rename_i z' hz
    simp only[zac] at h
    exact⟨x',y',z',h.symm,(qcT hF hx).1,(qcT hF hy).1,(qcT hF hz).1⟩
   ·cases h
  ·cases h
 ·cases h
theorem qxd {o i:Ins}(hp:qdL o=true)(h:o.o F=some i):qaF .nil i=qaF f o:=by
 cases o<;>simp only[qdL,zai] at hp<;>simp only[Ins.o] at h
 case mov x=>obtain⟨y,rfl,hy⟩:=qkJ hF h;simp only[qaF,hy]
 case pick a b c=>obtain⟨x,y,z,rfl,hx,hy,hz⟩:=qvd hF h;simp only[qaF,hx,hy,hz]
 case build z ps=>
  split at h
  ·rename_i qs hq
   simp only[zac] at h
   subst h
   simp only[qaF,qsp hF _ hq]
  ·cases h
 case mks n z ps=>
  split at h
  ·rename_i qs hq
   simp only[zac] at h
   subst h
   simp only[qaF,qsq hF _ hq]
  ·cases h
 case nck x=>obtain⟨y,rfl,hy⟩:=qkJ hF h;simp only[qaF,hy]
 case bin o x y=>obtain⟨x',y',rfl,hx,hy⟩:=qkK hF h;simp only[qaF,hx,hy]
 case eqv k n x y=>obtain⟨x',y',rfl,hx,hy⟩:=qkK hF h;simp only[qaF,hx,hy]
 case eqs k n x y=>obtain⟨x',y',rfl,hx,hy⟩:=qkK hF h;simp only[qaF,hx,hy]
 case not x=>obtain⟨y,rfl,hy⟩:=qkJ hF h;simp only[qaF,hy]
 case cvt k x=>obtain⟨y,rfl,hy⟩:=qkJ hF h;simp only[qaF,hy]
 case mkf fn a b=>
  split at h
  ·rename_i a' ha
   split at h
   ·rename_i b' hb
    simp only[zac] at h
    subst h
    simp only[qaF,qfx hF ha,qfx hF hb]
   ·cases h
  ·cases h
 case slice sz x lo hi=>
  split at h
  ·rename_i x' hx
   split at h
   ·rename_i lo' hlo
    split at h
    ·rename_i hi' hhi
     simp only[zac] at h
     subst h
     simp only[qaF,(qcT hF hx).1,qgA hF hlo,qgA hF hhi]
    ·cases h
   ·cases h
  ·cases h
 case sstr x lo hi=>
  split at h
  ·rename_i x' hx
   split at h
   ·rename_i lo' hlo
    split at h
    ·rename_i hi' hhi
     simp only[zac] at h
     subst h
     simp only[qaF,(qcT hF hx).1,qgA hF hlo,qgA hF hhi]
    ·cases h
   ·cases h
  ·cases h
 case fa off x=>obtain⟨y,rfl,hy⟩:=qkJ hF h;simp only[qaF,hy]
 case ia sz x i=>obtain⟨x',y',rfl,hx,hy⟩:=qkK hF h;simp only[qaF,hx,hy]
 case idx x i=>obtain⟨x',y',rfl,hx,hy⟩:=qkK hF h;simp only[qaF,hx,hy]
 case ext x i=>obtain⟨y,rfl,hy⟩:=qkJ hF h;simp only[qaF,hy]
 case len st x=>obtain⟨y,rfl,hy⟩:=qkJ hF h;simp only[qaF,hy]
 case minmax m x y=>obtain⟨x',y',rfl,hx,hy⟩:=qkK hF h;simp only[qaF,hx,hy]
def qxe:Ins->Bool
 |.mksl .. |.call .. |.callv .. |.app .. |.mkmap|.insert .. |.look .. =>true
 |_=>false
theorem qsr {e:Env}{c:Cfg}(hc:c.f=f){o i:Ins}(hp:qxe o=true)(h:o.o F=some i){v:zA}{s':ASt}(hv:stV e c.s i=some (v,s')):qaJ e c o=some (v,{c with s:=s'}):=by
 subst hc
 unfold stV at hv
 split at hv<;>try (cases hv;done)
 rename_i v1 c1 hev
 simp only[zac,zaq] at hv
 obtain⟨rfl,rfl⟩:=hv
 cases o<;>simp only[qxe,zai] at hp<;>simp only[Ins.o] at h
 case mksl sz b x=>
  obtain⟨y,rfl,hy⟩:=qkJ hF h
  simp only[qaJ,hy,zae] at hev⊢
  obtain⟨m,hm,hev⟩:=hev
  refine⟨m,hm,?_⟩
  cases hb:Nat.ble (m*b) 140737488355328 with
  |false=>rw[hb] at hev;cases hev
  |true=>
   rw[hb] at hev
   simp only[cond_true,zac,zaq] at hev⊢
   obtain⟨rfl,rfl⟩:=hev
   exact⟨rfl,rfl⟩
 case call g args=>
  split at h<;>try (cases h;done)
  rename_i l hl
  simp only[zac] at h
  subst h
  simp only[qaJ,qfx hF hl,zad,zaq] at hev⊢
  obtain⟨⟨r,s1⟩,hr,rfl,rfl⟩:=hev
  exact⟨(_,s1),hr,rfl,rfl⟩
 case callv g args=>
  split at h<;>try (cases h;done)
  rename_i g' hg
  split at h<;>try (cases h;done)
  rename_i l hl
  simp only[zac] at h
  subst h
  simp only[qaJ,qfx hF hl,(qcT hF hg).1,zad,zaq] at hev⊢
  obtain⟨⟨r,s1⟩,hr,rfl,rfl⟩:=hev
  exact⟨(_,s1),hr,rfl,rfl⟩
 case app sz b x y=>
  obtain⟨x',y',rfl,hx,hy⟩:=qkK hF h
  simp only[qaJ,hx,hy,zae] at hev⊢
  obtain⟨⟨m,new⟩,hn,hev⟩:=hev
  refine⟨(m,new),hn,?_⟩
  simp only at hev⊢
  split at hev<;>try (cases hev;done)
  rename_i n cs tk hsv
  generalize hb:(Nat.ble ((n+m)*b) 140737488355328&&Nat.beq new.length (m*sz))=bb at hev⊢
  cases bb with
  |false=>cases hev
  |true=>
   simp only[cond_true] at hev⊢
   cases hm:Nat.beq m 0 with
   |true=>
    rw[hm] at hev
    simp only[cond_true,zac,zaq] at hev⊢
    obtain⟨rfl,rfl⟩:=hev
    exact⟨rfl,rfl⟩
   |false=>
    rw[hm] at hev
    simp only[cond_false] at hev⊢
    cases tk with
    |full=>
     simp only at hev⊢
     cases hcl:Nat.beq cs.length (n*sz) with
     |false=>rw[hcl] at hev;cases hev
     |true=>
      rw[hcl] at hev
      simp only[cond_true,zac,zaq] at hev⊢
      obtain⟨rfl,rfl⟩:=hev
      exact⟨rfl,rfl⟩
    |own t=>
     simp only at hev⊢
     split at hev<;>try (cases hev;done)
     rename_i kk zz hto
     cases hkz:(Nat.beq kk n&&Nat.beq zz sz) with
     |false=>rw[hkz] at hev;cases hev
     |true=>
      rw[hkz] at hev
      simp only[cond_true,zad,zaq] at hev⊢
      obtain⟨ts,hts,rfl,rfl⟩:=hev
      exact⟨ts,hts,rfl,rfl⟩
 case mkmap=>
  simp only[zac] at h
  subst h
  simp only[qaJ,zac,zaq] at hev⊢
  obtain⟨rfl,rfl⟩:=hev
  exact⟨rfl,rfl⟩
 case insert kd m k x=>
  obtain⟨x',y',z',rfl,hx,hy,hz⟩:=qvd hF h
  simp only[qaJ,hx,hy,hz] at hev⊢
  split at hev<;>try (cases hev;done)
  rename_i l q hl hq
  split at hev<;>try (cases hev;done)
  rename_i es hes
  cases hik:qdK kd q with
  |false=>rw[hik] at hev;cases hev
  |true=>
   rw[hik] at hev
   simp only[cond_true,zae,zad,zaq] at hev⊢
   obtain⟨y,hy,es',hes',hh,hset,rfl,rfl⟩:=hev
   exact⟨y,hy,es',hes',hh,hset,rfl,rfl⟩
 case look kd z ok m k=>
  obtain⟨x',y',rfl,hx,hy⟩:=qkK hF h
  simp only[qaJ,hx,hy] at hev⊢
  split at hev<;>try (cases hev;done)
  rename_i l q hl hq
  simp only[zae] at hev⊢
  obtain⟨es,hes,hev⟩:=hev
  refine⟨es,hes,?_⟩
  cases hik:qdK kd q with
  |false=>rw[hik] at hev;cases hev
  |true=>
   rw[hik] at hev
   simp only[cond_true,zad] at hev⊢
   obtain⟨r,hr,hev⟩:=hev
   refine⟨r,hr,?_⟩
   cases r with
   |none=>
    simp only[zaq] at hev⊢
    exact⟨hev.1,by rw[<-hev.2]⟩
   |some r=>
    simp only[zaq] at hev⊢
    exact⟨hev.1,by rw[<-hev.2]⟩
end
end Go.AI
namespace Go.AI
theorem qlH {a b i:Nat}(h:tb (zbm a b) i=false):tb a i=false/\tb b i=false:=by
 rw[qkH,zaU] at h;exact h
theorem qcy {t i:Nat}(h:tb (bit t) i=false):t≠i:=by
 rw[qmT] at h
 exact of_decide_eq_false h
def LA (L:LL)(l:Tr (Nat×List zA)):Prop:=∀i p,qas L i=some p->l.get (0,[]) i=p/\l.has i=true
theorem LA.set {L:LL}{l:Tr (Nat×List zA)}(h:LA L l){i:Nat}(hi:l.has i=true)(p:Nat×List zA):LA ((i,p)::L) (l.set i p):=by
 intro j q hj
 rw[qap] at hj
 rw[Tr.has_set]
 split at hj
 ·rename_i e
  simp only[zac] at hj
  subst e;subst hj
  exact⟨Tr.get_set_eq _ _ _ _ hi,hi⟩
 ·rename_i e
  rw[Tr.get_set_ne _ _ _ _ _ e]
  exact h j q hj
def efI (loc:Nat)(o:Ins):Ef:=qqR loc ⟨none,none,o⟩
theorem qph (loc:Nat)(o:COp):qqR loc o=(efI loc o.op).or ⟨qgq o.dst,0,false,false⟩:=by
 have z:∀a:Nat,zbm 0 a=a:=Nat.zero_or
 have z':∀a:Nat,zbm a 0=a:=Nat.or_zero
 obtain⟨d,g,op⟩:=o
 cases op<;>simp only[qqR,efI,Ef.or,qgq,z,z',Bool.or_false]
 case store n a x=>cases qlA loc a<;>simp[z,z']
theorem KP.of {loc:Nat}{o:Ins}{c c1:Cfg}(hf:c1.f=c.f)(hrd:c1.rd=c.rd)(hl:∀i,c1.l.has i=c.l.has i)
  (hg:∀i,tb (efI loc o).al i=false->(c1.l.get (0,[]) i).1=(c.l.get (0,[]) i).1)
  (hc:(efI loc o).st=false->∀i,tb (efI loc o).al i=false->c1.l.get (0,[]) i=c.l.get (0,[]) i)(hs:(efI loc o).cs=false->c1.s=c.s):KP (efI loc o) c c1:=
 ⟨fun _ _=>by rw[hf],hg,hc,hs,hrd,fun _=>by rw[hf],hl⟩
theorem KP.same {loc:Nat}{o:Ins}{c:Cfg}{s':ASt}(hs:(efI loc o).cs=false->s'=c.s):KP (efI loc o) c {c with s:=s'}:=
 KP.of rfl rfl (fun _=>rfl) (fun _ _=>rfl) (fun _ _ _=>rfl) hs
theorem qpi {e:Env}{c:Cfg}{n:Option Nat}{a:Arg}{u:zA}(h:(loadFrom e.E c.l c.s (a.ev c.f) (cnt n)).bind (zA.ofCells n)=some u):qaJ e c (.load n a)=some (u,c):=by
 simp only[qaJ]
 simp only[zae] at h
 obtain⟨cs,hcs,hu⟩:=h
 rw[hcs,zaa,hu]
 rfl
theorem qve {loc nt:Nat}{e:Env}{F:FL}{L:LL}{h:HH}{c:Cfg}{o:Ins}{k:KO}{r:zA×ASt}(ag:AG nt F L h c)(hk:opK loc e F L h c.s o k=some r):
  ∃v c1 L1,qaJ e c o=some (v,c1)/\c1.f=c.f/\c1.h=c.h/\LA L1 c1.l/\k v L1 c1.s=some r/\KP (efI loc o) c c1:=by
 have pc:qdL o=true->(match o.o F with
  |some o=>(pu o).bind fun v=>k v L c.s
  |none=>none)=some r->∃v c1 L1,qaJ e c o=some (v,c1)/\c1.f=c.f/\c1.h=c.h/\LA L1 c1.l/\k v L1 c1.s=some r/\KP (efI loc o) c c1:=by
  intro hp hk
  split at hk<;>try (cases hk;done)
  rename_i i hi
  simp only[zae] at hk
  obtain⟨v,hv,hk⟩:=hk
  have h1:=qxd ag.f hp hi
  unfold pu at hv
  rw[h1] at hv
  refine⟨v,c,L,?_,rfl,rfl,ag.l,hk,KP.refl _ _⟩
  cases o<;>simp only[qdL,zai] at hp<;>simp only[qaJ,hv,zab]
 have st:qxe o=true->(match o.o F with
  |some o=>qac (stV e c.s o) fun v s=>k v L s
  |none=>none)=some r->(∀s',KP (efI loc o) c {c with s:=s'})->∃v c1 L1,qaJ e c o=some (v,c1)/\c1.f=c.f/\c1.h=c.h/\LA L1 c1.l/\k v L1 c1.s=some r/\KP (efI loc o) c c1:=by
  intro hp hk hkp
  split at hk<;>try (cases hk;done)
  rename_i i hi
  simp only[qac,zae] at hk
  obtain⟨⟨v,s'⟩,hv,hk⟩:=hk
  exact⟨v,{c with s:=s'},L,qsr ag.f rfl hp hi hv,rfl,rfl,ag.l,hk,hkp s'⟩
 have stk:∀s',(efI loc o).cs=true->KP (efI loc o) c {c with s:=s'}:=fun s' hs=>KP.same fun e=>by rw[hs] at e;cases e
 cases o
 case mov x=>
  simp only[opK,qbG] at hk
  split at hk<;>try (cases hk;done)
  rename_i v hv
  refine⟨v,c,L,?_,rfl,rfl,ag.l,hk,KP.refl _ _⟩
  simp only[qaJ,qaF,qkI ag.f hv,zab]
 case fa off x=>
  simp only[opK,qbG] at hk
  split at hk<;>try (cases hk;done)
  rename_i v hv
  unfold faK at hk
  split at hk<;>try (cases hk;done)
  all_goals (refine⟨_,c,L,?_,rfl,rfl,ag.l,hk,KP.refl _ _⟩;simp only[qaJ,qaF,qkI ag.f hv,zab])
 case nck x=>
  simp only[opK,qbG] at hk
  split at hk<;>try (cases hk;done)
  rename_i v hv
  unfold qll at hk
  split at hk<;>try (cases hk;done)
  all_goals (refine⟨_,c,L,?_,rfl,rfl,ag.l,hk,KP.refl _ _⟩;simp only[qaJ,qaF,qkI ag.f hv,zab])
 case alloc i zs=>
  simp only[opK,qbG] at hk
  split at hk<;>try (cases hk;done)
  rename_i p hp
  obtain⟨h1,h2⟩:=ag.l i p hp
  refine⟨_,{c with l:=c.l.set i (p.1+1,zs)},_,?_,rfl,rfl,LA.set ag.l h2 _,hk,KP.of rfl rfl (fun _=>Tr.has_set _ _ _ _) (fun j hj=>?_) (fun _ j hj=>?_) (fun _=>rfl)⟩
  ·simp only[qaJ,h1]
  ·rw[show({c with l:=c.l.set i (p.1+1,zs)}:Cfg).l=c.l.set i (p.1+1,zs) from rfl,Tr.get_set_ne _ _ _ _ _ (qcy hj)]
  ·rw[show({c with l:=c.l.set i (p.1+1,zs)}:Cfg).l=c.l.set i (p.1+1,zs) from rfl,Tr.get_set_ne _ _ _ _ _ (qcy hj)]
 case alloced i=>
  simp only[opK,qbG] at hk
  split at hk<;>try (cases hk;done)
  rename_i p hp
  obtain⟨h1,h2⟩:=ag.l i p hp
  refine⟨_,c,L,?_,rfl,rfl,ag.l,hk,KP.refl _ _⟩
  simp only[qaJ,h1]
 case box i n x=>
  simp only[opK,qbG] at hk
  split at hk<;>try (cases hk;done)
  rename_i v hv
  split at hk<;>try (cases hk;done)
  rename_i p hp
  simp only[zae] at hk
  obtain⟨cs,hcs,hk⟩:=hk
  obtain⟨h1,h2⟩:=ag.l i p hp
  refine⟨_,{c with l:=c.l.set i (p.1+1,cs)},_,?_,rfl,rfl,LA.set ag.l h2 _,hk,KP.of rfl rfl (fun _=>Tr.has_set _ _ _ _) (fun j hj=>?_) (fun _ j hj=>?_) (fun _=>rfl)⟩
  ·simp only[qaJ,h1,qkI ag.f hv,hcs,zaa]
  ·rw[show({c with l:=c.l.set i (p.1+1,cs)}:Cfg).l=c.l.set i (p.1+1,cs) from rfl,Tr.get_set_ne _ _ _ _ _ (qcy hj)]
  ·rw[show({c with l:=c.l.set i (p.1+1,cs)}:Cfg).l=c.l.set i (p.1+1,cs) from rfl,Tr.get_set_ne _ _ _ _ _ (qcy hj)]
 case halloc zs=>
  simp only[opK,qbG] at hk
  obtain⟨hz,hk⟩:=qat hk
  refine⟨_,{c with s:=qal c.s (.cells zs)},L,?_,rfl,rfl,ag.l,hk,stk _ rfl⟩
  simp only[qaJ,hz,cond_true]
 case halloced d=>
  simp only[opK,qbG] at hk
  split at hk<;>try (cases hk;done)
  rename_i l hl
  refine⟨_,c,L,?_,rfl,rfl,ag.l,hk,KP.refl _ _⟩
  simp only[qaJ,ag.h d l hl,zab]
 case hbox n x=>
  simp only[opK,qbG] at hk
  split at hk<;>try (cases hk;done)
  rename_i v hv
  simp only[zae] at hk
  obtain⟨cs,hcs,hk⟩:=hk
  obtain⟨hz,hk⟩:=qat hk
  refine⟨_,{c with s:=qal c.s (.cells cs)},L,?_,rfl,rfl,ag.l,hk,stk _ rfl⟩
  simp only[qaJ,qkI ag.f hv,hcs,zaa,hz,cond_true]
 case load n a=>
  simp only[opK,qbG] at hk
  split at hk<;>try (cases hk;done)
  rename_i v hv
  cases hl:qlA loc a with
  |true=>
   rw[hl] at hk
   simp only[cond_true] at hk
   split at hk<;>try (cases hk;done)
   rename_i i g off
   split at hk<;>try (cases hk;done)
   rename_i p hp
   obtain⟨hg,hk⟩:=qat hk
   simp only[zae] at hk
   obtain⟨u,hu,hk⟩:=hk
   obtain⟨h1,h2⟩:=ag.l i p hp
   refine⟨u,c,L,qpi ?_,rfl,rfl,ag.l,hk,KP.refl _ _⟩
   ·rw[qkI ag.f hv]
    simp only[loadFrom,h1,hg,cond_true]
    unfold ldL at hu
    cases n with
    |none=>
     simp only at hu
     split at hu<;>try (cases hu;done)
     rename_i w hw
     simp only[zac] at hu
     subst hu
     rw[show cut p.2 off (cnt none)=some [w] from hw]
     rfl
    |some m=>
     simp only at hu
     split at hu<;>try (cases hu;done)
     rename_i w hw
     simp only[zac] at hu
     subst hu
     rw[show cut p.2 off (cnt (some m))=some w from hw]
     rfl
  |false=>
   rw[hl] at hk
   simp only[cond_false,zae] at hk
   obtain⟨u,hu,hk⟩:=hk
   refine⟨u,c,L,qpi ?_,rfl,rfl,ag.l,hk,KP.refl _ _⟩
   ·rw[qkI ag.f hv]
    unfold ldH at hu
    split at hu<;>try (cases hu;done)
    ·rename_i l off
     split at hu<;>try (cases hu;done)
     rename_i cs hcs
     rw[show loadFrom e.E c.l c.s (.ptr l off) (cnt n)=some cs from hcs]
     exact hu
    ·rename_i l off
     split at hu<;>try (cases hu;done)
     rename_i cs hcs
     rw[show loadFrom e.E c.l c.s (.elem l off) (cnt n)=some cs from hcs]
     exact hu
 case store n a x=>
  simp only[opK,qbG] at hk
  split at hk<;>try (cases hk;done)
  rename_i v hv
  split at hk<;>try (cases hk;done)
  rename_i y hy
  simp only[zae] at hk
  obtain⟨cs,hcs,hk⟩:=hk
  cases hl:qlA loc a with
  |true=>
   rw[hl] at hk
   simp only[cond_true] at hk
   split at hk<;>try (cases hk;done)
   rename_i i g off
   split at hk<;>try (cases hk;done)
   rename_i p hp
   obtain⟨hg,hk⟩:=qat hk
   simp only[zae] at hk
   obtain⟨new,hnew,hk⟩:=hk
   obtain⟨h1,h2⟩:=ag.l i p hp
   have hgp:g=p.1:=beq_iff.1 hg
   refine⟨qaq,{c with l:=c.l.set i (p.1,new)},_,?_,rfl,rfl,LA.set ag.l h2 _,hk,KP.of rfl rfl (fun _=>Tr.has_set _ _ _ _) (fun j hj=>?_) (fun hst=>?_) (fun _=>rfl)⟩
   ·simp only[qaJ,qkI ag.f hv,qkI ag.f hy,hcs,zaa,qbP,h1,hg,cond_true,hnew,zab]
   ·rw[show({c with l:=c.l.set i (p.1,new)}:Cfg).l=c.l.set i (p.1,new) from rfl,Tr.get_set _ _ _ _ _ h2]
    split
    ·rename_i e;subst e;rw[h1]
    ·rfl
   ·simp only[efI,qqR,hl,cond_true,reduceCtorEq] at hst
  |false=>
   rw[hl] at hk
   simp only[cond_false,zae] at hk
   obtain⟨s',hs',hk⟩:=hk
   refine⟨qaq,{c with s:=s'},L,?_,rfl,rfl,ag.l,hk,stk _ (by simp only[efI,qqR,hl,cond_false])⟩
   have:qbP c v cs=some {c with s:=s'}:=by
    unfold stH at hs'
    split at hs'<;>try (cases hs';done)
    rename_i l o
    split at hs'<;>try (cases hs';done)
    rename_i c1 hc1
    simp only[zac] at hs'
    subst hs'
    simp only[qbP] at hc1⊢
    split at hc1<;>try (cases hc1;done)
    rename_i old hold
    obtain⟨ha,hc1⟩:=qat hc1
    simp only[ha,cond_true,zae,zad] at hc1⊢
    obtain⟨new,hn,hh,hset,rfl⟩:=hc1
    exact⟨new,hn,hh,hset,rfl⟩
   simp only[qaJ,qkI ag.f hv,qkI ag.f hy,hcs,zaa,this,zab]
 case ia sz x i=>
  simp only[opK,qbG] at hk
  split at hk<;>try (cases hk;done)
  rename_i v hv
  split at hk<;>try (cases hk;done)
  rename_i j hj
  simp only[qac,zae] at hk
  obtain⟨⟨cs,q⟩,hq,hk⟩:=hk
  refine⟨_,c,L,?_,rfl,rfl,ag.l,hk,KP.refl _ _⟩
  simp only[qaJ,qaF,qkI ag.f hv,qkI ag.f hj]
  unfold iaV at hq
  split at hq<;>try (cases hq;done)
  rename_i m hm
  split at hq<;>try (cases hq;done)
  rename_i row hrow
  obtain⟨hb,hq⟩:=qat hq
  simp only[zac,zaq] at hq
  obtain⟨rfl,rfl⟩:=hq
  simp only[hm,hrow,zaa,hb,cond_true,zab]
 case mksl=>exact st rfl hk fun s'=>stk s' rfl
 case call=>exact st rfl hk fun s'=>stk s' rfl
 case callv=>exact st rfl hk fun s'=>stk s' rfl
 case app=>exact st rfl hk fun s'=>stk s' rfl
 case mkmap=>exact st rfl hk fun s'=>stk s' rfl
 case insert=>exact st rfl hk fun s'=>stk s' rfl
 case look kd z ok m kk=>
  simp only[opK,qbG] at hk
  split at hk<;>try (cases hk;done)
  rename_i i hi
  simp only[qac,zae] at hk
  obtain⟨⟨v,s'⟩,hv,hk⟩:=hk
  have h1:=qsr ag.f rfl rfl hi hv
  refine⟨v,{c with s:=s'},L,h1,rfl,rfl,ag.l,hk,KP.same fun _=>?_⟩
  simp only[qaJ] at h1
  split at h1<;>try (cases h1;done)
  simp only[zae] at h1
  obtain⟨es,_,h1⟩:=h1
  obtain⟨_,h1⟩:=qat h1
  simp only[zad] at h1
  obtain⟨r,_,h1⟩:=h1
  cases r<;>simp only[zaq] at h1<;>rw[show s'=({c with s:=s'}:Cfg).s from rfl,<-h1.2]
 all_goals exact pc rfl hk
end Go.AI
namespace Go.AI
theorem put_s (c:Cfg)(d:Option Nat)(v:zA):(c.put d v).s=c.s:=by cases d<;>rfl
theorem put_l (c:Cfg)(d:Option Nat)(v:zA):(c.put d v).l=c.l:=by cases d<;>rfl
theorem put_h (c:Cfg)(d:Option Nat)(v:zA):(c.put d v).h=c.h:=by cases d<;>rfl
theorem qss {nt:Nat}{F F':FL}{L:LL}{h:HH}{c:Cfg}{d:Option Nat}{v:zA}(hp:qnV nt d v F=some F')(ag:AG nt F L h c):AG nt F' L h (c.put d v):=by
 cases d with
 |none=>
  simp only[qnV,zac] at hp
  subst hp
  exact ag
 |some t=>
  simp only[qnV,qbG] at hp
  obtain⟨ht,hp⟩:=qat hp
  simp only[zac] at hp
  subst hp
  have hh:=ag.hf t (blt_iff.1 ht)
  refine⟨fun u x hx=>?_,fun i p hi=>ag.l i p hi,fun d l hd=>ag.h d l hd,fun u hu=>?_⟩
  ·rw[qap] at hx
   show(c.f.set t v).get qaq u=x
   split at hx
   ·rename_i e
    simp only[zac] at hx
    subst e;subst hx
    exact Tr.get_set_eq _ _ _ _ hh
   ·rename_i e
    rw[Tr.get_set_ne _ _ _ _ _ e]
    exact ag.f u x hx
  ·show(c.f.set t v).has u=true
   rw[Tr.has_set]
   exact ag.hf u hu
theorem qst (c:Cfg)(d:Option Nat)(v:zA):KP ⟨qgq d,0,false,false⟩ c (c.put d v):=by
 cases d with
 |none=>exact KP.refl _ _
 |some t=>exact⟨fun u hu=>Tr.get_set_ne _ _ _ _ _ (qcy hu),fun _ _=>rfl,fun _ _ _=>rfl,fun _=>rfl,rfl,fun _=>Tr.has_set _ _ _ _,fun _=>rfl⟩
theorem AG.known {nt:Nat}{F:FL}{L:LL}{h:HH}{c:Cfg}{t:Nat}{v:zA}(ag:AG nt F L h c)(hv:qas F t=some v):AG nt ((t,v)::F) L h c:=by
 refine⟨fun u x hx=>?_,ag.l,ag.h,ag.hf⟩
 rw[qap] at hx
 split at hx
 ·rename_i e
  simp only[zac] at hx
  subst e;subst hx
  exact ag.f _ _ hv
 ·exact ag.f u x hx
theorem qxf {loc nt:Nat}{e:Env}{F:FL}{L:LL}{h:HH}{c:Cfg}{o:COp}{kk:FL->LL->ASt->Res}{r:zA×ASt}(ag:AG nt F L h c)
  (hk:opK loc e F L h c.s o.op (fun v L' s'=>match qnV nt o.dst v F with
   |some F=>kk F L' s'
   |none=>none)=some r):
  ∃c1 F' L',(qaJ e c o.op).map (fun(v,c)=>c.put o.dst v)=some c1/\AG nt F' L' h c1/\kk F' L' c1.s=some r/\KP (qqR loc o) c c1/\c1.h=c.h:=by
 obtain⟨v,c1,L1,h1,h2,h3,h4,h5,h6⟩:=qve ag hk
 split at h5<;>try (cases h5;done)
 rename_i F' hF
 have ag1:AG nt F L1 h c1:=⟨fun t v ht=>by rw[h2];exact ag.f t v ht,h4,fun d l hd=>by rw[h3];exact ag.h d l hd,fun t ht=>by rw[h2];exact ag.hf t ht⟩
 refine⟨c1.put o.dst v,F',L1,?_,qss hF ag1,by rw[put_s];exact h5,?_,by rw[put_h,h3]⟩
 ·rw[h1];rfl
 ·rw[qph]
  exact h6.left.trans (qst _ _ _).right
theorem qxg {loc nt:Nat}{F:FL}{L:LL}{h:HH}{c:Cfg}{o:COp}{kk:FL->Res}{r:zA×ASt}(ag:AG nt F L h c)
  (hk:(match qnV nt o.dst qaq F with
   |some F=>kk F
   |none=>none)=some r):∃F',AG nt F' L h (c.put o.dst qaq)/\kk F'=some r/\KP (qqR loc o) c (c.put o.dst qaq):=by
 split at hk<;>try (cases hk;done)
 rename_i F' hF
 refine⟨F',qss hF ag,hk,?_⟩
 rw[qph]
 exact(qst _ _ _).right
def TA (tr:TrL)(cs:List Cfg):Prop:=tr.length=cs.length/\∀(j:Nat) p c,tr[j]? =some p->cs[j]? =some c->LA p.1 c.l/\p.2=c.s
theorem TA.cons {tr:TrL}{cs:List Cfg}(h:TA tr cs){L:LL}{c:Cfg}(hL:LA L c.l):TA ((L,c.s)::tr) (c::cs):=by
 refine⟨by simp[h.1],fun j p d hp hd=>?_⟩
 cases j with
 |zero=>
  simp only[zas,zac] at hp hd
  subst hp;subst hd
  exact⟨hL,rfl⟩
 |succ j=>exact h.2 j p d (by simpa using hp) (by simpa using hd)
theorem qrq {U t:Nat}{d:Option Nat}(h:tb (qlE U d) t=true):tb U t=true/\d≠some t:=by
 cases d with
 |none=>exact⟨h,fun e=>by cases e⟩
 |some u=>
  simp only[qlE] at h
  have:tb (qgp U (bit u)) t=(tb U t&&!tb (bit u) t):=by
   rw[qha,qha,qha]
   unfold qgp
   show(U^^^(U&&&bit u)).testBit t=_
   rw[Nat.testBit_xor,Nat.testBit_and]
   cases U.testBit t<;>cases(bit u).testBit t<;>rfl
  rw[this,zag,za0,qmT] at h
  exact⟨h.1,fun e=>by cases e;simp at h⟩
theorem qpj (c:Cfg){d:Option Nat}{t:Nat}(h:d≠some t)(v:zA):(c.put d v).f.get qaq t=c.f.get qaq t:=by
 cases d with
 |none=>rfl
 |some u=>exact Tr.get_set_ne _ _ _ _ _ (fun e=>h (by rw[e]))
theorem qrr (c:Cfg)(t:Nat):(c.put (some t) qaq).f.get qaq t=qaq:=by
 cases h:c.f.has t with
 |true=>exact Tr.get_set_eq _ _ _ _ h
 |false=>
  show(c.f.set t qaq).get qaq t=qaq
  refine Classical.byContradiction fun h2=>?_
  have:=qeJ (t:=c.f.set t qaq) (i:=t) (d:=qaq) rfl h2
  rw[Tr.has_set,h] at this
  cases this
theorem qvf (loc:Nat)(o:COp):(qqR loc o).d=qgq o.dst:=by
 obtain⟨d,g,op⟩:=o
 cases op<;>simp only[qqR]
 case store n a x=>cases qlA loc a<;>rfl
theorem qfS {loc nt:Nat}{e:Env}:∀(ops:List COp) {U:Nat} {F:FL} {L:LL} {h:HH} {c:Cfg} {k:FL->LL->ASt->TrL->Res} {r:zA×ASt},AG nt F L h c->(∀t,tb U t=true->c.f.get qaq t=qaq)->qlF loc nt e ops U F L h c.s k=some r->
  ∃cN tr F1 L1 trl,qfm e ops c=some cN/\qcl e ops c=some tr/\qcP c tr=cN/\(∀d,qcP d tr=cN)/\AG nt F1 L1 h cN/\k F1 L1 cN.s trl=some r/\KP (qkD loc ops) c cN/\cN.h=c.h/\TA trl tr
 |[],U,F,L,h,c,k,r,ag,hU,hk=>by
  simp only[qlF] at hk
  refine⟨c,[c],F,L,[(L,c.s)],rfl,rfl,rfl,fun _=>rfl,ag,hk,KP.refl _ _,rfl,rfl,fun j p d hp hd=>?_⟩
  cases j with
  |zero=>
   simp only[zas,zac] at hp hd
   subst hp;subst hd
   exact⟨ag.l,rfl⟩
  |succ j=>simp at hp
 |o::rr,U,F,L,h,c,k,r,ag,hU,hk=>by
  have go:∀{F:FL},AG nt F L h c->opK loc e F L h c.s o.op (fun v L' s'=>match qnV nt o.dst v F with
     |some F=>qlF loc nt e rr (qlE U o.dst) F L' h s' fun F1 L1 s1 tr=>k F1 L1 s1 ((L,c.s)::tr)
     |none=>none)=some r->wanted c.f o.guard=some true->
    ∃cN tr F1 L1 trl,qfm e (o::rr) c=some cN/\qcl e (o::rr) c=some tr/\qcP c tr=cN/\(∀d,qcP d tr=cN)/\AG nt F1 L1 h cN/\k F1 L1 cN.s trl=some r/\KP (qkD loc (o::rr)) c cN/\cN.h=c.h/\TA trl tr:=by
   intro F ag hk hw
   obtain⟨c1,F',L',h1,h2,h3,h4,h5⟩:=qxf ag hk
   have hU':∀t,tb (qlE U o.dst) t=true->c1.f.get qaq t=qaq:=by
    intro t ht
    obtain⟨k1,k2⟩:=qrq ht
    rw[h4.f t]
    ·exact hU t k1
    ·rw[qvf]
     cases hd:o.dst with
     |none=>exact qfR t
     |some u=>
      show tb (bit u) t=false
      rw[qmT]
      exact decide_eq_false fun e=>k2 (by rw[hd,e])
   obtain⟨cN,tr,F1,L1,trl,k1,k2,k3,k3',k4,k5,k6,k7,k8⟩:=qfS rr h2 hU' h3
   have hop:qlk e c o=some c1:=by
    unfold qlk
    rw[hw,zaa,cond_true]
    exact h1
   refine⟨cN,c::tr,F1,L1,(L,c.s)::trl,?_,?_,?_,?_,k4,k5,?_,k7.trans h5,k8.cons ag.l⟩
   ·rw[qfm,hop,zaa,k1]
   ·rw[qcl,hop,zaa,k2];rfl
   ·exact k3' c
   ·intro d;exact k3' c
   ·exact h4.left.trans k6.right
  have skip:∀{F:FL},AG nt F L h c->(match qnV nt o.dst qaq F with
     |some F=>qlF loc nt e rr (zbm U (qgq o.dst)) F L h c.s fun F1 L1 s1 tr=>k F1 L1 s1 ((L,c.s)::tr)
     |none=>none)=some r->wanted c.f o.guard=some false->
    ∃cN tr F1 L1 trl,qfm e (o::rr) c=some cN/\qcl e (o::rr) c=some tr/\qcP c tr=cN/\(∀d,qcP d tr=cN)/\AG nt F1 L1 h cN/\k F1 L1 cN.s trl=some r/\KP (qkD loc (o::rr)) c cN/\cN.h=c.h/\TA trl tr:=by
   intro F ag hk hw
   obtain⟨F',h2,h3,h4⟩:=qxg (loc:=loc) ag hk
   rw[<-put_s c o.dst qaq] at h3
   have hU':∀t,tb (zbm U (qgq o.dst)) t=true->(c.put o.dst qaq).f.get qaq t=qaq:=by
    intro t ht
    by_cases e:o.dst=some t
    ·rw[e];exact qrr c t
    ·rw[qpj _ e]
     rw[qkH,za5] at ht
     rcases ht with ht|ht
     ·exact hU t ht
     ·cases hd:o.dst with
      |none=>rw[hd] at ht;simp only[qgq,qfR] at ht;cases ht
      |some u=>
       rw[hd] at ht
       simp only[qgq,qmT,decide_eq_true_eq] at ht
       exact absurd (by rw[hd,ht]) e
   obtain⟨cN,tr,F1,L1,trl,k1,k2,k3,k3',k4,k5,k6,k7,k8⟩:=qfS rr h2 hU' h3
   have hop:qlk e c o=some (c.put o.dst qaq):=by
    unfold qlk
    rw[hw,zaa,cond_false]
   refine⟨cN,c::tr,F1,L1,(L,c.s)::trl,?_,?_,?_,?_,k4,by rw[put_s] at k5;exact k5,?_,k7.trans (put_h _ _ _),k8.cons ag.l⟩
   ·rw[qfm,hop,zaa,k1]
   ·rw[qcl,hop,zaa,k2];rfl
   ·exact k3' c
   ·intro d;exact k3' c
   ·exact h4.left.trans k6.right
  rw[qlF] at hk
  cases hg:o.guard with
  |none=>
   rw[hg] at hk
   exact go ag hk (by rw[hg];rfl)
  |some g=>
   obtain⟨t,b⟩:=g
   rw[hg] at hk
   simp only[qbG] at hk
   cases hu:tb U t with
   |true=>
    rw[hu] at hk
    simp only[cond_true] at hk
    refine skip ag hk ?_
    rw[hg]
    simp only[wanted,hU t hu]
    rfl
   |false=>
   rw[hu] at hk
   simp only[cond_false] at hk
   split at hk<;>try (cases hk;done)
   rename_i gv hgv
   unfold qae at hk
   split at hk<;>try (cases hk;done)
   rename_i x
   have hx:c.f.get qaq t=.p (.bool x):=ag.f t _ hgv
   have hw:wanted c.f o.guard=some (cond x b (!b)):=by
    rw[hg]
    simp only[wanted,hx]
   have ag':=ag.known hgv
   cases x with
   |true=>
    simp only[cond_true] at hk hw
    cases b with
    |true=>exact go ag' hk hw
    |false=>exact skip ag' hk hw
   |false=>
    simp only[cond_false] at hk hw
    cases b with
    |true=>exact skip ag' hk hw
    |false=>exact go ag' hk hw
end Go.AI
namespace Go.AI
theorem qbA {α T:Type}(z:α):∀(k:Nat) (g:List α->T) (l:List α),l.length=k->qgr z k (qor k g) l=g l
 |0,g,l,h=>by
  have:l=[]:=za1.1 h
  subst this;rfl
 |k+1,g,[],h=>by cases h
 |k+1,g,v::l,h=>by
  show qgr z k (qor k fun l=>g (v::l)) l=g (v::l)
  exact qbA z k _ l (by simpa using h)
theorem qrs (a b i:Nat):tb (qgp a b) i=(tb a i&&!tb b i):=by
 rw[qha,qha,qha]
 unfold qgp
 show(a^^^(a&&&b)).testBit i=_
 rw[Nat.testBit_xor,Nat.testBit_and]
 cases a.testBit i<;>cases b.testBit i<;>rfl
theorem qlI {F1 F0:FL}:∀{vs:List Nat} {xs:List zA},qlB F1 vs=some xs->xs.length=vs.length/\∀t v,qas (qsn vs xs F0) t=some v->qas F1 t=some v\/qas F0 t=some v
 |[],xs,h=>by
  simp only[qlB,zac] at h
  subst h
  exact⟨rfl,fun t v h=> .inr h⟩
 |u::r,xs,h=>by
  simp only[qlB] at h
  split at h<;>try (cases h;done)
  rename_i x hx
  split at h<;>try (cases h;done)
  rename_i l hl
  simp only[zac] at h
  subst h
  obtain⟨h1,h2⟩:=qlI (F0:=F0) hl
  refine⟨by simp[h1],fun t v hv=>?_⟩
  simp only[qsn] at hv
  rw[qap] at hv
  split at hv
  ·rename_i e
   simp only[zac] at hv
   subst e;subst hv
   exact .inl hx
  ·exact h2 t v hv
theorem qlJ {L1:LL}:∀{gl gs:List Nat},qkE L1 gl=some gs->gs.length=gl.length/\∀i g,qas (qso gl gs) i=some g->∃p,qas L1 i=some p/\p.1=g
 |[],gs,h=>by
  simp only[qkE,zac] at h
  subst h
  exact⟨rfl,fun i g h=>by cases h⟩
 |u::r,gs,h=>by
  simp only[qkE] at h
  split at h<;>try (cases h;done)
  rename_i x hx
  split at h<;>try (cases h;done)
  rename_i l hl
  simp only[zac] at h
  subst h
  obtain⟨h1,h2⟩:=qlJ hl
  refine⟨by simp[h1],fun i g hv=>?_⟩
  simp only[qso] at hv
  rw[qap] at hv
  split at hv
  ·rename_i e
   simp only[zac] at hv
   subst e
   exact⟨x,hx,hv⟩
  ·exact h2 i g hv
theorem qlK {L L1:LL}{al:Nat}{gm:List (Nat×Nat)}:∀{cl:List Nat} {cs:List (List zA)},qkF L1 cl=some cs->cs.length=cl.length/\
  ∀i p,qas (qpe L al gm cl cs) i=some p->(∃q,qas L1 i=some q/\p.2=q.2)/\((tb al i=true/\qas gm i=some p.1)\/(tb al i=false/\∃q,qas L i=some q/\q.1=p.1))
 |[],cs,h=>by
  simp only[qkF,zac] at h
  subst h
  exact⟨rfl,fun i p h=>by cases h⟩
 |u::r,cs,h=>by
  simp only[qkF] at h
  split at h<;>try (cases h;done)
  rename_i x hx
  split at h<;>try (cases h;done)
  rename_i l hl
  simp only[zac] at h
  subst h
  obtain⟨h1,h2⟩:=qlK (L:=L) (al:=al) (gm:=gm) hl
  refine⟨by simp[h1],fun i p hv=>?_⟩
  simp only[qpe] at hv
  cases hb:tb al u with
  |true=>
   rw[hb] at hv
   simp only[cond_true] at hv
   split at hv
   ·rename_i g hg
    rw[qap] at hv
    split at hv
    ·rename_i e
     simp only[zac] at hv
     subst e;subst hv
     exact⟨⟨x,hx,rfl⟩,.inl ⟨hb,hg⟩⟩
    ·exact h2 i p hv
   ·exact h2 i p hv
  |false=>
   rw[hb] at hv
   simp only[cond_false] at hv
   split at hv
   ·rename_i q hq
    rw[qap] at hv
    split at hv
    ·rename_i e
     simp only[zac] at hv
     subst e;subst hv
     exact⟨⟨x,hx,rfl⟩,.inr ⟨hb,q,hq,rfl⟩⟩
    ·exact h2 i p hv
   ·exact h2 i p hv
theorem qgB {m:Nat}{F:FL}:∀{ts:List Nat} {t:Nat} {v:zA},qas (qhW m F ts) t=some v->tb m t=true/\qas F t=some v
 |[],t,v,h=>by cases h
 |u::r,t,v,h=>by
  simp only[qhW] at h
  split at h
  ·rename_i x hx
   cases hb:tb m u with
   |true=>
    rw[hb] at h
    simp only[cond_true] at h
    rw[qap] at h
    split at h
    ·rename_i e
     simp only[zac] at h
     subst e;subst h
     exact⟨hb,hx⟩
    ·exact qgB h
   |false=>
    rw[hb] at h
    exact qgB h
  ·exact qgB h
theorem qjb {al:Nat}:∀{L:LL} {i:Nat} {p:Nat×List zA},qas (qja al L) i=some p->tb al i=false/\qas L i=some p
 |[],i,p,h=>by cases h
 |(j,q)::r,i,p,h=>by
  simp only[qja] at h
  cases hb:tb al j with
  |true=>
   rw[hb] at h
   simp only[cond_true] at h
   obtain⟨h1,h2⟩:=qjb h
   refine⟨h1,?_⟩
   rw[qap,if_neg (fun e=>by subst e;rw[hb] at h1;cases h1)]
   exact h2
  |false=>
   rw[hb] at h
   simp only[cond_false] at h
   rw[qap] at h⊢
   split at h
   ·rename_i e
    subst e
    rw[if_pos rfl]
    exact⟨hb,h⟩
   ·rename_i e
    rw[if_neg e]
    exact qjb h
theorem qkL {α:Type}:∀{l m:List (Nat×α)} {n:Nat} {v:α},qas (l++m) n=some v->qas l n=some v\/qas m n=some v
 |[],m,n,v,h=> .inr h
 |(k,x)::r,m,n,v,h=>by
  rw[zaF,qap] at h
  rw[qap]
  split at h
  ·rename_i e
   rw[if_pos e]
   exact .inl h
  ·rename_i e
   rw[if_neg e]
   exact qkL h
theorem qlL {nt:Nat}{ef:Ef}{lv:Nat}{F F1:FL}{L L1:LL}{h h1:HH}{c c1:Cfg}{vs ts gl cl:List Nat}{xs:List zA}{gs:List Nat}{cs:List (List zA)}(ag:AG nt F L h c)(ag1:AG nt F1 L1 h1 c1)(kp:KP ef c c1)
  (hx:qlB F1 vs=some xs)(hg:qkE L1 gl=some gs)(hc:qkF L1 cl=some cs):
  AG nt (qsn vs xs (qhW (qgp lv ef.d) F ts)) (qpe L ef.al (qso gl gs) cl cs++cond ef.st [] (qja ef.al L)) [] c1:=by
 refine⟨fun t v hv=>?_,fun i p hp=>?_,fun d l hd=>(by cases hd),ag1.hf⟩
 ·rcases(qlI hx).2 t v hv with h|h
  ·exact ag1.f t v h
  ·obtain⟨h2,h3⟩:=qgB h
   rw[qrs,zag,za0] at h2
   rw[kp.f t h2.2]
   exact ag.f t v h3
 ·rcases qkL hp with h|h
  ·obtain⟨⟨q,hq,e⟩,h2⟩:=(qlK hc).2 i p h
   obtain⟨h3,h4⟩:=ag1.l i q hq
   refine⟨?_,h4⟩
   have:p.1=q.1:=by
    rcases h2 with⟨_,h2⟩|⟨h2,q',hq',e'⟩
    ·obtain⟨p',hp',e'⟩:=(qlJ hg).2 i _ h2
     rw[hq] at hp'
     cases hp'
     exact e'.symm
    ·rw[<-e',<-h3,kp.g i h2,(ag.l i q' hq').1]
   rw[h3]
   exact Prod.ext this.symm e.symm
  ·cases hs:ef.st with
   |true=>rw[hs] at h;cases h
   |false=>
    rw[hs] at h
    simp only[cond_false] at h
    obtain⟨h2,h3⟩:=qjb h
    obtain⟨h4,h5⟩:=ag.l i p h3
    exact⟨by rw[kp.l hs i h2,h4],by rw[kp.hl];exact h5⟩
theorem qhb {ef:Ef}{c c1:Cfg}(kp:KP ef c c1){T:Type}(g:ASt->T):qsm ef.cs (qww c.s ef.cs g) c1.s=g c1.s:=by
 cases h:ef.cs with
 |true=>rfl
 |false=>
  show g c.s=g c1.s
  rw[kp.s h]
theorem qeK {nt nl:Nat}{ef:Ef}{lv:Nat}{F:FL}{L:LL}{h:HH}{c:Cfg}{kn:KN}{body:KN->Res}{r:zA×ASt}(ag:AG nt F L h c)(hk:qnW nt nl ef lv F L c.s kn body=some r):
  ∃j:KN,body j=some r/\∀{F1:FL} {L1:LL} {h1:HH} {c1:Cfg} {r':zA×ASt},AG nt F1 L1 h1 c1->KP ef c c1->j F1 L1 h1 c1.s=some r'->∃F2 L2,AG nt F2 L2 [] c1/\kn F2 L2 [] c1.s=some r':=by
 unfold qnW at hk
 simp only[jn] at hk
 refine⟨_,hk,?_⟩
 intro F1 L1 h1 c1 r' ag1 kp hj
 split at hj<;>try (cases hj;done)
 rename_i xs hx
 split at hj<;>try (cases hj;done)
 rename_i gs hg
 split at hj<;>try (cases hj;done)
 rename_i cs hc
 rw[qbA _ _ _ _ (qlI (F0:=[]) hx).1,qbA _ _ _ _ (qlJ hg).1,qbA _ _ _ _ (qlK (L:=[]) (al:=0) (gm:=[]) hc).1,qhb kp] at hj
 exact⟨_,_,qlL ag ag1 kp hx hg hc,hj⟩
end Go.AI
namespace Go.AI
theorem qiu {tr:TrL}{cs:List Cfg}(h:TA tr cs){j:Nat}{p:LL×ASt}(hp:qeP tr j=some p):∃c,qeP cs j=some c/\LA p.1 c.l/\p.2=c.s:=by
 rw[qe4] at hp
 have hj:j<tr.length:=by
  rcases zbi j tr.length with h|h
  ·exact h
  ·rw[List.getElem?_eq_none h] at hp;cases hp
 obtain⟨c,hc⟩:∃c,cs[j]? =some c:=⟨cs[j]'(by rw[<-h.1];exact hj),zah _⟩
 obtain⟨h1,h2⟩:=h.2 j p c hp hc
 exact⟨c,by rw[qe4,hc],h1,h2⟩
theorem qmU {e:Env}{L:LL}{c:Cfg}(hL:LA L c.l){a:zA}{n:Nat}{cs:List zA}(h:qlG e L c.s a n=some cs):loadFrom e.E c.l c.s a n=some cs:=by
 unfold qlG at h
 split at h
 ·rename_i i g off
  split at h<;>try (cases h;done)
  rename_i p hp
  obtain⟨h1,_⟩:=hL i p hp
  simp only[loadFrom,h1]
  exact h
 ·exact h
 ·cases h
theorem qsu {e:Env}{tr:TrL}{cs:List Cfg}(h:TA tr cs){a:zA}{n:Nat}{b:Bool}{j:Nat}(hk:okJ e tr a n b j=true):b=true\/∃c c',qeP cs j=some c/\qeP cs (j+1)=some c'/\qaT (loadFrom e.E c.l c.s a n) (loadFrom e.E c'.l c'.s a n)=true:=by
 unfold okJ at hk
 rw[za5] at hk
 rcases hk with hk|hk
 ·exact .inl hk
 ·right
  split at hk<;>try (cases hk;done)
  rename_i p hp
  split at hk<;>try (cases hk;done)
  rename_i p' hp'
  obtain⟨c,hc,hl,hs⟩:=qiu h hp
  obtain⟨c',hc',hl',hs'⟩:=qiu h hp'
  refine⟨c,c',hc,hc',?_⟩
  rw[hs,hs'] at hk
  cases h1:qlG e p.1 c.s a n with
  |none=>rw[h1] at hk;cases hk
  |some xs=>
   cases h2:qlG e p'.1 c'.s a n with
   |none=>rw[h1,h2] at hk;cases hk
   |some ys=>
    rw[h1,h2] at hk
    rw[qmU hl h1,qmU hl' h2]
    exact hk
theorem qvg {e:Env}{nt:Nat}{tr:TrL}{cs:List Cfg}(h:TA tr cs){F:FL}{L:LL}{hh:HH}{c:Cfg}(ag:AG nt F L hh c){k:Chk}(hk:okC e tr F k=true):qhO e cs c k=true:=by
 unfold okC at hk
 split at hk<;>try (cases hk;done)
 rename_i a ha
 unfold qhO
 rw[qkI ag.f ha]
 unfold okV at hk
 split at hk
 ·simp only[zaN] at hk⊢
  intro ⟨j,kd⟩ hj
  rcases qsu h (hk ⟨j,kd⟩ hj) with h1|⟨c1,c2,h1,h2,h3⟩
  ·simp only at h1
   simp only[h1,zbl]
  ·simp only at h1 h2
   simp only[h1,h2,h3,Bool.or_true]
 ·simp only[zaN] at hk⊢
  intro ⟨j,kd⟩ hj
  rcases qsu h (hk ⟨j,kd⟩ hj) with h1|⟨c1,c2,h1,h2,h3⟩
  ·simp only at h1
   simp only[h1,zbl]
  ·simp only at h1 h2
   simp only[h1,h2,h3,Bool.or_true]
 ·rfl
 ·rfl
 ·cases hk
theorem qpk {al:Nat}:∀{pre:List (Nat×List zA)} {L L0:LL} {l:Tr (Nat×List zA)},quH pre L=some L0->LA L l->
  LA L0 (preL l pre)/\(∀i,(preL l pre).has i=l.has i)/\∀i,tb (qsl pre) i=false->(preL l pre).get (0,[]) i=l.get (0,[]) i
 |[],L,L0,l,h,hl=>by
  simp only[quH,zac] at h
  subst h
  exact⟨hl,fun _=>rfl,fun _ _=>rfl⟩
 |(i,zs)::r,L,L0,l,h,hl=>by
  simp only[quH] at h
  split at h<;>try (cases h;done)
  rename_i p hp
  obtain⟨h1,h2⟩:=hl i p hp
  have hl':=LA.set hl h2 (p.1+1,zs)
  obtain⟨k1,k2,k3⟩:=qpk (al:=al) h hl'
  have e:preL l ((i,zs)::r)=preL (l.set i (p.1+1,zs)) r:=by
   simp only[preL,h1]
  rw[e]
  refine⟨k1,fun j=>by rw[k2,Tr.has_set],fun j hj=>?_⟩
  simp only[qsl,List.foldr_cons] at hj
  obtain⟨h3,h4⟩:=qlH hj
  rw[k3 j h4,Tr.get_set_ne _ _ _ _ _ (qcy h3)]
theorem KP.sub {a b:Ef}{c c':Cfg}(h:KP a c c')(h1:∀t,tb b.d t=false->tb a.d t=false)(h2:∀t,tb b.al t=false->tb a.al t=false)(h3:b.st=false->a.st=false)(h4:b.cs=false->a.cs=false):KP b c c':=
 ⟨fun t ht=>h.f t (h1 t ht),fun i hi=>h.g i (h2 i hi),fun hs i hi=>h.l (h3 hs) i (h2 i hi),fun hs=>h.s (h4 hs),h.rd,h.hf,h.hl⟩
theorem qvh {nt:Nat}{pre hpre:List (Nat×List zA)}{F:FL}{L L0:LL}{h:HH}{c:Cfg}{s0:ASt}{h0:HH}(ag:AG nt F L h c)(hp:quH pre L=some L0)(hh:preH c.s hpre=(s0,h0)):
  AG nt F L0 h0 {c with l:=preL c.l pre,h:=h0,s:=s0}/\KP ⟨0,qsl pre,false,!hpre.isEmpty⟩ c {c with l:=preL c.l pre,h:=h0,s:=s0}:=by
 obtain⟨h1,h2,h3⟩:=qpk (al:=0) hp ag.l
 refine⟨⟨ag.f,h1,fun _ _ h=>h,ag.hf⟩,⟨fun _ _=>rfl,fun i hi=>by rw[show({c with l:=preL c.l pre,h:=h0,s:=s0}:Cfg).l=preL c.l pre from rfl,h3 i hi],fun _ i hi=>h3 i hi,fun hs=>?_,rfl,fun _=>rfl,h2⟩⟩
 simp only[Bool.not_eq_false',List.isEmpty_iff] at hs
 subst hs
 simp only[preH,zaq] at hh
 exact hh.1.symm
theorem qmV {e:Env}{n:Nat}{a:CC}{nt:Nat}{ef:Ef}{k:KC}{r:zA×ASt}{T:Type}{base:Cfg}{z:T}{f:T->T}{enter:T->Cfg->Res}
  (hz:∀c r',enter z c≠some r')
  (hf:∀ih c,KP ef base c->enter (f ih) c=some r->∃x c',qbs e n a c=some (x,c')/\KP ef base c'/\((x=.normal/\enter ih c'=some r)\/(x≠.normal/\∃F L h,AG nt F L h c'/\k x F L h c'.s=some r))):
  ∀m c,KP ef base c->enter (lp z f m) c=some r->∃x c',qfK m (qbs e n a) c=some (x,c')/\KP ef base c'/\x≠.normal/\∃F L h,AG nt F L h c'/\k x F L h c'.s=some r
 |0,c,_,h=>absurd h (hz c r)
 |m+1,c,kp,h=>by
  obtain⟨x,c',h1,h2,h3⟩:=hf (lp z f m) c kp h
  have e1:qfK (m+1) (qbs e n a) c=(qbs e n a c).bind fun r=>match r with
   |(.normal,c)=>qfK m (qbs e n a) c
   |r=>some r:=rfl
  rw[e1,h1]
  rcases h3 with⟨rfl,h4⟩|⟨hx,h4⟩
  ·exact qmV hz hf m c' h2 h4
  ·cases x with
   |normal=>exact absurd rfl hx
   |exit i=>exact⟨.exit i,c',rfl,h2,hx,h4⟩
   |ret=>exact⟨.ret,c',rfl,h2,hx,h4⟩
theorem qjc {F:FL}{g:Nat->zA}(hF:∀t v,qas F t=some v->g t=v):∀{vs:List Nat} {xs:List zA},qlB F vs=some xs->xs=vs.map g
 |[],xs,h=>by
  simp only[qlB,zac] at h
  subst h;rfl
 |u::r,xs,h=>by
  simp only[qlB] at h
  split at h<;>try (cases h;done)
  rename_i x hx
  split at h<;>try (cases h;done)
  rename_i l hl
  simp only[zac] at h
  subst h
  rw[qjc hF hl,zam,hF u x hx]
theorem qjd {L:LL}{g:Nat->Nat×List zA}(hL:∀t v,qas L t=some v->g t=v):∀{vs:List Nat} {xs:List Nat},qkE L vs=some xs->xs=vs.map fun i=>(g i).1
 |[],xs,h=>by
  simp only[qkE,zac] at h
  subst h;rfl
 |u::r,xs,h=>by
  simp only[qkE] at h
  split at h<;>try (cases h;done)
  rename_i x hx
  split at h<;>try (cases h;done)
  rename_i l hl
  simp only[zac] at h
  subst h
  rw[qjd hL hl,zam,hL u x hx]
theorem qje {L:LL}{g:Nat->Nat×List zA}(hL:∀t v,qas L t=some v->g t=v):∀{vs:List Nat} {xs:List (List zA)},qkF L vs=some xs->xs=vs.map fun i=>(g i).2
 |[],xs,h=>by
  simp only[qkF,zac] at h
  subst h;rfl
 |u::r,xs,h=>by
  simp only[qkF] at h
  split at h<;>try (cases h;done)
  rename_i x hx
  split at h<;>try (cases h;done)
  rename_i l hl
  simp only[zac] at h
  subst h
  rw[qje hL hl,zam,hL u x hx]
theorem qjf {L:LL}:∀{vs:List Nat} {xs:List Nat},qkE L vs=some xs->∀t∈vs,∃v,qas L t=some v
 |[],_,_,t,ht=>by cases ht
 |u::r,xs,h,t,ht=>by
  simp only[qkE] at h
  split at h<;>try (cases h;done)
  rename_i x hx
  split at h<;>try (cases h;done)
  rename_i l hl
  rcases zaA.1 ht with rfl|ht
  ·exact⟨x,hx⟩
  ·exact qjf hl t ht
theorem qjg {L:LL}:∀{vs:List Nat} {xs:List (List zA)},qkF L vs=some xs->∀t∈vs,∃v,qas L t=some v
 |[],_,_,t,ht=>by cases ht
 |u::r,xs,h,t,ht=>by
  simp only[qkF] at h
  split at h<;>try (cases h;done)
  rename_i x hx
  split at h<;>try (cases h;done)
  rename_i l hl
  rcases zaA.1 ht with rfl|ht
  ·exact⟨x,hx⟩
  ·exact qjg hl t ht
theorem qd3 {α:Type}(g:Nat->α):∀{us:List Nat} {t:Nat},t∈us->qas (us.map fun t=>(t,g t)) t=some (g t)
 |[],t,h=>by cases h
 |u::r,t,h=>by
  rw[zam,qap]
  split
  ·rename_i e;subst e;rfl
  ·rename_i e
   rcases zaA.1 h with h|h
   ·exact absurd h.symm e
   ·exact qd3 g h
theorem qdH {α:Type}(g:Nat->α):∀{us:List Nat} {t:Nat} {v:α},qas (us.map fun t=>(t,g t)) t=some v->g t=v
 |[],t,v,h=>by cases h
 |u::r,t,v,h=>by
  rw[zam,qap] at h
  split at h
  ·rename_i e
   simp only[zac] at h
   subst e;exact h
  ·exact qdH g h
theorem qjh {F:FL}{g:Nat->zA}:∀{us:List Nat},(∀t∈us,qas F t=some (g t))->qlB F us=some (us.map g)
 |[],_=>rfl
 |u::r,h=>by
  simp only[qlB,h u (zau ..),qjh fun t ht=>h t (zax _ ht),zam]
theorem qji {L:LL}{g:Nat->Nat×List zA}:∀{us:List Nat},(∀t∈us,qas L t=some (g t))->qkE L us=some (us.map fun i=>(g i).1)
 |[],_=>rfl
 |u::r,h=>by
  simp only[qkE,h u (zau ..),qji fun t ht=>h t (zax _ ht),zam]
theorem qjj {L:LL}{g:Nat->Nat×List zA}:∀{us:List Nat},(∀t∈us,qas L t=some (g t))->qkF L us=some (us.map fun i=>(g i).2)
 |[],_=>rfl
 |u::r,h=>by
  simp only[qkF,h u (zau ..),qjj fun t ht=>h t (zax _ ht),zam]
theorem qdq (g:Nat->Nat×List zA):∀{L:LL} {t:Nat} {p:Nat×List zA},qas L t=some p->qas (L.map fun p=>(p.1,g p.1)) t=some (g t)
 |[],t,p,h=>by cases h
 |(u,q)::r,t,p,h=>by
  rw[qap] at h
  rw[zam,qap]
  split at h
  ·rename_i e
   simp only
   rw[if_pos e,e]
  ·rename_i e
   rw[if_neg e]
   exact qdq g h
theorem qfb (g:Nat->Nat×List zA):∀{L:LL} {t:Nat} {q:Nat×List zA},qas (L.map fun p=>(p.1,g p.1)) t=some q->(∃p,qas L t=some p)/\q=g t
 |[],t,q,h=>by cases h
 |(u,p)::r,t,q,h=>by
  rw[zam,qap] at h
  rw[qap]
  split at h
  ·rename_i e
   simp only[zac] at h
   simp only at e
   subst e
   exact⟨⟨p,by rw[if_pos rfl]⟩,h.symm⟩
  ·rename_i e
   rw[if_neg e]
   exact qfb g h
theorem qrt {nt nl n:Nat}{ef:Ef}{lv:Nat}{F:FL}{L:LL}{h:HH}{c:Cfg}{body:FL->LL->ASt->KN->Res}{r:zA×ASt}{e:Env}{a:CC}{k:KC}(ag:AG nt F L h c)(hk:qpf nt nl n ef lv F L c.s body=some r)
  (hb:∀{F1 L1 c1} {j:KN},AG nt F1 L1 [] c1->KP ef c c1->body F1 L1 c1.s j=some r->∃x c' F2 L2 h2,qbs e n a c1=some (x,c')/\KP ef c1 c'/\AG nt F2 L2 h2 c'/\((x=.normal/\j F2 L2 h2 c'.s=some r)\/(x≠.normal/\k x F2 L2 h2 c'.s=some r))):
  ∃x c',qfK n (qbs e n a) c=some (x,c')/\KP ef c c'/\x≠.normal/\∃F2 L2 h2,AG nt F2 L2 h2 c'/\k x F2 L2 h2 c'.s=some r:=by
 unfold qpf at hk
 simp only at hk
 generalize hvs:qbk (Nat.land lv ef.d) 0 nt=vs at hk
 generalize hgl:qbk ef.al 0 nl=gl at hk
 generalize hcl:cond ef.st (qbk (qsl (L.map fun x=>(x.1,[]))) 0 nl) gl=cl at hk
 generalize hF0:qhW (qgp lv ef.d) F (qbk lv 0 nt)=F0 at hk
 split at hk<;>try (cases hk;done)
 rename_i xs hx
 split at hk<;>try (cases hk;done)
 rename_i gs hg
 split at hk<;>try (cases hk;done)
 rename_i cs hc
 let enter:Fn zA vs.length (Fn Nat gl.length (Fn (List zA) cl.length (FnS ef.cs Res)))->Cfg->Res:=fun f c1=>
  match (vs.map fun t=>c1.f.get qaq t,gl.map fun i=>(c1.l.get (0,[]) i).1,cl.map fun i=>(c1.l.get (0,[]) i).2) with
  |(xs,gs,cs)=>qsm ef.cs (qgr [] cl.length (qgr 0 gl.length (qgr qaq vs.length f xs) gs) cs) c1.s
 have same:∀{F1 L1 h1 c1 xs gs cs},AG nt F1 L1 h1 c1->qlB F1 vs=some xs->qkE L1 gl=some gs->qkF L1 cl=some cs->∀f,qsm ef.cs (qgr [] cl.length (qgr 0 gl.length (qgr qaq vs.length f xs) gs) cs) c1.s=enter f c1:=by
  intro F1 L1 h1 c1 xs gs cs ag1 h1 h2 h3 f
  have e1:=qjc (g:=fun t=>c1.f.get qaq t) ag1.f h1
  have e2:=qjd (g:=fun i=>c1.l.get (0,[]) i) (fun i p hi=>(ag1.l i p hi).1) h2
  have e3:=qje (g:=fun i=>c1.l.get (0,[]) i) (fun i p hi=>(ag1.l i p hi).1) h3
  subst e1;subst e2;subst e3
  rfl
 rw[same ag hx hg hc] at hk
 have head:∀{c1},KP ef c c1->∃xs' gs' cs',xs'=vs.map (fun t=>c1.f.get qaq t)/\gs'=gl.map (fun i=>(c1.l.get (0,[]) i).1)/\cs'=cl.map (fun i=>(c1.l.get (0,[]) i).2)/\
   AG nt (qsn vs xs' F0) (qpe L ef.al (qso gl gs') cl cs'++cond ef.st [] (qja ef.al L)) [] c1:=by
  intro c1 kp
  refine⟨_,_,_,rfl,rfl,rfl,?_⟩
  subst hF0
  refine qlL (F1:=vs.map fun t=>(t,c1.f.get qaq t)) (L1:=L.map fun p=>(p.1,c1.l.get (0,[]) p.1)) (h1:=[]) ag ⟨fun t v hv=>qdH _ hv,fun i p hp=>?_,fun d l hd=>(by cases hd),fun t ht=>by rw[kp.hf];exact ag.hf t ht⟩ kp
   (qjh fun t ht=>qd3 _ ht) (qji fun t ht=>?_) (qjj fun t ht=>?_)
  ·obtain⟨⟨q,hq⟩,e⟩:=qfb _ hp
   exact⟨e.symm,by rw[kp.hl];exact(ag.l i q hq).2⟩
  ·obtain⟨p,hp⟩:=qjf hg t ht
   exact qdq (fun i=>c1.l.get (0,[]) i) hp
  ·obtain⟨p,hp⟩:=qjg hc t ht
   exact qdq (fun i=>c1.l.get (0,[]) i) hp
 refine qmV (z:=_) (f:=_) (enter:=enter) ?_ ?_ n c (KP.refl _ _) hk
 ·intro c1 r' h
  simp only[enter] at h
  rw[qbA _ _ _ _ (by simp),qbA _ _ _ _ (by simp),qbA _ _ _ _ (by simp)] at h
  cases hs:ef.cs with
  |true=>rw[hs] at h;cases h
  |false=>rw[hs] at h;cases h
 ·intro ih c1 kp h
  obtain⟨xs',gs',cs',e1,e2,e3,ag1⟩:=head kp
  simp only[enter] at h
  rw[<-e1,<-e2,<-e3,qbA _ _ _ _ (by rw[e1];simp),qbA _ _ _ _ (by rw[e2];simp),qbA _ _ _ _ (by rw[e3];simp),qhb kp] at h
  obtain⟨x,c',F2,L2,h2,k1,k2,k3,k4⟩:=hb ag1 kp h
  refine⟨x,c',k1,kp.trans k2,?_⟩
  rcases k4 with⟨rfl,k4⟩|⟨hx',k4⟩
  ·left
   refine⟨rfl,?_⟩
   split at k4<;>try (cases k4;done)
   rename_i ys hy
   split at k4<;>try (cases k4;done)
   rename_i zs hz
   split at k4<;>try (cases k4;done)
   rename_i ws hw
   rw[same k3 hy hz hw] at k4
   exact k4
  ·exact .inr ⟨hx',F2,L2,h2,k3,k4⟩
end Go.AI
namespace Go.AI
def qcJ:CC->Bool
 |.seq a b=>qcJ a&&qcJ b
 |.cond _ a b=>qcJ a&&qcJ b
 |.block _ a=>qcJ a
 |.loop a=>qcJ a
 |.rangeFunc _ _ _ _=>false
 |_=>true
def Rd (cc:CC)(_:Cfg):Prop:=qcJ cc=true
theorem Rd.seq {a b:CC}{c:Cfg}(h:Rd (.seq a b) c):Rd a c/\Rd b c:=by
 simp only[Rd,qcJ,zag] at h
 exact h
theorem Rd.cond {x:Arg}{a b:CC}{c:Cfg}(h:Rd (.cond x a b) c):Rd a c/\Rd b c:=by
 simp only[Rd,qcJ,zag] at h
 exact h
theorem Rd.block {i:Nat}{a:CC}{c:Cfg}(h:Rd (.block i a) c):Rd a c:=h
theorem Rd.loop {a:CC}{c:Cfg}(h:Rd (.loop a) c):Rd a c:=h
theorem Rd.to {a:CC}{c c':Cfg}(h:Rd a c)(_:c'.rd=c.rd):Rd a c':=h
theorem qce {loc nt nl:Nat}{e:Env}{n:Nat}:∀(cc:CC) {nrm:Nat} {ex:List (Nat×Nat)} {rt:Nat} {F:FL} {L:LL} {h:HH} {c:Cfg} {k:KC} {r:zA×ASt},Rd cc c->AG nt F L h c->qfw loc nt nl e n cc nrm ex rt F L h c.s k=some r->
  ∃x c' F' L' h',qbs e n cc c=some (x,c')/\KP (qit loc cc) c c'/\AG nt F' L' h' c'/\k x F' L' h' c'.s=some r
 |.skip,nrm,ex,rt,F,L,h,c,k,r,rd,ag,hk=>by
  simp only[qfw,qbG] at hk
  exact⟨.normal,c,F,L,h,rfl,KP.refl _ _,ag,hk⟩
 |.reg ops,nrm,ex,rt,F,L,h,c,k,r,rd,ag,hk=>by
  simp only[qfw,qbG] at hk
  cases hg:qg9 ops with
  |true=>
   rw[hg] at hk
   simp only[cond_true] at hk
   obtain⟨j,hj,hjn⟩:=qeK ag hk
   obtain⟨cN,tr,F1,L1,trl,k1,k2,k3,k3',k4,k5,k6,k7,k8⟩:=qfS ops ag (fun t ht=>by rw[qfR] at ht;cases ht) hj
   obtain⟨F2,L2,k9,k10⟩:=hjn k4 k6 k5
   exact⟨.normal,cN,F2,L2,[],by rw[qbs,k1];rfl,k6,k9,k10⟩
  |false=>
   rw[hg] at hk
   simp only[cond_false] at hk
   obtain⟨cN,tr,F1,L1,trl,k1,k2,k3,k3',k4,k5,k6,k7,k8⟩:=qfS ops ag (fun t ht=>by rw[qfR] at ht;cases ht) hk
   exact⟨.normal,cN,F1,L1,h,by rw[qbs,k1];rfl,k6,k4,k5⟩
 |.regd pre hpre ops chk,nrm,ex,rt,F,L,h,c,k,r,rd,ag,hk=>by
  simp only[qfw,qbG] at hk
  split at hk<;>try (cases hk;done)
  rename_i L0 hL0
  generalize hph:preH c.s hpre=sh at hk
  obtain⟨s0,h0⟩:=sh
  simp only at hk
  obtain⟨ag0,kp0⟩:=qvh ag hL0 hph
  have e0:qbs e n (.regd pre hpre ops chk) c=(qcl e ops {c with l:=preL c.l pre,h:=h0,s:=s0}).bind fun tr=>match qcP c tr with
   |last=>cond (chk.all (qhO e tr last)) (some (.normal,last)) none:=by
   rw[qbs,hph]
  have fin:∀{cN tr F1 L1 trl},qcl e ops {c with l:=preL c.l pre,h:=h0,s:=s0}=some tr->(∀d,qcP d tr=cN)->AG nt F1 L1 h0 cN->TA trl tr->chk.all (okC e trl F1)=true->qbs e n (.regd pre hpre ops chk) c=some (.normal,cN):=by
   intro cN tr F1 L1 trl k2 k3 k4 k8 hc
   rw[e0,k2,zaa,k3]
   have:chk.all (qhO e tr cN)=true:=by
    rw[zaN] at hc⊢
    exact fun q hq=>qvg k8 k4 (hc q hq)
   show cond (chk.all (qhO e tr cN)) (some (EX.normal,cN)) none=_
   rw[this,cond_true]
  cases hg:qg9 ops with
  |true=>
   rw[hg] at hk
   simp only[cond_true] at hk
   obtain⟨j,hj,hjn⟩:=qeK ag0 hk
   obtain⟨cN,tr,F1,L1,trl,k1,k2,k3,k3',k4,k5,k6,k7,k8⟩:=qfS ops ag0 (fun t ht=>by rw[qfR] at ht;cases ht) hj
   obtain⟨hc,k5⟩:=qat k5
   obtain⟨F2,L2,k9,k10⟩:=hjn k4 k6 k5
   exact⟨.normal,cN,F2,L2,[],fin k2 k3' k4 k8 hc,kp0.right.trans k6.left,k9,k10⟩
  |false=>
   rw[hg] at hk
   simp only[cond_false] at hk
   obtain⟨cN,tr,F1,L1,trl,k1,k2,k3,k3',k4,k5,k6,k7,k8⟩:=qfS ops ag0 (fun t ht=>by rw[qfR] at ht;cases ht) hk
   obtain⟨hc,k5⟩:=qat k5
   exact⟨.normal,cN,F1,L1,h0,fin k2 k3' k4 k8 hc,kp0.right.trans k6.left,k4,k5⟩
 |.seq a b,nrm,ex,rt,F,L,h,c,k,r,rd,ag,hk=>by
  simp only[qfw,qbG] at hk
  obtain⟨x,c1,F1,L1,h1,k1,k2,k3,k4⟩:=qce a rd.seq.1 ag hk
  cases x with
  |normal=>
   obtain⟨y,c2,F2,L2,h2,k5,k6,k7,k8⟩:=qce b (rd.seq.2.to k2.rd) k3 k4
   exact⟨y,c2,F2,L2,h2,by rw[qbs,k1];exact k5,k2.left.trans k6.right,k7,k8⟩
  |exit i=>exact⟨.exit i,c1,F1,L1,h1,by rw[qbs,k1];rfl,k2.left,k3,k4⟩
  |ret=>exact⟨.ret,c1,F1,L1,h1,by rw[qbs,k1];rfl,k2.left,k3,k4⟩
 |.cond x a b,nrm,ex,rt,F,L,h,c,k,r,rd,ag,hk=>by
  simp only[qfw,qbG] at hk
  split at hk<;>try (cases hk;done)
  rename_i v hv
  have hx:=qkI ag.f hv
  cases hf:(qfu a&&qfu b) with
  |true=>
   rw[hf] at hk
   simp only[cond_true] at hk
   obtain⟨j,hj,hjn⟩:=qeK ag hk
   unfold qae at hj
   split at hj<;>try (cases hj;done)
   rename_i t
   cases t with
   |true=>
    simp only[cond_true] at hj
    obtain⟨y,c1,F1,L1,h1,k1,k2,k3,k4⟩:=qce a rd.cond.1 ag hj
    cases y with
    |normal=>
     obtain⟨F2,L2,k5,k6⟩:=hjn k3 k2.left k4
     exact⟨.normal,c1,F2,L2,[],by rw[qbs,hx];exact k1,k2.left,k5,k6⟩
    |exit i=>exact⟨.exit i,c1,F1,L1,h1,by rw[qbs,hx];exact k1,k2.left,k3,k4⟩
    |ret=>exact⟨.ret,c1,F1,L1,h1,by rw[qbs,hx];exact k1,k2.left,k3,k4⟩
   |false=>
    simp only[cond_false] at hj
    obtain⟨y,c1,F1,L1,h1,k1,k2,k3,k4⟩:=qce b rd.cond.2 ag hj
    cases y with
    |normal=>
     obtain⟨F2,L2,k5,k6⟩:=hjn k3 k2.right k4
     exact⟨.normal,c1,F2,L2,[],by rw[qbs,hx];exact k1,k2.right,k5,k6⟩
    |exit i=>exact⟨.exit i,c1,F1,L1,h1,by rw[qbs,hx];exact k1,k2.right,k3,k4⟩
    |ret=>exact⟨.ret,c1,F1,L1,h1,by rw[qbs,hx];exact k1,k2.right,k3,k4⟩
  |false=>
   rw[hf] at hk
   simp only[cond_false] at hk
   unfold qae at hk
   split at hk<;>try (cases hk;done)
   rename_i t
   cases t with
   |true=>
    simp only[cond_true] at hk
    obtain⟨y,c1,F1,L1,h1,k1,k2,k3,k4⟩:=qce a rd.cond.1 ag hk
    exact⟨y,c1,F1,L1,h1,by rw[qbs,hx];exact k1,k2.left,k3,k4⟩
   |false=>
    simp only[cond_false] at hk
    obtain⟨y,c1,F1,L1,h1,k1,k2,k3,k4⟩:=qce b rd.cond.2 ag hk
    exact⟨y,c1,F1,L1,h1,by rw[qbs,hx];exact k1,k2.right,k3,k4⟩
 |.block id a,nrm,ex,rt,F,L,h,c,k,r,rd,ag,hk=>by
  simp only[qfw,qbG] at hk
  cases hf:Nat.blt 1 (exN id a+cond (qfu a) 1 0) with
  |true=>
   rw[hf] at hk
   simp only[cond_true] at hk
   obtain⟨j,hj,hjn⟩:=qeK ag hk
   obtain⟨y,c1,F1,L1,h1,k1,k2,k3,k4⟩:=qce a rd.block ag hj
   cases y with
   |normal=>
    obtain⟨F2,L2,k5,k6⟩:=hjn k3 k2 k4
    exact⟨.normal,c1,F2,L2,[],by rw[qbs,k1];rfl,k2,k5,k6⟩
   |exit i=>
    simp only at k4
    cases hi:Nat.beq i id with
    |true=>
     rw[hi] at k4
     obtain⟨F2,L2,k5,k6⟩:=hjn k3 k2 k4
     exact⟨.normal,c1,F2,L2,[],by rw[qbs,k1];simp only[zab,hi,cond_true],k2,k5,k6⟩
    |false=>
     rw[hi] at k4
     exact⟨.exit i,c1,F1,L1,h1,by rw[qbs,k1];simp only[zab,hi,cond_false],k2,k3,k4⟩
   |ret=>exact⟨.ret,c1,F1,L1,h1,by rw[qbs,k1];rfl,k2,k3,k4⟩
  |false=>
   rw[hf] at hk
   simp only[cond_false] at hk
   obtain⟨y,c1,F1,L1,h1,k1,k2,k3,k4⟩:=qce a rd.block ag hk
   cases y with
   |normal=>exact⟨.normal,c1,F1,L1,h1,by rw[qbs,k1];rfl,k2,k3,k4⟩
   |exit i=>
    simp only at k4
    cases hi:Nat.beq i id with
    |true=>
     rw[hi] at k4
     exact⟨.normal,c1,F1,L1,h1,by rw[qbs,k1];simp only[zab,hi,cond_true],k2,k3,k4⟩
    |false=>
     rw[hi] at k4
     exact⟨.exit i,c1,F1,L1,h1,by rw[qbs,k1];simp only[zab,hi,cond_false],k2,k3,k4⟩
   |ret=>exact⟨.ret,c1,F1,L1,h1,by rw[qbs,k1];rfl,k2,k3,k4⟩
 |.loop a,nrm,ex,rt,F,L,h,c,k,r,rd,ag,hk=>by
  simp only[qfw,qbG] at hk
  obtain⟨x,c',k1,k2,k3,F2,L2,h2,k4,k5⟩:=qrt (e:=e) (a:=a) (k:=k) ag hk (by
   intro F1 L1 c1 j ag1 kp hj
   obtain⟨y,c2,F2,L2,h2,m1,m2,m3,m4⟩:=qce a (rd.loop.to kp.rd) ag1 hj
   refine⟨y,c2,F2,L2,h2,m1,m2,m3,?_⟩
   cases y with
   |normal=>exact .inl ⟨rfl,m4⟩
   |exit i=>exact .inr ⟨(fun e=>by cases e),m4⟩
   |ret=>exact .inr ⟨(fun e=>by cases e),m4⟩)
  exact⟨x,c',F2,L2,h2,by rw[qbs];exact k1,k2,k4,k5⟩
 |.rangeFunc f ps a b,nrm,ex,rt,F,L,h,c,k,r,rd,ag,hk=>nomatch rd
 |.exit id,nrm,ex,rt,F,L,h,c,k,r,rd,ag,hk=>by
  simp only[qfw,qbG] at hk
  exact⟨.exit id,c,F,L,h,rfl,KP.refl _ _,ag,hk⟩
 |.ret,nrm,ex,rt,F,L,h,c,k,r,rd,ag,hk=>by
  simp only[qfw,qbG] at hk
  exact⟨.ret,c,F,L,h,rfl,KP.refl _ _,ag,hk⟩
 |.bad,nrm,ex,rt,F,L,h,c,k,r,rd,ag,hk=>by
  simp only[qfw,qbG] at hk;cases hk
theorem qru (v:zA):qcj (qcj v)=qcj v:=by cases v<;>rfl
theorem qmW (v:zA):qde (qde v)=qde v:=by
 cases v<;>try rfl
 case agg cs=>
  simp only[qde,List.map_map,zA.agg.injEq]
  exact List.map_congr_left fun v _=>qru v
theorem qvi (v:zA):qaD (qaD v)=qaD v:=by
 cases v<;>try rfl
 case agg cs=>exact qmW (.agg cs)
 case tuple vs=>
  simp only[qaD,List.map_map,zA.tuple.injEq]
  exact List.map_congr_left fun v _=>qmW v
def Ans (v:zA)(r:Res):Prop:=∃v' s,r=some (v',s)/\qaD v'=qaD v
theorem Ans.of {v w:zA}{r:Res}(h:Ans w r)(e:qaD w=qaD v):Ans v r:=by
 obtain⟨v',s,h1,h2⟩:=h
 exact⟨v',s,h1,h2.trans e⟩
theorem qkM {e:Env}{n:Nat}{a:CC}{nt:Nat}{ef:Ef}{k:KC}{v:zA}{T:Type}{base:Cfg}{z:T}{f:T->T}{enter:T->Cfg->Res}
  (hz:∀c r',enter z c≠some r')
  (hf:∀ih c,KP ef base c->Ans v (enter (f ih) c)->∃x c',qbs e n a c=some (x,c')/\KP ef base c'/\((x=.normal/\Ans v (enter ih c'))\/(x≠.normal/\∃F L h,AG nt F L h c'/\Ans v (k x F L h c'.s)))):
  ∀m c,KP ef base c->Ans v (enter (lp z f m) c)->∃x c',qfK m (qbs e n a) c=some (x,c')/\KP ef base c'/\x≠.normal/\∃F L h,AG nt F L h c'/\Ans v (k x F L h c'.s)
 |0,c,_,⟨_,_,h,_⟩=>absurd h (hz c _)
 |m+1,c,kp,h=>by
  obtain⟨x,c',h1,h2,h3⟩:=hf (lp z f m) c kp h
  have e1:qfK (m+1) (qbs e n a) c=(qbs e n a c).bind fun r=>match r with
   |(.normal,c)=>qfK m (qbs e n a) c
   |r=>some r:=rfl
  rw[e1,h1]
  rcases h3 with⟨rfl,h4⟩|⟨hx,h4⟩
  ·exact qkM hz hf m c' h2 h4
  ·cases x with
   |normal=>exact absurd rfl hx
   |exit i=>exact⟨.exit i,c',rfl,h2,hx,h4⟩
   |ret=>exact⟨.ret,c',rfl,h2,hx,h4⟩
theorem qpl {nt nl n:Nat}{ef:Ef}{lv:Nat}{F:FL}{L:LL}{h:HH}{c:Cfg}{body:FL->LL->ASt->KN->Res}{v:zA}{s0:ASt}{e:Env}{a:CC}{k:KC}(ag:AG nt F L h c)(hk:qpf nt nl n ef lv F L c.s body=some (v,s0))
  (hb:∀{F1 L1 c1} {j:KN} {v1:zA} {s1:ASt},AG nt F1 L1 [] c1->KP ef c c1->body F1 L1 c1.s j=some (v1,s1)->qaD v1=qaD v->∃x c' F2 L2 h2,qbs e n a c1=some (x,c')/\KP ef c1 c'/\AG nt F2 L2 h2 c'/\((x=.normal/\Ans v (j F2 L2 h2 c'.s))\/(x≠.normal/\Ans v (k x F2 L2 h2 c'.s)))):
  ∃x c',qfK n (qbs e n a) c=some (x,c')/\KP ef c c'/\x≠.normal/\∃F2 L2 h2,AG nt F2 L2 h2 c'/\Ans v (k x F2 L2 h2 c'.s):=by
 unfold qpf at hk
 simp only at hk
 generalize hvs:qbk (Nat.land lv ef.d) 0 nt=vs at hk
 generalize hgl:qbk ef.al 0 nl=gl at hk
 generalize hcl:cond ef.st (qbk (qsl (L.map fun x=>(x.1,[]))) 0 nl) gl=cl at hk
 generalize hF0:qhW (qgp lv ef.d) F (qbk lv 0 nt)=F0 at hk
 split at hk<;>try (cases hk;done)
 rename_i xs hx
 split at hk<;>try (cases hk;done)
 rename_i gs hg
 split at hk<;>try (cases hk;done)
 rename_i cs hc
 let enter:Fn zA vs.length (Fn Nat gl.length (Fn (List zA) cl.length (FnS ef.cs Res)))->Cfg->Res:=fun f c1=>
  match (vs.map fun t=>c1.f.get qaq t,gl.map fun i=>(c1.l.get (0,[]) i).1,cl.map fun i=>(c1.l.get (0,[]) i).2) with
  |(xs,gs,cs)=>qsm ef.cs (qgr [] cl.length (qgr 0 gl.length (qgr qaq vs.length f xs) gs) cs) c1.s
 have same:∀{F1 L1 h1 c1 xs gs cs},AG nt F1 L1 h1 c1->qlB F1 vs=some xs->qkE L1 gl=some gs->qkF L1 cl=some cs->∀f,qsm ef.cs (qgr [] cl.length (qgr 0 gl.length (qgr qaq vs.length f xs) gs) cs) c1.s=enter f c1:=by
  intro F1 L1 h1 c1 xs gs cs ag1 h1 h2 h3 f
  have e1:=qjc (g:=fun t=>c1.f.get qaq t) ag1.f h1
  have e2:=qjd (g:=fun i=>c1.l.get (0,[]) i) (fun i p hi=>(ag1.l i p hi).1) h2
  have e3:=qje (g:=fun i=>c1.l.get (0,[]) i) (fun i p hi=>(ag1.l i p hi).1) h3
  subst e1;subst e2;subst e3
  rfl
 rw[same ag hx hg hc] at hk
 have head:∀{c1},KP ef c c1->∃xs' gs' cs',xs'=vs.map (fun t=>c1.f.get qaq t)/\gs'=gl.map (fun i=>(c1.l.get (0,[]) i).1)/\cs'=cl.map (fun i=>(c1.l.get (0,[]) i).2)/\
   AG nt (qsn vs xs' F0) (qpe L ef.al (qso gl gs') cl cs'++cond ef.st [] (qja ef.al L)) [] c1:=by
  intro c1 kp
  refine⟨_,_,_,rfl,rfl,rfl,?_⟩
  subst hF0
  refine qlL (F1:=vs.map fun t=>(t,c1.f.get qaq t)) (L1:=L.map fun p=>(p.1,c1.l.get (0,[]) p.1)) (h1:=[]) ag ⟨fun t v hv=>qdH _ hv,fun i p hp=>?_,fun d l hd=>(by cases hd),fun t ht=>by rw[kp.hf];exact ag.hf t ht⟩ kp
   (qjh fun t ht=>qd3 _ ht) (qji fun t ht=>?_) (qjj fun t ht=>?_)
  ·obtain⟨⟨q,hq⟩,e⟩:=qfb _ hp
   exact⟨e.symm,by rw[kp.hl];exact(ag.l i q hq).2⟩
  ·obtain⟨p,hp⟩:=qjf hg t ht
   exact qdq (fun i=>c1.l.get (0,[]) i) hp
  ·obtain⟨p,hp⟩:=qjg hc t ht
   exact qdq (fun i=>c1.l.get (0,[]) i) hp
 refine qkM (z:=_) (f:=_) (enter:=enter) ?_ ?_ n c (KP.refl _ _) ⟨v,s0,hk,rfl⟩
 ·intro c1 r' h
  simp only[enter] at h
  rw[qbA _ _ _ _ (by simp),qbA _ _ _ _ (by simp),qbA _ _ _ _ (by simp)] at h
  cases hs:ef.cs with
  |true=>rw[hs] at h;cases h
  |false=>rw[hs] at h;cases h
 ·intro ih c1 kp ⟨v1,s1,h,hv1⟩
  obtain⟨xs',gs',cs',e1,e2,e3,ag1⟩:=head kp
  simp only[enter] at h
  rw[<-e1,<-e2,<-e3,qbA _ _ _ _ (by rw[e1];simp),qbA _ _ _ _ (by rw[e2];simp),qbA _ _ _ _ (by rw[e3];simp),qhb kp] at h
  obtain⟨x,c',F2,L2,h2,k1,k2,k3,k4⟩:=hb ag1 kp h hv1
  refine⟨x,c',k1,kp.trans k2,?_⟩
  rcases k4 with⟨rfl,v3,s3,k4,hv3⟩|⟨hx',k4⟩
  ·left
   refine⟨rfl,v3,s3,?_,hv3⟩
   split at k4<;>try (cases k4;done)
   rename_i ys hy
   split at k4<;>try (cases k4;done)
   rename_i zs hz
   split at k4<;>try (cases k4;done)
   rename_i ws hw
   rw[same k3 hy hz hw] at k4
   exact k4
  ·exact .inr ⟨hx',F2,L2,h2,k3,k4⟩
theorem qcY {loc nt nl:Nat}{e:Env}{n:Nat}:∀(cc:CC) {nrm:Nat} {ex:List (Nat×Nat)} {rt:Nat} {F:FL} {L:LL} {h:HH} {c:Cfg} {k:KC} {v:zA} {s0:ASt},c.rd=none->AG nt F L h c->qfw loc nt nl e n cc nrm ex rt F L h c.s k=some (v,s0)->
  ∃x c' F' L' h',qbs e n cc c=some (x,c')/\KP (qit loc cc) c c'/\AG nt F' L' h' c'/\Ans v (k x F' L' h' c'.s)
 |.skip,nrm,ex,rt,F,L,h,c,k,v,s0,rd,ag,hk=>by
  obtain⟨x,c',F',L',h',e1,e2,e3,e4⟩:=qce (.skip) rfl ag hk
  exact⟨x,c',F',L',h',e1,e2,e3,⟨v,s0,e4,rfl⟩⟩
 |.reg ops,nrm,ex,rt,F,L,h,c,k,v,s0,rd,ag,hk=>by
  obtain⟨x,c',F',L',h',e1,e2,e3,e4⟩:=qce (.reg ops) rfl ag hk
  exact⟨x,c',F',L',h',e1,e2,e3,⟨v,s0,e4,rfl⟩⟩
 |.regd pre hpre ops chk,nrm,ex,rt,F,L,h,c,k,v,s0,rd,ag,hk=>by
  obtain⟨x,c',F',L',h',e1,e2,e3,e4⟩:=qce (.regd pre hpre ops chk) rfl ag hk
  exact⟨x,c',F',L',h',e1,e2,e3,⟨v,s0,e4,rfl⟩⟩
 |.seq a b,nrm,ex,rt,F,L,h,c,k,v,s0,rd,ag,hk=>by
  simp only[qfw,qbG] at hk
  obtain⟨x,c1,F1,L1,h1,k1,k2,k3,⟨v1,s1,k4,e4⟩⟩:=qcY a rd ag hk
  cases x with
  |normal=>
   obtain⟨y,c2,F2,L2,h2,k5,k6,k7,k8⟩:=qcY b (k2.rd.trans rd) k3 k4
   exact⟨y,c2,F2,L2,h2,by rw[qbs,k1];exact k5,k2.left.trans k6.right,k7,k8.of e4⟩
  |exit i=>exact⟨.exit i,c1,F1,L1,h1,by rw[qbs,k1];rfl,k2.left,k3,⟨v1,s1,k4,e4⟩⟩
  |ret=>exact⟨.ret,c1,F1,L1,h1,by rw[qbs,k1];rfl,k2.left,k3,⟨v1,s1,k4,e4⟩⟩
 |.cond x a b,nrm,ex,rt,F,L,h,c,k,v,s0,rd,ag,hk=>by
  simp only[qfw,qbG] at hk
  split at hk<;>try (cases hk;done)
  rename_i u hv
  have hx:=qkI ag.f hv
  cases hf:(qfu a&&qfu b) with
  |true=>
   rw[hf] at hk
   simp only[cond_true] at hk
   obtain⟨j,hj,hjn⟩:=qeK ag hk
   unfold qae at hj
   split at hj<;>try (cases hj;done)
   rename_i t
   cases t with
   |true=>
    simp only[cond_true] at hj
    obtain⟨y,c1,F1,L1,h1,k1,k2,k3,⟨v1,s1,k4,e4⟩⟩:=qcY a rd ag hj
    cases y with
    |normal=>
     obtain⟨F2,L2,k5,k6⟩:=hjn k3 k2.left k4
     exact⟨.normal,c1,F2,L2,[],by rw[qbs,hx];exact k1,k2.left,k5,⟨v1,s1,k6,e4⟩⟩
    |exit i=>exact⟨.exit i,c1,F1,L1,h1,by rw[qbs,hx];exact k1,k2.left,k3,⟨v1,s1,k4,e4⟩⟩
    |ret=>exact⟨.ret,c1,F1,L1,h1,by rw[qbs,hx];exact k1,k2.left,k3,⟨v1,s1,k4,e4⟩⟩
   |false=>
    simp only[cond_false] at hj
    obtain⟨y,c1,F1,L1,h1,k1,k2,k3,⟨v1,s1,k4,e4⟩⟩:=qcY b rd ag hj
    cases y with
    |normal=>
     obtain⟨F2,L2,k5,k6⟩:=hjn k3 k2.right k4
     exact⟨.normal,c1,F2,L2,[],by rw[qbs,hx];exact k1,k2.right,k5,⟨v1,s1,k6,e4⟩⟩
    |exit i=>exact⟨.exit i,c1,F1,L1,h1,by rw[qbs,hx];exact k1,k2.right,k3,⟨v1,s1,k4,e4⟩⟩
    |ret=>exact⟨.ret,c1,F1,L1,h1,by rw[qbs,hx];exact k1,k2.right,k3,⟨v1,s1,k4,e4⟩⟩
  |false=>
   rw[hf] at hk
   simp only[cond_false] at hk
   unfold qae at hk
   split at hk<;>try (cases hk;done)
   rename_i t
   cases t with
   |true=>
    simp only[cond_true] at hk
    obtain⟨y,c1,F1,L1,h1,k1,k2,k3,⟨v1,s1,k4,e4⟩⟩:=qcY a rd ag hk
    exact⟨y,c1,F1,L1,h1,by rw[qbs,hx];exact k1,k2.left,k3,⟨v1,s1,k4,e4⟩⟩
   |false=>
    simp only[cond_false] at hk
    obtain⟨y,c1,F1,L1,h1,k1,k2,k3,⟨v1,s1,k4,e4⟩⟩:=qcY b rd ag hk
    exact⟨y,c1,F1,L1,h1,by rw[qbs,hx];exact k1,k2.right,k3,⟨v1,s1,k4,e4⟩⟩
 |.block id a,nrm,ex,rt,F,L,h,c,k,v,s0,rd,ag,hk=>by
  simp only[qfw,qbG] at hk
  cases hf:Nat.blt 1 (exN id a+cond (qfu a) 1 0) with
  |true=>
   rw[hf] at hk
   simp only[cond_true] at hk
   obtain⟨j,hj,hjn⟩:=qeK ag hk
   obtain⟨y,c1,F1,L1,h1,k1,k2,k3,⟨v1,s1,k4,e4⟩⟩:=qcY a rd ag hj
   cases y with
   |normal=>
    obtain⟨F2,L2,k5,k6⟩:=hjn k3 k2 k4
    exact⟨.normal,c1,F2,L2,[],by rw[qbs,k1];rfl,k2,k5,⟨v1,s1,k6,e4⟩⟩
   |exit i=>
    simp only at k4
    cases hi:Nat.beq i id with
    |true=>
     rw[hi] at k4
     obtain⟨F2,L2,k5,k6⟩:=hjn k3 k2 k4
     exact⟨.normal,c1,F2,L2,[],by rw[qbs,k1];simp only[zab,hi,cond_true],k2,k5,⟨v1,s1,k6,e4⟩⟩
    |false=>
     rw[hi] at k4
     exact⟨.exit i,c1,F1,L1,h1,by rw[qbs,k1];simp only[zab,hi,cond_false],k2,k3,⟨v1,s1,k4,e4⟩⟩
   |ret=>exact⟨.ret,c1,F1,L1,h1,by rw[qbs,k1];rfl,k2,k3,⟨v1,s1,k4,e4⟩⟩
  |false=>
   rw[hf] at hk
   simp only[cond_false] at hk
   obtain⟨y,c1,F1,L1,h1,k1,k2,k3,⟨v1,s1,k4,e4⟩⟩:=qcY a rd ag hk
   cases y with
   |normal=>exact⟨.normal,c1,F1,L1,h1,by rw[qbs,k1];rfl,k2,k3,⟨v1,s1,k4,e4⟩⟩
   |exit i=>
    simp only at k4
    cases hi:Nat.beq i id with
    |true=>
     rw[hi] at k4
     exact⟨.normal,c1,F1,L1,h1,by rw[qbs,k1];simp only[zab,hi,cond_true],k2,k3,⟨v1,s1,k4,e4⟩⟩
    |false=>
     rw[hi] at k4
     exact⟨.exit i,c1,F1,L1,h1,by rw[qbs,k1];simp only[zab,hi,cond_false],k2,k3,⟨v1,s1,k4,e4⟩⟩
   |ret=>exact⟨.ret,c1,F1,L1,h1,by rw[qbs,k1];rfl,k2,k3,⟨v1,s1,k4,e4⟩⟩
 |.loop a,nrm,ex,rt,F,L,h,c,k,v,s0,rd,ag,hk=>by
  simp only[qfw,qbG] at hk
  obtain⟨x,c',k1,k2,k3,F2,L2,h2,k4,k5⟩:=qpl (e:=e) (a:=a) (k:=k) ag hk (by
   intro F1 L1 c1 j v1 s1 ag1 kp hj hv1
   obtain⟨y,c2,F2,L2,h2,m1,m2,m3,m4⟩:=qcY a (kp.rd.trans rd) ag1 hj
   have m4:=m4.of hv1
   refine⟨y,c2,F2,L2,h2,m1,m2,m3,?_⟩
   cases y with
   |normal=>exact .inl ⟨rfl,m4⟩
   |exit i=>exact .inr ⟨(fun e=>by cases e),m4⟩
   |ret=>exact .inr ⟨(fun e=>by cases e),m4⟩)
  exact⟨x,c',F2,L2,h2,by rw[qbs];exact k1,k2,k4,k5⟩
 |.rangeFunc f ps a b,nrm,ex,rt,F,L,h,c,k,v,s0,rd,ag,hk=>by
  simp only[qfw] at hk
  split at hk<;>try (cases hk;done)
  rename_i u hv
  have hx:=qkI ag.f hv
  unfold rfK at hk
  split at hk
  ·rename_i hex
   simp only[zac,zaq] at hk
   have hsp:=hex.choose_spec
   rw[hk.1] at hsp
   obtain⟨x,s',s2,r',hrun,her,hm⟩:=hsp c f ag.f (fun i p hp=>(ag.l i p hp).2) ag.hf hx rfl rd
   have hver:qaD r'=v->qaD r'=qaD v:=fun h=>by rw[<-h,qvi]
   have hkp:KP (qit loc (.rangeFunc f ps a b)) c {c with s:=s'}:=⟨fun _ _=>rfl,fun _ _=>rfl,fun _ _ _=>rfl,fun h=>(by cases h),rfl,fun _=>rfl,fun _=>rfl⟩
   have hag:AG nt F L h {c with s:=s'}:=⟨ag.f,ag.l,ag.h,ag.hf⟩
   cases x with
   |normal=>exact⟨.normal,{c with s:=s'},F,L,h,hrun,hkp,hag,⟨r',s2,hm,hver her⟩⟩
   |exit i=>
    obtain⟨rfl,hm⟩:=hm
    exact⟨.exit (exB b),{c with s:=s'},F,L,h,hrun,hkp,hag,⟨r',s2,hm,hver her⟩⟩
   |ret=>exact⟨.ret,{c with s:=s'},F,L,h,hrun,hkp,hag,⟨r',s2,hm,hver her⟩⟩
  ·cases hk
 |.exit id,nrm,ex,rt,F,L,h,c,k,v,s0,rd,ag,hk=>by
  obtain⟨x,c',F',L',h',e1,e2,e3,e4⟩:=qce (.exit id) rfl ag hk
  exact⟨x,c',F',L',h',e1,e2,e3,⟨v,s0,e4,rfl⟩⟩
 |.ret,nrm,ex,rt,F,L,h,c,k,v,s0,rd,ag,hk=>by
  obtain⟨x,c',F',L',h',e1,e2,e3,e4⟩:=qce (.ret) rfl ag hk
  exact⟨x,c',F',L',h',e1,e2,e3,⟨v,s0,e4,rfl⟩⟩
 |.bad,nrm,ex,rt,F,L,h,c,k,v,s0,rd,ag,hk=>by cases hk
theorem qvj {cs:List zA}{off:Nat}{n:Option Nat}{v:zA}(h:ldL cs off n=some v):∃ds,cut cs off (cnt n)=some ds/\zA.ofCells n ds=some v:=by
 unfold ldL at h
 cases n with
 |none=>
  simp only at h
  split at h<;>try (cases h;done)
  rename_i w hw
  exact⟨[w],hw,h⟩
 |some m=>
  simp only at h
  split at h<;>try (cases h;done)
  rename_i w hw
  exact⟨w,hw,h⟩
theorem qiv {loc nt:Nat}{e:Env}{F:FL}{L:LL}{h:HH}{c:Cfg}(ag:AG nt F L h c):∀(rs:List RV) {k:List zA->Res} {r:zA×ASt},rvK loc e F L c.s rs k=some r->∃l,rvs e c rs=some l/\k l=some r
 |[],k,r,hk=>⟨[],rfl,hk⟩
 |.t n::rs,k,r,hk=>by
  simp only[rvK,qbG] at hk
  split at hk<;>try (cases hk;done)
  rename_i v hv
  obtain⟨l,h1,h2⟩:=qiv ag rs hk
  exact⟨v::l,by rw[rvs,h1,ag.f n v hv];rfl,h2⟩
 |.l a n::rs,k,r,hk=>by
  simp only[rvK,qbG] at hk
  split at hk<;>try (cases hk;done)
  rename_i v hv
  have hav:=ag.f a v hv
  have fin:∀{u},(loadFrom e.E c.l c.s v (cnt n)).bind (zA.ofCells n)=some u->rvK loc e F L c.s rs (fun l=>k (u::l))=some r->∃l,rvs e c (.l a n::rs)=some l/\k l=some r:=by
   intro u hu hk
   obtain⟨l,h1,h2⟩:=qiv ag rs hk
   refine⟨u::l,?_,h2⟩
   simp only[zae] at hu
   obtain⟨cs,hcs,hu⟩:=hu
   rw[rvs,hav,hcs,zaa,hu,zaa,h1]
   rfl
  cases hl:tb loc a with
  |true=>
   rw[hl] at hk
   simp only[cond_true] at hk
   split at hk<;>try (cases hk;done)
   rename_i i g off
   split at hk<;>try (cases hk;done)
   rename_i p hp
   obtain⟨hg,hk⟩:=qat hk
   simp only[zae] at hk
   obtain⟨u,hu,hk⟩:=hk
   obtain⟨ds,h1,h2⟩:=qvj hu
   refine fin ?_ hk
   simp only[loadFrom,(ag.l i p hp).1,hg,cond_true,h1,zaa,h2]
  |false=>
   rw[hl] at hk
   simp only[cond_false,zae] at hk
   obtain⟨u,hu,hk⟩:=hk
   refine fin ?_ hk
   unfold ldH at hu
   split at hu<;>try (cases hu;done)
   ·rename_i l off
    split at hu<;>try (cases hu;done)
    rename_i cs hcs
    rw[show loadFrom e.E c.l c.s (.ptr l off) (cnt n)=some cs from hcs]
    exact hu
   ·rename_i l off
    split at hu<;>try (cases hu;done)
    rename_i cs hcs
    rw[show loadFrom e.E c.l c.s (.elem l off) (cnt n)=some cs from hcs]
    exact hu
theorem qfc (d:Nat):∀(args:List zA) (f:Tr zA) (i:Nat),(∀j,j<i+args.length->f.has j=true)->(∀t v,qas (quI i args) t=some v->(qbB f i args).get qaq t=v)/\(∀t,t<i->(qbB f i args).get qaq t=f.get qaq t)/\∀t,(qbB f i args).has t=f.has t
 |[],f,i,_=>⟨fun t v h=>(by cases h),fun _ _=>rfl,fun _=>rfl⟩
 |v::r,f,i,hh=>by
  obtain⟨h1,h2,h3⟩:=qfc d r (f.set i v) (i+1) fun j hj=>by
   rw[Tr.has_set]
   exact hh j (by simp only[zar];omega)
  refine⟨fun t x hx=>?_,fun t ht=>?_,fun t=>?_⟩
  ·simp only[quI] at hx
   rw[qap] at hx
   split at hx
   ·rename_i e
    simp only[zac] at hx
    subst e;subst hx
    show(qbB (f.set i v) (i+1) r).get qaq i=v
    rw[h2 i (by omega)]
    exact Tr.get_set_eq _ _ _ _ (hh i (by simp only[zar];omega))
   ·exact h1 t x hx
  ·show(qbB (f.set i v) (i+1) r).get qaq t=_
   rw[h2 t (by omega),Tr.get_set_ne _ _ _ _ _ (by omega)]
  ·show(qbB (f.set i v) (i+1) r).has t=_
   rw[h3,Tr.has_set]
theorem qfd {m:Nat}:∀{k i x:Nat},x∈qbk m i k->x<i+k
 |0,i,x,h=>by cases h
 |k+1,i,x,h=>by
  simp only[qbk] at h
  cases hb:tb m i with
  |true=>
   rw[hb] at h
   rcases zaA.1 h with h|h
   ·omega
   ·have:=qfd h;omega
  |false=>
   rw[hb] at h
   have:=qfd h;omega
theorem qiw {al k:Nat}{i:Nat}{p:Nat×List zA}(h:qas ((qbk al 0 k).map fun i=>(i,((0,[]):Nat×List zA))) i=some p):p=(0,[])/\i<k:=by
 have:∀(us:List Nat),qas (us.map fun i=>(i,((0,[]):Nat×List zA))) i=some p->p=(0,[])/\i∈us:=by
  intro us hu
  induction us with
  |nil=>cases hu
  |cons u r ih=>
   rw[zam,qap] at hu
   split at hu
   ·rename_i e
    simp only[zac] at hu
    exact⟨hu.symm,by rw[<-e];exact zau ..⟩
   ·obtain⟨h1,h2⟩:=ih hu
    exact⟨h1,zax _ h2⟩
 obtain⟨h1,h2⟩:=this _ h
 have:=qfd h2
 exact⟨h1,by omega⟩
theorem qjk {cf:CF}{e:Env}{n:Nat}{args:List zA}{s s':ASt}{v:zA}(hrf:qcJ cf.body=true)(hn:args.length<2^cf.depth)(h:qau cf e n args s=some (v,s')):
  ∃r,qbs e n cf.body ⟨qbB (Tr.mk qaq cf.depth) 0 args,Tr.mk (0,[]) cf.ldepth,[],none,s⟩=some r/\qgo e cf r=some v/\r.2.s=s':=by
 unfold qau at h
 have hm:∀j,j<2^cf.depth-1->(Tr.mk qaq cf.depth).has j=true:=fun j hj=>Tr.has_mk _ _ _ (by omega)
 obtain⟨k1,k2,k3⟩:=qfc 0 args (Tr.mk qaq cf.depth) 0 fun j hj=>hm j (by omega)
 let c0:Cfg:=⟨qbB (Tr.mk qaq cf.depth) 0 args,Tr.mk (0,[]) cf.ldepth,[],none,s⟩
 have ag:AG (2^cf.depth-1) (quI 0 args) ((qbk (qit (qfa cf.body 0) cf.body).al 0 (2^cf.ldepth-1)).map fun i=>(i,(0,[]))) [] c0:=by
  refine⟨k1,fun i p hp=>?_,fun d l hd=>(by cases hd),fun t ht=>by rw[show c0.f=qbB (Tr.mk qaq cf.depth) 0 args from rfl,k3];exact hm t ht⟩
  obtain⟨e1,e2⟩:=qiw hp
  subst e1
  exact⟨Tr.get_mk _ _ _,Tr.has_mk _ _ _ (by omega)⟩
 obtain⟨x,c1,F1,L1,h1,m1,m2,m3,m4⟩:=qce (c:=c0) cf.body hrf ag h
 refine⟨(x,c1),m1,?_⟩
 cases x with
 |exit i=>cases m4
 |normal=>
  obtain⟨l,h2,h3⟩:=qiv m3 cf.res m4
  simp only[zac,zaq] at h3
  exact⟨by simp only[qgo,h2,zab,h3.1],h3.2⟩
 |ret=>
  obtain⟨l,h2,h3⟩:=qiv m3 cf.res m4
  simp only[zac,zaq] at h3
  exact⟨by simp only[qgo,h2,zab,h3.1],h3.2⟩
theorem qkN {cf:CF}{e:Env}{n:Nat}{args:List zA}{s s':ASt}{v:zA}(hn:args.length<2^cf.depth)(h:qau cf e n args s=some (v,s')):
  ∃r,qbs e n cf.body ⟨qbB (Tr.mk qaq cf.depth) 0 args,Tr.mk (0,[]) cf.ldepth,[],none,s⟩=some r/\(∃v',qgo e cf r=some v'/\qaD v'=qaD v):=by
 unfold qau at h
 have hm:∀j,j<2^cf.depth-1->(Tr.mk qaq cf.depth).has j=true:=fun j hj=>Tr.has_mk _ _ _ (by omega)
 obtain⟨k1,k2,k3⟩:=qfc 0 args (Tr.mk qaq cf.depth) 0 fun j hj=>hm j (by omega)
 let c0:Cfg:=⟨qbB (Tr.mk qaq cf.depth) 0 args,Tr.mk (0,[]) cf.ldepth,[],none,s⟩
 have ag:AG (2^cf.depth-1) (quI 0 args) ((qbk (qit (qfa cf.body 0) cf.body).al 0 (2^cf.ldepth-1)).map fun i=>(i,(0,[]))) [] c0:=by
  refine⟨k1,fun i p hp=>?_,fun d l hd=>(by cases hd),fun t ht=>by rw[show c0.f=qbB (Tr.mk qaq cf.depth) 0 args from rfl,k3];exact hm t ht⟩
  obtain⟨e1,e2⟩:=qiw hp
  subst e1
  exact⟨Tr.get_mk _ _ _,Tr.has_mk _ _ _ (by omega)⟩
 obtain⟨x,c1,F1,L1,h1,m1,m2,m3,⟨v9,s9,m4,e9⟩⟩:=qcY (c:=c0) cf.body rfl ag h
 refine⟨(x,c1),m1,?_⟩
 cases x with
 |exit i=>cases m4
 |normal=>
  obtain⟨l,h2,h3⟩:=qiv m3 cf.res m4
  simp only[zac,zaq] at h3
  exact⟨v9,by simp only[qgo,h2,zab,h3.1],e9⟩
 |ret=>
  obtain⟨l,h2,h3⟩:=qiv m3 cf.res m4
  simp only[zac,zaq] at h3
  exact⟨v9,by simp only[qgo,h2,zab,h3.1],e9⟩
end Go.AI
namespace Go.AI
variable {CP:Nat->Option CF}
def Ev (P:Nat->Prop):Prop:=∃N,∀n,N<=n->P n
theorem Ev.of {P:Nat->Prop}(h:∀n,P n):Ev P:=⟨0,fun n _=>h n⟩
theorem Ev.mono {P Q:Nat->Prop}(h:Ev P)(k:∀n,P n->Q n):Ev Q:=by
 obtain⟨N,h⟩:=h
 exact⟨N,fun n hn=>k n (h n hn)⟩
theorem Ev.and {P Q:Nat->Prop}(h:Ev P)(k:Ev Q):Ev fun n=>P n/\Q n:=by
 obtain⟨N,h⟩:=h
 obtain⟨M,k⟩:=k
 exact⟨N+M,fun n hn=>⟨h n (by omega),k n (by omega)⟩⟩
theorem Ev.ge (N:Nat):Ev fun n=>N<=n:=⟨N,fun _ h=>h⟩
theorem Ev.succ {P:Nat->Prop}(h:Ev fun n=>P (n+1)):Ev P:=by
 obtain⟨N,h⟩:=h
 refine⟨N+1,fun n hn=>?_⟩
 obtain⟨m,rfl⟩:∃m,n=m+1:=⟨n-1,by omega⟩
 exact h m (by omega)
theorem qdP (CP:Nat->Option CF)(n:Nat)(E:qaR):(qag CP (n+1) E).call=qcp CP (qag CP n) n E:=rfl
theorem qa9 (CP:Nat->Option CF)(n:Nat)(E:qaR):(qag CP n E).E=E:=by cases n<;>rfl
theorem qpm {n f:Nat}{E:qaR}{cf:CF}{args:List zA}{s s':ASt}{v:zA}(hcf:CP f=some cf)(hp:cf.pure=true)(hc:cf.clone=false)(hk:cf.keepA=false)(hl:args.length=cf.np)(hd:cf.np<2^cf.depth)(ha:args.all qbF=true)
  (hb:qau cf (qag CP n (s.heap++E)) n (args.map qaD) {s with heap:=[],toks:=[]}=some (v,s'))(hpl:qeh s.next (qaD v)=true):(qag CP (n+1) E).call f args s=some (qaD v,s):=by
 rw[qdP]
 unfold qcp
 rw[hcf,zaa,qaE hl,ha,hc,hp,hk]
 simp only[zat,zav,cond_true,cond_false]
 obtain⟨r,h1,v',h2,h3⟩:=qkN (by rw[zaZ,hl];exact hd) hb
 have:qml (qag CP n (s.heap++E)) n cf (args.map qaD) s=some v':=by
  unfold qml
  rw[h1,zaa,h2]
 rw[this,zaa,h3,hpl,cond_true]
theorem qrv {n f:Nat}{E:qaR}{cf:CF}{args:List zA}{s s':ASt}{v:zA}(hrf:qcJ cf.body=true)(hcf:CP f=some cf)(hp:cf.pure=false)(hc:cf.clone=false)(hl:args.length=cf.np)(hd:cf.np<2^cf.depth)(ha:args.all qbF=true)
  (hb:qau cf (qag CP n E) n (cond cf.keepA args (args.map qaD)) s=some (v,s'))(hpl:qmj (cond cf.keepR v (qaD v))=true):(qag CP (n+1) E).call f args s=some (cond cf.keepR v (qaD v),s'):=by
 rw[qdP]
 unfold qcp
 rw[hcf,zaa,qaE hl,ha,hc,hp]
 simp only[zat,zav,cond_true,cond_false]
 have hlen:(cond cf.keepA args (args.map qaD)).length<2^cf.depth:=by
  cases cf.keepA<;>simp[hl,hd]
 obtain⟨r,h1,h2,h3⟩:=qjk hrf hlen hb
 rw[h1,zaa,h2,zaa,hpl,cond_true,h3]
def flP (cf:CF)(np:Nat):Bool:=cf.pure&&(!cf.clone&&(!cf.keepA&&(Nat.beq cf.np np&&Nat.blt cf.np (2^cf.depth))))
def flI (cf:CF)(np:Nat):Bool:=qcJ cf.body&&(!cf.pure&&(!cf.clone&&(!cf.keepA&&(!cf.keepR&&(Nat.beq cf.np np&&Nat.blt cf.np (2^cf.depth))))))
theorem qhc {n f np:Nat}{E:qaR}{cf:CF}{args args':List zA}{s s':ASt}{v v':zA}(hcf:CP f=some cf)(hfl:flP cf np=true)(hl:args.length=np)(ha:args.all qbF=true)(hargs:args.map qaD=args')
  (hb:qau cf (qag CP n (s.heap++E)) n args' {s with heap:=[],toks:=[]}=some (v,s'))(hv:qaD v=v')(hpl:qeh s.next v'=true):(qag CP (n+1) E).call f args s=some (v',s):=by
 simp only[flP,zag,za0] at hfl
 obtain⟨h1,h2,h3,h4,h5⟩:=hfl
 subst hargs;subst hv
 exact qpm hcf h1 h2 h3 (by rw[hl];exact(beq_iff.1 h4).symm) (blt_iff.1 h5) ha hb hpl
theorem qfy {n f np:Nat}{E:qaR}{cf:CF}{args args':List zA}{s s':ASt}{v v':zA}(hcf:CP f=some cf)(hfl:flI cf np=true)(hl:args.length=np)(ha:args.all qbF=true)(hargs:args.map qaD=args')
  (hb:qau cf (qag CP n E) n args' s=some (v,s'))(hv:qaD v=v')(hpl:qmj v'=true):(qag CP (n+1) E).call f args s=some (v',s'):=by
 simp only[flI,zag,za0] at hfl
 obtain⟨h0,h1,h2,h3,h4,h5,h6⟩:=hfl
 subst hargs;subst hv
 have:=qrv (n:=n) (E:=E) (args:=args) (s:=s) (s':=s') (v:=v) h0 hcf h1 h2 (by rw[hl];exact(beq_iff.1 h5).symm) (blt_iff.1 h6) ha (by rw[h3];exact hb) (by rw[h4];exact hpl)
 rw[h4] at this
 exact this
@[simp] theorem qwx {α:Type} (x y:α):cnd true x y=x:=rfl
@[simp] theorem qvk {α:Type} (x y:α):cnd false x y=y:=rfl
theorem qb4 (e:Env)(f:Nat)(xs:List zA)(s:ASt):cl e f xs s=e.call f xs s:=by
 have:(xs.map Arg.c).map (Arg.ev .nil)=xs:=by
  induction xs with
  |nil=>rfl
  |cons x xs ih=>simp only[zam,ih];rfl
 unfold cl stV
 simp only[qaJ,this]
 cases e.call f xs s with
 |none=>rfl
 |some r=>rfl
theorem qhd (e:Env)(f:zA)(xs:List zA)(s:ASt):clv e f xs s=e.callv f xs s:=by
 have:(xs.map Arg.c).map (Arg.ev .nil)=xs:=by
  induction xs with
  |nil=>rfl
  |cons x xs ih=>simp only[zam,ih];rfl
 unfold clv stV
 simp only[qaJ,this,Arg.ev]
 cases e.callv f xs s with
 |none=>rfl
 |some r=>rfl
theorem qnX (n:Nat)(E:qaR)(f:Nat)(a b args:List zA)(s:ASt):(qag CP (n+1) E).callv (.func f a b) args s=(qag CP (n+1) E).call f (a++(args++b)) s:=rfl
theorem qfe (n:Nat)(E:qaR)(f:Nat)(a b:List zP)(args:List zA)(s:ASt):(qag CP (n+1) E).callv (.p (.func f a b)) args s=(qag CP (n+1) E).call f (a.map zP.whole++(args++b.map zP.whole)) s:=rfl
@[simp] theorem qab {α β γ:Type} (a:α) (b:β) (k:α->β->Option γ):qac (some (a,b)) k=k a b:=rfl
@[simp] theorem qaa (b:Bool) (x y:Res):qae (.p (.bool b)) x y=cond b x y:=rfl
@[simp] theorem qaj {α β:Type} (x:α) (f:α->β):jn x f=f x:=rfl
theorem qa6 {T:Type}(z:T)(f:T->T)(n:Nat):lp z f (n+1)=f (lp z f n):=rfl
@[simp] theorem qad (o:BinOp) (k:IntKind) (a b:Int):bn o (.p (.int k a)) (.p (.int k b))=(qcc o k a b).map .p:=by
 unfold bn pu
 simp only[qaF,Arg.ev,qnF]
 have:keq k k=true:=by cases k<;>rfl
 rw[this]
 rfl
@[simp] theorem qx2 (o:BinOp) (a b:ByteArray):bn o (.p (.str a)) (.p (.str b))=(qmk o a b).map .p:=rfl
@[simp] theorem qan (vs:List zA) (i:Nat):ex (.tuple vs) i=qeP vs i:=rfl
@[simp] theorem qx3 (s:ByteArray):ln true (.p (.str s))=some (.p (.int .i64 (.ofNat (qga s)))):=rfl
@[simp] theorem qbq (n:Nat) (cs:List zP):ln false (.p (.sl n cs))=some (.p (.int .i64 (.ofNat n))):=rfl
@[simp] theorem ln_sl (n:Nat) (cs:List zP) (t:Tk):ln false (.sl n cs t)=some (.p (.int .i64 (.ofNat n))):=rfl
@[simp] theorem qmX (k k':IntKind) (n:Int):cv k (.p (.int k' n))=some (.p (.int k (qbb k n))):=rfl
@[simp] theorem qam (b:Bool):nt (.p (.bool b))=some (.p (.bool !b)):=rfl
theorem qvl {sz n i:Nat}{cs:List zP}{k:IntKind}(h:i<n):iaV sz (.p (.sl n cs)) (.p (.int k (.ofNat i)))=some (cs,i*sz):=by
 unfold iaV
 simp only[qhN,qdE,blt_iff.2 h,cond_true]
theorem qfz (e:Env)(s:ASt)(cs:List zP)(o:Nat)(n:Option Nat):ldH e s (.elem cs o) n=((cut cs o (cnt n)).map fun cs=>cs.map zA.p).bind (zA.ofCells n):=by
 unfold ldH
 simp only[loadFrom]
 cases cut cs o (cnt n)<;>rfl
end Go.AI
namespace Go.AI
variable {P:Program}
theorem qkO (M:List Fact)(e:Env)(f:Nat)(args:List zA)(s:ASt):(qe9 M e).call f args s=match (qcI (args.map qaD)).bind (qft M f) with
   |some r=>some (.p r,s)
   |none=>e.call f args s:=rfl
def qkP (f:Nat):List Fact->Bool
 |[]=>true
 |x::r=>!Nat.beq x.f f&&qkP f r
theorem qhe {f:Nat}{args:List zP}:∀{M:List Fact},qkP f M=true->qft M f args=none
 |[],_=>rfl
 |x::M,h=>by
  simp only[qkP,zag,za0] at h
  unfold qft
  rw[h.1,zav,cond_false]
  exact qhe h.2
theorem qnY {M:List Fact}{e:Env}{f:Nat}(h:qkP f M=true)(args:List zA)(s:ASt):cl (qe9 M e) f args s=cl e f args s:=by
 rw[qb4,qb4,qkO]
 cases hp:qcI (args.map qaD) with
 |none=>rfl
 |some cs=>
  rw[zaa,qhe h]
theorem qrw {CP:Nat->Option CF}(pk:ProgOK P CP){M:List Fact}(hM:∀x∈M,qkB P CP x){n f:Nat}{cf:CF}{args:List zA}{vs:Array Value}{b:Bool}{s':ASt}(hcf:CP f=some cf)(hnp:args.length=cf.np)(hd:cf.np<2^cf.depth){w:World}
  (ha:VRs G00 w args vs.toList)(h:qau cf (qe9 M (qag CP n [])) n args s00=some (.p (.bool b),s')):Calls P f vs w fun e w'=>e=.returned (.bool b)/\RowKit.Grown w w':=by
 obtain⟨r,hr,v',hl,hv'⟩:=qkN (by rw[hnp];exact hd) h
 have hv2:v'=.p (.bool b):=by
  cases v'<;>first|(cases hv';done)|(rename_i pv;cases pv<;>first|exact hv'|cases hv')
 rw[hv2] at hl
 obtain⟨fn,fl,hf,hc,_⟩:=pk.code f cf hcf
 have se:=qtk pk hM (qmL pk n [])
 have hE:(qe9 M (qag CP n [])).E=[]:=qe8 CP n []
 have mr:MR P (qe9 M (qag CP n [])).E (fun _=>none) (fun _=>none) (Tr.mk (0,[]) cf.ldepth) s00 G00 w:=by
  rw[hE]
  have h0:=qx1 P w
  refine⟨h0.own,h0.bOf,h0.lo_,h0.un,fun i zs h=>(by cases h),h0.nt,fun i g cs h hg _=>?_,fun i g b h=>(by cases h),h0.heap,h0.ro,h0.tok⟩
  rw[Tr.get_mk] at h
  cases h
  exact absurd rfl hg
 have:=qo1 (args:=args) (vs:=vs) (v:=.p (.bool b)) se pk.orders hf hc hnp mr ha hr hl
 exact Calls.mono ((callsIn_wide (n:=0)).1 this) fun e w' ⟨u,he,G',x,_,hv⟩=>⟨by rw[he,hv.bool_inv],qmM x⟩
end Go.AI
namespace Go.AI
def qlM:EX->zA
 |.normal=>u8 0
 |.exit i=>i64 (.ofNat i)
 |.ret=>u8 2
theorem qpn {x y:EX}(h:qlM x=qlM y):x=y:=by
 cases x<;>cases y<;>simp only[qlM,zA.p.injEq,zP.int.injEq,reduceCtorEq,false_and] at h⊢
 ·simp at h
 ·obtain⟨_,h⟩:=h
  injection h with h
  rw[h]
 ·simp at h
noncomputable def qvm (nt nl:Nat) (e:Env) (n:Nat) (a b:CC) (u:ASt->ASt) (F:FL) (L:LL) (s:ASt):Res:=
 match qfa b (qfa a 0) with
 |loc=>qfw loc nt nl e n a (qnU b 0 [] 0) [] 0 F L [] s fun x F L _ s=>match x with
  |.normal=>qfw loc nt nl e n b 0 [] 0 F L [] (u s) fun x _ _ _ s=>some (qlM x,s)
  |_=>none
theorem qvn {nt nl:Nat}{e:Env}{n:Nat}{a b:CC}{u:ASt->ASt}{F:FL}{L:LL}{c:Cfg}{x:EX}{s2:ASt}(hrf:(qcJ a&&qcJ b)=true)(hcs:(qit (qfa b (qfa a 0)) a).cs=false)(ag:AG nt F L [] c)(h:qvm nt nl e n a b u F L c.s=some (qlM x,s2)):
  ∃ca cb,qbs e n a c=some (.normal,ca)/\ca.s=c.s/\qbs e n b {ca with s:=u c.s}=some (x,cb)/\cb.s=s2:=by
 rw[zag] at hrf
 unfold qvm at h
 obtain⟨y,ca,F1,L1,h1,k1,k2,k3,k4⟩:=qce a hrf.1 ag h
 have hs:=k2.s hcs
 cases y with
 |normal=>
  simp only at k4
  rw[hs] at k4
  obtain⟨z,cb,F2,L2,h2,m1,m2,m3,m4⟩:=qce (c:={ca with s:=u c.s}) b hrf.2 ⟨k3.f,k3.l,fun d l hd=>(by cases hd),k3.hf⟩ k4
  simp only[zac,zaq] at m4
  have:=qpn m4.1
  subst this
  exact⟨ca,cb,k1,hs,m1,m4.2⟩
 |exit i=>cases k4
 |ret=>cases k4
end Go.AI
namespace Go.AI
variable {P:Program}
inductive HasT (P:Program):Nat->TypeId->List zP->Prop where
 |bool {n t} (ht:P.underlying t=some .bool) (b:Bool):HasT P (n+1) t [.bool b]
 |int {n t k} (ht:P.underlying t=some (.int k)) (a:Int) (hw:(Lit.int k a).wf=true):HasT P (n+1) t [.int k a]
 |str {n t} (ht:P.underlying t=some .string) (s:ByteArray) (hs:s.size<=maxLen):HasT P (n+1) t [.str s]
 |sl {n t e} (ht:P.underlying t=some (.slice e)) (ls:List (List zP)) (hl:ls.length<=maxLen) (h:∀l∈ls,HasT P n e l):HasT P (n+1) t [.sl ls.length ls.flatten]
 |struct {n t fs} (ht:P.underlying t=some (.struct fs)) (ls:List (List zP)) (hl:ls.length=fs.size) (h:∀(i:Nat) l f,ls[i]? =some l->fs[i]? =some f->HasT P n f.type l):HasT P (n+1) t ls.flatten
def qvo (P:Program):List Field->Nat->Option Nat
 |[],off=>some off
 |f::r,off=>cond (Nat.beq f.offset off) (qvo P r (off+P.cellsOf f.type)) none
def qsv (P:Program)(ts:List TypeId)(t:TypeId):Bool:=
 match P.underlying t with
 |some .bool=>Nat.beq (P.cellsOf t) 1
 |some (.int _)=>Nat.beq (P.cellsOf t) 1
 |some .string=>Nat.beq (P.cellsOf t) 1
 |some (.slice e)=>Nat.beq (P.cellsOf t) 1&&(ts.contains e&&Nat.blt 0 (P.cellsOf e))
 |some (.struct fs)=>fs.toList.all (fun f=>ts.contains f.type)&&(match qvo P fs.toList 0 with
  |some n=>Nat.beq n (P.cellsOf t)
  |none=>false)
 |_=>false
def qhf (P:Program)(ts:List TypeId):Bool:=ts.all (qsv P ts)
abbrev S1:Nat->Nat->Prop:=fun _ _=>True
def qnZ (P:Program)(w:World)(n:Nat)(t:TypeId)(cs:List Value)(pcs:List zP):Prop:=
 HasT P n t pcs/\pcs.length=cs.length/\(∀v∈cs,v.oneCell'=true)/\∀(i:Nat) c v,pcs[i]? =some c->cs[i]? =some v->PR S1 w c v
theorem qer {w:World}{n:Nat}{t:TypeId}{c:zP}{v:Value}(h:HasT P n t [c])(h1:v.oneCell'=true)(hp:PR S1 w c v):qnZ P w n t [v] [c]:=by
 refine⟨h,rfl,by simpa using h1,fun i d u hd hu=>?_⟩
 cases i with
 |zero=>
  simp only[zas,zac] at hd hu
  subst hd;subst hu;exact hp
 |succ i=>simp at hd
theorem qhX {w:World}{a:Addr}{sz:Nat}{cs:List Value}(h:(List.range sz).mapM (fun i=>w.cell? (a.add i))=some cs):cs.length=sz/\∀(j:Nat) v,cs[j]? =some v->w.cell? (a.add j)=some v:=by
 have h1:=mapM_some_length h
 rw[List.length_range] at h1
 refine⟨h1,fun j v hj=>?_⟩
 have hj':j<sz:=by
  rw[<-h1]
  exact(zao.1 hj).1
 have:=mapM_some_get h j j (by rw[List.getElem?_range hj'])
 rw[this];exact hj
theorem qjl {α:Type}{sz:Nat}:∀{ls:List (List α)},(∀l∈ls,l.length=sz)->ls.flatten.length=ls.length*sz/\∀(i:Nat) x,ls.flatten[i]? =some x->0<sz->∃l,ls[i/sz]? =some l/\l[i%sz]? =some x
 |[],_=>⟨by simp,fun i x h=>by simp at h⟩
 |l::ls,h=>by
  obtain⟨h1,h2⟩:=qjl (ls:=ls) fun l hl=>h l (zax _ hl)
  have hl:=h l (zau ..)
  refine⟨by simp only[List.flatten_cons,zaw,h1,hl,zar,Nat.add_mul,Nat.one_mul];omega,fun i x hx hs=>?_⟩
  rw[List.flatten_cons] at hx
  by_cases hi:i<sz
  ·rw[zaP (by rw[hl];exact hi)] at hx
   refine⟨l,?_,?_⟩
   ·rw[Nat.div_eq_of_lt hi];rfl
   ·rw[Nat.mod_eq_of_lt hi];exact hx
  ·rw[zaC (by rw[hl];omega),hl] at hx
   obtain⟨m,hm,hx⟩:=h2 _ x hx hs
   refine⟨m,?_,?_⟩
   ·have:i/sz=(i-sz)/sz+1:=by
     rw[<-Nat.add_div_right _ hs]
     congr 1;omega
    rw[this,zaO];exact hm
   ·have:i%sz=(i-sz)%sz:=by
     rw[Nat.mod_eq_sub_mod (by omega)]
    rw[this];exact hx
section
variable {H:Type} {enc:TypeId×Value->H} {w:World} {base:Nat} {spare:Nat->Bool} {held:Bool}
theorem qgi {ts:List TypeId}{n:Nat}{cs:List Value}(ih:∀t cs x,t∈ts->DataW.trod enc P w base spare held n t cs=some x->∃pcs,qnZ P w n t cs pcs):
  ∀(fs:List Field) (off tot:Nat),qvo P fs off=some tot→tot≤cs.length→(∀f∈fs,f.type∈ts)→(∀f∈fs,∃x,DataW.trod enc P w base spare held n f.type ((cs.drop f.offset).take (P.cellsOf f.type))=some x)→
   off<=tot/\∃ls:List (List zP),ls.length=fs.length/\(∀(i:Nat) l f,ls[i]? =some l->fs[i]? =some f->HasT P n f.type l)/\ls.flatten.length=tot-off/\(∀v∈(cs.drop off).take (tot-off),v.oneCell'=true)/\
    ∀(i:Nat) c v,ls.flatten[i]? =some c->(cs.drop off)[i]? =some v->PR S1 w c v
 |[],off,tot,h,hle,_,_=>by
  simp only[qvo,zac] at h
  subst h
  exact⟨zan _,[],rfl,fun i l f h=>(by simp at h),by simp,fun v hv=>by simp at hv,fun i c v h=>by simp at h⟩
 |f::fs,off,tot,h,hle,hts,hx=>by
  simp only[qvo] at h
  obtain⟨ho,h⟩:=qat h
  have ho:=beq_iff.1 ho
  obtain⟨h1,ls,h2,h3,h4,h5,h6⟩:=qgi ih fs _ tot h hle (fun g hg=>hts g (zax _ hg)) (fun g hg=>hx g (zax _ hg))
  obtain⟨x,hx⟩:=hx f (zau ..)
  rw[ho] at hx
  obtain⟨pcs,k1,k2,k3,k4⟩:=ih f.type _ x (hts f (zau ..)) hx
  have hlen:pcs.length=P.cellsOf f.type:=by
   rw[k2,List.length_take,List.length_drop]
   omega
  refine⟨by omega,pcs::ls,by simp[h2],fun i l g hl hg=>?_,?_,fun v hv=>?_,fun i c v hc hv=>?_⟩
  ·cases i with
   |zero=>
    simp only[zas,zac] at hl hg
    subst hl;subst hg;exact k1
   |succ i=>exact h3 i l g (by simpa using hl) (by simpa using hg)
  ·rw[List.flatten_cons,zaw,hlen,h4];omega
  ·have e:(cs.drop off).take (tot-off)=(cs.drop off).take (P.cellsOf f.type)++(cs.drop (off+P.cellsOf f.type)).take (tot-(off+P.cellsOf f.type)):=by
    rw[<-List.drop_drop]
    have:tot-off=P.cellsOf f.type+(tot-(off+P.cellsOf f.type)):=by omega
    rw[this,List.take_add]
   rw[e,zaI] at hv
   rcases hv with hv|hv
   ·exact k3 v hv
   ·exact h5 v hv
  ·rw[List.flatten_cons] at hc
   by_cases hi:i<P.cellsOf f.type
   ·rw[zaP (by rw[hlen];exact hi)] at hc
    exact k4 i c v hc (by rw[List.getElem?_take,if_pos hi];exact hv)
   ·rw[zaC (by rw[hlen];omega),hlen] at hc
    refine h6 _ c v hc ?_
    rw[<-List.drop_drop,List.getElem?_drop]
    rw[show P.cellsOf f.type+(i-P.cellsOf f.type)=i by omega]
    exact hv
theorem qix {ts:List TypeId}(hok:qhf P ts=true):∀(n:Nat) (t:TypeId) (cs:List Value) (x:DataW H×List MemPlace),t∈ts->DataW.trod enc P w base spare held n t cs=some x->∃pcs,qnZ P w n t cs pcs:=by
 intro n
 induction n with
 |zero=>intro t cs x _ h;simp[DataW.trod] at h
 |succ n ih=>
  intro t cs x ht h
  have hk:=zaN.1 hok t ht
  unfold qsv at hk
  split at hk
  ·rename_i hu
   obtain⟨b,rfl,_⟩:=DataW.trod_bool hu h
   exact⟨[.bool b],qer (.bool hu b) rfl (.bool b)⟩
  ·rename_i k hu
   obtain⟨a,rfl,_,hw⟩:=DataW.trod_int hu h
   exact⟨[.int k a],qer (.int hu a hw) rfl (.int k a)⟩
  ·rename_i hu
   obtain⟨s,rfl,_,hs⟩:=DataW.trod_string hu h
   exact⟨[.str s],qer (.str hu s hs) rfl (.str s)⟩
  ·rename_i e hu
   simp only[zag] at hk
   have he:e∈ts:=by simpa using hk.2.1
   have hsz:0<P.cellsOf e:=blt_iff.1 hk.2.2
   rcases DataW.trod_slice hu h with⟨rfl,_⟩|⟨a,len,cap,elems,rest,m,hm,rfl,_,_,hlc,hcm,hlen,hel,_,_⟩
   ·refine⟨[.sl 0 []],qer (HasT.sl hu [] (zaY _) fun l hl=>by cases hl) rfl (PR.nil_row _ _)⟩
   ·have hm:n=m:=by omega
    subst hm
    have each:∀i,i<len->∃csi pcs,w.cells? base (a.add (i*P.cellsOf e)) (P.cellsOf e)=some csi/\qnZ P w n e csi pcs:=by
     intro i hi
     have h1:=hel i hi
     obtain⟨y,hy⟩:∃y,elems[i]? =some y:=⟨elems[i]'(by omega),zah _⟩
     rw[hy,zae] at h1
     obtain⟨csi,h2,h3⟩:=h1
     obtain⟨pcs,hp⟩:=ih e csi y he h3
     exact⟨csi,pcs,h2,hp⟩
    have rows:∀k,k<=len->∃(cls:List (List Value)) (pls:List (List zP)),cls.length=k/\pls.length=k/\∀i,i<k->∃c p,cls[i]? =some c/\pls[i]? =some p/\w.cells? base (a.add (i*P.cellsOf e)) (P.cellsOf e)=some c/\qnZ P w n e c p:=by
     intro k
     induction k with
     |zero=>intro _;exact⟨[],[],rfl,rfl,fun i h=>by omega⟩
     |succ k ihk=>
      intro hk
      obtain⟨cls,pls,e1,e2,h1⟩:=ihk (by omega)
      obtain⟨c,p,h2,h3⟩:=each k (by omega)
      refine⟨cls++[c],pls++[p],by simp[e1],by simp[e2],fun i hi=>?_⟩
      by_cases hik:i<k
      ·obtain⟨c',p',h4,h5,h6⟩:=h1 i hik
       exact⟨c',p',by rw[zaP (by omega)];exact h4,by rw[zaP (by omega)];exact h5,h6⟩
      ·have:i=k:=by omega
       subst this
       exact⟨c,p,by rw[<-e1,zaC (zan _)];simp,by rw[<-e2,zaC (zan _)];simp,h2,h3⟩
    obtain⟨cls,pls,e1,e2,h1⟩:=rows len (zan _)
    have cell:∀i c,w.cells? base (a.add (i*P.cellsOf e)) (P.cellsOf e)=some c->c.length=P.cellsOf e/\∀(j:Nat) v,c[j]? =some v->w.cell? (a.add (i*P.cellsOf e+j))=some v:=by
     intro i c hc
     unfold World.cells? at hc
     split at hc<;>try (cases hc;done)
     obtain⟨k1,k2⟩:=qhX hc
     refine⟨k1,fun j v hv=>?_⟩
     have:=k2 j v hv
     rw[qgs] at this
     exact this
    have hcl:∀l∈cls,l.length=P.cellsOf e:=by
     intro l hl
     obtain⟨i,hi,rfl⟩:=List.getElem_of_mem hl
     obtain⟨c,p,h4,_,h5,_⟩:=h1 i (by omega)
     rw[zah hi,zac] at h4
     rw[h4]
     exact(cell i c h5).1
    have hpl:∀l∈pls,l.length=P.cellsOf e/\HasT P n e l:=by
     intro l hl
     obtain⟨i,hi,rfl⟩:=List.getElem_of_mem hl
     obtain⟨c,p,h4,h6,h5,h7,h8,_⟩:=h1 i (by omega)
     rw[zah hi,zac] at h6
     rw[h6]
     exact⟨by rw[h8];exact(cell i c h5).1,h7⟩
    obtain⟨f1,f2⟩:=qjl hcl
    obtain⟨g1,g2⟩:=qjl fun l hl=>(hpl l hl).1
    refine⟨[.sl len pls.flatten],qer ?_ rfl ?_⟩
    ·have:=HasT.sl hu pls (by omega) fun l hl=>(hpl l hl).2
     rw[e2] at this
     exact this
    ·refine .sl len pls.flatten (some a) cap cls.flatten hlc (by rw[g1,f1,e1,e2]) ⟨fun h0=>?_,fun h0=>?_⟩ (fun v hv=>?_) (fun i v hv=>?_) (fun i c v hc hv=>?_)
     ·subst h0
      rw[za1.1 e2];rfl
     ·rcases Nat.eq_zero_or_pos len with h|h
      ·exact h
      ·rw[h0,e2] at g1
       have:=Nat.mul_pos h hsz
       simp at g1
       omega
     ·obtain⟨i,hi⟩:=List.getElem?_of_mem hv
      obtain⟨l,hl,hv'⟩:=f2 i v hi hsz
      have hlt:i/P.cellsOf e<len:=by rw[<-e1];exact(zao.1 hl).1
      obtain⟨c,p,h4,h6,h5,_,_,h8,_⟩:=h1 _ hlt
      rw[hl] at h4
      cases h4
      exact h8 v (zaM hv')
     ·obtain⟨l,hl,hv'⟩:=f2 i v hv hsz
      have hlt:i/P.cellsOf e<len:=by rw[<-e1];exact(zao.1 hl).1
      obtain⟨c,p,h4,h6,h5,_⟩:=h1 _ hlt
      rw[hl] at h4
      cases h4
      have:=(cell _ _ h5).2 _ v hv'
      rw[show i/P.cellsOf e*P.cellsOf e+i%P.cellsOf e=i by rw[Nat.mul_comm];exact Nat.div_add_mod i _] at this
      exact⟨a,rfl,this,trivial⟩
     ·obtain⟨l,hl,hv'⟩:=f2 i v hv hsz
      obtain⟨m,hm',hc'⟩:=g2 i c hc hsz
      have hlt:i/P.cellsOf e<len:=by rw[<-e1];exact(zao.1 hl).1
      obtain⟨c0,p0,h4,h6,h5,_,_,_,h8⟩:=h1 _ hlt
      rw[hl] at h4
      cases h4
      rw[hm'] at h6
      cases h6
      exact h8 _ c v hc' hv'
  ·rename_i fs hu
   simp only[zag] at hk
   obtain⟨xs,m,hm,_,hlen,hxl,hxs⟩:=DataW.trod_struct hu h
   have hm:n=m:=by omega
   subst hm
   obtain⟨hk1,hk2⟩:=hk
   split at hk2<;>try (cases hk2;done)
   rename_i tot htot
   have htot':=beq_iff.1 hk2
   obtain⟨_,ls,h2,h3,h4,h5,h6⟩:=qgi (cs:=cs) ih fs.toList 0 tot htot (by omega) (fun f hf=>by simpa using zaN.1 hk1 f hf) (fun f hf=>by
    obtain⟨i,hi,rfl⟩:=List.getElem_of_mem hf
    have:=hxs i (fs.toList[i]) (by rw[<-zaL,zah hi])
    rw[this]
    have hi':i<xs.length:=by rw[hxl,<-zbc];exact hi
    exact⟨xs[i],zah hi'⟩)
   refine⟨ls.flatten,HasT.struct hu ls (by rw[h2,zbc]) (fun i l f hl hf=>h3 i l f hl (by rw[zaL];exact hf)),by rw[h4,hlen];omega,fun v hv=>h5 v (by rw[List.drop_zero,Nat.sub_zero,htot',<-hlen,List.take_length];exact hv),fun i c v hc hv=>h6 i c v hc (by rw[List.drop_zero];exact hv)⟩
  ·cases hk
end
end Go.AI
