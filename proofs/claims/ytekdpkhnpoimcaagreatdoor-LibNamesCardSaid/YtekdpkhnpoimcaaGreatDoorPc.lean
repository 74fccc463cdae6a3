/- An interpreter for the code of the model, proved sound. No condition. -/
import Derived.Test.YtekdpkhnpoimcaaGreatDoorPb
import Derived.LoopNIn
import Derived.RowKit3
import Derived.Shelf.Strings.Builder1
import Derived.Shelf.Strings.Replace
import Derived.Shelf.Strings.Count
import Derived.Test.YtekdpkhnpoimcaaGreatDoorPa
import Derived.Lib.Bytealg
set_option linter.unusedVariables false
set_option linter.unusedSimpArgs false
open Array renaming getElem?_eq_some_iff→zag,getElem?_toList→zal,getElem?_eq_getElem→zam,getD_eq_getD_getElem?→zao,length_toList→zay
open Bool renaming and_eq_true→zae,false_eq_true→zaB,not_eq_true'→zaC,or_eq_true→zaG,or_eq_false_iff→zaK
open List renaming getElem?_eq_some_iff→zah,getElem?_eq_getElem→zai,all_eq_true→zaj,getElem?_cons_zero→zak,length_append→zan,replicate→zar,getElem?_map→zav,mem_of_getElem?→zaw,mem_cons_self→zaz,mem_append→zaA,mem_cons_of_mem→zaE,map_cons→zaF,mem_cons→zaI,length_take→zaM,length_cons→zaO,mem_map→zaS
open Nat renaming le_refl→zaf,lt_of_lt_of_le→zas,zero_add→zaL,lor→zaQ,le_trans→zaR
open Option renaming bind_eq_some_iff→zab,map_eq_some_iff→zac,bind_some→zap,map_some→zaq
open Option.some renaming injEq→zaa
open Prod.mk renaming injEq→zad
namespace Go.AI
variable {P:Program} {e:Env} {lof:Nat->Option Nat} {nt base:Nat} {ops:Array Oper} {cs:List COp} {ms:List Nat} {tr:Nat->Cfg} {G0:Gh} {w0:World} {U0:Nat->Option (List zA)}
theorem memN_iff {x:Nat}{l:List Nat}:qfj x l=true↔x∈l:=by
 unfold qfj
 rw[qkd,List.contains_toArray,List.contains_iff_mem]
theorem memN_not {x:Nat}{l:List Nat}:qfj x l=false↔x∉l:=by
 rw[<-memN_iff]
 cases qfj x l<;>simp
theorem dstOf_mem {o:COp}{d:Nat}:d∈qbT o↔o.dst=some d:=by
 unfold qbT
 cases o.dst with
 |none=>simp
 |some x=>simp[eq_comm]
theorem qlO {als:List Nat}{o:COp}(h:qfk als o=true){d:Nat}(hd:o.dst=some d):d∉als:=by
 have:=zaj.1 h d (dstOf_mem.2 hd)
 simp only[zaC] at this
 exact memN_not.1 this
inductive LateCase (l:List COp)(als:List Nat)(i:Nat)(p:Oper)(o:COp):Prop where
 |plain (h:qa5 o.op=false) (hd:∀d,o.dst=some d->d∉als)
 |new (t:TypeId) (d:Nat) (hop:p.op=.makeMap t none) (h:qa5 o.op=true) (hg:o.guard=none) (hd:o.dst=some d) (ha:d∈als)
 |ins (t:TypeId) (x:Nat) (y z:Operand) (hop:p.op=.insert t (.tmp x) y z\/p.op=.mapUpdate t (.tmp x) y z) (h:qa5 o.op=true) (hg:o.guard=none) (hd:o.dst=none) (hx:x∈als) (hs:qbu l i x=true) (hst:qd8 l i o.op=true)
 |al (x d:Nat) (hop:p.op=.move (.tmp x)\/p.op=.assign (.tmp x)) (h:qa5 o.op=false) (hg:o.guard=none) (hd:o.dst=some d) (ha:d∈als) (hx:x∈als) (hs:qbu l i x=true)
theorem qg3 {l:List COp}{als:List Nat}{i:Nat}{p:Oper}{o:COp}(h:qjV l als i p o=true):LateCase l als i p o:=by
 have gn:∀{g:Option (Nat×Bool)},g.isNone=true->g=none:=fun {g} h=>by cases g<;>first|rfl|cases h
 have dn:∀{g:Option Nat},g.isNone=true->g=none:=fun {g} h=>by cases g<;>first|rfl|cases h
 have ds:∀{g:Option Nat},g.isSome=true->∃d,g=some d:=fun {g} h=>by cases g<;>first|exact⟨_,rfl⟩|cases h
 have da:∀{d:Nat},(qbT o).all (qfj · als)=true->o.dst=some d->d∈als:=fun {d} h hd=>memN_iff.1 (zaj.1 h d (dstOf_mem.2 hd))
 have plain:qa5 o.op=false->qfk als o=true->LateCase l als i p o:=fun h1 h2=> .plain h1 fun d hd=>qlO h2 hd
 have mv:∀{x:Nat},(p.op=.move (.tmp x)\/p.op=.assign (.tmp x))->(!(qa5 o.op)&&cond (qfj x als) (o.guard.isNone&&(o.dst.isSome&&(qbu l i x&&(qbT o).all (qfj · als)))) (qfk als o))=true->LateCase l als i p o:=by
  intro x hop h
  simp only[zae,zaC] at h
  obtain⟨h1,h⟩:=h
  cases hm:qfj x als with
  |false=>rw[hm] at h;exact plain h1 h
  |true=>
   rw[hm] at h
   simp only[cond_true,zae] at h
   obtain⟨d,hd⟩:=ds h.2.1
   exact .al x d hop h1 (gn h.1) hd (da h.2.2.2 hd) (memN_iff.1 hm) h.2.2.1
 have is:∀{t:TypeId} {x:Nat} {y z:Operand},(p.op=.insert t (.tmp x) y z\/p.op=.mapUpdate t (.tmp x) y z)->cond (qa5 o.op) (o.guard.isNone&&(o.dst.isNone&&(qfj x als&&(qbu l i x&&qd8 l i o.op)))) (qfk als o)=true->LateCase l als i p o:=by
  intro t x y z hop h
  cases hm:qa5 o.op with
  |false=>rw[hm] at h;exact plain hm h
  |true=>
   rw[hm] at h
   simp only[cond_true,zae] at h
   exact .ins t x y z hop hm (gn h.1) (dn h.2.1) (memN_iff.1 h.2.2.1) h.2.2.2.1 h.2.2.2.2
 unfold qjV at h
 split at h
 ·rename_i t hop
  cases hm:qa5 o.op with
  |false=>rw[hm] at h;exact plain hm h
  |true=>
   rw[hm] at h
   simp only[cond_true,zae] at h
   obtain⟨d,hd⟩:=ds h.2.1
   exact .new t d hop hm (gn h.1) hd (da h.2.2 hd)
 ·rename_i hop;exact is (.inl hop) h
 ·rename_i hop;exact is (.inr hop) h
 ·rename_i hop;exact mv (.inl hop) h
 ·rename_i hop;exact mv (.inr hop) h
 ·simp only[zae,zaC] at h
  exact plain h.1 h.2
def qhv:List COp->Nat->List (Nat×(Arg×Arg))
 |[],_=>[]
 |o::r,n=>match o.op with
  |.lins _ _ _ k v=>(n,k,v)::qhv r (n+1)
  |_=>qhv r (n+1)
theorem qgc:∀(l:List COp) (n:Nat),(qhv l n).map (·.2)=qgH l
 |[],_=>rfl
 |o::r,n=>by
  have ih:=qgc r (n+1)
  unfold qhv qgH
  rw[List.filterMap_cons]
  split
  ·rename_i h
   simp only[h,zaF,ih]
   rfl
  ·rename_i h
   split
   ·rename_i h2
    split at h2
    ·rename_i h3;exact absurd h3 (h _ _ _ _ _)
    ·exact ih
   ·rename_i h2
    split at h2
    ·rename_i h3;exact absurd h3 (h _ _ _ _ _)
    ·cases h2
theorem qeg:∀(l:List COp) (n:Nat) {j:Nat} {k v:Arg},(j,k,v)∈qhv l n↔n<=j/\∃o kd ks m,l[j-n]? =some o/\o.op=.lins kd ks m k v
 |[],n,j,k,v=>Iff.intro (fun h=>by cases h) (fun⟨_,o,kd,ks,m,h,_⟩=>by simp at h)
 |o::r,n,j,k,v=>by
  have ih:= @qeg r (n+1) j k v
  have step:(n<=j/\∃o' kd ks m,(o::r)[j-n]? =some o'/\o'.op=.lins kd ks m k v)↔(j=n/\∃kd ks m,o.op=.lins kd ks m k v)\/(n+1<=j/\∃o kd ks m,r[j-(n+1)]? =some o/\o.op=.lins kd ks m k v):=by
   constructor
   ·rintro ⟨h1,o',kd,ks,m,h2,h3⟩
    by_cases e:j=n
    ·subst e
     rw[Nat.sub_self,zak] at h2
     cases h2
     exact .inl ⟨rfl,kd,ks,m,h3⟩
    ·have:j-n=(j-(n+1))+1:=by omega
     rw[this,List.getElem?_cons_succ] at h2
     exact .inr ⟨by omega,o',kd,ks,m,h2,h3⟩
   ·rintro (⟨rfl,kd,ks,m,h⟩|⟨h1,o',kd,ks,m,h2,h3⟩)
    ·exact⟨zaf _,o,kd,ks,m,by rw[Nat.sub_self,zak],h⟩
    ·have:j-n=(j-(n+1))+1:=by omega
     exact⟨by omega,o',kd,ks,m,by rw[this,List.getElem?_cons_succ];exact h2,h3⟩
  rw[step,<-ih]
  show(j,k,v)∈(match o.op with
   |.lins _ _ _ k v=>(n,k,v)::qhv r (n+1)
   |_=>qhv r (n+1))↔_
  split
  ·rename_i kd ks m k' v' h
   rw[zaI]
   constructor
   ·rintro (h1|h1)
    ·cases h1
     exact .inl ⟨rfl,kd,ks,m,h⟩
    ·exact .inr h1
   ·rintro (⟨rfl,kd',ks',m',h1⟩|h1)
    ·rw[h] at h1
     cases h1
     exact .inl rfl
    ·exact .inr h1
  ·rename_i h
   exact⟨.inr,fun h1=>h1.resolve_left fun⟨_,kd,ks,m,h2⟩=>h _ _ _ _ _ h2⟩
theorem qdU:∀(l:List COp) (n:Nat),(qhv l n).Nodup
 |[],_=>List.nodup_nil
 |o::r,n=>by
  unfold qhv
  split
  ·refine List.nodup_cons.2 ⟨fun h=>?_,qdU r (n+1)⟩
   have:=(qeg r (n+1)).1 h
   omega
  ·exact qdU r (n+1)
inductive LT (cs:List COp)(fin:Tr zA)(als:List Nat)(sz:Nat)(S:Nat->Prop)(G:Gh)(a:Act)(w:World):Prop where
 |off (h:∀(j:Nat) b,S j->cs[j]? =some b->qa5 b.op=false/\∀d,b.dst=some d->d∉als)
 |on (b:Nat) (ents:Array MapEntry) (js:List (Nat×(Arg×Arg))) (i0:Nat) (o0:COp) (h0:S i0) (hi:cs[i0]? =some o0) (ho:o0.op=.lmap) (hb:sz<=b) (hm:G.own b=.misc) (hh:w.heap[b]? =some (.map ents ents.size))
   (ht:∀t,t∈als->∀(j:Nat) o,S j->cs[j]? =some o->o.dst=some t->a.tmps.getD t undef=.map (some b))
   (hn:js.Nodup) (hj:∀x,x∈js↔S x.1/\x∈qhv cs 0) (he:EntsR G w (js.map fun x=>qjc fin x.2) ents) (hl:js.length=ents.size)
theorem qeQ {kd:Nat}{ks:List Nat}{k:IntKind}{m:Int}(hk:qdm kd (.int k m)=true):∀{es:List (zP×zA)} (i:Nat),(∀p∈es,∃n,p.1=.int k n/\n≠m)->findKey kd ks (.int k m) es i=some none
 |[],_,_=>rfl
 |(q,v)::r,i,h=>by
  obtain⟨n,hn,hne⟩:=h (q,v) zaz
  simp only at hn
  subst hn
  unfold findKey
  rw[qhG hk,zap,decide_eq_false (fun e=>hne e.symm),cond_false]
  exact qeQ hk (i+1) fun p hp=>h p (zaE _ hp)
theorem qfI:∀{es:List (zP×zA)} {a b:Nat} {p q:zP×zA},qbj es=true->es[a]? =some p->es[b]? =some q->a≠b->∃k n n',p.1=.int k n/\q.1=.int k n'/\n≠n'
 |[],a,b,p,q,_,hp,_,_=>by simp at hp
 |x::r,a,b,p,q,h,hp,hq,hne=>by
  obtain⟨k0,n0,e0,h1,h2⟩:=qb7 h
  cases a with
  |zero=>
   cases b with
   |zero=>exact absurd rfl hne
   |succ b=>
    simp only[zak,zaa] at hp
    subst hp
    obtain⟨m,hm,hne'⟩:=h1 q (zaw (by simpa using hq))
    exact⟨k0,n0,m,e0,hm,hne'⟩
  |succ a=>
   cases b with
   |zero=>
    simp only[zak,zaa] at hq
    subst hq
    obtain⟨m,hm,hne'⟩:=h1 p (zaw (by simpa using hp))
    exact⟨k0,m,n0,hm,e0,fun e=>hne' e.symm⟩
   |succ b=>exact qfI h2 (by simpa using hp) (by simpa using hq) (fun e=>hne (by rw[e]))
theorem qhL {l:List COp}{fin:Tr zA}(h:qbj ((qgH l).map (qjc fin))=true){x y:Nat×(Arg×Arg)}(hx:x∈qhv l 0)(hy:y∈qhv l 0)(hne:x.1≠y.1):∃k n n',(qjc fin x.2).1=.int k n/\(qjc fin y.2).1=.int k n'/\n≠n':=by
 rw[<-qgc l 0,List.map_map] at h
 obtain⟨a,ha⟩:=List.mem_iff_getElem?.1 hx
 obtain⟨b,hb⟩:=List.mem_iff_getElem?.1 hy
 refine qfI (a:=a) (b:=b) h (by rw[zav,ha];rfl) (by rw[zav,hb];rfl) fun e=>?_
 subst e
 rw[ha] at hb
 cases hb
 exact hne rfl
theorem qfn {G:Gh}{w:World}{t kt et:TypeId}(ht:P.underlying t=some (.map kt et)){kd:Nat}{ks:List Nat}(hkt:qjR P kt=some (kd,ks)){b:Nat}{ents:Array MapEntry}(hb:w.heap[b]? =some (.map ents ents.size)){es:List (zP×zA)}(hl:es.length=ents.size)(hrel:EntsR G w es ents)
  {k:zP}{kv vv:Value}(hk:PR G.S w k kv)(hik:qc6 kd ks k=true)(hf:findKey kd ks k es 0=some none):
  (Instr.mapUpdate t (.map (some b)) kv vv).run P w=.ok () {w with heap:=w.heap.setIfInBounds b (.map (ents.push {key:=kv,val:=vv,born:=ents.size}) (ents.push {key:=kv,val:=vv,born:=ents.size}).size)}:=by
 have hK:=qfZ hkt
 have hg:=MapKept.run_getObj_map (P:=P) hb
 have hso:=fun ob=>MapKept.run_setObj_map (P:=P) ob hb
 obtain⟨r',h5,h6⟩:=qdx hK hk hl (fun j k y e h7 h8=>(hrel j k y e h7 h8).1) hf
 have:r'=none:=by cases r' with|none=>rfl|some q=>exact h5.elim
 subst this
 simp[Instr.mapUpdate,run_underlying ht,hg,qbf hK hk hik,h6,hso]
theorem qiE (a:Act){d:Nat}{u:Value}(hd:d<a.tmps.size):(a.put (some d) u).tmps.getD d undef=u:=by
 rw[qee,zao,Array.getElem?_setIfInBounds]
 simp[hd]
theorem qeR (a:Act){t:Nat}{dst:Option Nat}{u:Value}(hd:dst≠some t):(a.put dst u).tmps.getD t undef=a.tmps.getD t undef:=by
 cases dst with
 |none=>rfl
 |some d=>
  rw[qee,zao,Array.getElem?_setIfInBounds,zao,if_neg (fun e'=>hd (by rw[e']))]
theorem EntsR.mono {G G':Gh}{w w':World}{es:List (zP×zA)}{ents:Array MapEntry}(h:EntsR G w es ents)(hp:∀c v,PR G.S w c v->PR G'.S w' c v)(hv:∀c v,VR G w c v->VR G' w' c v):EntsR G' w' es ents:=
 fun j k x e h1 h2=>⟨hp _ _ (h j k x e h1 h2).1,hv _ _ (h j k x e h1 h2).2.1,(h j k x e h1 h2).2.2⟩
theorem qeS {l:List COp}{x:Nat×(Arg×Arg)}(h:x∈qhv l 0):∃o kd ks m,l[x.1]? =some o/\o.op=.lins kd ks m x.2.1 x.2.2:=by
 obtain⟨j,k,v⟩:=x
 obtain⟨_,o,kd,ks,m,h1,h2⟩:=(qeg l 0).1 h
 exact⟨o,kd,ks,m,by simpa using h1,h2⟩
theorem qnS {l:List COp}{j:Nat}{o:COp}{kd:Nat}{ks:List Nat}{m k v:Arg}(h:l[j]? =some o)(h2:o.op=.lins kd ks m k v):(j,k,v)∈qhv l 0:=
 (qeg l 0).2 ⟨Nat.zero_le _,o,kd,ks,m,by simpa using h,h2⟩
section
variable {S:Nat->Prop} {U pd:Nat->Option (List zA)} {m:Nat} {G:Gh} {a:Act} {w w':World} {als:List Nat} {fin:Tr zA} {sz:Nat}
theorem LT.plain (L:LT cs fin als sz S G a w){G':Gh}(x:Ext G w G' w'){i:Nat}{co:COp}(hi:cs[i]? =some co)(hl:qa5 co.op=false)(hd:∀d,co.dst=some d->d∉als)(u:Value):LT cs fin als sz (fun j=>S j\/j=i) G' (a.put co.dst u) w':=by
 cases L with
 |off h=>
  refine .off fun j b hj hb=>?_
  rcases hj with hj|hj
  ·exact h j b hj hb
  ·subst hj
   rw[hi] at hb
   cases hb
   exact⟨hl,hd⟩
 |on b ents js i0 o0 h0 hi0 ho hb hm hh ht hn hj he hle=>
  obtain⟨h1,h2⟩:=x.still b (zag.1 hh).1 (by rw[hm];trivial)
  refine .on b ents js i0 o0 (.inl h0) hi0 ho hb (h2.trans hm) (h1.trans hh) (fun t hta j o hSj hoj hdj=>?_) hn (fun y=>?_) (he.mono (fun _ _ h=>h.ext x) fun _ _ h=>h.ext x) hle
  ·have hne:co.dst≠some t:=fun e=>hd t e hta
   rw[qeR a hne]
   rcases hSj with hSj|hSj
   ·exact ht t hta j o hSj hoj hdj
   ·subst hSj
    rw[hi] at hoj
    cases hoj
    exact absurd hdj hne
  ·rw[hj]
   refine⟨fun⟨q1,q2⟩=>⟨.inl q1,q2⟩,fun⟨q1,q2⟩=>⟨q1.resolve_right fun e=>?_,q2⟩⟩
   obtain⟨o,kd,ks,mm,q3,q4⟩:=qeS q2
   rw[e,hi] at q3
   cases q3
   rw[q4] at hl
   cases hl
theorem Inv.quiet (I:Inv P e lof U0 nt base ops cs tr G0 w0 S U pd m G a w){b:Nat}(sw:Swap b w w')(hm:G.own b=.misc)(hb:w0.heap.size<=b)(hnd:w.heap[b]?≠some (.deferred (some []))):Inv P e lof U0 nt base ops cs tr G0 w0 S U pd m G a w':=
 ⟨I.ext.quiet sw hb,I.mr.quiet sw hm,I.mle,I.heavy,fun t=>(by
  obtain⟨v,h1,h2⟩:=I.tmp t
  exact⟨v,h1.quiet sw hm,h2⟩),I.sz,I.df.quiet sw hnd,I.pd_,I.u_,I.u0⟩
variable (D:Drawn P e lof nt ops cs ms tr) (I:Inv P e lof U0 nt base ops cs tr G0 w0 S U pd m G a w)
include D I
theorem qg4 {i x:Nat}{co:COp}(hi:cs[i]? =some co)(hx:x∈co.reads)(hs:qbu cs i x=true)(hrd:∀k,qa2 ms i k=true->S k):∃(j:Nat) (b:COp),S j/\cs[j]? =some b/\b.dst=some x:=by
 have _:=I
 unfold qbu at hs
 rw[List.any_eq_true] at hs
 obtain⟨b,hb,hd⟩:=hs
 obtain⟨j,hj⟩:=List.mem_iff_getElem?.1 hb
 have hji:j<i:=by
  have:=(zah.1 hj).1
  rw[zaM] at this
  omega
 rw[List.getElem?_take_of_lt hji] at hj
 have hdb:=dstOf_mem.1 (memN_iff.1 hd)
 refine⟨j,b,?_,hj,hdb⟩
 have:=D.pair j i b co hji hj hi
 unfold qd0 at this
 simp only[zaG,zae,zaj] at this
 rcases this with h|⟨_,h,_⟩
 ·exact hrd j h
 ·have:=(h x (memN_iff.1 hd)).1
  simp only[zaC,List.contains_eq_mem,decide_eq_false_iff_not] at this
  exact absurd hx this
theorem qnT {ro:Option Nat}(se:SoundEnv P e)(hchk:∀(i:Nat) o co,ops[i]? =some o->cs[i]? =some co->LateCase cs als i o co)(hone:∀(i j:Nat) co co',cs[i]? =some co->cs[j]? =some co'->co.op=.lmap->co'.op=.lmap->i=j)
  (hik:qbj ((qgH cs).map (qjc (tr cs.length).f))=true)
  (L:LT cs (tr cs.length).f als w0.heap.size S G a w){i:Nat}{o:Oper}{co:COp}(ho:ops[i]? =some o)(hi:cs[i]? =some co)(hS:¬S i)(hcl:∀k j,S k->qa2 ms k j=true->S j)(hrd:∀k,qa2 ms i k=true->S k){K:Act->World->Prop}{Q:Exit->Act->World->Prop}
  (k:∀U' pd' m' G' a' w',Inv P e lof U0 nt base ops cs tr G0 w0 (fun j=>S j\/j=i) U' pd' m' G' a' w'->LT cs (tr cs.length).f als w0.heap.size (fun j=>S j\/j=i) G' a' w'->K a' w'):
  if Region.wanted o (yielded ops a.tmps) then o.wpIn (FW ro) 0 P a w K Q else(∀f,o.about P w a.eval=some f->(FW ro).fn f)/\K (a.put o.dst undef) w:=by
 have hil:i<cs.length:=(zah.1 hi).1
 have hco:=D.cop i o co ho hi
 obtain⟨hins,hdst,hdn⟩:=qc3 hco
 have hrds:=fun {t} (ht:t∈co.reads)=>I.reads D hi hS hcl hrd ht
 obtain⟨bb,hb,hT,_⟩:=qdz (D.step i co hi)
 have hwant:co.guard=none->Region.wanted o (yielded ops a.tmps)=true:=fun hg=>qeN (G:=G) (w:=w) hco (f:=(tr i).f) (by rw[hg];rfl) (fun t b' hg'=>by rw[hg] at hg';cases hg')
 have htrue:co.guard=none->∃v z,qag e (tr i) co.op=some (v,z)/\tr (i+1)=z.put co.dst v:=fun hg=>hT (by
  rw[hg] at hb
  exact(Option.some.inj hb).symm)
 have hputf:∀(z:Cfg) (v:zA),z.f=(tr i).f->∀t,co.dst=some t->t<nt/\v=(z.put co.dst v).f.get qaf t:=by
  intro z v hz t ht
  have htn:=hdn t (by rw[<-hdst];exact ht)
  refine⟨htn,?_⟩
  rw[ht]
  exact(Tr.get_set_eq _ _ _ _ (by rw[hz];exact D.has i (by omega) t htn)).symm
 cases hchk i o co ho hi with
 |plain h hd=>
  exact qkl D I se ho hi hS hcl hrd h fun U' pd' m' G' u w' x I'=>k U' pd' m' G' _ w' I' (by rw[<-hdst];exact L.plain x hi h hd u)
 |al x d hop h hg hd ha hx hs=>
  have hop2:co.op=.mov (.t x):=by
   rcases hop with hop|hop<;>(simp only[qhz,hop,qaw,zaq,zaa] at hins;exact hins.symm)
  have hxr:x∈co.reads:=by unfold COp.reads;rw[hop2];simp[Ins.args,Arg.tmps]
  rw[hwant hg,if_pos rfl]
  obtain⟨v,z,hev,hstep⟩:=htrue hg
  rw[hop2] at hev
  have hev':v=(tr i).f.get qaf x/\z=tr i:=by
   have e0:(qah (tr i).f (.mov (.t x))).map (fun v=>(v,tr i))=some (v,z):=hev
   simp only[qah,zaq,zaa,zad] at e0
   exact⟨e0.1.symm,e0.2.symm⟩
  obtain⟨rfl,rfl⟩:=hev'
  have hnx:NextP P (fun u w'=>u=a.tmps.getD x undef/\w'=w) ((execOp a.eval o).run P w):=by
   rcases hop with hop|hop
   ·rw[qgI _ hop];exact⟨rfl,rfl⟩
   ·rw[qez _ hop];exact⟨rfl,rfl⟩
  refine qbg hins hnx fun u w' ⟨hu,hw⟩=>?_
  subst hu;subst hw
  have hh:co.op.heavy=false:=by rw[hop2];rfl
  obtain⟨hpd,huu⟩:=I.pd_same D hi ⟨fun q e=>(by rw[hop2] at e;cases e),fun mm q e=>(by rw[hop2] at e;cases e)⟩
  obtain⟨j0,b0,hSj0,hj0,hdj0⟩:=qg4 D I hi hxr hs hrd
  rw[<-hdst]
  refine k U pd m G _ w' (I.next D hi hS hcl I.mle (I.light D hi hh) hpd huu (Ext.refl G w') I.mr (hrds hxr) fun t ht=>by rw[hstep];exact hputf (tr i) _ rfl t ht) ?_
  cases L with
  |off hoff=>exact absurd hx ((hoff j0 b0 hSj0 hj0).2 x hdj0)
  |on b ents js i0 o0 h0 hi0 hol hbz hm hhp ht hn hj he hle=>
   have hxb:=ht x hx j0 b0 hSj0 hj0 hdj0
   refine .on b ents js i0 o0 (.inl h0) hi0 hol hbz hm hhp (fun t hta j o hSj hoj hdj=>?_) hn (fun y=>?_) he hle
   ·by_cases e:co.dst=some t
    ·rw[e,qiE a (by rw[I.sz];exact hdn t (by rw[←hdst];exact e))]
     exact hxb
    ·rw[qeR a e]
     rcases hSj with hSj|hSj
     ·exact ht t hta j o hSj hoj hdj
     ·subst hSj
      rw[hi] at hoj
      cases hoj
      exact absurd hdj e
   ·rw[hj]
    refine⟨fun⟨q1,q2⟩=>⟨.inl q1,q2⟩,fun⟨q1,q2⟩=>⟨q1.resolve_right fun e=>?_,q2⟩⟩
    obtain⟨o,kd,ks,mm,q3,q4⟩:=qeS q2
    rw[e,hi] at q3
    cases q3
    rw[q4] at hop2
    cases hop2
 |new t d hop h hg hd ha=>
  have hop2:co.op=.lmap:=by
   simp only[qhz,hop] at hins
   split at hins<;>try (cases hins;done)
   rcases qdt hins with⟨_,e⟩|⟨_,d',_,⟨_,e⟩|⟨_,_,e⟩⟩
   ·rw[e] at h;cases h
   ·exact e
   ·rw[e] at h;cases h
  rw[hwant hg,if_pos rfl]
  obtain⟨v,z,hev,hstep⟩:=htrue hg
  rw[hop2] at hev
  simp only[qag,zaa,zad] at hev
  obtain⟨rfl,rfl⟩:=hev
  have hnx:NextP P (fun u w'=>u=.map (some w.heap.size)/\w'=w.alloc (.map #[] 0)) ((execOp a.eval o).run P w):=by
   rw[qcE t none hop]
   simp only[Option.map_none,Instr.makeMap]
   exact⟨rfl,rfl⟩
  refine qbg hins hnx fun u w' ⟨hu,hw⟩=>?_
  subst hu;subst hw
  have hh:co.op.heavy=false:=by rw[hop2];rfl
  obtain⟨hpd,huu⟩:=I.pd_same D hi ⟨fun q e=>(by rw[hop2] at e;cases e),fun mm q e=>(by rw[hop2] at e;cases e)⟩
  obtain⟨x,mr1⟩:=I.mr.miscNew (.map #[] 0)
  rw[<-hdst]
  refine k U pd m _ _ _ (I.next D hi hS hcl I.mle (I.light D hi hh) hpd huu x mr1 (v:=.junk) (.junk _) fun t ht=>by rw[hstep];exact hputf (tr i) _ rfl t ht) ?_
  cases L with
  |on b ents js i0 o0 h0 hi0 hol=>exact absurd (by rw[<-hone i0 i o0 co hi0 hi hol hop2];exact h0) hS
  |off hoff=>
   refine .on w.heap.size #[] [] i co (.inr rfl) hi hop2 I.ext.size (qas _ _ _) (heap_alloc_new w _) (fun t hta j o hSj hoj hdj=>?_) List.nodup_nil (fun y=>⟨fun h=>(by cases h),fun⟨q1,q2⟩=>?_⟩) (fun j k x e h1=>by simp at h1) rfl
   ·rcases hSj with hSj|hSj
    ·exact absurd hta ((hoff j o hSj hoj).2 t hdj)
    ·subst hSj
     rw[hi] at hoj
     cases hoj
     rw[hdj,qiE a (by rw[I.sz];exact hdn t (by rw[<-hdst];exact hdj))]
   ·obtain⟨o,kd,ks,mm,q3,q4⟩:=qeS q2
    rcases q1 with q1|q1
    ·have:=(hoff _ o q1 q3).1
     rw[q4] at this
     cases this
    ·rw[q1,hi] at q3
     cases q3
     rw[q4] at hop2
     cases hop2
 |ins t x y z hop h hg hd hx hs hst=>
  obtain⟨kt,et,kd,ks,gy,gz,hut,hkt,hgy,hgz,hop2⟩:∃kt et kd ks gy gz,P.underlying t=some (.map kt et)/\qjR P kt=some (kd,ks)/\qaw y=some gy/\qaw z=some gz/\co.op=.lins kd ks (.t x) gy gz:=by
   rcases hop with hop|hop
   all_goals
    simp only[qhz,hop] at hins
    split at hins<;>try (cases hins;done)
    rename_i kt et hut
    simp only[qaw,zap,zab,zac] at hins
    obtain⟨⟨kd,ks⟩,hkt,gy,hgy,gz,hgz,e⟩:=hins
    refine⟨kt,et,kd,ks,gy,gz,hut,hkt,hgy,hgz,?_⟩
    rw[<-e] at h⊢
    cases hl:qeu lof true (.t x) with
    |true=>rfl
    |false=>rw[hl] at h;cases h
  have hxr:x∈co.reads:=by unfold COp.reads;rw[hop2];simp[Ins.args,Arg.tmps]
  rw[hwant hg,if_pos rfl]
  obtain⟨v,zc,hev,hstep⟩:=htrue hg
  rw[hop2] at hev
  simp only[qag,zab] at hev
  obtain⟨kp,hkp,hev⟩:=hev
  obtain⟨hok,hev⟩:=qac hev
  simp only[zaa,zad] at hev
  obtain⟨rfl,rfl⟩:=hev
  simp only[zae] at hok
  have hR:qan G w (tr i).f a (co.op.args.flatMap Arg.tmps):=fun t ht=>hrds (by unfold COp.reads;exact List.mem_append_right _ ht)
  rw[hop2] at hR
  have vy:=qar hgy fun t ht=>hR t (by simp[Ins.args,ht])
  have vz:=qar hgz fun t ht=>hR t (by simp[Ins.args,ht])
  have py:=qcS hkp vy
  obtain⟨j0,b0,hSj0,hj0,hdj0⟩:=qg4 D I hi hxr hs hrd
  have hfin:∀t,t∈gy.tmps++gz.tmps->(tr cs.length).f.get qaf t=(tr i).f.get qaf t:=by
   intro t ht
   refine D.frame (by omega) (zaf _) fun j b h1 h2 hj hdj=>?_
   rw[hop2] at hst
   have hst2:((qhu cs).all fun(j,b)=>!(Nat.ble i j)||(qbT b).all fun d=>!(qfj d (gy.tmps++gz.tmps)))=true:=hst
   have:=zaj.1 hst2 (j,b) (qbM hj)
   simp only[zaG,zaC,zaj] at this
   rcases this with h3|h3
   ·have:Nat.ble i j=true:=Nat.ble_eq_true_of_le h1
    rw[this] at h3;cases h3
   ·have:=h3 t (dstOf_mem.2 hdj)
    exact memN_not.1 this ht
  have hev1:∀{g:Arg},(∀t∈g.tmps,t∈gy.tmps++gz.tmps)->g.ev (tr cs.length).f=g.ev (tr i).f:=by
   intro g hg
   cases g with
   |t n=>exact hfin n (hg n (by simp[Arg.tmps]))
   |c v=>rfl
  have hpair:qjc (tr cs.length).f (gy,gz)=(kp,gz.ev (tr i).f):=by
   unfold qjc
   simp only
   rw[hev1 (g:=gy) (fun t ht=>List.mem_append_left _ ht),hev1 (g:=gz) (fun t ht=>List.mem_append_right _ ht),hkp]
   rfl
  have hmine:(i,gy,gz)∈qhv cs 0:=qnS hi hop2
  cases L with
  |off hoff=>exact absurd hx ((hoff j0 b0 hSj0 hj0).2 x hdj0)
  |on b ents js i0 o0 h0 hi0 hol hbz hm hhp ht hn hj he hle=>
   have hxb:=ht x hx j0 b0 hSj0 hj0 hdj0
   have hf:findKey kd ks kp (js.map fun x=>qjc (tr cs.length).f x.2) 0=some none:=by
    cases js with
    |nil=>rfl
    |cons y0 r0=>
     have two:∀y,y∈y0::r0->∃k n n',(qjc (tr cs.length).f y.2).1=.int k n/\kp=.int k n'/\n≠n':=by
      intro y hy
      obtain⟨q1,q2⟩:=(hj y).1 hy
      obtain⟨k1,n,n',h1,h2,h3⟩:=qhL hik q2 hmine (fun e=>hS (by simp only at e;rw[<-e];exact q1))
      simp only at h2
      rw[hpair] at h2
      exact⟨k1,n,n',h1,h2,h3⟩
     obtain⟨k1,_,n',_,e,_⟩:=two y0 zaz
     subst e
     have hisk:qdm kd (.int k1 n')=true:=hok.1
     refine qeQ hisk 0 fun p hp=>?_
     obtain⟨y,hy,rfl⟩:=zaS.1 hp
     obtain⟨k2,n2,n3,h1,h2,h3⟩:=two y hy
     cases h2
     exact⟨n2,h1,h3⟩
   have hrun:=qfn (P:=P) hut hkt hhp (by rw[List.length_map];exact hle) he py hok.1 (vv:=a.eval z) hf
   have hnx:NextP P (fun u w'=>u=undef/\w'={w with heap:=w.heap.setIfInBounds b (.map (ents.push {key:=a.eval y,val:=a.eval z,born:=ents.size}) (ents.push {key:=a.eval y,val:=a.eval z,born:=ents.size}).size)}) ((execOp a.eval o).run P w):=by
    have hex:a.eval (.tmp x)=.map (some b):=hxb
    rcases hop with hop|hop
    ·rw[qeA t _ y z hop,hex,Sem.run_bind,hrun];exact⟨rfl,rfl⟩
    ·rw[qc2 t _ y z hop,hex,Sem.run_bind,hrun];exact⟨rfl,rfl⟩
   refine qbg hins hnx fun u w' ⟨hu,hw⟩=>?_
   have sw:Swap b w w':=by rw[hw];exact Swap.setObj hhp _
   have hhp':w'.heap[b]? =some (.map (ents.push {key:=a.eval y,val:=a.eval z,born:=ents.size}) (ents.push {key:=a.eval y,val:=a.eval z,born:=ents.size}).size):=by rw[hw];exact(MapKept.heap_set hhp).1
   have hh:co.op.heavy=false:=by rw[hop2];rfl
   obtain⟨hpd,huu⟩:=I.pd_same D hi ⟨fun q e=>(by rw[hop2] at e;cases e),fun mm q e=>(by rw[hop2] at e;cases e)⟩
   have I2:=I.quiet sw hm hbz (by rw[hhp];intro e;cases e)
   rw[<-hdst]
   refine k U pd m G _ w' (I2.next D hi hS hcl I.mle (I.light D hi hh) hpd huu (Ext.refl G w') I2.mr (v:=qaf) (u:=u) (by rw[hu];exact .undef) fun t ht=>by rw[hd] at ht;cases ht) ?_
   refine .on b _ (js++[(i,gy,gz)]) i0 o0 (.inl h0) hi0 hol hbz hm hhp' (fun t hta j o hSj hoj hdj=>?_) ?_ (fun y=>?_) ?_ ?_
   ·rw[hd]
    rcases hSj with hSj|hSj
    ·exact ht t hta j o hSj hoj hdj
    ·subst hSj
     rw[hi] at hoj
     cases hoj
     rw[hd] at hdj
     cases hdj
   ·rw[List.nodup_append]
    refine⟨hn,List.nodup_cons.2 ⟨by simp,List.nodup_nil⟩,fun p hp q hq e=>?_⟩
    rw[List.mem_singleton] at hq
    subst hq;subst e
    exact hS ((hj _).1 hp).1
   ·rw[zaA,hj,List.mem_singleton]
    constructor
    ·rintro (⟨q1,q2⟩|rfl)
     ·exact⟨.inl q1,q2⟩
     ·exact⟨.inr rfl,hmine⟩
    ·rintro ⟨q1,q2⟩
     rcases q1 with q1|q1
     ·exact .inl ⟨q1,q2⟩
     ·right
      obtain⟨o,kd',ks',mm,q3,q4⟩:=qeS q2
      obtain⟨y1,y2,y3⟩:=y
      simp only at q1 q3 q4
      subst q1
      rw[hi] at q3
      cases q3
      rw[hop2] at q4
      cases q4
      rfl
   ·rw[List.map_append,zaF,List.map_nil]
    rw[show qjc (tr cs.length).f (i,gy,gz).2=(kp,gz.ev (tr i).f) from hpair]
    exact(he.mono (fun _ _ h=>h.quiet sw hm) fun _ _ h=>h.quiet sw hm).push (by rw[List.length_map];exact hle) (py.quiet sw hm) (vz.quiet sw hm)
   ·simp[hle]
end
end Go.AI
namespace Go.AI
variable {P:Program} {e:Env} {lof:Nat->Option Nat} {nt base:Nat} {ops:Array Oper} {U0:Nat->Option (List zA)} {G:Gh} {w:World} {a:Act}
theorem qiF {ro:Option Nat}(hm:P.follows .mixedOrders=true){id:Nat}{Q:Exit->Act->World->Prop}{A B:List (Nat×List zA)}{cs:List COp}{chk:List Chk}{c c':Cfg}{ex:EX}{n:Nat}(se:SoundEnv P e)(hc:qhA P lof nt ops=some (.regd A B cs chk))(cr:CR P e.E U0 lof nt base c G w a)(hev:qaY e n (.regd A B cs chk) c=some (ex,c'))
  {TT:(Nat->Cfg)->(Nat->Prop)->Gh->Act->World->Prop}(hT0:∀(tr:Nat->Cfg) S,(∀i,¬S i)->TT tr S G a {w with drawn:=w.drawn+1})
  (hstep:∀tr,Drawn P e lof nt ops cs (qbS (ops.toList.map qaW) []) tr→tr cs.length=c'→∀(S:Nat→Prop) U pd m G' a w' i o co,ops[i]? =some o→cs[i]? =some co→¬S i→(∀k j,S k→qa2 (qbS (ops.toList.map qaW) []) k j=true→S j)→(∀k,qa2 (qbS (ops.toList.map qaW) []) i k=true→S k)→Inv P e lof U0 nt base ops cs tr G w S U pd m G' a w'→TT tr S G' a w'→
   ∀{K:Act->World->Prop},(∀U' pd' m' G' a' w',Inv P e lof U0 nt base ops cs tr G w (fun j=>S j\/j=i) U' pd' m' G' a' w'->TT tr (fun j=>S j\/j=i) G' a' w'->K a' w')->
   if Region.wanted o (yielded ops a.tmps) then o.wpIn (FW ro) 0 P a w' K Q else(∀f,o.about P w' a.eval=some f->(FW ro).fn f)/\K (a.put o.dst undef) w')
  (hq:∀tr S G' a' w',(∀i,i<ops.size->S i)->TT tr S G' a' w'->Ext G w G' w'->CR P e.E U0 lof nt base c' G' w' a'->c'.rd=c.rd->tr cs.length=c'->Q .normal a' w'):ex=.normal/\(Code.region id ops true).wpIn (FW ro) 0 P Q a w:=by
 have hspec:=qdT hc
 have K0:=qgb _ _ _ hspec.2.1
 simp only[qaY,zab] at hev
 obtain⟨T,hT,hev⟩:=hev
 obtain⟨hchk,hev⟩:=qac hev
 simp only[zaa,zad] at hev
 obtain⟨rfl,rfl⟩:=hev
 refine⟨rfl,wpIn_region_any hm ?_⟩
 have hkd:Keep w {w with drawn:=w.drawn+1}:=⟨zaf _,rfl,rfl,rfl,fun _ _=>rfl⟩
 have mr1:=cr.mr.keep hkd
 obtain⟨mr2,hhas2⟩:=mr1.preL A K0.na (fun q z hqz=>by
  obtain⟨_,_,_,d,_,_,_,h4,_⟩:=K0.a q z hqz
  exact⟨rfl,cr.lh d q h4⟩)
 obtain⟨U',mr3,hU,hex,hlo,hinj⟩:=mr2.preH B K0.nb
 generalize hc0:({c with l:=preL c.l A,h:=(preH c.s B).2,s:=(preH c.s B).1}:Cfg)=c0 at hT
 have e0l:c0.l=preL c.l A:=by rw[<-hc0]
 have e0s:c0.s=(preH c.s B).1:=by rw[<-hc0]
 have e0h:c0.h=(preH c.s B).2:=by rw[<-hc0]
 have e0f:c0.f=c.f:=by rw[<-hc0]
 have e0rd:c0.rd=c.rd:=by rw[<-hc0]
 obtain⟨t1,t2,t3,t4⟩:=qf9 e cs c0 T hT
 have hlo2:qbq c T=qbq c0 T:=by
  have:=(t4 c).symm.trans (t4 c0)
  injection this
 rw[hlo2] at hchk hq hstep
 obtain⟨D,K,hlast,h0⟩:=qlM se hc (c0:=c0) (s0:=c.s) e0h (by rw[e0h];exact hinj) (by rw[e0h];exact hex) hT hchk (fun t j hj=>by rw[e0l,hhas2];exact cr.lh t j hj) (fun t ht=>by rw[e0f];exact cr.fr.2 t (by rw[cr.sz];exact ht))
 have h0':(fun i=>(T[i]?).getD c0) 0=c0:=h0
 have k2:=(qef _ _ hspec.1).2
 have hlen:=D.len
 have hS0:∀i,¬((Array.replicate ops.size false).getD i false=true):=by
  intro i
  rw[zao,Array.getElem?_replicate]
  split<;>simp
 have I0:Inv P e lof U0 nt base ops cs (fun i=>(T[i]?).getD c0) G w (fun i=>(Array.replicate ops.size false).getD i false=true) U' (fun q=>match qap A q with|some z=>some z|none=>none) 0 G a {w with drawn:=w.drawn+1}:=by
  have hS:=hS0
  refine⟨hkd.ext G,by simp only[h0];rw[e0l,e0s];exact mr3,Nat.zero_le _,fun j b hj hb=>⟨fun h=>absurd h (hS j),fun h=>absurd h (Nat.not_lt_zero j)⟩,fun t=>⟨c.f.get qaf t,(cr.fr.1 t).ext (hkd.ext G),.inr ⟨fun j b hj=>absurd hj (hS j),by simp only[h0];rw[e0f]⟩⟩,cr.sz,cr.df.ext (hkd.ext G),fun q z=>?_,fun q z=>?_,fun d q hd=>?_⟩
  ·constructor
   ·intro h
    have hA:qap A q=some z:=by
     cases e:qap A q with
     |none=>rw[e] at h;cases h
     |some z'=>rw[e] at h;exact h
    obtain⟨i,o,t,d,a1,a2,a3,a4,a5⟩:=K.a q z hA
    have hi:i<cs.length:=by
     have:=(zah.1 a1).1
     rw[zay] at this
     omega
    have hci:cs[i]? =some (cs[i]'hi):=zai hi
    obtain⟨hins,_⟩:=qc3 (k2 i o _ a1 hci)
    obtain⟨z',d',_,hd,hcase⟩:=qbZ hins a2
    rw[a3] at hd
    cases hd
    refine⟨i,hS i,o,_,t,by rw[<-zal];exact a1,hci,?_,a2,a5⟩
    rcases hcase with⟨q',e1,e2,_⟩|⟨_,_,e2,_⟩
    ·rw[a4] at e2;cases e2;exact e1
    ·rw[a4] at e2;cases e2
   ·rintro ⟨i,_,o,co,t,ho,hco,hq',hop,hz⟩
    obtain⟨_,d,z',b1,b2,b3⟩:=K.al i o t (by rw[zal];exact ho) hop
    obtain⟨hins,_⟩:=qc3 (k2 i o co (by rw[zal];exact ho) hco)
    obtain⟨z2,d',c1,hd,hcase⟩:=qbZ hins hop
    rw[b1] at hd
    cases hd
    rw[hz] at b2
    cases b2
    rcases hcase with⟨q',e1,e2,_⟩|⟨_,e1,_⟩
    ·rw[hq'] at e1
     cases e1
     rcases b3 with⟨q2,e3,e4⟩|⟨e3,_⟩
     ·rw[e2] at e3;cases e3;rw[e4]
     ·rw[e2] at e3;cases e3
    ·rw[hq'] at e1;cases e1
  ·rw[hU]
   constructor
   ·rintro (h|⟨d,h1,h2⟩)
    ·exact .inl h
    ·refine .inr ?_
     obtain⟨i,o,t,a1,a2,a3,a4,a5⟩:=K.b d z h2
     have hi:i<cs.length:=by
      have:=(zah.1 a1).1
      rw[zay] at this
      omega
     have hci:cs[i]? =some (cs[i]'hi):=zai hi
     obtain⟨hins,_⟩:=qc3 (k2 i o _ a1 hci)
     obtain⟨z',d',_,hd,hcase⟩:=qbZ hins a2
     rw[a3] at hd
     cases hd
     refine⟨i,hS i,o,_,t,d,by rw[<-zal];exact a1,hci,?_,by simp only[h0];rw[e0h];exact h1,a2,a5⟩
     rcases hcase with⟨q',e1,e2,_⟩|⟨mm,e1,_⟩
     ·rw[a4] at e2;cases e2
     ·exact⟨mm,e1⟩
   ·rintro (h|⟨i,_,o,co,t,d,ho,hco,⟨mm,hq'⟩,hqd,hop,hz⟩)
    ·exact .inl h
    obtain⟨_,d2,z',b1,b2,b3⟩:=K.al i o t (by rw[zal];exact ho) hop
    obtain⟨hins,_⟩:=qc3 (k2 i o co (by rw[zal];exact ho) hco)
    obtain⟨z2,d',c1,hd,hcase⟩:=qbZ hins hop
    rw[b1] at hd
    cases hd
    rw[hz] at b2
    cases b2
    simp only[h0] at hqd
    rw[e0h] at hqd
    rcases hcase with⟨q',e1,e2,_⟩|⟨_,e1,e2,_⟩
    ·rw[hq'] at e1;cases e1
    ·rw[hq'] at e1
     cases e1
     rcases b3 with⟨q2,e3,_⟩|⟨_,e3⟩
     ·rw[e2] at e3;cases e3
     ·exact .inr ⟨d,hqd,e3⟩
  ·simp only[h0] at hd
   rw[e0h] at hd
   cases e1:U0 q with
   |none=>rfl
   |some z=>
    have h1:=(mr2.heap _ _ (mr2.un q z e1).2.1).1
    have h2:=hlo d q hd
    omega
 refine qlN (ro:=ro) (base:=base) (G0:=G) (w0:=w) D hspec.2.2.2.1 (hstep _ D hlast) (fun S U pd m G' a' w' hall I IT=>?_) ops.size _ U' _ 0 G a _ (by simp) ?_ (fun k j hk _=>?_) I0 (hT0 _ _ hS0)
 ·
  have hnoS:∀i,¬S i->cs[i]? =none:=fun i hi=>by
   cases e1:cs[i]? with
   |none=>rfl
   |some b=>
    have:=(zah.1 e1).1
    exact absurd (hall i (by omega)) hi
  have hpd0:pd=fun _=>none:=by
   funext q
   cases e1:pd q with
   |none=>rfl
   |some z=>
    obtain⟨i,h1,o,co,t,h2,h3,_⟩:=(I.pd_ q z).1 e1
    rw[hnoS i h1] at h3
    cases h3
  have hu0:U=U0:=by
   funext q
   cases e1:U q with
   |none=>
    cases e2:U0 q with
    |none=>rfl
    |some z=>rw[(I.u_ q z).2 (.inl e2)] at e1;cases e1
   |some z=>
    rcases(I.u_ q z).1 e1 with h|⟨i,h1,o,co,t,d,h2,h3,_⟩
    ·exact h.symm
    ·rw[hnoS i h1] at h3
     cases h3
  subst hpd0;subst hu0
  obtain⟨hl,hs⟩:=D.mem I.mle (zaf _) fun j b h1 h2 hj=>by
   cases hb:b.op.heavy with
   |false=>rfl
   |true=>
    have:=(I.heavy j b hj hb).1 (hall j (by omega))
    omega
  simp only[hlast] at hl hs
  have hlike:=D.like cs.length (zaf _)
  simp only[hlast,h0] at hlike
  refine hq _ S G' a' w' hall IT I.ext ⟨⟨fun t=>?_,fun t ht=>?_⟩,I.sz,by rw[hl,hs];exact I.mr,fun t j hj=>by rw[hlike.has,e0l,hhas2];exact cr.lh t j hj,I.df,zaR cr.bs I.ext.size⟩ (hlike.rd.trans e0rd) hlast
  ·obtain⟨v,hv,hcase⟩:=I.tmp t
   rcases hcase with⟨i,co,hSi,hi,hd,rfl,hlst⟩|⟨hno,rfl⟩
   ·have hil:=(zah.1 hi).1
    have:=D.frame (t:=t) (i:=i+1) (k:=cs.length) (by omega) (zaf _) fun j b h1 h2 hj=>hlst j b (hall j (by omega)) (by omega) hj
    simp only[hlast] at this
    rw[this]
    exact hv
   ·have:=D.frame (t:=t) (i:=0) (k:=cs.length) (by omega) (zaf _) fun j b h1 h2 hj=>hno j b (hall j (by omega)) hj
    simp only[hlast] at this
    rw[this]
    exact hv
  ·have:=D.has cs.length (zaf _) t (by rw[←I.sz];exact ht)
   simp only[hlast] at this
   exact this
 ·exact zaR List.countP_le_length (by simp)
 ·rw[zao,Array.getElem?_replicate] at hk
  split at hk<;>simp at hk
theorem qg5 {cc:CC}(h:qih P lof nt ops=some cc):∃A B cs chk,qhA P lof nt ops=some (.regd A B cs chk)/\((cc=.regd A B cs chk/\∀o∈cs,qa5 o.op=false)\/∃als,cc=.regl als (qgH cs) (.regd A B cs chk)/\qig ops.toList cs als=true):=by
 simp only[qih,zab] at h
 obtain⟨c,hc,h⟩:=h
 split at h
 ·rename_i A B cs chk
  refine⟨A,B,cs,chk,hc,?_⟩
  cases hl:cs.any fun o=>qa5 o.op with
  |false=>
   rw[hl] at h
   simp only[cond_false,zaa] at h
   refine .inl ⟨h.symm,fun o ho=>?_⟩
   cases e:qa5 o.op with
   |false=>rfl
   |true=>
    rw[List.any_eq_true.2 ⟨o,ho,e⟩] at hl
    cases hl
  |true=>
   rw[hl] at h
   simp only[cond_true] at h
   obtain⟨h1,h2⟩:=qac h
   exact .inr ⟨_,(Option.some.inj h2).symm,h1⟩
 ·cases h
theorem qiG {α:Type}{d v:α}:∀(als:List Nat) (f:Tr α),(∀t,t∈als->f.has t=true)->(∀t,(als.foldl (fun f t=>f.set t v) f).get d t=if t∈als then v else f.get d t)/\∀t,(als.foldl (fun f t=>f.set t v) f).has t=f.has t
 |[],f,_=>⟨fun t=>by simp,fun t=>rfl⟩
 |x::r,f,h=>by
  obtain⟨h1,h2⟩:=qiG r (f.set x v) (fun t ht=>by rw[Tr.has_set];exact h t (zaE _ ht))
  refine⟨fun t=>?_,fun t=>by rw[List.foldl_cons,h2,Tr.has_set]⟩
  rw[List.foldl_cons,h1,Tr.get_set _ _ _ _ _ (h x zaz)]
  by_cases e1:t∈r
  ·simp[e1]
  ·by_cases e2:x=t
   ·subst e2;simp
   ·rw[if_neg e1,if_neg e2,if_neg (fun h=>(zaI.1 h).elim (fun e=>e2 e.symm) e1)]
theorem qlP {ro:Option Nat}(se:SoundEnv P e)(hm:P.follows .mixedOrders=true){id:Nat}{Q:Exit->Act->World->Prop}{A B:List (Nat×List zA)}{cs:List COp}{chk:List Chk}{als:List Nat}{c c':Cfg}{ex:EX}{n:Nat}(hc:qhA P lof nt ops=some (.regd A B cs chk))(hlk:qig ops.toList cs als=true)(cr:CR P e.E U0 lof nt base c G w a)(hev:qaY e n (.regl als (qgH cs) (.regd A B cs chk)) c=some (ex,c'))
  (hq:∀G' a' w',Ext G w G' w'->CR P e.E U0 lof nt base c' G' w' a'->c'.rd=c.rd->Q .normal a' w'):ex=.normal/\(Code.region id ops true).wpIn (FW ro) 0 P Q a w:=by
 rw[qaY] at hev
 simp only[zab,zac,zad] at hev
 obtain⟨⟨x1,c1⟩,hev1,c2,hlate,rfl,rfl⟩:=hev
 simp only at hlate
 unfold qic at hlate
 simp only at hlate
 obtain⟨hes,hlate⟩:=qac hlate
 simp only[zac] at hlate
 obtain⟨hp,qaI,rfl⟩:=hlate
 simp only[zae] at hes
 obtain⟨hik,haw⟩:=hes
 simp only[qig,zae] at hlk
 obtain⟨hk1,hk2,hk3⟩:=hlk
 have k2:=(qef _ _ (qdT hc).1)
 have hlen:cs.length=ops.size:=by rw[k2.1,zay]
 have hchk:∀(i:Nat) o co,ops[i]? =some o->cs[i]? =some co->LateCase cs als i o co:=fun i o co hi hj=>by
  have hz:(ops.toList.zip cs)[i]? =some (o,co):=List.getElem?_zip_eq_some.2 ⟨by rw[zal];exact hi,hj⟩
  exact qg3 (zaj.1 hk3 (i,o,co) (qbM hz))
 have hone:∀(i j:Nat) co co',cs[i]? =some co->cs[j]? =some co'->co.op=.lmap->co'.op=.lmap->i=j:=by
  have key:∀(l:List COp),(l.filter fun o=>qfv o.op).length<=1->∀(i j:Nat) co co',l[i]? =some co->l[j]? =some co'->co.op=.lmap->co'.op=.lmap->i=j:=by
   intro l
   induction l with
   |nil=>intro _ i j co co' h;simp at h
   |cons x r ih=>
    intro hle i j co co' hi hj h1 h2
    have none0:∀{b:COp} {k:Nat},qfv x.op=true->r[k]? =some b->b.op=.lmap->False:=fun {b k} hx hb hbo=>by
     simp only[List.filter_cons,hx,if_true,zaO] at hle
     have:b∈r.filter fun o=>qfv o.op:=List.mem_filter.2 ⟨zaw hb,by rw[hbo];rfl⟩
     have:=List.length_pos_of_mem this
     omega
    cases i with
    |zero=>
     cases j with
     |zero=>rfl
     |succ j=>
      simp only[zak,zaa] at hi
      subst hi
      exact(none0 (by rw[h1];rfl) (by simpa using hj) h2).elim
    |succ i=>
     cases j with
     |zero=>
      simp only[zak,zaa] at hj
      subst hj
      exact(none0 (by rw[h2];rfl) (by simpa using hi) h1).elim
     |succ j=>
      rw[ih (by
       cases hx:qfv x.op with
       |true=>simp only[List.filter_cons,hx,if_true,zaO] at hle;omega
       |false=>simp only[List.filter_cons,hx,zaB,if_false] at hle;exact hle) i j co co' (by simpa using hi) (by simpa using hj) h1 h2]
  exact key cs (Nat.le_of_eq (beq_iff.1 hk1))
 have hsome:∃(i:Nat) (co:COp),cs[i]? =some co/\co.op=.lmap:=by
  have hpos:0<(cs.filter fun o=>qfv o.op).length:=by rw[beq_iff.1 hk1];exact Nat.one_pos
  obtain⟨co,hco⟩:=List.exists_mem_of_length_pos hpos
  obtain⟨h1,h2⟩:=List.mem_filter.1 hco
  obtain⟨i,hi⟩:=List.mem_iff_getElem?.1 h1
  refine⟨i,co,hi,?_⟩
  cases e:co.op<;>rw[e] at h2<;>first|rfl|cases h2
 have hwr:∀t,t∈als->∃(i:Nat) (co:COp),cs[i]? =some co/\co.dst=some t:=fun t ht=>by
  have h1:=zaj.1 hk2 t ht
  have hpos:0<qpa cs t:=by rw[beq_iff.1 h1];exact Nat.one_pos
  obtain⟨co,hco⟩:=List.exists_mem_of_length_pos hpos
  obtain⟨h1,h2⟩:=List.mem_filter.1 hco
  obtain⟨i,hi⟩:=List.mem_iff_getElem?.1 h1
  exact⟨i,co,hi,dstOf_mem.1 (memN_iff.1 h2)⟩
 have hU0:U0 c.s.next=none:=by
  cases e1:U0 c.s.next with
  |none=>rfl
  |some z=>
   have:=(cr.mr.heap _ _ (cr.mr.un _ z e1).2.1).1
   omega
 have cr1:CR P e.E (upd U0 c.s.next (some [.junk])) lof nt base {c with s:=qav c.s (.map [])} G w a:=⟨cr.fr,cr.sz,cr.mr.layH [.junk],cr.lh,cr.df,cr.bs⟩
 refine qiF (TT:=fun tr S G' a' w'=>LT cs (tr cs.length).f als w.heap.size S G' a' w') hm se hc cr1 hev1 (fun tr S hS=> .off fun j b hj=>absurd hj (hS j)) (fun tr D hl S U pd m G' a' w' i o co ho hi hS hcl hrd I L K hk=>?_) (fun tr S G' a' w' hall L x cr' hrd hl=>?_)
 ·exact qnT D I se hchk hone (by rw[hl];exact hik) L ho hi hS hcl hrd hk
 ·rw[hl] at L
  cases L with
  |off hoff=>
   obtain⟨i,co,hi,hop⟩:=hsome
   have:=(hoff i co (hall i (by rw[<-hlen];exact(zah.1 hi).1)) hi).1
   rw[hop] at this
   cases this
  |on b ents js i0 o0 h0 hi0 ho hb hmi hh ht hn hj he hle=>
   obtain⟨hq0,hq1,hqlo⟩:=cr'.mr.un c.s.next [.junk] (qas _ _ _)
   have hS:∀{j:Nat} {co:COp},cs[j]? =some co->S j:=fun {j co} hj=>hall j (by rw[<-hlen];exact(zah.1 hj).1)
   have hperm:js.Perm (qhv cs 0):=(List.perm_ext_iff_of_nodup hn (qdU cs 0)).2 fun y=>by
    rw[hj]
    refine⟨fun h=>h.2,fun h=>⟨?_,h⟩⟩
    obtain⟨o,_,_,_,h1,_⟩:=qeS h
    exact hS h1
   have hor:OR P (G'.addH b c.s.next) w' b (.umap ((qgH cs).map (qjc c1.f))):=by
    refine⟨⟨js.map fun x=>qjc c1.f x.2,?_,hik,ents,hh,by rw[List.length_map];exact hle,fun j k y e' h1 h2=>?_⟩,haw⟩
    ·rw[←qgc cs 0,List.map_map]
     exact hperm.map _
    ·obtain⟨q1,q2,q3⟩:=he j k y e' h1 h2
     exact⟨(qct hmi hq0).pr q1,q2.adopt hmi hq0,q3⟩
   have mr2:=cr'.mr.adopt hmi hq0 (qas _ _ _) qaI hor
   have hUe:upd (upd U0 c.s.next (some [.junk])) c.s.next none=U0:=by
    funext y
    by_cases e1:y=c.s.next
    ·subst e1;rw[qas,hU0]
    ·rw[qak _ _ _ e1,qak _ _ _ e1]
   rw[hUe] at mr2
   have hnd:w'.heap[b]?≠some (.deferred (some [])):=by rw[hh];intro e1;cases e1
   have hmb:∀t,t∈als->a'.tmps.getD t undef=.map (some b):=fun t hta=>by
    obtain⟨j,o,h1,h2⟩:=hwr t hta
    exact ht t hta j o (hS h1) h1 h2
   have hhas:∀t,t∈als->c1.f.has t=true:=fun t hta=>by
    obtain⟨j,o,h1,h2⟩:=hwr t hta
    obtain⟨p,hp⟩:∃p,ops[j]? =some p:=⟨_,zam (by rw[<-hlen];exact(zah.1 h1).1)⟩
    obtain⟨_,h3,h4⟩:=qc3 (k2.2 j p o (by rw[zal];exact hp) h1)
    exact cr'.fr.2 t (by rw[cr'.sz];exact h4 t (by rw[<-h3];exact h2))
   obtain⟨g1,g2⟩:=qiG (d:=qaf) (v:=zA.map c.s.next) als c1.f hhas
   refine hq (G'.addH b c.s.next) a' w' (x.adopt hmi hq0 hb hqlo) ⟨⟨fun t=>?_,fun t htt=>?_⟩,cr'.sz,mr2,cr'.lh,cr'.df.adopt hmi hq0 hnd,cr'.bs⟩ hrd
   ·show VR _ w' ((als.foldl (fun f t=>f.set t (zA.map c.s.next)) c1.f).get qaf t) _
    rw[g1]
    by_cases e1:t∈als
    ·rw[if_pos e1,hmb t e1]
     exact .map _ _ (qas _ _ _)
    ·rw[if_neg e1]
     exact(cr'.fr.1 t).adopt hmi hq0
   ·show(als.foldl (fun f t=>f.set t (zA.map c.s.next)) c1.f).has t=true
    rw[g2]
    exact cr'.fr.2 t htt
theorem qiH {ro:Option Nat}(se:SoundEnv P e)(hm:P.follows .mixedOrders=true){id:Nat}{Q:Exit->Act->World->Prop}{cc:CC}{c c':Cfg}{ex:EX}{n:Nat}(hc:qih P lof nt ops=some cc)(cr:CR P e.E U0 lof nt base c G w a)(hev:qaY e n cc c=some (ex,c'))
  (hq:∀G' a' w',Ext G w G' w'->CR P e.E U0 lof nt base c' G' w' a'->c'.rd=c.rd->Q .normal a' w'):ex=.normal/\(Code.region id ops true).wpIn (FW ro) 0 P Q a w:=by
 obtain⟨A,B,cs,chk,hd,⟨rfl,hno⟩|⟨als,rfl,hlk⟩⟩:=qg5 hc
 ·exact qiF (TT:=fun _ _ _ _ _=>True) hm se hd cr hev (fun _ _ _=>trivial) (fun tr D hl S U pd m G' a' w' i o co ho hi hS hcl hrd I _ K hk=>qkl D I se ho hi hS hcl hrd (hno co (zaw hi)) fun U' pd' m' G' u w' _ I'=>hk U' pd' m' G' _ w' I' trivial) (fun _ _ G' a' w' _ _ x cr' hrd _=>hq G' a' w' x cr' hrd)
 ·exact qlP se hm hd hlk cr hev hq
end Go.AI
namespace Go.AI
variable {P:Program} {e:Env} {lof:Nat->Option Nat} {nt base:Nat} {U0:Nat->Option (List zA)}
def qm4:EX->Exit
 |.normal=> .normal
 |.exit i=> .exit i
 |.ret=> .ret
def RoR (G:Gh):Option Nat->Option Nat->Prop
 |none,none=>True
 |some b,some k=>G.bOf k=some b
 |_,_=>False
theorem RoR.ext {G G':Gh}{w w':World}(x:Ext G w G' w'){ro rd:Option Nat}(h:RoR G ro rd):RoR G' ro rd:=by
 cases ro<;>cases rd<;>first|exact h|exact x.bOf _ _ h
theorem qjn (k:Nat)(b:Cfg->Option (EX×Cfg))(c:Cfg):qfN (k+1) b c=(b c).bind fun r=>match r with
  |(.normal,c)=>qfN k b c
  |r=>some r:=rfl
theorem qpM {G:Gh}{w:World}{c:zA}{v:Value}(h:VR G w c v):VR G w (far c) v:=by
 unfold far
 cases qjK c with
 |true=>exact h
 |false=>exact .junk v
theorem qlQ (c:zA):qjK (far c)=true\/far c=.junk:=by
 unfold far
 cases e:qjK c with
 |true=>exact .inl (by simpa using e)
 |false=>exact .inr rfl
theorem qg6 (f:Tr zA)(t:Nat):(f.map far).get qaf t=far (f.get qaf t):=by
 have:=Tr.get_map far qaf f t
 have e:far qaf=qaf:=rfl
 rw[e] at this
 exact this
theorem qnU (l:Tr (Nat×List zA))(i:Nat):(l.map fun _=>((0,[]):Nat×List zA)).get (0,[]) i=(0,[]):=by
 have:=Tr.get_map (fun _:Nat×List zA=>((0,[]):Nat×List zA)) (0,[]) l i
 exact this
theorem qlR {ro:Option Nat}{c:Cfg}{G:Gh}{w:World}{a:Act}(cr:CR P e.E U0 lof nt base c G w a)(hro:RoR G ro c.rd)(hin:qjP c=true){ps:Array Tmp}{assign body:Code}{aa bb:CC}(ha:qbk P lof nt assign=some aa)(hb:qbk P lof nt body=some bb)
  (hps:∀p∈ps.toList,p<nt)(fn:FuncId):∃l mark w1 G1,(Instr.enterLoop fn a.tmps ps assign body ro).run P w=.ok (l,mark) w1∧Ext G w G1 w1∧G1.bOf c.s.next=some l∧
   CR P e.E U0 lof nt base {c with s:=qav c.s (.loop 0 none (c.f.map far) (c.l.map fun _=>(0,[])) ps.toList aa bb)} G1 w1 {a with defers:=mark++a.defers}:=by
 have second:∀(d:Nat) (mark:List Deferred) (G0:Gh) (w0:World),Ext G w G0 w0->MR P e.E U0 (fun _=>none) c.l c.s G0 w0->Marks base G0 w0 (mark++a.defers)->
   ∃G1,Ext G w G1 (w0.alloc (.loop {state:=.ready,pending:=none,fn:=fn,tmps:=a.tmps,params:=ps,assign:=assign,body:=body,defers:=d}))/\G1.bOf c.s.next=some w0.heap.size/\
    CR P e.E U0 lof nt base {c with s:=qav c.s (.loop 0 none (c.f.map far) (c.l.map fun _=>(0,[])) ps.toList aa bb)} G1 (w0.alloc (.loop {state:=.ready,pending:=none,fn:=fn,tmps:=a.tmps,params:=ps,assign:=assign,body:=body,defers:=d})) {a with defers:=mark++a.defers}:=by
  intro d mark G0 w0 x0 mr0 hm
  have x1:=mr0.ext_addH (Keep.alloc w0 (.loop {state:=.ready,pending:=none,fn:=fn,tmps:=a.tmps,params:=ps,assign:=assign,body:=body,defers:=d})) (b:=w0.heap.size) (q:=c.s.next) (zaf _) mr0.bOf_next mr0.lo_
  have x:=x0.trans x1
  refine⟨_,x,by simp[Gh.addH,qas],⟨cr.fr.ext x,cr.sz,?_,cr.lh,hm.ext x1,zaR cr.bs x.size⟩⟩
  refine mr0.addH (Keep.alloc w0 _) (zaf _) (qa9 w0 _) (o:=.loop 0 none (c.f.map far) (c.l.map fun _=>(0,[])) ps.toList aa bb) ⟨_,heap_alloc_new w0 _,trivial,trivial,⟨fun t=>?_,fun t ht=>?_⟩,fun t=>?_,rfl,fun p hp=>?_,fun i=>qnU _ _,lof,?_,?_,fun t i hi=>?_⟩
  ·rw[qg6]
   exact qpM ((cr.fr.1 t).ext x)
  ·rw[Tr.has_map]
   exact cr.fr.2 t ht
  ·rw[qg6]
   exact qlQ _
  ·show p<a.tmps.size
   rw[cr.sz]
   exact hps p hp
  ·rw[<-cr.sz] at ha;exact ha
  ·rw[<-cr.sz] at hb;exact hb
  ·rw[Tr.has_map];exact cr.lh t i hi
 cases ro with
 |none=>
  let G0:Gh:={G with own:=upd G.own w.heap.size .misc}
  have hf:=cr.mr.free (zaf w.heap.size)
  have k0:=Keep.alloc w (.deferred (some []))
  have x0:Ext G w G0 (w.alloc (.deferred (some []))):=Ext.new k0 (zaf _) (fun y hy=>qak _ _ _ hy) hf (fun _ _ h=>h) (fun _ _ _ h=>h) (zaf _) rfl (fun _ _=>rfl) (fun t n sz h=>by simp[G0,qas] at h)
  have hne:∀y r,G.own y=r->r≠.free->y≠w.heap.size:=fun y r h1 h2 e=>h2 (by rw[<-h1,e,hf])
  have st:Step G w G0 (w.alloc (.deferred (some []))) (fun y=>y=w.heap.size):=⟨x0,fun y hy hn=>⟨k0.same y hy,qak _ _ _ hn⟩⟩
  have h:=cr.mr
  have mr0:MR P e.E U0 (fun _=>none) c.l c.s G0 (w.alloc (.deferred (some []))):=by
   refine⟨fun y hy=>?_,h.bOf,h.lo_,h.un,h.pdz,h.nt,h.loc.step st (fun y q r ho=>hne y _ ho (by simp)),h.lam,h.heap.step st (fun y q ho=>hne y _ ho (by simp)) (fun _ _ _ h=>h),h.ro.step st (fun y q ho=>hne y _ ho (by simp)),
    h.tok.step (fun y t n sz ho=>by simp only[G0];rw[qak _ _ _ (hne y _ ho (by simp))];exact ho) (fun y t n sz ho=>?_) (fun y _ _ _ ho=>k0.same y (h.own y (by rw[ho];simp)))⟩
   ·by_cases e':y=w.heap.size
    ·subst e';simp
    ·simp only[G0] at hy
     rw[qak _ _ _ e'] at hy
     exact zas (h.own y hy) k0.size
   ·have hy:y≠w.heap.size:=fun e'=>by subst e';simp[G0,qas] at ho
    simp only[G0] at ho
    rw[qak _ _ _ hy] at ho
    exact ho
  have hold:∀(ds:List Deferred),Marks base G w ds->∀d'∈ds,d'.target≠.collected w.heap.size:=by
   intro ds
   induction ds with
   |nil=>intro _ d' hd';cases hd'
   |cons d ds ih=>
    rintro ⟨⟨r,q1,q2,q3,q4,q5⟩,q6⟩ d' hd'
    rcases zaI.1 hd' with rfl|hd'
    ·rw[q1]
     intro e'
     injection e' with e'
     have:=(zag.1 q4).1
     omega
    ·exact ih q6 d' hd'
  obtain⟨G1,x1,hb1,cr1⟩:=second w.heap.size [{target:=.collected w.heap.size,args:= #[]}] G0 (w.alloc (.deferred (some []))) x0 mr0
   ⟨⟨w.heap.size,rfl,cr.bs,qas _ _ _,heap_alloc_new w _,hold a.defers cr.df⟩,cr.df.ext x0⟩
  refine⟨_,_,_,G1,?_,x1,hb1,cr1⟩
  simp[Instr.enterLoop]
 |some lr=>
  obtain⟨k,hrd,hbk⟩:∃k,c.rd=some k/\G.bOf k=some lr:=by
   cases hr:c.rd with
   |none=>rw[hr] at hro;exact hro.elim
   |some k=>rw[hr] at hro;exact⟨k,rfl,hro⟩
  have hloop:∃r,w.heap[lr]? =some (.loop r):=by
   unfold qjP at hin
   rw[hrd] at hin
   simp only at hin
   split at hin<;>try (cases hin;done)
   rename_i hk
   rcases(cr.mr.heap k _ hk).2 with e'|⟨b,h1,h2,r,h3,_⟩
   ·rw[hbk] at e';cases e'
   ·rw[hbk] at h1;cases h1;exact⟨r,h3⟩
  obtain⟨r,hr⟩:=hloop
  obtain⟨G1,x1,hb1,cr1⟩:=second r.defers [] G w (Ext.refl G w) cr.mr cr.df
  refine⟨_,_,_,G1,?_,x1,hb1,cr1⟩
  simp[Instr.enterLoop,Instr.getLoop,getObj,hr]
  simp[Sem.run,hr]
end Go.AI
namespace Go.AI
variable {P:Program} {e:Env} {lof:Nat->Option Nat} {nt base:Nat} {U0:Nat->Option (List zA)}
theorem qeT (u:Value)(vs:Array Value)(w:World)(f:Fn)(first cap:Array Value)(h:u=.func f first cap):(Deferred.ofValue u vs).run P w=.ok {target:=.fn f cap,args:=first++vs} w:=by subst h;rfl
theorem qlS:∀{st:Nat},stR st .busy->st=1
 |0,h=>h.elim
 |1,_=>rfl
 |2,h=>h.elim
 |_+3,h=>h.elim
theorem qlT {G:Gh}{w:World}{c:Cfg}{a:Act}{l k:Nat}{st:Nat}{pend:Option CC}{f:Tr zA}{lo:Tr (Nat×List zA)}{ps:List Nat}{x y:CC}(cr:CR P e.E U0 lof nt base c G w a)(hb:G.bOf k=some l)(hk:qaD c.s.heap k=some (.loop st pend f lo ps x y))(hst:st≠1){hp:Heap}(qaI:qaI c.s.heap k .gone=some hp):
  ∃jump w',(Instr.endLoop l).run P w=.ok jump w'/\qlw pend jump/\Ext G w G w'/\CR P e.E U0 lof nt base {c with s:={c.s with heap:=hp}} G w' a:=by
 rcases(cr.mr.heap k _ hk).2 with e'|⟨b,h1,h2,r,h3,h4⟩
 ·rw[hb] at e';cases e'
 rw[hb] at h1
 cases h1
 have hne:r.state≠.busy:=fun hs=>hst (qlS (by rw[<-hs];exact h4.st_))
 have sw:=Swap.setObj h3 (.loop {r with state:=.exhausted})
 have x:=Ext.chg (G:=G) sw (by rw[h2];exact fun e=>e) (by rw[h2];intros;simp)
 obtain⟨_,hm⟩:=cr.mr.chgH sw hb h2 qaI (ob:=.gone) ⟨_,(MapKept.heap_set h3).1⟩
 refine⟨r.pending,_,?_,h4.pend_,x,⟨cr.fr.ext x,cr.sz,hm,cr.lh,cr.df.ext x,zaR cr.bs x.size⟩⟩
 simp[Instr.endLoop,Instr.getLoop,getObj,setObj,Sem.run,h3,hne]
theorem qiI {x:Option CC}{cc:CC}(h:qlt x=some cc):x=some cc\/cc=.bad:=by
 cases x with
 |none=>
  simp only[qlt,zaa] at h
  exact .inr h.symm
 |some y=>exact .inl h
theorem qcv (se:SoundEnv P e)(hm:P.follows .mixedOrders=true){ro:Option Nat}(n:Nat):∀(code:Code) {cc:CC},qbk P lof nt code=some cc->∀{c c':Cfg} {ex:EX} {G:Gh} {w:World} {a:Act} {Q:Exit->Act->World->Prop},
  CR P e.E U0 lof nt base c G w a->RoR G ro c.rd->qaY e n cc c=some (ex,c')->(∀G' a' w',Ext G w G' w'->CR P e.E U0 lof nt base c' G' w' a'->c'.rd=c.rd->Q (qm4 ex) a' w')->code.wpIn (FW ro) 0 P Q a w
 |.skip,cc,hc,c,c',ex,G,w,a,Q,cr,hro,hev,hq=>by
  simp only[qbk,zaa] at hc
  subst hc
  simp only[qaY,zaa,zad] at hev
  obtain⟨rfl,rfl⟩:=hev
  exact wpIn_skip (hq G a w (Ext.refl G w) cr rfl)
 |.region id ops false,cc,hc,c,c',ex,G,w,a,Q,cr,hro,hev,hq=>by
  simp only[qbk] at hc
  rcases qiI hc with hc|rfl
  ·simp only[zac] at hc
   obtain⟨cs,hcs,rfl⟩:=hc
   simp only[qaY,zac,zad] at hev
   obtain⟨c1,hev,rfl,rfl⟩:=hev
   exact qnQ se hcs cr hev hq
  ·simp only[qaY,reduceCtorEq] at hev
 |.region id ops true,cc,hc,c,c',ex,G,w,a,Q,cr,hro,hev,hq=>by
  simp only[qbk] at hc
  rcases qiI hc with hc|rfl
  ·have he:ex=.normal:=(qiH (ro:=ro) (id:=id) (Q:=fun _ _ _=>True) se hm hc cr hev (fun _ _ _ _ _ _=>trivial)).1
   subst he
   exact(qiH se hm hc cr hev hq).2
  ·simp only[qaY,reduceCtorEq] at hev
 |.seq x y,cc,hc,c,c',ex,G,w,a,Q,cr,hro,hev,hq=>by
  simp only[qbk,zab,zac] at hc
  obtain⟨cx,hx,cy,hy,rfl⟩:=hc
  simp only[qaY,zab] at hev
  obtain⟨⟨ex1,c1⟩,h1,h2⟩:=hev
  refine wpIn_seq (qcv se hm n x hx cr hro h1 fun G1 a1 w1 x1 cr1 hrd1=>?_)
  cases ex1 with
  |normal=>
   exact qcv se hm n y hy cr1 (by rw[hrd1];exact hro.ext x1) h2 fun G2 a2 w2 x2 cr2 hrd2=>hq G2 a2 w2 (x1.trans x2) cr2 (hrd2.trans hrd1)
  |exit i=>
   simp only[zaa,zad] at h2
   obtain⟨rfl,rfl⟩:=h2
   exact hq G1 a1 w1 x1 cr1 hrd1
  |ret=>
   simp only[zaa,zad] at h2
   obtain⟨rfl,rfl⟩:=h2
   exact hq G1 a1 w1 x1 cr1 hrd1
 |.cond x p q,cc,hc,c,c',ex,G,w,a,Q,cr,hro,hev,hq=>by
  simp only[qbk,zab,zac] at hc
  obtain⟨g,hg,cp,hp,cq,hcq,rfl⟩:=hc
  have hv:=qar hg (cr.fr.reads (a:=a) g.tmps)
  simp only[qaY] at hev
  split at hev
  ·rename_i hx
   rw[hx] at hv
   exact wpIn_cond_true hv.bool_inv (qcv se hm n p hp cr hro hev hq)
  ·rename_i hx
   rw[hx] at hv
   exact wpIn_cond_false hv.bool_inv (qcv se hm n q hcq cr hro hev hq)
  ·cases hev
 |.block id x,cc,hc,c,c',ex,G,w,a,Q,cr,hro,hev,hq=>by
  simp only[qbk,zac] at hc
  obtain⟨cx,hx,rfl⟩:=hc
  simp only[qaY,zac] at hev
  obtain⟨⟨ex1,c1⟩,h1,h2⟩:=hev
  refine wpIn_block (qcv se hm n x hx cr hro h1 fun G1 a1 w1 x1 cr1 hrd1=>?_)
  cases ex1 with
  |normal=>
   simp only[zad] at h2
   obtain⟨rfl,rfl⟩:=h2
   exact hq G1 a1 w1 x1 cr1 hrd1
  |exit i=>
   simp only[zad] at h2
   obtain⟨rfl,rfl⟩:=h2
   have:=hq G1 a1 w1 x1 cr1 hrd1
   show if i=id then _ else _
   by_cases e1:i=id
   ·rw[if_pos e1]
    rw[qaA e1] at this
    exact this
   ·rw[if_neg e1]
    rw[qaE e1] at this
    exact this
  |ret=>
   simp only[zad] at h2
   obtain⟨rfl,rfl⟩:=h2
   exact hq G1 a1 w1 x1 cr1 hrd1
 |.loop x,cc,hc,c,c',ex,G,w,a,Q,cr,hro,hev,hq=>by
  simp only[qbk,zac] at hc
  obtain⟨cx,hx,rfl⟩:=hc
  simp only[qaY] at hev
  have key:∀k {c:Cfg} {G1:Gh} {w1:World} {a1:Act},Ext G w G1 w1->CR P e.E U0 lof nt base c G1 w1 a1->RoR G1 ro c.rd->qfN k (qaY e n cx) c=some (ex,c')->(∀G' a' w',Ext G1 w1 G' w'->CR P e.E U0 lof nt base c' G' w' a'->c'.rd=c.rd->Q (qm4 ex) a' w')->Code.roundsIn (FW ro) 0 P x Q k a1 w1:=by
   intro k
   induction k with
   |zero=>intro c G1 w1 a1 _ _ _ h;cases h
   |succ k ih=>
    intro c G1 w1 a1 x1 cr1 hro1 h hq1
    rw[qjn] at h
    simp only[zab] at h
    obtain⟨⟨ex2,c2⟩,h1,h2⟩:=h
    rw[roundsIn_succ]
    refine qcv se hm n x hx cr1 hro1 h1 fun G2 a2 w2 x2 cr2 hrd2=>?_
    cases ex2 with
    |normal=>exact ih (x1.trans x2) cr2 (by rw[hrd2];exact hro1.ext x2) h2 fun G3 a3 w3 x3 cr3 hrd3=>hq1 G3 a3 w3 (x2.trans x3) cr3 (hrd3.trans hrd2)
    |exit i=>
     simp only[zaa,zad] at h2
     obtain⟨rfl,rfl⟩:=h2
     exact hq1 G2 a2 w2 x2 cr2 hrd2
    |ret=>
     simp only[zaa,zad] at h2
     obtain⟨rfl,rfl⟩:=h2
     exact hq1 G2 a2 w2 x2 cr2 hrd2
  exact wpIn_loop_rounds n (key n (Ext.refl G w) cr hro hev hq)
 |.rangeFunc g ps x y,cc,hc,c,c',ex,G,w,a,Q,cr,hro,hev,hq=>by
  simp only[qbk,zab] at hc
  obtain⟨gg,hg,cx,hx,cy,hy,hc⟩:=hc
  obtain⟨hps,hc⟩:=qac hc
  simp only[zaa] at hc
  subst hc
  simp only[qaY] at hev
  obtain⟨hin,hev⟩:=qac hev
  simp only[zae] at hin
  simp only[zab] at hev
  obtain⟨⟨rv,s1⟩,hcall,hev⟩:=hev
  simp only at hev
  split at hev<;>try (cases hev;done)
  rename_i st pend lf ll lps lx ly hloop
  obtain⟨hst,hev⟩:=qaG hev
  have hst1:st≠1:=fun e'=>by subst e';cases hst
  simp only[zab] at hev
  obtain⟨hp,qaI,hev⟩:=hev
  refine wpIn_rangeFunc fun fn _=>?_
  obtain⟨l,mark,w1,G1,hent,x1,hbl,cr1⟩:=qlR cr hro hin.1 hx hy (fun p hp=>blt_iff.1 (zaj.1 hps p hp)) fn
  have hfv:=(qar hg (cr.fr.reads (a:=a) gg.tmps)).ext x1
  have hargs:VRs G1 w1 [.yield c.s.next] #[Value.func (.yield l) #[] #[]].toList:=VRs.nil.cons (.yield _ _ hbl)
  obtain⟨f0,first,cap,hu,hcf⟩:=se.callf hcall hin.2 cr1.mr hfv hargs
  have hcv:=se.callv hcall cr1.mr hfv hargs
  refine⟨l,mark,w1,{target:=.fn (.func f0) cap,args:=first++ #[Value.func (.yield l) #[] #[]]},w1,f0,first++ #[Value.func (.yield l) #[] #[]]++cap,w1,hent,?_,fun _ _=>trivial,?_,(fun h=>by cases h),?_⟩
  ·show(Deferred.ofValue (a.eval g) _).run P w1=_
   rw[qeT _ _ _ (.func f0) first cap hu,show Array.map a.eval (rangeCall g l).args= #[Value.func (.yield l) #[] #[]] by simp[rangeCall,Act.eval]]
  ·exact hcf
  ·have hn:NextP P (qa8 P e.E U0 (fun _=>none) G1 w1 c.l s1 rv) (.ok (.enter f0 (first++ #[Value.func (.yield l) #[] #[]]++cap)) w1):=by
    rw[Sem.run_bind,qeT _ _ _ (.func f0) first cap hu] at hcv
    simp only[Result.andThen_ok,invoke] at hcv
    rw[hcf] at hcv
    exact hcv
   refine CallsIn.mono (F:=Fence.wide) hn fun en w2 h=>?_
   obtain⟨u,rfl,G2,x2,mr2,hvr⟩:=h
   have cr2:CR P e.E U0 lof nt base {c with s:=s1} G2 w2 {a with defers:=mark++a.defers}:=⟨cr1.fr.ext x2,cr1.sz,mr2,cr1.lh,cr1.df.ext x2,zaR cr1.bs x2.size⟩
   obtain⟨jump,w3,hend,hpend,x3,cr3⟩:=qlT (k:=c.s.next) cr2 (x2.bOf _ _ hbl) hloop hst1 qaI
   refine⟨jump,w3,hend,?_⟩
   have hx:=(x1.trans x2).trans x3
   cases pend with
   |none=>
    simp only[zaa,zad] at hev
    obtain⟨rfl,rfl⟩:=hev
    cases jump with
    |none=>exact hq G2 _ w3 hx cr3 rfl
    |some j=>exact hpend.elim
   |some pc=>
    cases pc with
    |ret=>
     simp only[zaa,zad] at hev
     obtain⟨rfl,rfl⟩:=hev
     cases jump with
     |none=>exact hpend.elim
     |some j=>
      cases j with
      |ret=>exact wpIn_ret (hq G2 _ w3 hx cr3 rfl)
      |_=>exact hpend.elim
    |exit i=>
     simp only[zaa,zad] at hev
     obtain⟨rfl,rfl⟩:=hev
     cases jump with
     |none=>exact hpend.elim
     |some j=>
      cases j with
      |exit i'=>
       have:i=i':=hpend
       subst this
       exact wpIn_exit (hq G2 _ w3 hx cr3 rfl)
      |_=>exact hpend.elim
    |_=>cases hev
 |.exit i,cc,hc,c,c',ex,G,w,a,Q,cr,hro,hev,hq=>by
  simp only[qbk,zaa] at hc
  subst hc
  simp only[qaY,zaa,zad] at hev
  obtain⟨rfl,rfl⟩:=hev
  exact wpIn_exit (hq G a w (Ext.refl G w) cr rfl)
 |.ret,cc,hc,c,c',ex,G,w,a,Q,cr,hro,hev,hq=>by
  simp only[qbk,zaa] at hc
  subst hc
  simp only[qaY,zaa,zad] at hev
  obtain⟨rfl,rfl⟩:=hev
  exact wpIn_ret (hq G a w (Ext.refl G w) cr rfl)
 |.label _,cc,hc,_,_,_,_,_,_,_,_,_,hev,_=>by
  simp only[qbk,zaa] at hc
  subst hc
  simp only[qaY,reduceCtorEq] at hev
 |.goto _,cc,hc,_,_,_,_,_,_,_,_,_,hev,_=>by
  simp only[qbk,zaa] at hc
  subst hc
  simp only[qaY,reduceCtorEq] at hev
 |.scope _,cc,hc,_,_,_,_,_,_,_,_,_,hev,_=>by
  simp only[qbk,zaa] at hc
  subst hc
  simp only[qaY,reduceCtorEq] at hev
 |.refuse _,cc,hc,_,_,_,_,_,_,_,_,_,hev,_=>by
  simp only[qbk,zaa] at hc
  subst hc
  simp only[qaY,reduceCtorEq] at hev
end Go.AI

namespace Go.AI
variable {P:Program} {e:Env} {lof:Nat->Option Nat} {nt base:Nat} {U0:Nat->Option (List zA)}
theorem qkp {c:Cfg}{G:Gh}{w:World}{a:Act}(fr:FR G w c.f a.tmps)(mr:MR P e.E U0 (fun _=>none) c.l c.s G w):∀(rs:List ResultVar) (res:List RV) (vs:List zA),qlm P rs=some res->rvs e c res=some vs->
  ∃us:List Value,(rs.mapM (fun(r:ResultVar)=>match r with|.tmp t=>(pure (a.tmps.getD t undef):Sem Value)|.cell x t=>do loadVar t (<-asAddr (a.tmps.getD x undef)))).run P w=.ok us w/\VRs G w vs us
 |[],res,vs,hc,hv=>by
  simp only[qlm,zaa] at hc
  subst hc
  simp only[rvs,zaa] at hv
  subst hv
  exact⟨[],rfl,.nil⟩
 |.tmp t::rs,res,vs,hc,hv=>by
  simp only[qlm,zac] at hc
  obtain⟨res',hr,rfl⟩:=hc
  simp only[rvs,zac] at hv
  obtain⟨vs',hv',rfl⟩:=hv
  obtain⟨us,h1,h2⟩:=qkp fr mr rs res' vs' hr hv'
  refine⟨a.tmps.getD t undef::us,?_,h2.cons (fr.1 t)⟩
  simp only[List.mapM_cons,Sem.run_bind,Sem.run_pure,Result.andThen_ok,h1]
 |.cell x t::rs,res,vs,hc,hv=>by
  simp only[qlm,zab,zac] at hc
  obtain⟨n,hn,res',hr,rfl⟩:=hc
  simp only[rvs,zab,zac] at hv
  obtain⟨cs,hcs,v,hv1,vs',hv',rfl⟩:=hv
  obtain⟨us,h1,h2⟩:=qkp fr mr rs res' vs' hr hv'
  obtain⟨ad,ls,k1,k2,k3,k4,k5⟩:=qfC mr (fr.1 x) hcs
  obtain⟨u,k6,k7,k8⟩:=qip (P:=P) hn k2 k5
  have k9:(loadVar t ad).run P w=.ok u w:=by
   simpa[Instr.loadAt,Instr.sureAddr] using k6
  have k10:VR G w v u:=by
   obtain⟨q1,q2⟩:=qdJ hv1 k3 k4
   cases n with
   |none=>
    obtain⟨u',e',q3⟩:=q1 rfl
    rw[k7 rfl] at e'
    cases e'
    exact q3
   |some m=>
    rw[k8 m rfl]
    exact q2 m rfl
  refine⟨u::us,?_,h2.cons k10⟩
  rw[List.mapM_cons]
  simp only[Sem.run_bind,k1,show asAddr (.pointer (some ad))=pure ad from rfl,Sem.run_pure,Result.andThen_ok,k9,h1]
theorem qpN {G:Gh}{w:World}{vs:List zA}{us:List Value}(h:VRs G w vs us):VR G w (qft vs) (if h:us.toArray.size=1 then us.toArray[0] else .tuple us.toArray):=by
 match vs,us,h with
 |[],[],_=>exact .undef
 |[v],[u],h=>exact h.2 0 v u rfl rfl
 |v::v'::vs,u::u'::us,h=>
  have hs:(u::u'::us).toArray.size≠1:=by simp
  rw[dif_neg hs]
  exact .tuple _ _ (by simpa using h.1) fun i c x hc hx=>h.2 i c x hc (by simpa using hx)
 |[],_::_,h=>simp[VRs] at h
 |_::_,[],h=>simp[VRs] at h
 |[_],_::_::_,h=>simp[VRs] at h
 |_::_::_,[_],h=>simp[VRs] at h
theorem qjo {c:Cfg}{G:Gh}{w:World}{a:Act}(fr:FR G w c.f a.tmps)(mr:MR P e.E U0 (fun _=>none) c.l c.s G w){fn:Func}{res:List RV}{vs:List zA}(hc:qlm P fn.results.toList=some res)(hv:rvs e c res=some vs):
  ∃u,(results fn a.tmps).run P w=.ok u w/\VR G w (qft vs) u:=by
 obtain⟨us,h1,h2⟩:=qkp fr mr _ _ _ hc hv
 refine⟨_,?_,qpN h2⟩
 unfold results
 rw[Sem.run_bind,Array.mapM_eq_mapM_toList,map_eq_pure_bind,Sem.run_bind]
 have h3:=h1
 refine(congrArg (fun r=>Result.andThen (Result.andThen r _) _) h3).trans ?_
 rfl
theorem qiJ {c:Cfg}{G0 G:Gh}{w0:World}{a:Act}{fn:Func}{res:List RV}{vs:List zA}(hc:qlm P fn.results.toList=some res)(hv:rvs e c res=some vs){R:Ending->World->Prop}
  (hR:∀u w',Ext G0 w0 G w'->MR P e.E U0 (fun _=>none) c.l c.s G w'->VR G w' (qft vs) u->R (.returned u) w'):
  ∀(ds:List Deferred) (w:World),Ext G0 w0 G w->FR G w c.f a.tmps->MR P e.E U0 (fun _=>none) c.l c.s G w->Marks w0.heap.size G w ds->LeavesInM Fence.wide 0 P fn a.tmps R ds .returning w
 |[],w,x,fr,mr,_=>by
  obtain⟨u,h1,h2⟩:=qjo fr mr hc hv
  exact⟨u,h1,hR u w x mr h2⟩
 |d::ds,w,x,fr,mr,⟨⟨r,h1,h2,h3,h4,h5⟩,hm⟩=>by
  have sw:=Swap.setObj h4 (.deferred none)
  refine⟨by simp,.inl ⟨r,_,h1,?_,qiJ hc hv hR ds _ (x.quiet sw h2) ⟨fun t=>(fr.1 t).quiet sw h3,fr.2⟩ (mr.quiet sw h3) ?_⟩⟩
  ·simp[Instr.takeDeferred,getObj,setObj,Sem.run,h4]
  ·have:∀ds:List Deferred,(∀d'∈ds,d'.target≠.collected r)→Marks w0.heap.size G w ds→Marks w0.heap.size G {w with heap:=w.heap.setIfInBounds r (.deferred none)} ds:=by
    intro ds
    induction ds with
    |nil=>intros;trivial
    |cons d ds ih=>
     rintro hne ⟨⟨q,k1,k2,k3,k4,k5⟩,k6⟩
     have hqr:q≠r:=fun e'=>hne d (zaz) (by rw[k1,e'])
     exact⟨⟨q,k1,k2,k3,by rw[sw.same q hqr];exact k4,k5⟩,ih (fun d' hd'=>hne d' (zaE _ hd')) k6⟩
   exact this ds h5 hm
end Go.AI
namespace Go.AI
variable {P:Program}
theorem qeU:∀(args:List zA) (f:Tr zA) (k t:Nat),(qaS f k args).has t=f.has t
 |[],_,_,_=>rfl
 |v::r,f,k,t=>by
  rw[qaS,qeU r,Tr.has_set]
theorem qeV:∀(args:List zA) (f:Tr zA) (k t:Nat),(∀i,i<args.length->f.has (k+i)=true)->(qaS f k args).get qaf t=if k<=t then(match args[t-k]? with|some v=>v|none=>f.get qaf t) else f.get qaf t
 |[],f,k,t,_=>by simp[qaS]
 |v::r,f,k,t,h=>by
  rw[qaS,qeV r (f.set k v) (k+1) t (fun i hi=>by
   rw[Tr.has_set]
   have:=h (i+1) (by simp;omega)
   rw[show k+1+i=k+(i+1) by omega]
   exact this)]
  have hk:=h 0 (by simp)
  rw[Nat.add_zero] at hk
  by_cases h1:k+1<=t
  ·rw[if_pos h1,if_pos (by omega),show t-k=(t-(k+1))+1 by omega,List.getElem?_cons_succ]
   cases r[t-(k+1)]? with
   |some v=>rfl
   |none=>exact Tr.get_set_ne _ _ _ _ _ (by omega)
  ·rw[if_neg h1]
   by_cases h2:k=t
   ·subst h2
    rw[if_pos (zaf _),Nat.sub_self,zak,Tr.get_set_eq _ _ _ _ hk]
   ·rw[if_neg (by omega),Tr.get_set_ne _ _ _ _ _ h2]
theorem qck {fl:Flag}{fn:Func}{cf:CF}(h:qje P fl fn=some cf):∃body,fn.body=some body/\fn.ntmps<2^cf.depth/\fl.locals.length<2^cf.ldepth/\cf.np<=fn.ntmps/\qlm P fn.results.toList=some cf.res/\qbk P (fun t=>qfw fl.locals t 0) fn.ntmps body=some cf.body:=by
 unfold qje at h
 split at h
 ·cases h
 ·rename_i body hb
  obtain⟨hc,h⟩:=qac h
  simp only[zab,zac] at h
  obtain⟨res,hr,b,hcb,rfl⟩:=h
  simp only[zae] at hc
  exact⟨body,hb,blt_iff.1 hc.1,blt_iff.1 hc.2.1,ble_iff.1 hc.2.2,hr,hcb⟩
theorem qg7:∀(l:List Nat) (t k i:Nat),qfw l t k=some i->i<k+l.length
 |[],_,_,_,h=>by cases h
 |x::r,t,k,i,h=>by
  unfold qfw at h
  cases hb:Nat.beq x t with
  |true=>
   rw[hb] at h
   simp only[cond_true,zaa] at h
   subst h
   simp
  |false=>
   rw[hb] at h
   have:=qg7 r t (k+1) i h
   simp
   omega
theorem qkq {e:Env}(se:SoundEnv P e)(hm:P.follows .mixedOrders=true){f:FuncId}{fn:Func}{fl:Flag}{cf:CF}(hf:P.funcs[f]? =some fn)(hcf:qje P fl fn=some cf){n:Nat}{U:Nat->Option (List zA)}{args:List zA}{s:ASt}{G:Gh}{w:World}{vs:Array Value}
  (hnp:args.length=cf.np)(mr:MR P e.E U (fun _=>none) (Tr.mk (0,[]) cf.ldepth) s G w)(ha:VRs G w args vs.toList){r:EX×Cfg}(hev:qaY e n cf.body ⟨qaS (Tr.mk qaf cf.depth) 0 args,Tr.mk (0,[]) cf.ldepth,[],none,s⟩=some r){v:zA}(hl:qfO e cf r=some v):
  CallsIn Fence.wide 0 P f vs w fun ex w'=>∃u,ex=.returned u/\∃G',Ext G w G' w'/\MR P e.E U (fun _=>none) r.2.l r.2.s G' w'/\VR G' w' v u:=by
 obtain⟨body,hb,hd,hld,hle,hres,hcode⟩:=qck hcf
 obtain⟨ex,c'⟩:=r
 have hsz:vs.size=args.length:=by have:=ha.1;simpa using this.symm
 have hin:∀t,t<fn.ntmps->(Tr.mk qaf cf.depth).has t=true:=fun t ht=>Tr.has_mk _ _ _ (by omega)
 have hlen:(vs++Array.replicate (fn.ntmps-vs.size) undef).size=fn.ntmps:=by simp;omega
 have cr:CR P e.E U (fun t=>qfw fl.locals t 0) fn.ntmps w.heap.size ⟨qaS (Tr.mk qaf cf.depth) 0 args,Tr.mk (0,[]) cf.ldepth,[],none,s⟩ G w {tmps:=vs++Array.replicate (fn.ntmps-vs.size) undef,defers:=[]}:=by
  refine⟨⟨fun t=>?_,fun t ht=>?_⟩,hlen,mr,fun t j hj=>Tr.has_mk _ _ _ (by have:=qg7 _ _ _ _ hj;omega),trivial,zaf _⟩
  ·show VR G w ((qaS (Tr.mk qaf cf.depth) 0 args).get qaf t) ((vs++Array.replicate (fn.ntmps-vs.size) undef).getD t undef)
   rw[qeV _ _ _ _ (fun i hi=>hin _ (by omega)),if_pos (Nat.zero_le _),Nat.sub_zero,Tr.get_mk]
   by_cases ht:t<args.length
   ·rw[zai ht,zao,Array.getElem?_append_left (by omega),zam (by omega),Option.getD_some]
    exact ha.2 t _ _ (zai ht) (by rw[zal];exact zam (by omega))
   ·rw[List.getElem?_eq_none (by omega),zao,Array.getElem?_append_right (by omega),Array.getElem?_replicate]
    have hu:((if t-vs.size<fn.ntmps-vs.size then some undef else none:Option Value).getD undef)=undef:=by split<;>rfl
    rw[hu]
    exact .undef
  ·rw[qeU]
   exact hin t (by rw[hlen] at ht;exact ht)
 refine callsIn_of_wp_marks (F:=Fence.wide) hf hb trivial ?_
 refine qcv (ro:=none) se hm n body hcode cr trivial hev fun G' a' w' x cr' _=>?_
 unfold qfO at hl
 have fin:∀vs',rvs e c' cf.res=some vs'->qft vs'=v->LeavesInM Fence.wide 0 P fn a'.tmps (fun ex w'=>∃u,ex=.returned u/\∃G',Ext G w G' w'/\MR P e.E U (fun _=>none) c'.l c'.s G' w'/\VR G' w' v u) a'.defers .returning w':=by
  intro vs' hvs hv
  refine qiJ (G:=G') hres hvs (fun u w2 x2 mr2 hu=>⟨u,rfl,G',x2,mr2,by rw[<-hv];exact hu⟩) a'.defers w' x cr'.fr cr'.mr cr'.df
 cases ex with
 |normal=>
  simp only[zac] at hl
  obtain⟨vs',h1,h2⟩:=hl
  exact fin vs' h1 h2
 |ret=>
  simp only[zac] at hl
  obtain⟨vs',h1,h2⟩:=hl
  exact fin vs' h1 h2
 |exit i=>cases hl
theorem qaO {f:FuncId}{fn:Func}{body:Code}(hf:P.funcs[f]? =some fn)(hb:fn.body=some body)(hn:(fn.name== "runtime.NumGoroutine")=false)(vs:Array Value)(w:World):(callFunc f vs).run P w=.ok (.enter f vs) w:=by
 unfold callFunc
 have h1:∀x:Program,(program:Sem Program).run P w=.ok P w:=fun _=>rfl
 rw[Sem.run_bind,h1 P]
 simp only[Result.andThen_ok,hf,hn,hb,Option.isNone_some,zaB,if_false]
 rfl
structure ProgOK (P:Program)(CP:Nat->Option CF):Prop where
 orders:P.follows .mixedOrders=true
 code:∀f cf,CP f=some cf->∃fn fl,P.funcs[f]? =some fn/\qje P fl fn=some cf/\(fn.name== "runtime.NumGoroutine")=false
structure SpOK (P:Program)(CP:Nat->Option CF)(sp:Sp):Prop where
 ok:∀{e:Env},SoundEnv P e->∀{f args s v s'},sp e f args s=some (v,s')->(qa6 CP f=true->s'=s)/\∀{U pd l G w} {vs:Array Value},MR P e.E U pd l s G w->VRs G w args vs.toList->NextP P (qa8 P e.E U pd G w l s' v) ((callFunc f vs).run P w)
theorem qb0 (CP:Nat->Option CF)(sp:Sp)(n:Nat)(E:Rom):(qbQ CP sp n E).E=E:=by cases n<;>rfl
theorem qfJ {G:Gh}{w:World}{args:List zA}{vs:List Value}(keep:Bool)(h:VRs G w args vs):VRs G w (cond keep args (args.map qca)) vs:=by
 cases keep with
 |true=>exact h
 |false=>
  refine⟨by simpa using h.1,fun i c v hc hv=>?_⟩
  simp only[cond_false,zav,zac] at hc
  obtain⟨d,hd,rfl⟩:=hc
  exact qf4 (h.2 i d v hd hv)
theorem qjp {args:List zA}(keep:Bool)(h:args.all qaR=true):(cond keep args (args.map qca)).all qaR=true:=by
 cases keep with
 |true=>exact h
 |false=>
  simp only[cond_false,zaj]
  intro x hx
  obtain⟨y,hy,rfl⟩:=zaS.1 hx
  exact qhH y (zaj.1 h y hy)
theorem qlU {args:List zA}(keep:Bool):(cond keep args (args.map qca)).length=args.length:=by cases keep<;>simp
theorem qkr {CP:Nat->Option CF}{sp:Sp}(pk:ProgOK P CP){n:Nat}(ih:∀E,SoundEnv P (qbQ CP sp n E)){E:Rom}{f:Nat}{args:List zA}{s s':ASt}{v:zA}(h:qer CP (qbQ CP sp n) n E f args s=some (v,s')){U pd:Nat->Option (List zA)}{l:Tr (Nat×List zA)}{G:Gh}{w:World}{vs:Array Value}
  (mr:MR P E U pd l s G w)(ha:VRs G w args vs.toList):(callFunc f vs).run P w=.ok (.enter f vs) w/\NextP P (qa8 P E U pd G w l s' v) ((callFunc f vs).run P w):=by
 unfold qer at h
 simp only[zab] at h
 obtain⟨cf,hcf,h⟩:=h
 obtain⟨fn,fl,hf,hc,hname⟩:=pk.code f cf hcf
 obtain⟨body,hb,_⟩:=qck hc
 have hrun:=qaO hf hb hname vs w
 refine⟨hrun,?_⟩
 rw[hrun]
 obtain⟨hg,h⟩:=qac h
 simp only[zae] at hg
 have hnp:=beq_iff.1 hg.1
 have h0:∀i,(Tr.mk ((0,[]):Nat×List zA) cf.ldepth).get (0,[]) i=(0,[]):=fun i=>Tr.get_mk _ _ _
 have quiet:∀(as_:List zA) (u:zA),as_.length=cf.np->as_.all qaR=true->VRs G w as_ vs.toList->qmX (qbQ CP sp n (qlk s.heap E)) n cf as_ s=some u->
   CallsIn Fence.wide 0 P f vs w fun ex w'=>∃x,ex=.returned x/\∃G',Ext (G.fix s.next) w G' w'/\VR G' w' u x:=by
  intro as_ u hlen haw hvr hr
  unfold qmX at hr
  simp only[zab] at hr
  obtain⟨r,hr1,hr2⟩:=hr
  have mr0:=mr.fix h0
  rw[<-qb0 CP sp n (qlk s.heap E)] at mr0
  refine CallsIn.mono (qkq (ih (qlk s.heap E)) pk.orders hf hc hlen mr0 ⟨hvr.1,fun i c x hci hx=>(qdy s.next).atC (hvr.2 i c x hci hx) (qaU haw hci)⟩ hr1 hr2) fun ex w' ⟨x,h1,G',h2,_,h3⟩=>⟨x,h1,G',h2,h3⟩
 cases hcl:cf.clone&&qfu (args.map qca) with
 |true=>
  rw[hcl] at h
  simp only[cond_true,zab] at h
  obtain⟨a,ha1,b,hb1,h⟩:=h
  obtain⟨hab,h⟩:=qac h
  simp only[zaa,zad] at h
  obtain⟨rfl,rfl⟩:=h
  simp only[zae] at hcl hab
  have ha2:=qfJ false ha
  simp only[cond_false] at ha2
  have hone:args.map qca=[.p (.sl 0 [])]:=by
   have:=hcl.2
   unfold qfu at this
   split at this
   ·assumption
   ·cases this
  rw[hone] at ha2
  have hlen1:args.length=1:=by have:=congrArg List.length hone;simpa using this
  have hvs:vs.size=1:=by have:=ha.1;simp at this;omega
  have hv0:vs[0]? =some vs[0]:=zam (by omega)
  have hvx:=ha2.2 0 _ _ rfl (by rw[zal];exact hv0)
  obtain⟨ad,cap,ex0,_⟩:=qcC (n:=0) (cs:=[]) rfl hvx
  have hfull:∀{q:zA} {G':Gh} {w':World} {x:Value},qeq q=true->VR G' w' q x->∃a',x=.slice a' 0 0:=by
   intro q G' w' x hq hx
   unfold qeq at hq
   split at hq
   ·cases hx with
    |full _ _ a' _=>exact⟨a',rfl⟩
   ·cases hq
  have done:∀(as0:zA) (q:zA),qaR as0=true->VR G w as0 vs[0]->qeq q=true->qmX (qbQ CP sp n (qlk s.heap E)) n cf [as0] s=some q->NextP P (qa8 P E U pd G w l s (.sl 0 [] .full)) (.ok (.enter f vs) w):=by
   intro as0 q haw hvr hq hr
   refine CallsIn.mono (quiet [as0] q (by rw[<-hnp,hlen1];rfl) (by simp[haw]) ⟨by simp[hvs],fun i c x hci hx=>?_⟩ hr) fun en w' ⟨x,h1,G',h2,h3⟩=>⟨x,h1,?_⟩
   ·cases i with
    |zero=>
     simp only[zak,zaa] at hci
     rw[zal,hv0] at hx
     cases hci;cases hx
     exact hvr
    |succ i=>simp at hci
   ·obtain⟨a',rfl⟩:=hfull hq h3
    exact⟨G,(qed h2).ext G,mr.keep (qed h2),.full 0 [] a' (PR.nil_row _ _)⟩
  cases ad with
  |none=>exact done (.p .nilSl) a rfl (by rw[ex0];exact .p _ _ (.nilSl cap)) hab.1 ha1
  |some ad=>exact done (.p .emSl) b rfl (by rw[ex0];exact .p _ _ (.emSl ad cap)) hab.2 hb1
 |false=>
  rw[hcl] at h
  simp only[cond_false] at h
  have ha':=qfJ cf.keepA ha
  have haw:=qjp cf.keepA hg.2
  have hlen:(cond cf.keepA args (args.map qca)).length=cf.np:=by rw[qlU];exact hnp
  cases hp:cf.pure with
  |true=>
   rw[hp] at h
   simp only[cond_true,zab] at h
   obtain⟨u,hu,h⟩:=h
   obtain⟨hpl,h⟩:=qac h
   simp only[zaa,zad] at h
   obtain⟨rfl,rfl⟩:=h
   exact CallsIn.mono (quiet _ u hlen haw ha' hu) fun ex w' ⟨x,h1,G',h2,h3⟩=>⟨x,h1,qkc mr h2 (qf4 h3) hpl⟩
  |false=>
   rw[hp] at h
   simp only[cond_false,zab] at h
   obtain⟨r,hr,u,hu,h⟩:=h
   obtain⟨hpl,h⟩:=qac h
   simp only[zaa,zad] at h
   obtain⟨rfl,rfl⟩:=h
   have mr0:=mr.sub h0
   rw[<-qb0 CP sp n E] at mr0
   refine CallsIn.mono (qkq (ih E) pk.orders hf hc hlen mr0 ⟨ha'.1,fun i c x hci hx=>moves_sub.atC (ha'.2 i c x hci hx) (qaU haw hci)⟩ hr hu) fun ex w' ⟨x,h1,G',h2,h3,h4⟩=>⟨x,h1,?_⟩
   rw[qb0] at h3
   refine qf6 mr h2 h3 ?_ hpl
   cases cf.keepR with
   |true=>exact h4
   |false=>exact qf4 h4
theorem VRs.map_whole {G:Gh}{w:World}{cs:List zP}{vs:Array Value}(hl:cs.length=vs.size)(h:∀(i:Nat) c v,cs[i]? =some c->vs[i]? =some v->PR G.S w c v):VRs G w (cs.map zP.whole) vs.toList:=by
 refine⟨by simpa using hl,fun i c v hc hv=>?_⟩
 simp only[zav,zac] at hc
 obtain⟨d,hd,rfl⟩:=hc
 exact qdq (h i d v hd (by simpa using hv))
theorem VRs.of_arr {G:Gh}{w:World}{cs:List zA}{vs:Array Value}(hl:cs.length=vs.size)(h:∀(i:Nat) c v,cs[i]? =some c->vs[i]? =some v->VR G w c v):VRs G w cs vs.toList:=
 ⟨by simpa using hl,fun i c v hc hv=>h i c v hc (by simpa using hv)⟩
theorem qg8 (fn:Nat)(first cap vs:Array Value)(w:World):((do let d <-Deferred.ofValue (.func (.func fn) first cap) vs;invoke d.target d.args:Sem Next).run P w)=(callFunc fn (first++vs++cap)).run P w:=rfl
theorem qeW {nt:Nat}:∀(ps:List Nat) (args:List zA) (vs:List Value) (f f1:Tr zA) (tmps:Array Value) {G:Gh} {w:World},FR G w f tmps->(∀p∈ps,p<tmps.size)->VRs G w args vs->qcA f ps args=some f1->tmps.size=nt->
  FR G w f1 ((ps.zip vs).foldl (fun tmps (x:Nat×Value)=>tmps.setIfInBounds x.1 x.2) tmps)/\((ps.zip vs).foldl (fun tmps (x:Nat×Value)=>tmps.setIfInBounds x.1 x.2) tmps).size=nt/\ps.length=vs.length
 |[],[],vs,f,f1,tmps,G,w,hf,_,hv,h,hs=>by
  simp only[qcA,zaa] at h
  subst h
  have:vs=[]:=by
   have:=hv.1
   simp at this
   exact List.eq_nil_of_length_eq_zero this.symm
  subst this
  exact⟨hf,hs,rfl⟩
 |p::ps,a::args,[],f,f1,tmps,G,w,hf,_,hv,h,hs=>by simp[VRs] at hv
 |p::ps,a::args,v::vs,f,f1,tmps,G,w,hf,hp,hv,h,hs=>by
  simp only[qcA] at h
  have hv0:=hv.2 0 a v rfl rfl
  have:=qeW (nt:=nt) ps args vs (f.set p a) f1 (tmps.setIfInBounds p v) (hf.put (hp p zaz) hv0) (fun q hq=>by simpa using hp q (zaE _ hq))
   ⟨by have:=hv.1;simpa using this,fun i c x hc hx=>hv.2 (i+1) c x (by simpa using hc) (by simpa using hx)⟩ h (by simpa using hs)
  refine⟨this.1,this.2.1,by simp[this.2.2]⟩
 |[],_::_,_,_,_,_,_,_,_,_,_,h,_=>by cases h
 |_::_,[],_,_,_,_,_,_,_,_,_,h,_=>by cases h
end Go.AI
namespace Go.AI
variable {P:Program}
theorem qhM {E:Rom}{U pd:Nat->Option (List zA)}{l:Tr (Nat×List zA)}{s:ASt}{G:Gh}{w:World}(mr:MR P E U pd l s G w){q b st:Nat}{pend:Option CC}{f:Tr zA}{lo:Tr (Nat×List zA)}{ps:List Nat}{x y:CC}(hb:G.bOf q=some b)(hq:qaD s.heap q=some (.loop st pend f lo ps x y)):
  ∃r,w.heap[b]? =some (.loop r)/\G.own b=.loc q/\LoopR P G w st pend f lo ps x y r:=by
 rcases(mr.heap q _ hq).2 with e|⟨b',h1,h2,r,h3,h4⟩
 ·rw[hb] at e;cases e
 ·rw[hb] at h1;cases h1;exact⟨r,h3,h2,h4⟩
theorem qiK {E:Rom}{U pd:Nat->Option (List zA)}{l:Tr (Nat×List zA)}{s:ASt}{G:Gh}{w:World}(mr:MR P E U pd l s G w){q b st st':Nat}{pend pend':Option CC}{f:Tr zA}{lo:Tr (Nat×List zA)}{ps:List Nat}{x y:CC}(hb:G.bOf q=some b){r:Loop}(hr:w.heap[b]? =some (.loop r))(ho:G.own b=.loc q)(hl:LoopR P G w st pend f lo ps x y r)
  {state:LoopState}{jump:Option Code}(hs:stR st' state)(hj:qlw pend' jump){hp:Heap}(qaI:qaI s.heap q (.loop st' pend' f lo ps x y)=some hp):
  Ext G w G {w with heap:=w.heap.setIfInBounds b (.loop {r with state:=state,pending:=jump})}/\MR P E U pd l {s with heap:=hp} G {w with heap:=w.heap.setIfInBounds b (.loop {r with state:=state,pending:=jump})}:=by
 have sw:=Swap.setObj hr (.loop {r with state:=state,pending:=jump})
 have x:=Ext.chg (G:=G) sw (by rw[ho];exact fun e=>e) (by rw[ho];intros;simp)
 exact mr.chgH sw hb ho qaI (ob:=.loop st' pend' f lo ps _ _) ⟨_,(MapKept.heap_set hr).1,hs,hj,hl.f_.ext x,hl.aw,hl.ps_,hl.psl,hl.l_,hl.code⟩
theorem qlV {CP:Nat->Option CF}{sp:Sp}(pk:ProgOK P CP){n:Nat}(ih:∀E,SoundEnv P (qbQ CP sp n E)){E:Rom}{call:Nat->List zA->ASt->Option (zA×ASt)}{q:Nat}{args:List zA}{s s':ASt}{v:zA}(h:qdZ call (qbQ CP sp n) n E (.yield q) args s=some (v,s')){U pd:Nat->Option (List zA)}{l:Tr (Nat×List zA)}{G:Gh}{w:World}{u:Value}{vs:Array Value}
  (mr:MR P E U pd l s G w)(hu:VR G w (.yield q) u)(ha:VRs G w args vs.toList):NextP P (qa8 P E U pd G w l s' v) ((do let d <-Deferred.ofValue u vs;invoke d.target d.args:Sem Next).run P w):=by
 cases hu with|yield _ b hb=>
 unfold qdZ at h
 simp only at h
 split at h<;>try (cases h;done)
 rename_i pend f lo ps aa bb hq
 obtain⟨haw,h⟩:=qac h
 simp only[zab] at h
 obtain⟨f1,hf1,⟨ex1,c1⟩,h1,h⟩:=h
 cases ex1 with
 |exit i=>cases h
 |ret=>cases h
 |normal=>
 simp only at h
 split at h<;>try (cases h;done)
 rename_i p2 f2 l2 ps2 a2 b2 hq1
 simp only[zab] at h
 obtain⟨hp,qaI,⟨ex2,c2⟩,h2,h⟩:=h
 unfold endRound at h
 simp only at h
 split at h<;>try (cases h;done)
 rename_i st3 p3 f3 l3 ps3 a3 b3 hq3
 simp only[zac,zad] at h
 obtain⟨hp3,hset3,rfl,rfl⟩:=h
 obtain⟨r,hr,ho,hL⟩:=qhM mr hb hq
 have mr0:=mr.sub (l0:=lo) hL.l_
 rw[<-qb0 CP sp n E] at mr0
 have hargs:VRs G.sub w args vs.toList:=⟨ha.1,fun i c x hc hx=>moves_sub.atC (ha.2 i c x hc hx) (qaU haw hc)⟩
 have hfr:FR G.sub w f r.tmps:=⟨fun t=>by
  rcases hL.aw t with e|e
  ·exact moves_sub.at (hL.f_.1 t) e
  ·rw[e];exact .junk _,hL.f_.2⟩
 obtain⟨k1,k2,k3⟩:=qeW ps args vs.toList f f1 r.tmps hfr (fun p hp=>hL.psl p hp) hargs hf1 rfl
 have hsz:vs.size=r.params.size:=by
  rw[<-hL.ps_] at k3
  simpa using k3.symm
 have hrun:(do let d <-Deferred.ofValue (.func (.yield b) #[] #[]) vs;invoke d.target d.args:Sem Next).run P w=.ok (.round b r.fn ((r.params.zip vs).foldl (fun tmps (t,a)=>tmps.setIfInBounds t a) r.tmps) r.assign r.body) w:=by
  have e1:(do let d <-Deferred.ofValue (.func (.yield b) #[] #[]) vs;invoke d.target d.args:Sem Next).run P w=(Instr.yield b (#[]++vs)).run P w:=rfl
  rw[e1]
  simp[Instr.yield,Instr.getLoop,getObj,Sem.run,hr,hsz]
 rw[hrun]
 have htm:(r.params.zip vs).foldl (fun tmps (t,a)=>tmps.setIfInBounds t a) r.tmps=(ps.zip vs.toList).foldl (fun tmps (x:Nat×Value)=>tmps.setIfInBounds x.1 x.2) r.tmps:=by
  rw[<-hL.ps_,<-Array.foldl_toList,Array.toList_zip]
 rw[htm]
 obtain⟨lof,hca,hcb,hlof⟩:=hL.code
 have cr0:CR P (qbQ CP sp n E).E U lof r.tmps.size w.heap.size ⟨f1,lo,[],some q,s⟩ G.sub w {tmps:=(ps.zip vs.toList).foldl (fun tmps (x:Nat×Value)=>tmps.setIfInBounds x.1 x.2) r.tmps,defers:=[]}:=⟨k1,k2,mr0,hlof,trivial,zaf _⟩
 refine roundIn_of_wpIn (F:=Fence.wide) trivial ?_
 refine qcv (ro:=some b) (ih E) pk.orders n r.assign hca cr0 hb h1 fun G1 a1 w1 x1 cr1 hrd1=>?_
 have hb1:=x1.bOf _ _ hb
 obtain⟨r1,hr1,ho1,hL1⟩:=qhM cr1.mr hb1 hq1
 have hready:r1.state=.ready:=by
  have:=hL1.st_
  cases hs:r1.state<;>rw[hs] at this<;>first|rfl|exact this.elim
 obtain⟨x2,mr2⟩:=qiK cr1.mr hb1 hr1 ho1 hL1 (state:=.busy) (jump:=r1.pending) (st':=1) trivial hL1.pend_ qaI
 refine⟨{w1 with heap:=w1.heap.setIfInBounds b (.loop {r1 with state:=.busy,pending:=r1.pending})},?_,?_⟩
 ·simp[Instr.beginRound,Instr.getLoop,getObj,setObj,Sem.run,hr1,hready]
 have cr2:CR P (qbQ CP sp n E).E U lof r.tmps.size w.heap.size {c1 with s:={c1.s with heap:=hp}} G1 {w1 with heap:=w1.heap.setIfInBounds b (.loop {r1 with state:=.busy,pending:=r1.pending})} a1:=
  ⟨cr1.fr.ext x2,cr1.sz,mr2,cr1.lh,cr1.df.ext x2,zaR cr1.bs x2.size⟩
 refine qcv (ro:=some b) (ih E) pk.orders n r.body hcb cr2 (by rw[show({c1 with s:={c1.s with heap:=hp}}:Cfg).rd=some q from hrd1];exact x2.bOf _ _ hb1) h2 fun G3 a3' w3 x3 cr3 hrd3=>?_
 have hb3:=x3.bOf _ _ (x2.bOf _ _ hb1)
 obtain⟨r3,hr3,ho3,hL3⟩:=qhM cr3.mr hb3 hq3
 have hx:=(x1.trans x2).trans x3
 have fin:∀(state:LoopState) (jump:Option Code),stR (qrO ex2) state->qlw (qmW ex2) jump->qa8 P E U pd G w l {c2.s with heap:=hp3} (.p (.bool (qjO ex2))) (.bool (qjO ex2)) {w3 with heap:=w3.heap.setIfInBounds b (.loop {r3 with state:=state,pending:=jump})}:=by
  intro state jump hs hj
  obtain⟨x4,mr4⟩:=qiK cr3.mr hb3 hr3 ho3 hL3 hs hj hset3
  rw[qb0] at mr4
  exact qf6 mr (hx.trans x4) mr4 (.bool _) rfl
 cases ex2 with
 |normal=>
  refine⟨.bool true,_,?_,.bool true,rfl,fin .ready none trivial trivial⟩
  simp[Instr.endRound,Instr.getLoop,getObj,setObj,Sem.run,hr3]
 |ret=>
  refine⟨.bool false,_,?_,.bool false,rfl,fin .done (some .ret) trivial trivial⟩
  simp[Instr.endRound,Instr.getLoop,getObj,setObj,Sem.run,hr3]
 |exit i=>
  refine⟨.bool false,_,?_,.bool false,rfl,fin .done (some (.exit i)) trivial rfl⟩
  simp[Instr.endRound,Instr.getLoop,getObj,setObj,Sem.run,hr3]
theorem qiL {CP:Nat->Option CF}{sp:Sp}(pk:ProgOK P CP)(sk:SpOK P CP sp):∀(n:Nat) (E:Rom),SoundEnv P (qbQ CP sp n E)
 |0,E=>⟨fun h=>(by cases h),fun h=>(by cases h),fun h=>(by cases h),fun _ h=>(by cases h)⟩
 |n+1,E=>by
  have ih:=qiL pk sk n
  have hcallA:∀{f args s v s'},qgC CP sp (qbQ CP sp n) n E f args s=some (v,s')->∀{U pd l G w} {vs:Array Value},MR P E U pd l s G w->VRs G w args vs.toList->NextP P (qa8 P E U pd G w l s' v) ((callFunc f vs).run P w):=by
   intro f args s v s' h U pd l G w vs mr ha
   unfold qgC at h
   split at h
   ·rename_i r hr
    injection h with h
    subst h
    have:=(sk.ok (ih E) hr).2 (by rw[qb0];exact mr) ha
    rw[qb0] at this
    exact this
   ·exact(qkr pk ih h mr ha).2
  have hcall:∀{f args s v s'},qgD CP sp (qbQ CP sp n) n E f args s=some (v,s')->∀{U pd l G w} {vs:Array Value},MR P E U pd l s G w->VRs G w args vs.toList->(callFunc f vs).run P w=.ok (.enter f vs) w/\NextP P (qa8 P E U pd G w l s' v) ((callFunc f vs).run P w):=by
   intro f args s v s' h U pd l G w vs mr ha
   unfold qgD at h
   split at h
   ·rename_i cf hcf
    obtain⟨fn,fl,hf,hc,hname⟩:=pk.code f cf hcf
    obtain⟨body,hb,_⟩:=qck hc
    exact⟨qaO hf hb hname vs w,hcallA h mr ha⟩
   ·cases h
  have hfun:∀{fv args s v s'},qdZ (qgD CP sp (qbQ CP sp n) n E) (qbQ CP sp n) n E fv args s=some (v,s')->qo3 fv=true->∀{U pd l G w u} {vs:Array Value},MR P E U pd l s G w->VR G w fv u->VRs G w args vs.toList->
    ∃fn first cap,u=.func (.func fn) first cap/\(callFunc fn (first++vs++cap)).run P w=.ok (.enter fn (first++vs++cap)) w/\NextP P (qa8 P E U pd G w l s' v) ((callFunc fn (first++vs++cap)).run P w):=by
   intro fv args s v s' h hf U pd l G w u vs mr hu ha
   cases fv with
   |p c=>
    cases c with
    |func fn x y=>
     cases hu with|p _ _ hu=>
     cases hu with|func _ _ _ first cap hl hm hx hy=>
     have hargs:VRs G w (x.map zP.whole++(args++y.map zP.whole)) (first++vs++cap).toList:=by
      rw[Array.toList_append,Array.toList_append,List.append_assoc]
      exact(VRs.map_whole hl hx).append (ha.append (VRs.map_whole hm hy))
     exact⟨fn,first,cap,rfl,hcall h mr hargs⟩
    |_=>cases hf
   |func fn x y=>
    cases hu with|func _ _ _ first cap hl hm hx hy=>
    have hargs:VRs G w (x++(args++y)) (first++vs++cap).toList:=by
     rw[Array.toList_append,Array.toList_append,List.append_assoc]
     exact(VRs.of_arr hl hx).append (ha.append (VRs.of_arr hm hy))
    exact⟨fn,first,cap,rfl,hcall h mr hargs⟩
   |_=>cases hf
  refine⟨?_,?_,?_,?_⟩
  ·intro f args s v s' h U pd l G w vs mr ha
   exact hcallA h mr ha
  ·intro fv args s v s' h U pd l G w u vs mr hu ha
   cases hf:qo3 fv with
   |true=>
    obtain⟨fn,first,cap,rfl,_,h2⟩:=hfun h hf mr hu ha
    rw[qg8]
    exact h2
   |false=>
    have:∃q,fv=.yield q:=by
     have h':qdZ (qgD CP sp (qbQ CP sp n) n E) (qbQ CP sp n) n E fv args s=some (v,s'):=h
     unfold qdZ at h'
     split at h'
     ·cases hf
     ·cases hf
     ·exact⟨_,rfl⟩
     ·cases h'
    obtain⟨q,rfl⟩:=this
    exact qlV (call:=qgD CP sp (qbQ CP sp n) n E) pk ih h mr hu ha
  ·intro fv args s v s' h hf U pd l G w u vs mr hu ha
   obtain⟨fn,first,cap,h1,h2,_⟩:=hfun h hf mr hu ha
   exact⟨fn,first,cap,h1,h2⟩
  ·intro f args s v s' hp h
   have hp':qa6 CP f=true:=hp
   have h':qgC CP sp (qbQ CP sp n) n E f args s=some (v,s'):=h
   unfold qgC at h'
   split at h'
   ·rename_i r hr
    injection h' with h'
    subst h'
    exact(sk.ok (ih E) hr).1 hp'
   unfold qa6 at hp'
   unfold qer at h'
   simp only[zab] at h'
   obtain⟨cf,hcf,h'⟩:=h'
   rw[hcf] at hp'
   simp only at hp'
   obtain⟨_,h'⟩:=qac h'
   cases hcl:cf.clone&&qfu (args.map qca) with
   |true=>
    rw[hcl] at h'
    simp only[cond_true,zab] at h'
    obtain⟨a,_,b,_,h'⟩:=h'
    obtain⟨_,h'⟩:=qac h'
    simp only[zaa,zad] at h'
    exact h'.2.symm
   |false=>
    rw[hcl,hp'] at h'
    simp only[cond_false,cond_true,zab] at h'
    obtain⟨u,_,h'⟩:=h'
    obtain⟨_,h'⟩:=qac h'
    simp only[zaa,zad] at h'
    exact h'.2.symm
end Go.AI
namespace Go.AI
variable {P:Program}
def s00:ASt:=⟨0,qjb,0,[]⟩
theorem qnV {CP:Nat->Option CF}{sp:Sp}(pk:ProgOK P CP)(sk:SpOK P CP sp){n f:Nat}{E:Rom}{args:List zA}{v:zA}{s s':ASt}(h:(qbQ CP sp n E).call f args s=some (v,s'))(hf:(CP f).isSome=true){U pd:Nat->Option (List zA)}{l:Tr (Nat×List zA)}{G:Gh}{w:World}
  (mr:MR P E U pd l s G w){vs:Array Value}(ha:VRs G w args vs.toList):Calls P f vs w fun e w'=>∃u,e=.returned u/\∃G',Ext G w G' w'/\MR P E U pd l s' G' w'/\VR G' w' v u:=by
 obtain⟨cf,hcf⟩:=Option.isSome_iff_exists.1 hf
 obtain⟨fn,fl,hfn,hc,hname⟩:=pk.code f cf hcf
 obtain⟨body,hb,_⟩:=qck hc
 have h2:=(qiL pk sk n E).call h (by rw[qb0];exact mr) ha
 rw[qaO hfn hb hname vs w,qb0] at h2
 exact(callsIn_wide (n:=0)).1 (CallsIn.mono h2 fun e w' ⟨u,he,hu⟩=>⟨u,he,hu⟩)
end Go.AI
namespace Go.AI
open Go.Shelf Go.RowKit Go.Proofs
variable {P:Program} {ρ:Ren}
structure BAt (T e:TypeId)(b:Nat)(p v:Value)(bs:List Value)(w:World):Prop where
 blk:w.heap[b]? =some (.cells #[p,v] T (0,0))
 row:w.ownsRow 0 e 1 v bs.length bs
 ne:v.ownBlock≠some b
theorem BAt.at' {T e:TypeId}{b:Nat}{p v:Value}{bs:List Value}{w:World}(h:BAt T e b p v bs w):Lib.BuilderAt T e 0 b p bs w:=⟨Nat.zero_le _,v,h.blk,h.row,h.ne⟩
def Wide (w w':World):Prop:=∀(k:Nat) (c:Array Value) (E:TypeId) (fr:Nat×Nat),w.heap[k]? =some (Obj.cells c E fr)->∃(c':Array Value) (fr':Nat×Nat),w'.heap[k]? =some (Obj.cells c' E fr')/\c'.size=c.size
structure BStep (b:Nat)(v:Value)(w:World)(v':Value)(w':World):Prop where
 os:w'.os=w.os
 tape:w'.tape=w.tape
 output:w'.output=w.output
 size:w.heap.size<=w'.heap.size
 same:∀k,k<w.heap.size->k≠b->v.ownBlock≠some k->w'.heap[k]? =w.heap[k]?
 buf:∀g,v'.ownBlock=some g->v.ownBlock=some g\/w.heap.size<=g
 wide:Wide w w'
theorem qba (w:World)(b i:Nat)(v:Value){k:Nat}(hk:k≠b):(w.setCell ⟨b,i,none⟩ v).heap[k]? =w.heap[k]?:=by
 unfold World.setCell
 simp only[Array.getElem?_modify]
 rw[if_neg (fun e=>hk e.symm)]
theorem qcl (w:World)(b i:Nat)(v:Value){c:Array Value}{T:TypeId}{fr:Nat×Nat}(hb:w.heap[b]? =some (.cells c T fr)):(w.setCell ⟨b,i,none⟩ v).heap[b]? =some (.cells (c.setIfInBounds i v) T fr):=by
 unfold World.setCell
 simp only[Array.getElem?_modify,if_true,hb,zaq]
 rfl
theorem BAt.keep {T e:TypeId}{b:Nat}{p v:Value}{bs:List Value}{w w':World}(h:BAt T e b p v bs w)(hs:∀k,k≠b->w'.heap[k]? =w.heap[k]?){p':Value}(hb:w'.heap[b]? =some (.cells #[p',v] T (0,0))):BAt T e b p' v bs w':=by
 refine⟨hb,⟨h.row.1,?_⟩,h.ne⟩
 rcases h.row.2 with hn|⟨g,cap,cur,hv,h5,h6,h7⟩
 ·exact .inl hn
 ·refine .inr ⟨g,cap,cur,hv,h5,?_,h7⟩
  rw[hs g (fun e=>h.ne (by rw[hv,e];rfl))]
  exact h6
theorem Wide.keep {w w':World}(k:Keep w w'):Wide w w':=fun b c E fr h=>⟨c,fr,by rw[k.same b (zag.1 h).1];exact h,rfl⟩
theorem Wide.trans {a b c:World}(h:Wide a b)(k:Wide b c):Wide a c:=fun x y E fr hx=>by
 obtain⟨c1,f1,h1,h2⟩:=h x y E fr hx
 obtain⟨c2,f2,h3,h4⟩:=k x c1 E f1 h1
 exact⟨c2,f2,h3,h4.trans h2⟩
theorem Wide.setCell (w:World)(b i:Nat)(v:Value):Wide w (w.setCell ⟨b,i,none⟩ v):=fun k c E fr h=>by
 by_cases e:k=b
 ·subst e
  exact⟨_,_,qcl w k i v h,by simp⟩
 ·exact⟨c,fr,by rw[qba w b i v e];exact h,rfl⟩
theorem qeX {w:World}{t tx ty e:TypeId}{i:TypeInfo}{z:Value}(ht:P.underlying t=some (.slice e))(hi:P.info? e=some i)(hz:i.zero=some z)(hsz:i.size=1)(hby:i.bytes=1)(hzc:z.cells.size=1)
  {v x:Value}{n m:Nat}{xs news:List Value}(hown:w.ownsRow 0 e 1 v n xs)(hs:Src P 1 tx x m news w)(hle:n+m<=140737488355328):
  ∃v' w',(Builtin.append_ #[t,tx] ty #[v,x]).run P w=.ok v' w'/\w'.ownsRow 0 e 1 v' (n+m) (xs++news)/\w.grownBy w' v.ownBlock/\(∀g,v'.ownBlock=some g->v.ownBlock=some g\/w.heap.size<=g)/\Wide w w':=by
 have hs:Src P i.size tx x m news w:=by rw[hsz];exact hs
 have hnl:=hs.newsLen
 rw[hsz,Nat.mul_one] at hnl
 have hxl:xs.length=n:=by simpa using hown.1
 have hlen:(xs++news).length=(n+m)*1:=by rw[zan,hxl,hnl,Nat.mul_one]
 have grow:∀{base:Option Addr} {sCap:Nat},v=.slice base n sCap->(Builtin.firstCells i.size n (.slice base n sCap)).run P w.drew=.ok xs.toArray w.drew->sCap<n+m->
   ∃v' w',(Builtin.append_ #[t,tx] ty #[v,x]).run P w=.ok v' w'/\w'.ownsRow 0 e 1 v' (n+m) (xs++news)/\w.grownBy w' v.ownBlock/\(∀g,v'.ownBlock=some g->v.ownBlock=some g\/w.heap.size<=g)/\Wide w w':=by
  intro base sCap ev hf hg
  have hr:=run_append_grow_src w t tx ty e i z ht hi hz base n sCap xs hf x m news hs hg (by omega) (growslice_fits hg (by rw[hby];omega))
  have hge:=grownCap_ge w (n+m) sCap e
  have hcm:=grownCap_le_maxLen w (n+m) sCap e (by unfold maxLen;omega)
  refine⟨_,_,by rw[ev];exact hr,⟨hlen,.inr ⟨w.heap.size,_,_,rfl,Nat.zero_le _,heap_alloc_new w.drew _,hge,hcm,?_,?_⟩⟩,⟨rfl,rfl,rfl,by simp,fun k hk _=>heap_alloc_old w.drew _ hk⟩,fun g hg=>?_,Wide.keep ((Keep.drew w).trans (Keep.alloc _ _))⟩
  ·rw[Array.size_append,size_zeroCells,hzc]
   simp only[List.size_toArray,zan,hxl,hnl]
   omega
  ·rw[Array.toList_append,List.toList_toArray,←hlen]
   exact List.take_left
  ·simp only[Value.ownBlock,zaa] at hg
   exact .inr (by omega)
 rcases hown.2 with⟨rfl,rfl⟩|⟨g,cap,cur,rfl,_,hg,hnc,hcm,hcs,htake⟩
 ·have hx:xs=[]:=List.eq_nil_of_length_eq_zero hxl
  subst hx
  by_cases hm:m=0
  ·subst hm
   have hn:news=[]:=List.eq_nil_of_length_eq_zero hnl
   subst hn
   exact⟨_,_,run_append_nothing w t tx ty e i ht hi none 0 0 (zaf _) _ hs,World.ownsRow_nil w 0 e 1,⟨rfl,rfl,rfl,zaf _,fun _ _ _=>rfl⟩,(fun g hg=>by cases hg),Wide.keep (Keep.refl w)⟩
  ·exact grow rfl (run_firstCells_none w.drew i.size 0 0 0) (by omega)
 ·have holds:∀j u,xs[j]? =some u→w.cell? ((⟨g,0,none⟩:Addr).add j)=some u:=hown.cells (g:=g) rfl
  by_cases hroom:n+m<=cap
  ·have hfit:0+n*i.size+news.length≤cur.size:=by rw[hsz,hcs,hnl];omega
   have hr:=qcr (P:=P) (ty:=ty) ht hi hg (Thaw.none _) hs hroom hfit
   rw[hsz,Nat.mul_one,zaL] at hr
   refine⟨_,_,hr,⟨hlen,.inr ⟨g,cap,_,rfl,Nat.zero_le _,setRow_heap w g cur _ e _ hg,hroom,hcm,?_,?_⟩⟩,⟨rfl,rfl,rfl,by simp[World.setRow],fun k _ hk=>setRow_other w g k _ (fun e=>hk (by simp[Value.ownBlock,e]))⟩,fun g' hg'=> .inl hg',fun k c E fr hc=>?_⟩
   ·have h2:n+news.length≤cur.size:=by rw[hsz] at hfit;omega
    rw[qaZ _ _ _ h2];exact hcs
   ·have ht':cur.toList.take n=xs:=by simpa using htake
    rw[ht',<-hlen]
    exact List.take_left
   ·by_cases ek:k=g
    ·subst ek
     rw[hg] at hc
     injection hc with hc
     injection hc with e1 e2 e3
     subst e1;subst e2;subst e3
     have h2:n+news.length<=cur.size:=by rw[hsz] at hfit;omega
     exact⟨_,_,setRow_heap w k cur _ _ _ hg,qaZ _ _ _ h2⟩
    ·exact⟨c,fr,by rw[setRow_other w g k _ ek];exact hc,rfl⟩
  ·exact grow rfl (run_firstCells_some w.drew i.size n ⟨g,0,none⟩ n cap xs (by rw[hsz,Nat.mul_one];exact hxl) (fun j u hu=>by simpa using holds j u hu)) (by omega)
theorem qb8 {w:World}{ops:Array Oper}{rest:List Oper}{o:Oper}{a:Act}{Q:Exit->Act->World->Prop}(hgd:o.guard=none)(sl y:Operand)(t tx:TypeId)
  (ho:o.op=.call {callee:=.builtin .append,args:= #[sl,y],argTypes:= #[t,tx]}){e:TypeId}{i:TypeInfo}{z:Value}(ht:P.underlying t=some (.slice e))(hi:P.info? e=some i)(hz:i.zero=some z)(hsz:i.size=1)(hby:i.bytes=1)(hzc:z.cells.size=1)
  {v x:Value}{n m:Nat}{xs news:List Value}(hv:a.eval sl=v)(hx:a.eval y=x)(hown:w.ownsRow 0 e 1 v n xs)(hs:Src P 1 tx x m news w)(hle:n+m<=140737488355328)
  (h:∀v' w',w'.ownsRow 0 e 1 v' (n+m) (xs++news)->w.grownBy w' v.ownBlock->(∀g,v'.ownBlock=some g->v.ownBlock=some g\/w.heap.size<=g)->Wide w w'->wpList P ops Q rest (a.put o.dst v') w'):wpList P ops Q (o::rest) a w:=by
 refine wpList_plain hgd fun K hK=>?_
 obtain⟨v',w',hr,h2,h3,h4,h5⟩:=qeX (P:=P) (ty:=o.type) ht hi hz hsz hby hzc hown hs hle
 unfold Oper.wp execOp
 simp only[ho,resolve,invoke,builtin,Sem.run_bind,Sem.run_pure,Result.andThen_ok,List.map_toArray,zaF,List.map_nil,hv,hx,hr]
 exact hK _ _ (h v' w' h2 h3 h4 h5)
set_option maxHeartbeats 2000000 in
set_option maxRecDepth 100000 in
theorem qeY (L:Lays.n166 P ρ)(X:Builder.Extra P ρ){b:Nat}{p v:Value}{bs:List Value}(s:ByteArray){w:World}(h:BAt (ρ.t 72) (ρ.t 5) b p v bs w)(hp:p=.pointer none\/p=.pointer (some ⟨b,0,none⟩))(hlen:bs.length+s.size<=140737488355328):
  Calls P (ρ.f 166) #[.pointer (some ⟨b,0,none⟩),.string s] w fun e w'=>e=.returned (.tuple #[.int .i64 s.size,.nilIface])/\∃v',BAt (ρ.t 72) (ρ.t 5) b (.pointer (some ⟨b,0,none⟩)) v' (bs++Lib.strCells s) w'/\BStep b v w v' w':=by
 obtain⟨i0,hi,hz0,hz1,hz2⟩:=info_parts X.infoByte
 have mixed:=L.mixed
 have t72:=L.t72;have a72:=L.a72;have z72:=L.z72;have v72:=L.v72;have u72:=run_underlying L.t72
 have t70:=L.t70;have a70:=L.a70;have z70:=L.z70;have v70:=L.v70;have u70:=run_underlying L.t70
 have t37:=L.t37;have a37:=L.a37;have z37:=L.z37;have v37:=L.v37;have u37:=run_underlying L.t37
 have t3:=L.t3;have a3:=L.a3;have z3:=L.z3;have v3:=L.v3;have u3:=run_underlying L.t3
 have t9:=L.t9;have a9:=L.a9;have z9:=L.z9;have v9:=L.v9;have u9:=run_underlying L.t9
 have t4:=L.t4;have a4:=L.a4;have z4:=L.z4;have v4:=L.v4;have u4:=run_underlying L.t4
 have t164:=L.t164;have a164:=L.a164;have z164:=L.z164;have v164:=L.v164;have u164:=run_underlying L.t164
 have t5:=X.t5;have a5:=X.a5;have z5:=X.z5;have v5:=X.v5;have u5:=run_underlying X.t5
 have e240:∀args w,(callFunc (ρ.f 240) args).run P w=.ok (.enter (ρ.f 240) args) w:=enters_of L.f240 (by kernel_rfl) rfl
 have hlt0:b<w.heap.size:=(zag.1 h.blk).1
 have chk:Calls P (ρ.f 240) #[.pointer (some ⟨b,0,none⟩)] w fun e w'=>e=.returned (.tuple #[])/\BAt (ρ.t 72) (ρ.t 5) b (.pointer (some ⟨b,0,none⟩)) v bs w'/\(∀k,k≠b->w'.heap[k]? =w.heap[k]?)/\w'.heap.size=w.heap.size/\w'.os=w.os/\w'.tape=w.tape/\w'.output=w.output/\Wide w w':=by
  rcases hp with rfl|rfl
  ·refine(Any.Builder_copyCheck_fresh {L with} X.toX72 b w h.at'.cell0 h.at'.shape h.at'.frozen0).mono ?_
   rintro e w' ⟨rfl,rfl⟩
   have hb':=qcl w b 0 (.pointer (some ⟨b,0,none⟩)) h.blk
   exact⟨rfl,h.keep (fun k hk=>qba w b 0 _ hk) hb',fun k hk=>qba w b 0 _ hk,by simp[World.setCell],rfl,rfl,rfl,Wide.setCell _ _ _ _⟩
  ·refine(Any.Builder_copyCheck_used {L with} X.toX72 b w h.at'.cell0).mono ?_
   rintro e w' ⟨rfl,rfl⟩
   exact⟨rfl,h,fun k _=>rfl,rfl,rfl,rfl,rfl,Wide.keep (Keep.refl _)⟩
 go_enter L.f166,Body.n166_ntmps ρ
 go_wp2_with (go_at_fn (ρ.f 240);refine chk.mono ?_)
 rintro e w1 ⟨rfl,h1,hk1,hs1,ho1,ht1,hu1,hw1⟩
 obtain⟨hbk,hown,hne⟩:=h1
 have c0:w1.cell? ⟨b,0,none⟩=some (.pointer (some ⟨b,0,none⟩)):=by rw[Lib.cell_of_heap hbk];rfl
 have c1:w1.cell? ⟨b,1,none⟩=some v:=by rw[Lib.cell_of_heap hbk];rfl
 go_wp2_with (at_builtin;refine qb8 (w:=w1) (v:=v) (x:=.string s) (z:=.int .u8 0) rfl _ _ (ρ.t 37) (ρ.t 9) rfl L.t37 hi hz0 hz1 hz2 rfl rfl rfl hown (Src.ofString (P:=P) w1 L.t9 s) hlen ?_)
 intro v' w2 hown' hgrow hlies hwide
 have hlt:b<w1.heap.size:=by omega
 have hb2:w2.heap[b]? =some (.cells #[.pointer (some ⟨b,0,none⟩),v] (ρ.t 72) (0,0)):=by
  rw[hgrow.block b hlt (fun e=>hne e.symm)]
  exact hbk
 have d0:w2.cell? ⟨b,0,none⟩=some (.pointer (some ⟨b,0,none⟩)):=by rw[Lib.cell_of_heap hb2];rfl
 have d1:w2.cell? ⟨b,1,none⟩=some v:=by rw[Lib.cell_of_heap hb2];rfl
 have f1:w2.frozen? ⟨b,1,none⟩=false:=Lib.frozen_of_heap hb2 1
 obtain⟨ao,n',cap,rfl⟩:∃ao n' cap,v'=.slice ao n' cap:=by
  rcases hown'.2 with⟨hv,_⟩|⟨g,cap,cur,hv,_⟩
  ·exact⟨_,_,_,hv⟩
  ·exact⟨_,_,_,hv⟩
 go_wp2
 go_ret2
 have hne':(Value.slice ao n' cap).ownBlock≠some b:=fun e=>by
  rcases hlies b e with h'|h'
  ·exact hne h'
  ·omega
 have hnb:∀g,(Value.slice ao n' cap).ownBlock=some g->g≠b:=fun g hg e=>hne' (by rw[hg,e])
 have hb3:=qcl w2 b 1 (.slice ao n' cap) hb2
 refine⟨rfl,.slice ao n' cap,⟨hb3,⟨by have:=hown'.1;simp[Lib.strCells_length],?_⟩,hne'⟩,⟨?_,?_,?_,?_,fun k hk hkb hkv=>?_,fun g hg=>?_,?_⟩⟩
 ·rcases hown'.2 with⟨e1,e2⟩|⟨g,cap',cur,hv,h5,h6,h7,h8,h9,h10⟩
  ·exact .inl ⟨e1,by rw[zan,Lib.strCells_length];exact e2⟩
  ·refine .inr ⟨g,cap',cur,by rw[zan,Lib.strCells_length];exact hv,h5,?_,by rw[zan,Lib.strCells_length];exact h7,h8,h9,by rw[zan,Lib.strCells_length];exact h10⟩
   rw[qba w2 b 1 _ (hnb g (by rw[hv];rfl))]
   exact h6
 ·exact hgrow.os.trans ho1
 ·exact hgrow.tape.trans ht1
 ·exact hgrow.output.trans hu1
 ·have:=hgrow.size
  simp only[World.setCell,Array.size_modify]
  omega
 ·rw[qba w2 b 1 _ hkb,hgrow.block k (by omega) (fun e=>hkv e.symm),hk1 k hkb]
 ·rcases hlies g hg with h'|h'
  ·exact .inl h'
  ·exact .inr (by omega)
 ·exact(hw1.trans hwide).trans (Wide.setCell _ _ _ _)
set_option maxHeartbeats 2000000 in
set_option maxRecDepth 100000 in
theorem qgd (L:Lays.n167 P ρ)(X:Builder.Extra P ρ){b:Nat}{p v:Value}{bs:List Value}(c:Int){w:World}(h:BAt (ρ.t 72) (ρ.t 5) b p v bs w)(hp:p=.pointer none\/p=.pointer (some ⟨b,0,none⟩))(hlen:bs.length+1<=140737488355328):
  Calls P (ρ.f 167) #[.pointer (some ⟨b,0,none⟩),.int .u8 c] w fun e w'=>e=.returned .nilIface/\∃v',BAt (ρ.t 72) (ρ.t 5) b (.pointer (some ⟨b,0,none⟩)) v' (bs++[.int .u8 c]) w'/\BStep b v w v' w':=by
 obtain⟨i0,hi,hz0,hz1,hz2⟩:=info_parts X.infoByte
 have mixed:=L.mixed
 have t72:=L.t72;have a72:=L.a72;have z72:=L.z72;have v72:=L.v72;have u72:=run_underlying L.t72
 have t70:=L.t70;have a70:=L.a70;have z70:=L.z70;have v70:=L.v70;have u70:=run_underlying L.t70
 have t37:=L.t37;have a37:=L.a37;have z37:=L.z37;have v37:=L.v37;have u37:=run_underlying L.t37
 have t5:=L.t5;have a5:=L.a5;have z5:=L.z5;have v5:=L.v5;have u5:=run_underlying L.t5
 have t9:=L.t9;have a9:=L.a9;have z9:=L.z9;have v9:=L.v9;have u9:=run_underlying L.t9
 have t4:=L.t4;have a4:=L.a4;have z4:=L.z4;have v4:=L.v4;have u4:=run_underlying L.t4
 have t164:=L.t164;have a164:=L.a164;have z164:=L.z164;have v164:=L.v164;have u164:=run_underlying L.t164
 have e240:∀args w,(callFunc (ρ.f 240) args).run P w=.ok (.enter (ρ.f 240) args) w:=enters_of L.f240 (by kernel_rfl) rfl
 have hlt0:b<w.heap.size:=(zag.1 h.blk).1
 have chk:Calls P (ρ.f 240) #[.pointer (some ⟨b,0,none⟩)] w fun e w'=>e=.returned (.tuple #[])/\BAt (ρ.t 72) (ρ.t 5) b (.pointer (some ⟨b,0,none⟩)) v bs w'/\(∀k,k≠b->w'.heap[k]? =w.heap[k]?)/\w'.heap.size=w.heap.size/\w'.os=w.os/\w'.tape=w.tape/\w'.output=w.output/\Wide w w':=by
  rcases hp with rfl|rfl
  ·refine(Any.Builder_copyCheck_fresh {L with} X.toX72 b w h.at'.cell0 h.at'.shape h.at'.frozen0).mono ?_
   rintro e w' ⟨rfl,rfl⟩
   have hb':=qcl w b 0 (.pointer (some ⟨b,0,none⟩)) h.blk
   exact⟨rfl,h.keep (fun k hk=>qba w b 0 _ hk) hb',fun k hk=>qba w b 0 _ hk,by simp[World.setCell],rfl,rfl,rfl,Wide.setCell _ _ _ _⟩
  ·refine(Any.Builder_copyCheck_used {L with} X.toX72 b w h.at'.cell0).mono ?_
   rintro e w' ⟨rfl,rfl⟩
   exact⟨rfl,h,fun k _=>rfl,rfl,rfl,rfl,rfl,Wide.keep (Keep.refl _)⟩
 go_enter L.f167,Body.n167_ntmps ρ
 go_wp2_with (go_at_fn (ρ.f 240);refine chk.mono ?_)
 rintro e w1 ⟨rfl,h1,hk1,hs1,ho1,ht1,hu1,hw1⟩
 obtain⟨hbk,hown,hne⟩:=h1
 have c0:w1.cell? ⟨b,0,none⟩=some (.pointer (some ⟨b,0,none⟩)):=by rw[Lib.cell_of_heap hbk];rfl
 have c1:w1.cell? ⟨b,1,none⟩=some v:=by rw[Lib.cell_of_heap hbk];rfl
 go_wp2_with (at_builtin;refine qb8 (v:=v) (x:=.slice (some ⟨w.heap.size,0,none⟩) 1 1) (z:=.int .u8 0) (news:=[.int .u8 c]) rfl _ _ (ρ.t 37) (ρ.t 37) rfl L.t37 hi hz0 hz1 hz2 rfl rfl rfl (hown.alloc _) (Src.ofSlice (P:=P) _ L.t37 ⟨w.heap.size,0,none⟩ 1 1 [.int .u8 c] rfl ?c1 ?c2) hlen ?_)
 case c1=>
  intro j u hj
  match j,hj with
  |0,hj=>simp at hj;subst hj;rw[<-hs1];simp[Addr.add]
 case c2=>intro u hu;simp at hu;subst hu;rfl
 intro v' w2 hown' hgrow hlies hwide
 have hlt:b<w1.heap.size:=by omega
 have hb2:w2.heap[b]? =some (.cells #[.pointer (some ⟨b,0,none⟩),v] (ρ.t 72) (0,0)):=by
  rw[hgrow.block b (by simp;omega) (fun e=>hne e.symm),Lib.alloc_old w1 _ b hlt]
  exact hbk
 have d0:w2.cell? ⟨b,0,none⟩=some (.pointer (some ⟨b,0,none⟩)):=by rw[Lib.cell_of_heap hb2];rfl
 have d1:w2.cell? ⟨b,1,none⟩=some v:=by rw[Lib.cell_of_heap hb2];rfl
 have f1:w2.frozen? ⟨b,1,none⟩=false:=Lib.frozen_of_heap hb2 1
 obtain⟨ao,n',cap,rfl⟩:∃ao n' cap,v'=.slice ao n' cap:=by
  rcases hown'.2 with⟨hv,_⟩|⟨g,cap,cur,hv,_⟩
  ·exact⟨_,_,_,hv⟩
  ·exact⟨_,_,_,hv⟩
 go_wp2
 go_ret
 have hne':(Value.slice ao n' cap).ownBlock≠some b:=fun e=>by
  rcases hlies b e with h'|h'
  ·exact hne h'
  ·first|omega|(simp at h';omega)
 have hnb:∀g,(Value.slice ao n' cap).ownBlock=some g->g≠b:=fun g hg e=>hne' (by rw[hg,e])
 have hb3:=qcl w2 b 1 (.slice ao n' cap) hb2
 refine⟨rfl,.slice ao n' cap,⟨hb3,⟨by have:=hown'.1;simp,?_⟩,hne'⟩,⟨?_,?_,?_,?_,fun k hk hkb hkv=>?_,fun g hg=>?_,?_⟩⟩
 ·rcases hown'.2 with⟨e1,e2⟩|⟨g,cap',cur,hv,h5,h6,h7,h8,h9,h10⟩
  ·exact .inl ⟨e1,by rw[zan];exact e2⟩
  ·refine .inr ⟨g,cap',cur,by rw[zan];exact hv,h5,?_,by rw[zan];exact h7,h8,h9,by rw[zan];exact h10⟩
   rw[qba w2 b 1 _ (hnb g (by rw[hv];rfl))]
   exact h6
 ·exact hgrow.os.trans ho1
 ·exact hgrow.tape.trans ht1
 ·exact hgrow.output.trans hu1
 ·have:=hgrow.size
  simp only[World.setCell,Array.size_modify]
  simp at this
  omega
 ·rw[qba w2 b 1 _ hkb,hgrow.block k (by simp;omega) (fun e=>hkv e.symm),Lib.alloc_old w1 _ k (by omega),hk1 k hkb]
 ·rcases hlies g hg with h'|h'
  ·exact .inl h'
  ·exact .inr (by first|omega|(simp at h';omega))
 ·exact((hw1.trans (Wide.keep (Keep.alloc _ _))).trans hwide).trans (Wide.setCell _ _ _ _)
structure BRead (g:Nat)(w w':World):Prop where
 os:w'.os=w.os
 tape:w'.tape=w.tape
 output:w'.output=w.output
 size:w.heap.size=w'.heap.size
 same:∀k,k≠g->w'.heap[k]? =w.heap[k]?
 wide:∀c E fr,w.heap[g]? =some (.cells c E fr)->∃fr',w'.heap[g]? =some (.cells c E fr')
set_option maxHeartbeats 2000000 in
set_option maxRecDepth 100000 in
theorem qeZ (L:Lays.n169 P ρ)(X:Builder.Extra P ρ){b g cap:Nat}{p:Value}{l:List UInt8}{cur:Array Value}{fz:Nat×Nat}{w:World}(hbk:w.heap[b]? =some (.cells #[p,.slice (some ⟨g,0,none⟩) l.length cap] (ρ.t 72) (0,0)))(hg:w.heap[g]? =some (.cells cur (ρ.t 5) fz))
  (hnc:l.length<=cap)(hcm:cap<=maxLen)(hcs:cur.size=cap*1)(hcell:∀(j:Nat) x,l[j]? =some x->w.cell? ⟨g,j,none⟩=some (.int .u8 x.toNat))(h0:l≠[]):
  Calls P (ρ.f 169) #[.pointer (some ⟨b,0,none⟩)] w fun e w'=>e=.returned (.string ⟨l.toArray⟩)/\BRead g w w':=by
 have hl0:l.length≠0:=by simpa using h0
 have c1:w.drew.cell? ⟨b,1,none⟩=some (.slice (some ⟨g,0,none⟩) l.length cap):=by
  have:w.drew.heap[b]? =some (.cells #[p,.slice (some ⟨g,0,none⟩) l.length cap] (ρ.t 72) (0,0)):=hbk
  rw[Lib.cell_of_heap this];rfl
 have hSD:(Builtin.unsafeSliceData_ #[(ρ.t 37)] (ρ.t 127) #[.slice (some ⟨g,0,none⟩) l.length cap]).run P w.drew=.ok (.pointer (some ⟨g,0,none⟩)) w.drew:=
  Lib.run_unsafeSliceData_row _ _ _ _ _ _ (by omega)
 have hUS:(Builtin.unsafeString_ #[(ρ.t 127),(ρ.t 3)] (ρ.t 9) #[.pointer (some ⟨g,0,none⟩),.int .i64 l.length]).run P w.drew=.ok (.string ⟨l.toArray⟩) (w.drew.freeze ⟨g,0,none⟩ l.length):=by
  refine Lib.run_unsafeString_row w.drew (ρ.t 127) (ρ.t 3) (ρ.t 9) (ρ.t 5) L.t127 X.cellsByte g cur.size (by have hg':w.drew.heap[g]? =some (.cells cur (ρ.t 5) fz):=hg;simp[World.shape?,hg']) l h0 (by omega) (by unfold maxLen at hcm;omega) ?_
  intro j x hx
  have:=hcell j x hx
  rw[qb5,zaL]
  exact this
 have fin:BRead g w (w.drew.freeze ⟨g,0,none⟩ l.length):=by
  unfold World.freeze
  rw[if_neg hl0]
  refine⟨rfl,rfl,rfl,by simp,fun k hk=>?_,fun c E fr hc=>?_⟩
  ·show(w.heap.modify g _)[k]? =_
   rw[Array.getElem?_modify,if_neg (fun e=>hk e.symm)]
  ·have e1:(w.heap.modify g fun|.cells c elem (lo,hi)=> .cells c elem (if lo==hi then(0,0+l.length) else(min lo 0,max hi (0+l.length)))|o=>o)[g]? =some (.cells c E (if fr.1==fr.2 then(0,0+l.length) else(min fr.1 0,max fr.2 (0+l.length)))):=by
    rw[Array.getElem?_modify,if_pos rfl,hc]
    rfl
   exact⟨_,e1⟩
 have mixed:=L.mixed
 have t72:=L.t72;have a72:=L.a72;have z72:=L.z72;have v72:=L.v72;have u72:=run_underlying L.t72
 have t70:=L.t70;have a70:=L.a70;have z70:=L.z70;have v70:=L.v70;have u70:=run_underlying L.t70
 have t37:=L.t37;have a37:=L.a37;have z37:=L.z37;have v37:=L.v37;have u37:=run_underlying L.t37
 have t127:=L.t127;have a127:=L.a127;have z127:=L.z127;have v127:=L.v127;have u127:=run_underlying L.t127
 have t3:=L.t3;have a3:=L.a3;have z3:=L.z3;have v3:=L.v3;have u3:=run_underlying L.t3
 have t9:=L.t9;have a9:=L.a9;have z9:=L.z9;have v9:=L.v9;have u9:=run_underlying L.t9
 have t5:=X.t5;have a5:=X.a5;have z5:=X.z5;have v5:=X.v5;have u5:=run_underlying X.t5
 go_enter L.f169,Body.n169_ntmps ρ
 go_wp2
 go_region_o
 all_goals (go_wp2;go_ret;exact⟨rfl,fin⟩)
theorem qg9 {T e:TypeId}{b g:Nat}{p v:Value}{l:List UInt8}{w:World}(h:BAt T e b p v (Lib.byteCells l) w)(h0:l≠[])(hg0:v.ownBlock=some g):
  ∃cap cur,v=.slice (some ⟨g,0,none⟩) l.length cap/\w.heap[g]? =some (.cells cur e (0,0))/\l.length<=cap/\cap<=maxLen/\cur.size=cap*1/\cur.toList.take (l.length*1)=Lib.byteCells l:=by
 obtain⟨hbk,hown,hne⟩:=h
 have hl0:l.length≠0:=by simpa using h0
 rw[Lib.byteCells_length] at hown
 rcases hown.2 with⟨_,hz⟩|⟨g',cap,cur,hv,_,r⟩
 ·exact absurd hz hl0
 ·rw[hv] at hg0
  injection hg0 with hg0
  simp only at hg0
  subst hg0
  exact⟨cap,cur,hv,r⟩
theorem qha {w:World}{g:Nat}{cur:Array Value}{e:TypeId}{fz:Nat×Nat}{l:List UInt8}(hg:w.heap[g]? =some (.cells cur e fz))(ht:cur.toList.take (l.length*1)=Lib.byteCells l)(j:Nat)(x:UInt8)(hx:l[j]? =some x):w.cell? ⟨g,j,none⟩=some (.int .u8 x.toNat):=by
 rw[Lib.cell_of_heap hg]
 have hj:j<l.length:=(zah.1 hx).1
 have h1:(cur.toList.take (l.length*1))[j]? =some (.int .u8 x.toNat):=by rw[ht];simp[Lib.byteCells,hx]
 rw[List.getElem?_take_of_lt (by omega),zal] at h1
 exact h1
theorem qjq (L:Lays.n169 P ρ)(X:Builder.Extra P ρ){b g:Nat}{p v:Value}{l:List UInt8}{w:World}(h:BAt (ρ.t 72) (ρ.t 5) b p v (Lib.byteCells l) w)(h0:l≠[])(hg0:v.ownBlock=some g):
  Calls P (ρ.f 169) #[.pointer (some ⟨b,0,none⟩)] w fun e w'=>e=.returned (.string ⟨l.toArray⟩)/\BRead g w w':=by
 obtain⟨cap,cur,rfl,hg,hnc,hcm,hcs,ht⟩:=qg9 h h0 hg0
 exact qeZ L X h.blk hg hnc hcm hcs (qha hg ht) h0
end Go.AI
namespace Go.AI
open Go.Shelf Go.RowKit Go.Proofs
variable {P:Program} {ρ:Ren} {E:Rom} {U pd:Nat->Option (List zA)} {l:Tr (Nat×List zA)} {s:ASt} {G G':Gh} {w w':World}
structure Turn (q:Nat)(G G':Gh)(w w':World):Prop where
 size:w.heap.size<=w'.heap.size
 os:w'.os=w.os
 tape:w'.tape=w.tape
 output:w'.output=w.output
 same:∀k,k<w.heap.size->G.own k≠.loc q->w'.heap[k]? =w.heap[k]?
 wide:Wide w w'
 old:∀k,k<w.heap.size->G'.own k=G.own k
 new:∀k,w.heap.size<=k->G'.own k=.free\/G'.own k=.loc q/\k<w'.heap.size
 bOf:G'.bOf=G.bOf
 lam:G'.lam=G.lam
 nt:G'.nt=G.nt
 lo_:G'.lo=G.lo
theorem Turn.ext (h:MR P E U pd l s G w){q:Nat}(t:Turn q G G' w w'):Ext G w G' w' where
 size:=t.size
 os:=t.os
 tape:=t.tape
 output:=t.output
 still:=fun b hb hs=>⟨t.same b hb (fun e=>by rw[e] at hs;exact hs),t.old b hb⟩
 tok:=fun b n m sz hb ho=>by
  have e:=t.same b hb (by rw[ho];simp)
  exact⟨fun o v _ hc=>by unfold World.cell? at hc⊢;rw[e];exact hc,.inr ⟨m,zaf _,by rw[t.old b hb];exact ho⟩⟩
 shape:=fun b n m sz c E ho hc _=>by
  have hb:=(zag.1 hc).1
  exact⟨c,by rw[t.same b hb (by rw[ho];simp)];exact hc,rfl⟩
 wide:=t.wide
 loc:=fun b k ho=>⟨k,by rw[t.old b (h.own b (by rw[ho];simp))];exact ho⟩
 lcl:=fun b i g ho=>by rw[t.old b (h.own b (by rw[ho];simp))];exact ho
 bOf:=fun k b hk=>by rw[t.bOf];exact hk
 lam:=fun i g b hk=>by rw[t.lam];exact hk
 nt:=by rw[t.nt];exact zaf _
 lo_:=t.lo_
 low:=fun k _=>by rw[t.bOf]
 old:=fun b n m sz ho _=>by
  rcases Nat.lt_or_ge b w.heap.size with hb|hb
  ·rw[t.old b hb] at ho
   exact⟨b,m,ho,zaf _,fun _=>rfl⟩
  ·rcases t.new b hb with e|⟨e,_⟩<;>rw[e] at ho<;>cases ho
theorem MR.turn (h:MR P E U pd l s G w){q b:Nat}(t:Turn q G G' w w')(hb:G.bOf q=some b)(ho:G.own b=.loc q){hp:Heap}(hlt:q<s.next)
  (hs:∀k,qaD hp k=if k=q then qaD hp q else qaD s.heap k)(hr:∀ob,qaD hp q=some ob->OR P G' w' b ob):MR P E U pd l {s with heap:=hp} G' w':=by
 have x:Step G w G' w' (fun y=>G.own y=.loc q):=⟨t.ext h,fun y hy hn=>⟨t.same y hy hn,t.old y hy⟩⟩
 have hlb:=h.own b (by rw[ho];simp)
 refine⟨fun y hy=>?_,fun k y hk=>h.bOf k y (by rw[<-t.bOf];exact hk),by rw[t.lo_];exact h.lo_,fun k zs hk=>?_,h.pdz,by rw[t.nt];exact h.nt,h.loc.step x (fun y i g ho' e=>by rw[ho'] at e;cases e),?_,fun k p hk=>?_,
  h.ro.step x (fun y j ho' e=>by rw[ho'] at e;cases e),h.tok.step (fun y n m sz ho'=>by rw[t.old y (h.own y (by rw[ho'];simp))];exact ho') (fun y n m sz ho'=>?_) (fun y n m sz ho'=>t.same y (h.own y (by rw[ho'];simp)) (by rw[ho'];simp))⟩
 ·rcases Nat.lt_or_ge y w.heap.size with h1|h1
  ·exact zas h1 t.size
  ·rcases t.new y h1 with e|⟨_,e⟩
   ·exact absurd e hy
   ·exact e
 ·obtain⟨h1,h2,h3⟩:=h.un k zs hk
  refine⟨by rw[t.bOf];exact h1,?_,by rw[t.lo_];exact h3⟩
  show qaD hp k=_
  rw[hs,if_neg (fun e=>by subst e;rw[hb] at h1;cases h1)]
  exact h2
 ·intro i g y hy
  exact h.lam i g y (by rw[<-t.lam];exact hy)
 ·have hk':qaD hp k=some p:=hk
  by_cases e:k=q
  ·subst e
   exact⟨hlt,.inr ⟨b,by rw[t.bOf];exact hb,by rw[t.old b hlb];exact ho,hr p hk'⟩⟩
  ·rw[hs,if_neg e] at hk'
   obtain⟨h1,h2⟩:=h.heap k p hk'
   refine⟨h1,h2.imp (fun e'=>by rw[t.bOf];exact e') fun⟨y,h3,h4,h5⟩=>?_⟩
   obtain⟨h6,h7⟩:=x.same y h5.lt (fun e'=>by rw[h4] at e';injection e' with e';exact e e')
   exact⟨y,by rw[t.bOf];exact h3,h7.trans h4,h5.ext x.ext h6 fun g hg he=>⟨t.same g hg (fun e'=>by rw[he,h4] at e';injection e' with e';exact e e'),by rw[t.old g hg,he,h7]⟩⟩
 ·rcases Nat.lt_or_ge y w.heap.size with h1|h1
  ·rw[t.old y h1] at ho';exact ho'
  ·rcases t.new y h1 with e|⟨e,_⟩<;>rw[e] at ho'<;>cases ho'
theorem qaK {f:FuncId}{vs:Array Value}{Q:Value->World->Prop}(he:(callFunc f vs).run P w=.ok (.enter f vs) w)(h:Calls P f vs w fun e w'=>∃v,e=.returned v/\Q v w'):NextP P Q ((callFunc f vs).run P w):=by
 rw[he]
 exact callsIn_wide.2 h
theorem qge (bs:List UInt8)(b:ByteArray):Lib.byteCells (bs++b.data.toList)=Lib.byteCells bs++Lib.strCells b:=by
 simp[Lib.byteCells,Lib.strCells]
theorem qhb (h:MR P E U pd l s G w){q b:Nat}{T e:TypeId}{bs bs':List UInt8}(hb:G.bOf q=some b)(hq:qaD s.heap q=some (.bld T e bs)){hp:Heap}(hs:qaI s.heap q (.bld T e bs')=some hp){v v':Value}(hown:G.own b=.loc q)
  (hv:∀g,v.ownBlock=some g->G.own g=G.own b)(at':BAt T e b (.pointer (some ⟨b,0,none⟩)) v' (Lib.byteCells bs') w')(st:BStep b v w v' w'):∃G',Ext G w G' w'/\MR P E U pd l {s with heap:=hp} G' w':=by
 have hlb:=h.own b (by rw[hown];simp)
 have hin:∀g,v'.ownBlock=some g->g<w'.heap.size:=fun g hg=>(at'.row.lt g hg).2
 let G':Gh:={G with own:=fun k=>if w.heap.size<=k/\v'.ownBlock=some k then .loc q else G.own k}
 have hold:∀k,k<w.heap.size->G'.own k=G.own k:=fun k hk=>if_neg (fun e=>by have:=e.1;omega)
 have t:Turn q G G' w w':=⟨st.size,st.os,st.tape,st.output,fun k hk hn=>st.same k hk (fun e=>hn (by rw[e];exact hown)) (fun e=>hn (by rw[hv k e];exact hown)),st.wide,hold,fun k hk=>by
  by_cases hc:w.heap.size<=k/\v'.ownBlock=some k
  ·exact .inr ⟨if_pos hc,hin k hc.2⟩
  ·exact .inl ((if_neg hc).trans (h.free hk)),rfl,rfl,rfl,rfl⟩
 have qaI:=qa3 hs
 refine⟨G',t.ext h,h.turn t hb hown (h.heap q _ hq).1 (fun k=>?_) fun ob hob=>?_⟩
 ·by_cases e:k=q
  ·rw[if_pos e,e]
  ·rw[if_neg e,qaI,if_neg e]
 ·rw[qaI,if_pos rfl] at hob
  injection hob with hob
  subst hob
  refine⟨_,v',.inr rfl,at'.blk,by have:=at'.row;rwa [Lib.byteCells_length] at this,at'.ne,fun g hg=>?_⟩
  rw[hold b hlb]
  rcases st.buf g hg with h'|h'
  ·have hgl:g<w.heap.size:=h.own g (by rw[hv g h',hown];simp)
   rw[hold g hgl]
   exact hv g h'
  ·exact(if_pos ⟨h',hg⟩).trans hown.symm
def qnW (fw fb fs T el:Nat):Sp:=fun _ f args s=>
 cond (Nat.beq f fw) (match args with
  |[.ptr q 0,.p (.str b)]=>match qaD s.heap q with
   |some (.bld T' el' bs)=>cond (Nat.beq T' T&&(Nat.beq el' el&&Nat.ble (bs.length+qaM b) 140737488355328))
    ((qaI s.heap q (.bld T' el' (bs++b.data.toList))).map fun h=>(.tuple [.p (.int .i64 (.ofNat (qaM b))),.p .nilIface],{s with heap:=h})) none
   |_=>none
  |_=>none)
 (cond (Nat.beq f fb) (match args with
  |[.ptr q 0,.p (.int .u8 (.ofNat c))]=>match qaD s.heap q with
   |some (.bld T' el' bs)=>cond (Nat.beq T' T&&(Nat.beq el' el&&(Nat.ble (bs.length+1) 140737488355328&&Nat.blt c 256)))
    ((qaI s.heap q (.bld T' el' (bs++[UInt8.ofNat c]))).map fun h=>(.p .nilIface,{s with heap:=h})) none
   |_=>none
  |_=>none)
 (cond (Nat.beq f fs) (match args with
  |[.ptr q 0]=>match qaD s.heap q with
   |some (.bld T' el' (x::bs))=>cond (Nat.beq T' T&&Nat.beq el' el) ((qaI s.heap q (.bldf T' el' (x::bs))).map fun h=>(.p (.str ⟨(x::bs).toArray⟩),{s with heap:=h})) none
   |some (.bldf T' el' bs)=>cond (Nat.beq T' T&&Nat.beq el' el) ((qaI s.heap q (.bldf T' el' bs)).map fun h=>(.p (.str ⟨bs.toArray⟩),{s with heap:=h})) none
   |_=>none
  |_=>none) none))
theorem qnX {args:List zA}{x y:zA}{vs:Array Value}(h:VRs G w [x,y] vs.toList):∃u v,vs= #[u,v]/\VR G w x u/\VR G w y v:=by
 obtain⟨l⟩:=vs
 match l,h with
 |[u,v],h=>exact⟨u,v,rfl,h.2 0 _ _ rfl rfl,h.2 1 _ _ rfl rfl⟩
 |[],h=>exact absurd h.1 (by simp)
 |[_],h=>exact absurd h.1 (by simp)
 |_::_::_::_,h=>exact absurd h.1 (by simp)
theorem qrP {x:zA}{vs:Array Value}(h:VRs G w [x] vs.toList):∃u,vs= #[u]/\VR G w x u:=by
 obtain⟨l⟩:=vs
 match l,h with
 |[u],h=>exact⟨u,rfl,h.2 0 _ _ rfl rfl⟩
 |[],h=>exact absurd h.1 (by simp)
 |_::_::_,h=>exact absurd h.1 (by simp)
theorem qks (h:MR P E U pd l s G w){q b:Nat}{T e:TypeId}{bs:List UInt8}(hb:G.bOf q=some b)(hq:qaD s.heap q=some (.bld T e bs)):
  G.own b=.loc q/\∃p v,(p=.pointer none\/p=.pointer (some ⟨b,0,none⟩))/\BAt T e b p v (Lib.byteCells bs) w/\∀g,v.ownBlock=some g->G.own g=G.own b:=by
 rcases(h.heap q _ hq).2 with e|⟨b',h1,h2,p,v,h3,h4,h5,h6,h7⟩
 ·rw[hb] at e;cases e
 ·rw[hb] at h1
  cases h1
  exact⟨h2,p,v,h3,⟨h4,by rw[Lib.byteCells_length];exact h5,h6⟩,h7⟩
theorem qiM {w':World}(mr:MR P E U pd l s G w){q b g:Nat}(hb:G.bOf q=some b)(hown:G.own b=.loc q){o:zH}(hq:qaD s.heap q=some o){T el:TypeId}{bs:List UInt8}{hp:Heap}(hs:qaI s.heap q (.bldf T el bs)=some hp)(hog:G.own g=.loc q)(hrd:BRead g w w')(hor:BldFR G w' b T el bs):
  qa8 P E U pd G w l {s with heap:=hp} (.p (.str ⟨bs.toArray⟩)) (.string ⟨bs.toArray⟩) w':=by
 have t:Turn q G G w w':=⟨Nat.le_of_eq hrd.size,hrd.os,hrd.tape,hrd.output,fun k hk hn=>hrd.same k (fun e=>hn (by rw[e];exact hog)),fun k c E fr hk=>by
  by_cases e:k=g
  ·subst e
   obtain⟨fr',h'⟩:=hrd.wide c E fr hk
   exact⟨c,fr',h',rfl⟩
  ·exact⟨c,fr,by rw[hrd.same k e];exact hk,rfl⟩,fun _ _=>rfl,fun k hk=> .inl (mr.free hk),rfl,rfl,rfl,rfl⟩
 exact⟨G,t.ext mr,mr.turn t hb hown (mr.heap q _ hq).1 (fun k=>by
  by_cases e:k=q
  ·rw[if_pos e,e]
  ·rw[if_neg e];show qaD hp k=_;rw[qa3 hs,if_neg e]) (fun ob hob=>by
   have hob':qaD hp q=some ob:=hob
   rw[qa3 hs,if_pos rfl] at hob'
   cases hob'
   exact hor),.p _ _ (.str _)⟩
theorem qlW {CP:Nat->Option CF}(L1:Lays.n166 P ρ)(L2:Lays.n167 P ρ)(L3:Lays.n169 P ρ)(X:Builder.Extra P ρ)(p1:qa6 CP (ρ.f 166)=false)(p2:qa6 CP (ρ.f 167)=false)(p3:qa6 CP (ρ.f 169)=false):
  SpOK P CP (qnW (ρ.f 166) (ρ.f 167) (ρ.f 169) (ρ.t 72) (ρ.t 5)) where
 ok:=fun {e} se {f args s v s'} h=>by
  unfold qnW at h
  cases h1:Nat.beq f (ρ.f 166) with
  |true=>
   rw[h1] at h
   simp only[cond_true] at h
   have ef:=beq_iff.1 h1
   subst ef
   refine⟨(fun hp=>by rw[p1] at hp;cases hp),fun {U pd l G w vs} mr ha=>?_⟩
   split at h<;>try (cases h;done)
   rename_i q b
   split at h<;>try (cases h;done)
   rename_i T' el' bs hq
   obtain⟨hc,h⟩:=qac h
   simp only[zae] at hc
   have e1:=beq_iff.1 hc.1
   have e2:=beq_iff.1 hc.2.1
   have e3:=ble_iff.1 hc.2.2
   subst e1;subst e2
   simp only[zac,zad] at h
   obtain⟨hp,hs,rfl,rfl⟩:=h
   obtain⟨u1,u2,rfl,a1,a2⟩:=qnX (args:=[]) ha
   cases a1 with|ptr _ _ bb hb=>
   have e4:=a2.str_inv
   subst e4
   obtain⟨hown,p,v,hp',hat,hv⟩:=qks mr hb hq
   rw[qbe] at e3⊢
   have hcall:=qeY L1 X b hat hp' (by rw[Lib.byteCells_length];exact e3)
   refine qaK (enters_of L1.f166 (by kernel_rfl) rfl _ _) (hcall.mono ?_)
   rintro e w' ⟨rfl,v',hat',hst⟩
   rw[<-qge] at hat'
   obtain⟨G',x,m⟩:=qhb mr hb hq hs hown hv hat' hst
   refine⟨_,rfl,G',x,m,.tuple _ _ rfl fun i c u hc hu=>?_⟩
   match i,hc,hu with
   |0,hc,hu=>simp at hc hu;subst hc;subst hu;exact .int _ _
   |1,hc,hu=>simp at hc hu;subst hc;subst hu;exact .p _ _ .nilIface
  |false=>
  rw[h1] at h
  simp only[cond_false] at h
  cases h2:Nat.beq f (ρ.f 167) with
  |true=>
   rw[h2] at h
   simp only[cond_true] at h
   have ef:=beq_iff.1 h2
   subst ef
   refine⟨(fun hp=>by rw[p2] at hp;cases hp),fun {U pd l G w vs} mr ha=>?_⟩
   split at h<;>try (cases h;done)
   rename_i q c
   split at h<;>try (cases h;done)
   rename_i T' el' bs hq
   obtain⟨hc,h⟩:=qac h
   simp only[zae] at hc
   have e1:=beq_iff.1 hc.1
   have e2:=beq_iff.1 hc.2.1
   have e3:=ble_iff.1 hc.2.2.1
   have e5:=blt_iff.1 hc.2.2.2
   subst e1;subst e2
   simp only[zac,zad] at h
   obtain⟨hp,hs,rfl,rfl⟩:=h
   obtain⟨u1,u2,rfl,a1,a2⟩:=qnX (args:=[]) ha
   cases a1 with|ptr _ _ bb hb=>
   cases a2 with|p _ _ a2=>
   cases a2
   obtain⟨hown,p,v,hp',hat,hv⟩:=qks mr hb hq
   have hcall:=qgd L2 X (.ofNat c) hat hp' (by rw[Lib.byteCells_length];exact e3)
   refine qaK (enters_of L2.f167 (by kernel_rfl) rfl _ _) (hcall.mono ?_)
   rintro e w' ⟨rfl,v',hat',hst⟩
   have e6:Lib.byteCells bs++[Value.int .u8 (.ofNat c)]=Lib.byteCells (bs++[UInt8.ofNat c]):=by
    simp[Lib.byteCells,Nat.mod_eq_of_lt e5]
   rw[e6] at hat'
   obtain⟨G',x,m⟩:=qhb mr hb hq hs hown hv hat' hst
   exact⟨_,rfl,G',x,m,.p _ _ .nilIface⟩
  |false=>
  rw[h2] at h
  simp only[cond_false] at h
  cases h3:Nat.beq f (ρ.f 169) with
  |false=>rw[h3] at h;cases h
  |true=>
   rw[h3] at h
   simp only[cond_true] at h
   have ef:=beq_iff.1 h3
   subst ef
   refine⟨(fun hp=>by rw[p3] at hp;cases hp),fun {U pd l G w vs} mr ha=>?_⟩
   split at h<;>try (cases h;done)
   rename_i q
   split at h<;>try (cases h;done)
   ·rename_i T' el' y bs hq
    obtain⟨hc,h'⟩:=qac h
    clear h
    simp only[zac,zad] at h'
    obtain⟨hp,hs,rfl,rfl⟩:=h'
    simp only[zae] at hc
    have e1:=beq_iff.1 hc.1
    have e2:=beq_iff.1 hc.2
    subst e1;subst e2
    obtain⟨u1,rfl,a1⟩:=qrP ha
    cases a1 with|ptr _ _ bb hb=>
    obtain⟨hown,p,v,hp',hat,hv⟩:=qks mr hb hq
    obtain⟨g,hg⟩:∃g,v.ownBlock=some g:=by
     rcases hat.row.2 with⟨_,e⟩|⟨g,cap,cur,e,_⟩
     ·rw[Lib.byteCells_length] at e;cases e
     ·exact⟨g,by rw[e];rfl⟩
    obtain⟨cap,cur,ev,hgh,hnc,hcm,hcs,htk⟩:=qg9 hat (by simp) hg
    have hcall:=qjq L3 X hat (by simp) hg
    refine qaK (enters_of L3.f169 (by kernel_rfl) rfl _ _) (hcall.mono ?_)
    rintro e w' ⟨rfl,hrd⟩
    have hgb:g≠bb:=fun e=>hat.ne (by rw[hg,e])
    obtain⟨fr',hg'⟩:=hrd.wide _ _ _ hgh
    exact⟨_,rfl,qiM mr hb hown hq hs (hv g hg|>.trans hown) hrd ⟨p,g,cap,cur,fr',by rw[hrd.same bb (fun e=>hgb e.symm),hat.blk,ev],hg',hnc,hcm,hcs,htk,by simp,hgb,hv g hg⟩⟩
   ·rename_i T' el' bs hq
    obtain⟨hc,h'⟩:=qac h
    clear h
    simp only[zac,zad] at h'
    obtain⟨hp,hs,rfl,rfl⟩:=h'
    simp only[zae] at hc
    have e1:=beq_iff.1 hc.1
    have e2:=beq_iff.1 hc.2
    subst e1;subst e2
    obtain⟨u1,rfl,a1⟩:=qrP ha
    cases a1 with|ptr _ _ bb hb=>
    obtain⟨hown,p,g,cap,cur,fz,hbk,hgh,hnc,hcm,hcs,htk,h0,hgb,hog⟩:G.own bb=.loc q/\BldFR G w bb (ρ.t 72) (ρ.t 5) bs:=by
     rcases(mr.heap q _ hq).2 with e|⟨b',h1,h2,h3⟩
     ·rw[hb] at e;cases e
     ·rw[hb] at h1;cases h1;exact⟨h2,h3⟩
    have hcall:=qeZ L3 X hbk hgh hnc hcm hcs (qha hgh htk) h0
    refine qaK (enters_of L3.f169 (by kernel_rfl) rfl _ _) (hcall.mono ?_)
    rintro e w' ⟨rfl,hrd⟩
    obtain⟨fr',hg'⟩:=hrd.wide _ _ _ hgh
    exact⟨_,rfl,qiM mr hb hown hq hs (hog.trans hown) hrd ⟨p,g,cap,cur,fr',by rw[hrd.same bb (fun e=>hgb e.symm)];exact hbk,hg',hnc,hcm,hcs,htk,h0,hgb,hog⟩⟩
end Go.AI
namespace Go.AI
open Go.Proofs
variable {P:Program} {E:Rom} {U pd:Nat->Option (List zA)} {l:Tr (Nat×List zA)} {s:ASt} {G G':Gh} {w w':World}
theorem qbC (h:MR P E U pd l s G w){q b off:Nat}{cs:List zA}(hb:G.bOf q=some b)(hold:qaD s.heap q=some (.cells cs))(hc:off<cs.length):∃z,w.cell? ⟨b,off,none⟩=some z:=by
 rcases(h.heap q _ hold).2 with e|⟨b',g1,g2,g3,_⟩
 ·rw[hb] at e;cases e
 ·rw[hb] at g1
  cases g1
  obtain⟨c,T,⟨fr,h1,ht⟩,h2,_,h4⟩:=g3
  have hlt:off<c.size:=by omega
  exact⟨c[off],by simp[World.cell?,h1,hlt]⟩
theorem qby (h:MR P E U pd l s G w){q b off:Nat}{old new:List zA}{c:zA}{v:Value}(hb:G.bOf q=some b)(hold:qaD s.heap q=some (.cells old))(ho:over old off [c]=some new)(hca:qaF c=true)(hv:VR G w c v)(h1:v.oneCell'=true)
  {hp:Heap}(hset':qaI s.heap q (.cells new)=some hp):Ext G w G (w.setCell ⟨b,off,none⟩ v)/\MR P E U pd l {s with heap:=hp} G (w.setCell ⟨b,off,none⟩ v):=by
 obtain⟨w',_,hst,x,m⟩:=qf7 h hb hold ho (by simp[hca]) (us:=[v]) ⟨rfl,fun i a u ha hu=>by
  match i,ha,hu with
  |0,ha,hu=>simp at ha hu;subst ha;subst hu;exact hv⟩ (fun u hu=>by simp at hu;subst hu;exact h1) hset'
 have e:w'=w.setCell ⟨b,off,none⟩ v:=by
  simp only[storeCells,Sem.run_bind,Sem.run_pure] at hst
  have hadd:(⟨b,off,none⟩:Addr).add 0=⟨b,off,none⟩:=by unfold Addr.add;simp
  rw[hadd,run_store P w _ v _ h1] at hst
  split at hst
  ·split at hst
   ·simp[Result.andThen] at hst
   ·simp only[Result.andThen_ok,Result.ok.injEq,true_and] at hst
    exact hst.symm
  ·rename_i hn
   obtain⟨z,hz⟩:=qbC h hb hold (off:=off) (by have:=(qbA ho).1;simp at this;omega)
   rw[hz] at hn
   cases hn
 subst e
 exact⟨x,m⟩
theorem qeh (h:MR P E U pd l s G w){q b off:Nat}{cs:List zA}(hb:G.bOf q=some b)(hold:qaD s.heap q=some (.cells cs)){k:IntKind}{n:Int}(hc:cs[off]? =some (.p (.int k n))):
  w.cell? ⟨b,off,none⟩=some (.int k n)/\w.frozen? ⟨b,off,none⟩=false:=by
 rcases(h.heap q _ hold).2 with e|⟨b',g1,g2,g3,_⟩
 ·rw[hb] at e;cases e
 ·rw[hb] at g1
  cases g1
  obtain⟨c,T,⟨fr,h1,ht⟩,h2,_,h4⟩:=g3
  have hlt:off<c.size:=by have:=(zah.1 hc).1;omega
  have hv:=h4 off _ c[off] hc (zam hlt)
  have e:c[off]=.int k n:=by
   generalize c[off]=z at hv
   cases hv with|p _ _ hv=>
   cases hv
   rfl
  refine⟨by simp[World.cell?,h1,hlt,e],?_⟩
  have:=ht off hlt
  simp[World.frozen?,h1]
  omega
def qkt (fd:Nat):Sp:=fun e f args s=>cond (Nat.beq f fd) (match args with
 |[.ptr q off,fv]=>cond (qo3 fv) (match qaD s.heap q with
  |some (.cells cs)=>match qdh cs off,qdh cs (off+1) with
   |some (.p (.int .u32 (.ofNat 0))),some (.p (.int .i32 (.ofNat 0)))=>
    (over cs (off+1) [.p (.int .i32 1)]).bind fun cs1=>(qaI s.heap q (.cells cs1)).bind fun h1=>(e.callv fv [] {s with heap:=h1}).bind fun(_,s2)=>
     match qaD s2.heap q with
     |some (.cells cs2)=>match qdh cs2 off,qdh cs2 (off+1) with
      |some (.p (.int .u32 (.ofNat 0))),some (.p (.int .i32 (.ofNat 1)))=>
       (over cs2 off [.p (.int .u32 1)]).bind fun cs3=>(qaI s2.heap q (.cells cs3)).bind fun h3=>(over cs3 (off+1) [.p (.int .i32 0)]).bind fun cs4=>(qaI h3 q (.cells cs4)).map fun h4=>(qaf,{s2 with heap:=h4})
      |_,_=>none
     |_=>none
   |_,_=>none
  |_=>none) none
 |_=>none) none
def qm5 (P:Program)(fd:Nat):Prop:=∀(b off fn:Nat) (first cap:Array Value) (w:World) (Q:World->Prop),
  w.cell? ⟨b,off,none⟩=some (.int .u32 0)->w.cell? ⟨b,off+1,none⟩=some (.int .i32 0)->w.frozen? ⟨b,off,none⟩=false->w.frozen? ⟨b,off+1,none⟩=false->
  (callFunc fn (first++cap)).run P (w.setCell ⟨b,off+1,none⟩ (.int .i32 1))=.ok (.enter fn (first++cap)) (w.setCell ⟨b,off+1,none⟩ (.int .i32 1))->
  Calls P fn (first++cap) (w.setCell ⟨b,off+1,none⟩ (.int .i32 1)) (fun e w2=>(∃v,e=.returned v)/\Q w2)->
  (∀w2,Q w2->w2.cell? ⟨b,off,none⟩=some (.int .u32 0)/\w2.cell? ⟨b,off+1,none⟩=some (.int .i32 1)/\w2.frozen? ⟨b,off,none⟩=false/\w2.frozen? ⟨b,off+1,none⟩=false)->
  Calls P fd #[.pointer (some ⟨b,off,none⟩),.func (.func fn) first cap] w fun e w'=>e=.returned (.tuple #[])/\∃w2,Q w2/\w'=(w2.drew.setCell ⟨b,off,none⟩ (.int .u32 1)).setCell ⟨b,off+1,none⟩ (.int .i32 0)
theorem qku {CP:Nat->Option CF}{fd:Nat}(hd:qm5 P fd)(hen:∀args w,(callFunc fd args).run P w=.ok (.enter fd args) w)(p1:qa6 CP fd=false):SpOK P CP (qkt fd) where
 ok:=fun {e} se {f args s v s'} h=>by
  unfold qkt at h
  obtain⟨hf,h'⟩:=qac h
  clear h
  have ef:=beq_iff.1 hf
  subst ef
  refine⟨(fun hp=>by rw[p1] at hp;cases hp),fun {U pd l G w vs} mr ha=>?_⟩
  split at h'<;>try (cases h';done)
  rename_i q off fv
  obtain⟨hfn,h⟩:=qac h'
  clear h'
  split at h<;>try (cases h;done)
  rename_i cs hcs
  split at h<;>try (cases h;done)
  rename_i c0 c1
  rw[qbs] at c0 c1
  simp only[zab] at h
  obtain⟨cs1,ho1,h1,hs1,⟨r,s2⟩,hcall,h⟩:=h
  simp only at h
  split at h<;>try (cases h;done)
  rename_i cs2 hcs2
  split at h<;>try (cases h;done)
  rename_i d0 d1
  rw[qbs] at d0 d1
  simp only[zab,zac,zad] at h
  obtain⟨cs3,ho3,h3,hs3,cs4,ho4,h4,hs4,rfl,rfl⟩:=h
  obtain⟨u1,u2,rfl,a1,a2⟩:=qnX (args:=[]) ha
  cases a1 with|ptr _ _ b hb=>
  obtain⟨k0,f0⟩:=qeh mr hb hcs c0
  obtain⟨k1,f1⟩:=qeh mr hb hcs c1
  obtain⟨x1,m1⟩:=qby mr hb hcs ho1 rfl (VR.int (G:=G) (w:=w) .i32 1) rfl hs1
  have a2':=a2.ext x1
  obtain⟨fn,first,cap,rfl,hent⟩:=se.callf hcall hfn m1 a2' (vs:= #[]) VRs.nil
  have hn:=se.callv hcall m1 a2' (vs:= #[]) VRs.nil
  let Q:World->Prop:=fun w2=>qa8 P e.E U pd G (w.setCell ⟨b,off+1,none⟩ (.int .i32 1)) l s2 r undef w2\/∃u,qa8 P e.E U pd G (w.setCell ⟨b,off+1,none⟩ (.int .i32 1)) l s2 r u w2
  have hcf:Calls P fn (first++cap) (w.setCell ⟨b,off+1,none⟩ (.int .i32 1)) fun e2 w2=>(∃v,e2=.returned v)/\Q w2:=by
   have hent':(callFunc fn (first++ #[]++cap)).run P (w.setCell ⟨b,off+1,none⟩ (.int .i32 1))=.ok (.enter fn (first++ #[]++cap)) (w.setCell ⟨b,off+1,none⟩ (.int .i32 1)):=hent
   have e1:(do let d <-Deferred.ofValue (.func (.func fn) first cap) #[];invoke d.target d.args:Sem Next).run P (w.setCell ⟨b,off+1,none⟩ (.int .i32 1))=(callFunc fn (first++ #[]++cap)).run P (w.setCell ⟨b,off+1,none⟩ (.int .i32 1)):=by
    simp[Deferred.ofValue,invoke]
   rw[e1,hent'] at hn
   have h2:=callsIn_wide.1 hn
   rw[Array.append_empty] at h2
   exact h2.mono fun e2 w2 ⟨u,he,hu⟩=>⟨⟨u,he⟩,.inr ⟨u,hu⟩⟩
  rw[Array.append_empty] at hent
  have key:∀w2,Q w2->∃G2,Ext G (w.setCell ⟨b,off+1,none⟩ (.int .i32 1)) G2 w2/\MR P e.E U pd l s2 G2 w2:=by
   rintro w2 (⟨G2,x,m,_⟩|⟨u,G2,x,m,_⟩)
   ·exact⟨G2,x,m⟩
   ·exact⟨G2,x,m⟩
  refine qaK (hen _ _) ((hd b off fn first cap w Q k0 k1 f0 f1 hent hcf fun w2 hq=>?_).mono ?_)
  ·obtain⟨G2,x,m⟩:=key w2 hq
   obtain⟨j0,j1⟩:=qeh m (x.bOf _ _ hb) hcs2 d0
   obtain⟨j2,j3⟩:=qeh m (x.bOf _ _ hb) hcs2 d1
   exact⟨j0,j2,j1,j3⟩
  ·rintro e2 w' ⟨rfl,w2,hq,rfl⟩
   obtain⟨G2,x2,m2⟩:=key w2 hq
   have hb2:=x2.bOf _ _ hb
   have x3:=(Keep.drew w2).ext G2
   have m3:=m2.keep (Keep.drew w2)
   obtain⟨x4,m4⟩:=qby m3 hb2 hcs2 ho3 rfl (VR.int (G:=G2) (w:=w2.drew) .u32 1) rfl hs3
   have hc3:qaD h3 q=some (.cells cs3):=by rw[qa3 hs3,if_pos rfl]
   obtain⟨x5,m5⟩:=qby m4 hb2 hc3 ho4 rfl (VR.int (G:=G2) (w:=w2.drew.setCell ⟨b,off,none⟩ (.int .u32 1)) .i32 0) rfl hs4
   exact⟨_,rfl,G2,x1.trans (x2.trans (x3.trans (x4.trans x5))),m5,.tuple [] #[] rfl (fun i c v h=>by simp at h)⟩
end Go.AI
namespace Go.AI
open Go.Shelf Go.RowKit Go.Proofs
variable {P:Program} {ρ:Ren} {E:Rom} {U pd:Nat->Option (List zA)} {l:Tr (Nat×List zA)} {s:ASt} {G G':Gh} {w w':World}
theorem Below.keepAI {w w':World}(h:Below w.heap.size w w'):Keep w w':=⟨h.size,h.os,h.tape,h.output,fun k hk=>h.block k hk⟩
theorem qnY (h:MR P E U pd l s G w){g:Nat}{k:IntKind}{n:Int}(he:E (PB+g)=some (.cells [.p (.int k n)])):w.cell? ⟨g,0,none⟩=some (.int k n):=by
 obtain⟨j,_,cs,ecs,_,_,c,T,fr,h1,h2,h4⟩:=(h.ro _ _ he).2 (Nat.le_add_right _ _)
 simp only[zH.cells.injEq] at ecs
 subst ecs
 rw[Nat.add_sub_cancel_left] at h1
 have hlt:0<c.size:=by simp at h2;omega
 have hv:=h4 0 _ c[0] rfl (zam hlt)
 have e:c[0]=.int k n:=by
  generalize c[0]=z at hv
  cases hv with|p _ _ hv=>
  cases hv
  rfl
 simp[World.cell?,h1,hlt,e]
def qnZ (fr fc g1:Nat):Sp:=fun e f args s=>cond (Nat.beq f fr) (match args with
 |[.p (.str a),.p (.str b),.p (.str c),.p (.int .i64 n)]=>match e.E (PB+g1) with
  |some (.cells [.p (.int .i64 _)])=>cond (Nat.blt (qaM a) 4294967281&&(Nat.blt 0 (qaM b)&&Nat.ble (qaM a+Lib.count a.data.toList b.data.toList*qaM c) 140737488355328))
   (some (.p (.str ⟨(Lib.replace a.data.toList b.data.toList c.data.toList n).toArray⟩),s)) none
  |_=>none
 |_=>none)
 (cond (Nat.beq f fc) (match args with
  |[.p (.str a),.p (.str b)]=>match b.data.toList with
   |[c]=>some (.p (.int .i64 (.ofNat (Lib.countByte a.data.toList c))),s)
   |_=>none
  |_=>none) none)
theorem qlX {CP:Nat->Option CF}(L1:Lays.n154 P ρ)(L2:Lays.n138 P ρ)(X:Builder.Extra P ρ):SpOK P CP (qnZ (ρ.f 154) (ρ.f 138) (ρ.g 1)) where
 ok:=fun {e} se {f args s v s'} h=>by
  unfold qnZ at h
  cases h1:Nat.beq f (ρ.f 154) with
  |true=>
   rw[h1] at h
   simp only[cond_true] at h
   have ef:=beq_iff.1 h1
   subst ef
   split at h<;>try (cases h;done)
   rename_i a b c n
   split at h<;>try (cases h;done)
   rename_i m hE
   obtain⟨hc,h'⟩:=qac h
   clear h
   simp only[zaa,zad] at h'
   obtain⟨rfl,rfl⟩:=h'
   simp only[zae] at hc
   rw[qbe,qbe,qbe] at hc
   refine⟨fun _=>rfl,fun {U pd l G w vs} mr ha=>?_⟩
   have hm:=qnY mr hE
   obtain⟨vl⟩:=vs
   match vl,ha with
   |[u1,u2,u3,u4],ha=>
    have e1:=(ha.2 0 _ u1 rfl rfl).str_inv
    have e2:=(ha.2 1 _ u2 rfl rfl).str_inv
    have e3:=(ha.2 2 _ u3 rfl rfl).str_inv
    have e4:u4=.int .i64 n:=by
     have:=ha.2 3 _ u4 rfl rfl
     cases this with|p _ _ hv=>
     cases hv
     rfl
    subst e1;subst e2;subst e3;subst e4
    have hcall:=Any.strings_Replace L1 X a b c n m w (blt_iff.1 hc.1) hm (blt_iff.1 hc.2.1) (ble_iff.1 hc.2.2)
    refine qaK (enters_of L1.f154 (by kernel_rfl) rfl _ _) (hcall.mono ?_)
    rintro e2 w' ⟨rfl,hb⟩
    have k:=Below.keepAI hb
    exact⟨_,rfl,G,k.ext G,mr.keep k,.p _ _ (.str _)⟩
   |[],ha=>exact absurd ha.1 (by simp)
   |[_],ha=>exact absurd ha.1 (by simp)
   |[_,_],ha=>exact absurd ha.1 (by simp)
   |[_,_,_],ha=>exact absurd ha.1 (by simp)
   |_::_::_::_::_::_,ha=>exact absurd ha.1 (by simp)
  |false=>
  rw[h1] at h
  simp only[cond_false] at h
  cases h2:Nat.beq f (ρ.f 138) with
  |false=>rw[h2] at h;cases h
  |true=>
   rw[h2] at h
   simp only[cond_true] at h
   have ef:=beq_iff.1 h2
   subst ef
   split at h<;>try (cases h;done)
   rename_i a b
   split at h<;>try (cases h;done)
   rename_i c hb
   simp only[zaa,zad] at h
   obtain⟨rfl,rfl⟩:=h
   refine⟨fun _=>rfl,fun {U pd l G w vs} mr ha=>?_⟩
   obtain⟨u1,u2,rfl,a1,a2⟩:=qnX (args:=[]) ha
   have e1:=a1.str_inv
   have e2:=a2.str_inv
   subst e1;subst e2
   have eb:b=⟨#[c]⟩:=by
    apply ByteArray.ext
    exact Array.toList_inj.1 hb
   subst eb
   refine qaK (enters_of L2.f138 (by kernel_rfl) rfl _ _) ((Any.strings_Count_one L2 a c w).mono ?_)
   rintro e2 w' ⟨rfl,rfl⟩
   exact⟨_,rfl,G,Ext.refl G _,mr,.p _ _ (.int _ _)⟩
def qjr (a b:Sp):Sp:=fun e f args s=>match a e f args s with
 |some r=>some r
 |none=>b e f args s
theorem qb1 {CP:Nat->Option CF}{a b:Sp}(ha:SpOK P CP a)(hb:SpOK P CP b):SpOK P CP (qjr a b) where
 ok:=fun {e} se {f args s v s'} h=>by
  unfold qjr at h
  split at h
  ·rename_i r hr
   injection h with h
   subst h
   exact ha.ok se hr
  ·exact hb.ok se h
end Go.AI
namespace Go.AI
noncomputable section
def bF {α:Type}(b:Bool)(t f:α):α:=Bool.rec (motive:=fun _=>α) f t b
def xF {α:Type}(x:EX)(a:α)(f:Nat->α)(b:α):α:=EX.rec (motive:=fun _=>α) a f b x
def qqT (t:Tr zA):Nat->zA:=
 Tr.rec (motive:=fun _=>Nat->zA) (fun _=>qaf) (fun v _ _ a b i=>bF (Nat.beq i (nat_lit 0)) v (bF (Nat.beq (Nat.mod i (nat_lit 2)) (nat_lit 1)) (a (Nat.div i (nat_lit 2))) (b (Nat.sub (Nat.div i (nat_lit 2)) (nat_lit 1))))) t
theorem qn0 (t:Tr zA):∀i,qqT t i=t.get qaf i:=by
 induction t with
 |nil=>intro i;rfl
 |node v l r ihl ihr=>
  intro i
  show bF (Nat.beq i 0) v (bF (Nat.beq (i%2) 1) (qqT l (i/2)) (qqT r (i/2-1)))=_
  unfold Tr.get
  rw[ihl,ihr]
  cases Nat.beq i 0<;>cases Nat.beq (i%2) 1<;>rfl
def qlY {α:Type}(t:Tr α):Nat->α->Tr α:=
 Tr.rec (motive:=fun _=>Nat->α->Tr α) (fun _ _=> .nil) (fun v l r a b i x=>bF (Nat.beq i (nat_lit 0)) (.node x l r) (bF (Nat.beq (Nat.mod i (nat_lit 2)) (nat_lit 1)) (.node v (a (Nat.div i (nat_lit 2)) x) r) (.node v l (b (Nat.sub (Nat.div i (nat_lit 2)) (nat_lit 1)) x)))) t
theorem qgf {α:Type}(t:Tr α):∀i x,qlY t i x=t.set i x:=by
 induction t with
 |nil=>intro i x;rfl
 |node v l r ihl ihr=>
  intro i x
  show bF (Nat.beq i 0) (Tr.node x l r) (bF (Nat.beq (i%2) 1) (Tr.node v (qlY l (i/2) x) r) (Tr.node v l (qlY r (i/2-1) x)))=_
  unfold Tr.set
  rw[ihl,ihr]
  cases Nat.beq i 0<;>cases Nat.beq (i%2) 1<;>rfl
def evA (x:Arg):Tr zA->zA:=Arg.rec (motive:=fun _=>Tr zA->zA) (fun n f=>qqT f n) (fun v _=>v) x
theorem qcM (x:Arg)(f:Tr zA):evA x f=x.ev f:=by cases x with
 |t n=>exact qn0 f n
 |c v=>rfl
abbrev R:=Option (zA×Cfg)
def qaC {α β:Type}(x:Option α)(k:α->Option β):Option β:=Option.rec (motive:=fun _=>Option β) none k x
theorem qaq {α β:Type}(x:Option α)(k:α->Option β):qaC x k=x.bind k:=by cases x<;>rfl
def qm6 (t:Tr (Nat×List zA)):Nat->Nat×List zA:=
 Tr.rec (motive:=fun _=>Nat->Nat×List zA) (fun _=>(0,[])) (fun v _ _ a b i=>bF (Nat.beq i (nat_lit 0)) v (bF (Nat.beq (Nat.mod i (nat_lit 2)) (nat_lit 1)) (a (Nat.div i (nat_lit 2))) (b (Nat.sub (Nat.div i (nat_lit 2)) (nat_lit 1))))) t
theorem qkv (t:Tr (Nat×List zA)):∀i,qm6 t i=t.get (0,[]) i:=by
 induction t with
 |nil=>intro i;rfl
 |node v l r ihl ihr=>
  intro i
  show bF (Nat.beq i 0) v (bF (Nat.beq (i%2) 1) (qm6 l (i/2)) (qm6 r (i/2-1)))=_
  unfold Tr.get
  rw[ihl,ihr]
  cases Nat.beq i 0<;>cases Nat.beq (i%2) 1<;>rfl
def qiN {α:Type}(l:List α):Nat->List α:=List.rec (motive:=fun _=>Nat->List α) (fun _=>[]) (fun x xs ih n=>bF (Nat.beq n 0) (x::xs) (ih (n-1))) l
theorem qhc {α:Type}(l:List α):∀n,qiN l n=qdi l n:=by
 induction l with
 |nil=>intro n;rfl
 |cons x xs ih=>
  intro n
  show bF (Nat.beq n 0) (x::xs) (qiN xs (n-1))=_
  unfold qdi
  rw[ih]
  cases Nat.beq n 0<;>rfl
def qiO {α:Type}(l:List α):Nat->List α:=List.rec (motive:=fun _=>Nat->List α) (fun _=>[]) (fun x _ ih n=>bF (Nat.beq n 0) [] (x::ih (n-1))) l
theorem qhd {α:Type}(l:List α):∀n,qiO l n=qcy l n:=by
 induction l with
 |nil=>intro n;rfl
 |cons x xs ih=>
  intro n
  show bF (Nat.beq n 0) [] (x::qiO xs (n-1))=_
  unfold qcy
  rw[ih]
  cases Nat.beq n 0<;>rfl
def qm7 {α:Type}(l:List α):Nat:=List.rec (motive:=fun _=>Nat) 0 (fun _ _ ih=>Nat.succ ih) l
theorem qgg {α:Type}(l:List α):qm7 l=l.length:=by
 induction l with
 |nil=>rfl
 |cons x xs ih=>show Nat.succ (qm7 xs)=_;rw[ih];rfl
def qqU {α:Type}(l m:List α):List α:=List.rec (motive:=fun _=>List α) m (fun x _ ih=>x::ih) l
theorem qkw {α:Type}(l m:List α):qqU l m=l++m:=by
 induction l with
 |nil=>rfl
 |cons x xs ih=>show x::qqU xs m=_;rw[ih];rfl
def qpO {α:Type}(xs:List α)(off n:Nat):Option (List α):=bF (Nat.ble (off+n) (qm7 xs)) (some (qiO (qiN xs off) n)) none
theorem qhN {α:Type}(xs:List α)(off n:Nat):qpO xs off n=cut xs off n:=by
 unfold qpO cut
 rw[qgg,qhc,qhd]
 cases Nat.ble (off+n) xs.length<;>rfl
def qn1 {α:Type}(xs:List α)(off:Nat)(ys:List α):Option (List α):=bF (Nat.ble (off+qm7 ys) (qm7 xs)) (some (qqU (qiO xs off) (qqU ys (qiN xs (off+qm7 ys))))) none
theorem qlZ {α:Type}(xs:List α)(off:Nat)(ys:List α):qn1 xs off ys=over xs off ys:=by
 unfold qn1 over
 rw[qgg,qgg,qhc,qhd,qkw,qkw]
 cases Nat.ble (off+ys.length) xs.length<;>rfl
def qqV (l:List zP):List zA:=List.rec (motive:=fun _=>List zA) [] (fun x _ ih=> .p x::ih) l
theorem qkx (l:List zP):qqV l=l.map .p:=by
 induction l with
 |nil=>rfl
 |cons x xs ih=>show zA.p x::qqV xs=_;rw[ih];rfl
def qiP (E:Rom)(s:ASt)(l:Nat):Option (List zA):=qb9 E s l
theorem qhO (E:Rom)(s:ASt)(l:Nat):qiP E s l=qb9 E s l:=rfl
def qcN (E:Rom)(lo:Tr (Nat×List zA))(s:ASt)(a:zA)(n:Nat):Option (List zA):=
 match a with
 |.lptr i g off=>bF (Nat.beq g (qm6 lo i).1) (qpO (qm6 lo i).2 off n) none
 |.ptr l off=>qaC (qiP E s l) fun cs=>qpO cs off n
 |.elem cs off=>qaC (qpO cs off n) fun cs=>some (qqV cs)
 |a=>qax E lo s a n
theorem qhe (E:Rom)(lo:Tr (Nat×List zA))(s:ASt)(a:zA)(n:Nat):qcN E lo s a n=qax E lo s a n:=by
 cases a<;>try rfl
 ·simp only[qcN,qax,qkv,qhN]
  generalize lo.get (0,[]) _=p
  obtain⟨g',cs⟩:=p
  simp only
  generalize Nat.beq _ g'=b
  cases b<;>rfl
 ·simp only[qcN,qax,qaq,qhN,qhO]
 ·simp only[qcN,qax,qaq,qhN,qkx]
  cases cut _ _ n<;>rfl
def qgh (c:Cfg)(a:zA)(cs:List zA):Option Cfg:=
 match a with
 |.lptr i g off=>bF (Nat.beq g (qm6 c.l i).1) (qaC (qn1 (qm6 c.l i).2 off cs) fun new=>some {c with l:=qlY c.l i ((qm6 c.l i).1,new)}) none
 |a=>qbr c a cs
theorem qhP (c:Cfg)(a:zA)(cs:List zA):qgh c a cs=qbr c a cs:=by
 cases a<;>try rfl
 simp only[qgh,qbr,qkv,qlZ,qaq,qgf]
 generalize c.l.get (0,[]) _=p
 obtain⟨g',old⟩:=p
 simp only
 generalize Nat.beq _ g'=b
 cases b
 ·rfl
 ·show(over old _ cs).bind _=_
  cases over old _ cs<;>rfl
def mkF {α:Type}(x:α)(d:Nat):Tr α:=Nat.rec (motive:=fun _=>Tr α) .nil (fun _ t=> .node x t t) d
theorem qky {α:Type}(x:α)(d:Nat):mkF x d=Tr.mk x d:=by
 induction d with
 |zero=>rfl
 |succ d ih=>show Tr.node x (mkF x d) (mkF x d)=_;rw[ih];rfl
def qei (args:List zA):Tr zA->Nat->Tr zA:=List.rec (motive:=fun _=>Tr zA->Nat->Tr zA) (fun f _=>f) (fun v _ ih f i=>ih (qlY f i v) (i+1)) args
theorem qe0 (args:List zA):∀f i,qei args f i=qaS f i args:=by
 induction args with
 |nil=>intro f i;rfl
 |cons v r ih=>
  intro f i
  show qei r (qlY f i v) (i+1)=_
  rw[ih,qgf]
  rfl
def iMov (x:Arg)(_:Env)(c:Cfg):R:=some (evA x c.f,c)
def qn2 (b x y:Arg)(_:Env)(c:Cfg):R:=match evA b c.f with
  |.p (.bool t)=>some (cond t (evA x c.f) (evA y c.f),c)
  |_=>none
def qpP (i:Nat)(zs:List zA)(e:Env)(c:Cfg):R:=qag e c (.alloc i zs)
def qra (i:Nat)(n:Option Nat)(x:Arg)(_:Env)(c:Cfg):R:=qaC (zA.cells n (evA x c.f)) fun cs=>match c.l.get (0,[]) i with
  |(g,_)=>some (.lptr i (g+1) 0,{c with l:=qlY c.l i (g+1,cs)})
def qn3 (n:Option Nat)(a:Arg)(e:Env)(c:Cfg):R:=qaC (qcN e.E c.l c.s (evA a c.f) (cnt n)) fun cs=>qaC (zA.ofCells n cs) fun v=>some (v,c)
def qkz (n:Option Nat)(a x:Arg)(_:Env)(c:Cfg):R:=qaC (zA.cells n (evA x c.f)) fun cs=>qaC (qgh c (evA a c.f) cs) fun c=>some (qaf,c)
def qrb (o:BinOp)(x y:Arg)(_:Env)(c:Cfg):R:=qaC (qfg o (evA x c.f) (evA y c.f)) fun v=>some (.p v,c)
def faA (off:Nat)(c:Cfg)(v:zA):R:=match v with
  |.lptr i g o=>some (.lptr i g (o+off),c)
  |.ptr l o=>some (.ptr l (o+off),c)
  |.elem cs o=>some (.elem cs (o+off),c)
  |.rel cs o=>some (.rel cs (o+off),c)
  |_=>none
def iFa (off:Nat)(x:Arg)(_:Env)(c:Cfg):R:=faA off c (evA x c.f)
def qqW (xs:List Arg)(f:Tr zA):List zA:=List.rec (motive:=fun _=>List zA) [] (fun x _ ih=>evA x f::ih) xs
theorem qkA (xs:List Arg)(f:Tr zA):qqW xs f=xs.map (Arg.ev f):=by
 induction xs with
 |nil=>rfl
 |cons x xs ih=>
  show evA x f::qqW xs f=_
  rw[ih,qcM];rfl
def qn4 (f:Nat)(args:List Arg)(e:Env)(c:Cfg):R:=qaC (e.call f (qqW args c.f) c.s) fun r=>some (r.1,{c with s:=r.2})
def qkB (f:Arg)(args:List Arg)(e:Env)(c:Cfg):R:=qaC (e.callv (evA f c.f) (qqW args c.f) c.s) fun r=>some (r.1,{c with s:=r.2})
def qkC (i:Nat)(e:Env)(c:Cfg):R:=match c.l.get (0,[]) i with
  |(g,_)=>some (.lptr i g 0,c)
def ql0 (zs:List zA)(e:Env)(c:Cfg):R:=cond (zs.all qaF) (some (.ptr c.s.next 0,{c with s:=qav c.s (.cells zs)})) none
def qjs (m:Bool)(d:Nat)(e:Env)(c:Cfg):R:=(qap c.h d).map fun l=>(cond m (.map l) (.ptr l 0),c)
def qpQ (n:Option Nat)(x:Arg)(e:Env)(c:Cfg):R:=(zA.cells n (x.ev c.f)).bind fun cs=>cond (cs.all qaF) (some (.ptr c.s.next 0,{c with s:=qav c.s (.cells cs)})) none
def qhQ (zs:List zA)(ps:List (Nat×Option Nat×Arg))(f:Tr zA):Option zA:=(qbD zs f ps).map .agg
def qhR (a0:List zA)(a1:List (Nat×Option Nat×Arg))(_:Env)(c:Cfg):R:=qaC (qhQ a0 a1 c.f) fun v=>some (v,c)
theorem qjt (a0:List zA)(a1:List (Nat×Option Nat×Arg))(e:Env)(c:Cfg):qhR a0 a1 e c=qag e c (.build a0 a1):=by
 have h:qag e c (.build a0 a1)=(qhQ a0 a1 c.f).map fun v=>(v,c):=rfl
 rw[h]
 unfold qhR
 rw[qaq]
 cases qhQ a0 a1 c.f<;>rfl
def qn5 (n:Nat)(zs:List zP)(ps:List (Nat×Option Nat×Arg))(f:Tr zA):Option zA:=(qdl zs f ps).map fun cs=> .sl n cs .full
def qn6 (a0:Nat)(a1:List zP)(a2:List (Nat×Option Nat×Arg))(_:Env)(c:Cfg):R:=qaC (qn5 a0 a1 a2 c.f) fun v=>some (v,c)
theorem ql1 (a0:Nat)(a1:List zP)(a2:List (Nat×Option Nat×Arg))(e:Env)(c:Cfg):qn6 a0 a1 a2 e c=qag e c (.mks a0 a1 a2):=by
 have h:qag e c (.mks a0 a1 a2)=(qn5 a0 a1 a2 c.f).map fun v=>(v,c):=rfl
 rw[h]
 unfold qn6
 rw[qaq]
 cases qn5 a0 a1 a2 c.f<;>rfl
def qn7 (n:Nat)(zs:List zA)(ps:List (Nat×Option Nat×Arg))(f:Tr zA):Option zA:=(qbD zs f ps).map fun cs=> .row n cs
def qn8 (a0:Nat)(a1:List zA)(a2:List (Nat×Option Nat×Arg))(_:Env)(c:Cfg):R:=qaC (qn7 a0 a1 a2 c.f) fun v=>some (v,c)
theorem ql2 (a0:Nat)(a1:List zA)(a2:List (Nat×Option Nat×Arg))(e:Env)(c:Cfg):qn8 a0 a1 a2 e c=qag e c (.mkr a0 a1 a2):=by
 have h:qag e c (.mkr a0 a1 a2)=(qn7 a0 a1 a2 c.f).map fun v=>(v,c):=rfl
 rw[h]
 unfold qn8
 rw[qaq]
 cases qn7 a0 a1 a2 c.f<;>rfl
def qn9 (x:Arg)(f:Tr zA):Option zA:=match x.ev f with
  |.ptr l o=>some (.ptr l o)
  |.lptr i g o=>some (.lptr i g o)
  |.elem cs o=>some (.elem cs o)
  |.rel cs o=>some (.rel cs o)
  |_=>none
def qoa (a0:Arg)(_:Env)(c:Cfg):R:=qaC (qn9 a0 c.f) fun v=>some (v,c)
theorem ql3 (a0:Arg)(e:Env)(c:Cfg):qoa a0 e c=qag e c (.nck a0):=by
 have h:qag e c (.nck a0)=(qn9 a0 c.f).map fun v=>(v,c):=rfl
 rw[h]
 unfold qoa
 rw[qaq]
 cases qn9 a0 c.f<;>rfl
def qob (kd:Nat)(neg:Bool)(x:Arg)(y:Arg)(f:Tr zA):Option zA:=(eqK kd (x.ev f) (y.ev f)).map fun b=> .p (.bool (cond neg (!b) b))
def qoc (a0:Nat)(a1:Bool)(a2:Arg)(a3:Arg)(_:Env)(c:Cfg):R:=qaC (qob a0 a1 a2 a3 c.f) fun v=>some (v,c)
theorem ql4 (a0:Nat)(a1:Bool)(a2:Arg)(a3:Arg)(e:Env)(c:Cfg):qoc a0 a1 a2 a3 e c=qag e c (.eqv a0 a1 a2 a3):=by
 have h:qag e c (.eqv a0 a1 a2 a3)=(qob a0 a1 a2 a3 c.f).map fun v=>(v,c):=rfl
 rw[h]
 unfold qoc
 rw[qaq]
 cases qob a0 a1 a2 a3 c.f<;>rfl
def qod (ks:List Nat)(neg:Bool)(x:Arg)(y:Arg)(f:Tr zA):Option zA:=(qnq ks (x.ev f) (y.ev f)).map fun b=> .p (.bool (cond neg (!b) b))
def qoe (a0:List Nat)(a1:Bool)(a2:Arg)(a3:Arg)(_:Env)(c:Cfg):R:=qaC (qod a0 a1 a2 a3 c.f) fun v=>some (v,c)
theorem ql5 (a0:List Nat)(a1:Bool)(a2:Arg)(a3:Arg)(e:Env)(c:Cfg):qoe a0 a1 a2 a3 e c=qag e c (.eqs a0 a1 a2 a3):=by
 have h:qag e c (.eqs a0 a1 a2 a3)=(qod a0 a1 a2 a3 c.f).map fun v=>(v,c):=rfl
 rw[h]
 unfold qoe
 rw[qaq]
 cases qod a0 a1 a2 a3 c.f<;>rfl
def ql6 (x:Arg)(f:Tr zA):Option zA:=match x.ev f with
  |.p (.bool b)=>some (.p (.bool !b))
  |_=>none
def qof (a0:Arg)(_:Env)(c:Cfg):R:=qaC (ql6 a0 c.f) fun v=>some (v,c)
theorem ql7 (a0:Arg)(e:Env)(c:Cfg):qof a0 e c=qag e c (.not a0):=by
 have h:qag e c (.not a0)=(ql6 a0 c.f).map fun v=>(v,c):=rfl
 rw[h]
 unfold qof
 rw[qaq]
 cases ql6 a0 c.f<;>rfl
def qog (left:Bool)(x:Arg)(y:Arg)(f:Tr zA):Option zA:=match x.ev f,y.ev f with
  |.p (.int k a),.p (.int _ (.ofNat n))=>some (.p (.int k (cond left (k.wrap (a*2^(min n k.bits))) (a.fdiv (2^(min n k.bits))))))
  |_,_=>none
def qoh (a0:Bool)(a1:Arg)(a2:Arg)(_:Env)(c:Cfg):R:=qaC (qog a0 a1 a2 c.f) fun v=>some (v,c)
theorem ql8 (a0:Bool)(a1:Arg)(a2:Arg)(e:Env)(c:Cfg):qoh a0 a1 a2 e c=qag e c (.shf a0 a1 a2):=by
 have h:qag e c (.shf a0 a1 a2)=(qog a0 a1 a2 c.f).map fun v=>(v,c):=rfl
 rw[h]
 unfold qoh
 rw[qaq]
 cases qog a0 a1 a2 c.f<;>rfl
def ql9 (k:IntKind)(x:Arg)(f:Tr zA):Option zA:=match x.ev f with
  |.p (.int _ n)=>some (.p (.int k (qd6 k n)))
  |_=>none
def qoi (a0:IntKind)(a1:Arg)(_:Env)(c:Cfg):R:=qaC (ql9 a0 a1 c.f) fun v=>some (v,c)
theorem qma (a0:IntKind)(a1:Arg)(e:Env)(c:Cfg):qoi a0 a1 e c=qag e c (.cvt a0 a1):=by
 have h:qag e c (.cvt a0 a1)=(ql9 a0 a1 c.f).map fun v=>(v,c):=rfl
 rw[h]
 unfold qoi
 rw[qaq]
 cases ql9 a0 a1 c.f<;>rfl
def qoj (x:Arg)(f:Tr zA):Option zA:=match x.ev f with
  |.p (.int _ n)=>some (.p (.str (Utf8.encode n)))
  |_=>none
def qok (a0:Arg)(_:Env)(c:Cfg):R:=qaC (qoj a0 c.f) fun v=>some (v,c)
theorem qmb (a0:Arg)(e:Env)(c:Cfg):qok a0 e c=qag e c (.i2s a0):=by
 have h:qag e c (.i2s a0)=(qoj a0 c.f).map fun v=>(v,c):=rfl
 rw[h]
 unfold qok
 rw[qaq]
 cases qoj a0 c.f<;>rfl
def qol (x:Arg)(f:Tr zA):Option zA:=match x.ev f with
  |.p (.str s)=>some (.p (.str s))
  |_=>none
def qom (a0:Arg)(_:Env)(c:Cfg):R:=qaC (qol a0 c.f) fun v=>some (v,c)
theorem qmc (a0:Arg)(e:Env)(c:Cfg):qom a0 e c=qag e c (.s2s a0):=by
 have h:qag e c (.s2s a0)=(qol a0 c.f).map fun v=>(v,c):=rfl
 rw[h]
 unfold qom
 rw[qaq]
 cases qol a0 c.f<;>rfl
def qrc (x:Arg)(e:Env)(c:Cfg):R:=(qq4 e.E c.s (x.ev c.f)).map fun v=>(v,c)
def qrd (tbl:List (Nat×Nat))(x:Arg)(args:List Arg)(e:Env)(c:Cfg):R:=match x.ev c.f with
  |.iface t v=>(qap tbl t).bind fun f=>(e.call f (v::args.map (Arg.ev c.f)) c.s).map fun(r,s)=>(r,{c with s:=s})
  |.p (.iface t v)=>(qap tbl t).bind fun f=>(e.call f (.p v::args.map (Arg.ev c.f)) c.s).map fun(r,s)=>(r,{c with s:=s})
  |_=>none
def qre (x:Arg)(e:Env)(c:Cfg):R:=match x.ev c.f with
  |.p (.str b)=>some (.hs c.s.next 0 (qaM b) (qaM b) 1 true,{c with s:=qav c.s (.cells (b.data.toList.map fun x=> .p (.int .u8 (.ofNat x.toNat))))})
  |_=>none
def qon (n:Nat)(sz:Nat)(x:Arg)(i:Arg)(f:Tr zA):Option zA:=(qbi (i.ev f)).bind fun i=>cond (Nat.blt i n) (match x.ev f with
  |.lptr a g o=>some (.lptr a g (o+i*sz))
  |.ptr l o=>some (.ptr l (o+i*sz))
  |.elem cs o=>some (.elem cs (o+i*sz))
  |.rel cs o=>some (.rel cs (o+i*sz))
  |_=>none) none
def qoo (a0:Nat)(a1:Nat)(a2:Arg)(a3:Arg)(_:Env)(c:Cfg):R:=qaC (qon a0 a1 a2 a3 c.f) fun v=>some (v,c)
theorem qmd (a0:Nat)(a1:Nat)(a2:Arg)(a3:Arg)(e:Env)(c:Cfg):qoo a0 a1 a2 a3 e c=qag e c (.iaA a0 a1 a2 a3):=by
 have h:qag e c (.iaA a0 a1 a2 a3)=(qon a0 a1 a2 a3 c.f).map fun v=>(v,c):=rfl
 rw[h]
 unfold qoo
 rw[qaq]
 cases qon a0 a1 a2 a3 c.f<;>rfl
def qop (x:Arg)(f:Tr zA):Option zA:=match x.ev f with
  |.hs _ _ _ cap _ false=>some (.p (.int .i64 (.ofNat cap)))
  |.p .nil0=>some (.p (.int .i64 0))
  |_=>none
def qoq (a0:Arg)(_:Env)(c:Cfg):R:=qaC (qop a0 c.f) fun v=>some (v,c)
theorem qme (a0:Arg)(e:Env)(c:Cfg):qoq a0 e c=qag e c (.cap a0):=by
 have h:qag e c (.cap a0)=(qop a0 c.f).map fun v=>(v,c):=rfl
 rw[h]
 unfold qoq
 rw[qaq]
 cases qop a0 c.f<;>rfl
def qmf (off:Nat)(n:Option Nat)(x:Arg)(f:Tr zA):Option zA:=match x.ev f with
  |.agg cs=>(cut cs off (cnt n)).bind (zA.ofCells n)
  |_=>none
def qor (a0:Nat)(a1:Option Nat)(a2:Arg)(_:Env)(c:Cfg):R:=qaC (qmf a0 a1 a2 c.f) fun v=>some (v,c)
theorem qmg (a0:Nat)(a1:Option Nat)(a2:Arg)(e:Env)(c:Cfg):qor a0 a1 a2 e c=qag e c (.fld a0 a1 a2):=by
 have h:qag e c (.fld a0 a1 a2)=(qmf a0 a1 a2 c.f).map fun v=>(v,c):=rfl
 rw[h]
 unfold qor
 rw[qaq]
 cases qmf a0 a1 a2 c.f<;>rfl
def qkD (m:Nat)(n:Option Nat)(x:Arg)(i:Arg)(f:Tr zA):Option zA:=(qbi (i.ev f)).bind fun i=>cond (Nat.blt i m) (match x.ev f with
  |.agg cs=>(cut cs (i*cnt n) (cnt n)).bind (zA.ofCells n)
  |_=>none) none
def qkE (a0:Nat)(a1:Option Nat)(a2:Arg)(a3:Arg)(_:Env)(c:Cfg):R:=qaC (qkD a0 a1 a2 a3 c.f) fun v=>some (v,c)
theorem qkF (a0:Nat)(a1:Option Nat)(a2:Arg)(a3:Arg)(e:Env)(c:Cfg):qkE a0 a1 a2 a3 e c=qag e c (.idxa a0 a1 a2 a3):=by
 have h:qag e c (.idxa a0 a1 a2 a3)=(qkD a0 a1 a2 a3 c.f).map fun v=>(v,c):=rfl
 rw[h]
 unfold qkE
 rw[qaq]
 cases qkD a0 a1 a2 a3 c.f<;>rfl
def qos (neg:Bool)(x:Arg)(f:Tr zA):Option zA:=match x.ev f with
  |.p .nilIface=>some (.p (.bool (!neg)))
  |.p (.iface ..)=>some (.p (.bool neg))
  |.iface .. =>some (.p (.bool neg))
  |_=>none
def qot (a0:Bool)(a1:Arg)(_:Env)(c:Cfg):R:=qaC (qos a0 a1 c.f) fun v=>some (v,c)
theorem qmh (a0:Bool)(a1:Arg)(e:Env)(c:Cfg):qot a0 a1 e c=qag e c (.eqn a0 a1):=by
 have h:qag e c (.eqn a0 a1)=(qos a0 a1 c.f).map fun v=>(v,c):=rfl
 rw[h]
 unfold qot
 rw[qaq]
 cases qos a0 a1 c.f<;>rfl
def qrf (sz:Nat)(d:Arg)(x:Arg)(e:Env)(c:Cfg):R:=(qjF e.E c.s sz (x.ev c.f)).bind fun(m,new)=>cond (Nat.beq new.length (m*sz)&&new.all qaF)
   (match d.ev c.f with
    |.hs l off n cap z op=>cond (Nat.beq z sz) (match qaD c.s.heap l with
     |some (.cells old)=>(over old off (qcy new (Nat.min m n*sz))).bind fun cs=>(qaI c.s.heap l (.cells cs)).map fun h=>(.p (.int .i64 (.ofNat (Nat.min m n))),{c with s:={c.s with heap:=h}})
     |_=>none) none
    |_=>none) none
def qrg (sz:Nat)(zs:List zA)(x:Arg)(e:Env)(c:Cfg):R:=match x.ev c.f with
  |.hs l off n cap z op=>cond (Nat.beq z sz&&zs.all qaF) (match qaD c.s.heap l with
   |some (.cells old)=>(over old off (zar n zs).flatten).bind fun cs=>(qaI c.s.heap l (.cells cs)).map fun h=>(qaf,{c with s:={c.s with heap:=h}})
   |_=>none) none
  |.p .nil0=>some (qaf,c)
  |_=>none
def qpR (sz:Nat)(bytes:Nat)(zs:List zA)(s:Arg)(x:Arg)(e:Env)(c:Cfg):R:=(qbi (x.ev c.f)).bind fun m=>match s.ev c.f with
  |.p .nil0=>cond (Nat.blt 0 m&&(Nat.ble (m*bytes) 140737488355328&&zs.all qaF)) (some (.hs c.s.next 0 m m sz true,{c with s:=qav c.s (.cells (zar m zs).flatten)})) none
  |_=>none
def qou (fn:Nat)(first:List Arg)(cap:List Arg)(f:Tr zA):Option zA:=match qdj (first.map (Arg.ev f)),qdj (cap.map (Arg.ev f)) with
  |some a,some b=>some (.p (.func fn a b))
  |_,_=>some (.func fn (first.map (Arg.ev f)) (cap.map (Arg.ev f)))
def qov (a0:Nat)(a1:List Arg)(a2:List Arg)(_:Env)(c:Cfg):R:=qaC (qou a0 a1 a2 c.f) fun v=>some (v,c)
theorem qmi (a0:Nat)(a1:List Arg)(a2:List Arg)(e:Env)(c:Cfg):qov a0 a1 a2 e c=qag e c (.mkf a0 a1 a2):=by
 have h:qag e c (.mkf a0 a1 a2)=(qou a0 a1 a2 c.f).map fun v=>(v,c):=rfl
 rw[h]
 unfold qov
 rw[qaq]
 cases qou a0 a1 a2 c.f<;>rfl
def qow (t:Nat)(x:Arg)(f:Tr zA):Option zA:=match zA.pureW (x.ev f) with
  |some c=>some (.p (.iface t c))
  |none=>cond (qjI (x.ev f)) (some (.iface t (x.ev f))) none
def qox (a0:Nat)(a1:Arg)(_:Env)(c:Cfg):R:=qaC (qow a0 a1 c.f) fun v=>some (v,c)
theorem qmj (a0:Nat)(a1:Arg)(e:Env)(c:Cfg):qox a0 a1 e c=qag e c (.mki a0 a1):=by
 have h:qag e c (.mki a0 a1)=(qow a0 a1 c.f).map fun v=>(v,c):=rfl
 rw[h]
 unfold qox
 rw[qaq]
 cases qow a0 a1 c.f<;>rfl
def qoy (t:Nat)(z:zA)(ok:Bool)(x:Arg)(f:Tr zA):Option zA:=match x.ev f with
  |.p .nilIface=>cond ok (some (.tuple [z,.p (.bool false)])) none
  |.p (.iface u c)=>cond (Nat.beq u t) (some (cond ok (.tuple [c.whole,.p (.bool true)]) c.whole)) (cond ok (some (.tuple [z,.p (.bool false)])) none)
  |.iface u v=>cond (Nat.beq u t) (some (cond ok (.tuple [v,.p (.bool true)]) v)) (cond ok (some (.tuple [z,.p (.bool false)])) none)
  |_=>none
def qoz (a0:Nat)(a1:zA)(a2:Bool)(a3:Arg)(_:Env)(c:Cfg):R:=qaC (qoy a0 a1 a2 a3 c.f) fun v=>some (v,c)
theorem qmk (a0:Nat)(a1:zA)(a2:Bool)(a3:Arg)(e:Env)(c:Cfg):qoz a0 a1 a2 a3 e c=qag e c (.tas a0 a1 a2 a3):=by
 have h:qag e c (.tas a0 a1 a2 a3)=(qoy a0 a1 a2 a3 c.f).map fun v=>(v,c):=rfl
 rw[h]
 unfold qoz
 rw[qaq]
 cases qoy a0 a1 a2 a3 c.f<;>rfl
def qpS (sz:Nat)(bytes:Nat)(m:Arg)(e:Env)(c:Cfg):R:=(qbi (m.ev c.f)).bind fun m=>cond (Nat.ble (m*bytes) 140737488355328)
   (some (.sl 0 [] (.own c.s.ntok),{c with s:={c.s with ntok:=c.s.ntok+1,toks:=(c.s.ntok,0,sz)::c.s.toks}})) none
def qrh (sz:Nat)(bytes:Nat)(zs:List zA)(m:Arg)(k:Arg)(e:Env)(c:Cfg):R:=(qbi (m.ev c.f)).bind fun m=>(qbi (k.ev c.f)).bind fun k=>cond (Nat.ble m k&&(Nat.ble (k*bytes) 140737488355328&&zs.all qaF))
   (some (.hs c.s.next 0 m k sz false,{c with s:=qav c.s (.cells (zar k zs).flatten)})) none
def qri (n:Nat)(sz:Nat)(zs:List zA)(ps:List (Nat×Option Nat×Arg))(e:Env)(c:Cfg):R:=(qbD zs c.f ps).bind fun cs=>cond (cs.all qaF) (some (.hs c.s.next 0 n n sz false,{c with s:=qav c.s (.cells cs)})) none
def qhS (sz:Nat)(x:Arg)(lo:Option Arg)(hi:Option Arg)(f:Tr zA):Option zA:=match x.ev f with
  |.hs l off n cap z p=>(qa1 0 f lo).bind fun a=>(qa1 n f hi).bind fun b=>
   cond (Nat.beq z sz&&(Nat.ble a b&&Nat.ble b cap)) (cond (Nat.blt a cap) (some (.hs l (off+a*sz) (b-a) (cap-a) z p)) (cond p (some (.p .emSl)) (some (.hs l off 0 0 z false)))) none
  |.row n cs=>(qa1 0 f lo).bind fun a=>(qa1 n f hi).bind fun b=>
   cond (Nat.ble a b&&(Nat.ble b n&&Nat.ble (b*sz) cs.length)) (some (.row (b-a) (qcy (qdi cs (a*sz)) ((b-a)*sz)))) none
  |.p .nil0=>(qa1 0 f lo).bind fun a=>(qa1 0 f hi).bind fun b=>cond (Nat.beq a 0&&Nat.beq b 0) (some (.p .nil0)) none
  |v=>(qcz v).bind fun(n,cs)=>(qa1 0 f lo).bind fun a=>(qa1 n f hi).bind fun b=>
   cond (Nat.ble a b&&(Nat.ble b n&&Nat.ble (b*sz) cs.length)) (some (.p (.sl (b-a) (qcy (qdi cs (a*sz)) ((b-a)*sz))))) none
def qhT (a0:Nat)(a1:Arg)(a2:Option Arg)(a3:Option Arg)(_:Env)(c:Cfg):R:=qaC (qhS a0 a1 a2 a3 c.f) fun v=>some (v,c)
theorem qju (a0:Nat)(a1:Arg)(a2:Option Arg)(a3:Option Arg)(e:Env)(c:Cfg):qhT a0 a1 a2 a3 e c=qag e c (.slice a0 a1 a2 a3):=by
 have h:qag e c (.slice a0 a1 a2 a3)=(qhS a0 a1 a2 a3 c.f).map fun v=>(v,c):=rfl
 rw[h]
 unfold qhT
 rw[qaq]
 cases qhS a0 a1 a2 a3 c.f<;>rfl
def qhf (x:Arg)(lo:Option Arg)(hi:Option Arg)(f:Tr zA):Option zA:=match x.ev f with
  |.p (.str s)=>(qa1 0 f lo).bind fun a=>(qa1 (qaM s) f hi).bind fun b=>
   cond (Nat.ble a b&&Nat.ble b (qaM s)) (some (.p (.str ⟨(qcy (qdi s.data.toList a) (b-a)).toArray⟩))) none
  |_=>none
def qkG (a0:Arg)(a1:Option Arg)(a2:Option Arg)(_:Env)(c:Cfg):R:=qaC (qhf a0 a1 a2 c.f) fun v=>some (v,c)
theorem qkH (a0:Arg)(a1:Option Arg)(a2:Option Arg)(e:Env)(c:Cfg):qkG a0 a1 a2 e c=qag e c (.sstr a0 a1 a2):=by
 have h:qag e c (.sstr a0 a1 a2)=(qhf a0 a1 a2 c.f).map fun v=>(v,c):=rfl
 rw[h]
 unfold qkG
 rw[qaq]
 cases qhf a0 a1 a2 c.f<;>rfl
def qqX (sz:Nat)(x:Arg)(i:Arg)(f:Tr zA):Option zA:=(qbi (i.ev f)).bind fun i=>match x.ev f with
  |.hs l off n _ z _=>cond (Nat.beq z sz&&Nat.blt i n) (some (.ptr l (off+i*sz))) none
  |.row n cs=>cond (Nat.blt i n) (some (.rel cs (i*sz))) none
  |v=>(qcz v).bind fun(n,cs)=>cond (Nat.blt i n) (some (.elem cs (i*sz))) none
def qrj (a0:Nat)(a1:Arg)(a2:Arg)(_:Env)(c:Cfg):R:=qaC (qqX a0 a1 a2 c.f) fun v=>some (v,c)
theorem qoA (a0:Nat)(a1:Arg)(a2:Arg)(e:Env)(c:Cfg):qrj a0 a1 a2 e c=qag e c (.ia a0 a1 a2):=by
 have h:qag e c (.ia a0 a1 a2)=(qqX a0 a1 a2 c.f).map fun v=>(v,c):=rfl
 rw[h]
 unfold qrj
 rw[qaq]
 cases qqX a0 a1 a2 c.f<;>rfl
def qml (x:Arg)(i:Arg)(f:Tr zA):Option zA:=(qbi (i.ev f)).bind fun i=>
  match x.ev f with
  |.p (.str s)=>(qdh s.data.toList i).map fun b=> .p (.int .u8 (.ofNat b.toNat))
  |_=>none
def qoB (a0:Arg)(a1:Arg)(_:Env)(c:Cfg):R:=qaC (qml a0 a1 c.f) fun v=>some (v,c)
theorem qmm (a0:Arg)(a1:Arg)(e:Env)(c:Cfg):qoB a0 a1 e c=qag e c (.idx a0 a1):=by
 have h:qag e c (.idx a0 a1)=(qml a0 a1 c.f).map fun v=>(v,c):=rfl
 rw[h]
 unfold qoB
 rw[qaq]
 cases qml a0 a1 c.f<;>rfl
def qmn (x:Arg)(i:Nat)(f:Tr zA):Option zA:=match x.ev f with
  |.tuple vs=>qdh vs i
  |_=>none
def qoC (a0:Arg)(a1:Nat)(_:Env)(c:Cfg):R:=qaC (qmn a0 a1 c.f) fun v=>some (v,c)
theorem qmo (a0:Arg)(a1:Nat)(e:Env)(c:Cfg):qoC a0 a1 e c=qag e c (.ext a0 a1):=by
 have h:qag e c (.ext a0 a1)=(qmn a0 a1 c.f).map fun v=>(v,c):=rfl
 rw[h]
 unfold qoC
 rw[qaq]
 cases qmn a0 a1 c.f<;>rfl
def qoD (f:Nat)(args:List Arg)(e:Env)(c:Cfg):R:=cond (e.pure f) ((e.call f (args.map (Arg.ev c.f)) c.s).map fun(r,_)=>(r,c)) none
def qrk (sz:Nat)(bytes:Nat)(s:Arg)(x:Arg)(e:Env)(c:Cfg):R:=(qcz (x.ev c.f)).bind fun(m,new)=>
  match s.ev c.f with
  |.sl n cs tk=>
   cond (Nat.ble ((n+m)*bytes) 140737488355328&&Nat.beq new.length (m*sz))
    (cond (Nat.beq m 0) (some (.sl n cs tk,c)) (match tk with
     |.full=>cond (Nat.beq cs.length (n*sz)) (some (.sl (n+m) (cs++new) (.own c.s.ntok),{c with s:={c.s with ntok:=c.s.ntok+1,toks:=(c.s.ntok,n+m,sz)::c.s.toks}})) none
     |.own t=>match qap c.s.toks t with
      |some (k,z)=>cond (Nat.beq k n&&Nat.beq z sz) ((qb3 c.s.toks t (n+m,sz)).map fun ts=>(.sl (n+m) (cs++new) (.own t),{c with s:={c.s with toks:=ts}})) none
      |none=>none)) none
  |_=>none
def qpT (sz:Nat)(bytes:Nat)(s:Arg)(x:Arg)(e:Env)(c:Cfg):R:=(qjF e.E c.s sz (x.ev c.f)).bind fun(m,new)=>cond (Nat.beq new.length (m*sz)&&new.all qaF)
   ((qqS c.s sz bytes (s.ev c.f) m new).map fun(v,s)=>(v,{c with s:=s})) none
def qmp (st:Bool)(x:Arg)(f:Tr zA):Option zA:=cond st (match x.ev f with
  |.p (.str s)=>some (.p (.int .i64 (.ofNat (qaM s))))
  |.sym _ _ n=>some (.p (.int .i64 (.ofNat n)))
  |_=>none) (match x.ev f with
  |.hs _ _ n .. =>some (.p (.int .i64 (.ofNat n)))
  |.row n _=>some (.p (.int .i64 (.ofNat n)))
  |v=>(qcz v).map fun r=> .p (.int .i64 (.ofNat r.1)))
def qoE (a0:Bool)(a1:Arg)(_:Env)(c:Cfg):R:=qaC (qmp a0 a1 c.f) fun v=>some (v,c)
theorem qmq (a0:Bool)(a1:Arg)(e:Env)(c:Cfg):qoE a0 a1 e c=qag e c (.len a0 a1):=by
 have h:qag e c (.len a0 a1)=(qmp a0 a1 c.f).map fun v=>(v,c):=rfl
 rw[h]
 unfold qoE
 rw[qaq]
 cases qmp a0 a1 c.f<;>rfl
def qgi (mx:Bool)(x:Arg)(y:Arg)(f:Tr zA):Option zA:=match x.ev f,y.ev f with
  |.p (.int k a),.p (.int _ b)=>some (.p (.int k (cond mx (cond (ilt a b) b a) (cond (ilt b a) b a))))
  |_,_=>none
def qgj (a0:Bool)(a1:Arg)(a2:Arg)(_:Env)(c:Cfg):R:=qaC (qgi a0 a1 a2 c.f) fun v=>some (v,c)
theorem qhU (a0:Bool)(a1:Arg)(a2:Arg)(e:Env)(c:Cfg):qgj a0 a1 a2 e c=qag e c (.minmax a0 a1 a2):=by
 have h:qag e c (.minmax a0 a1 a2)=(qgi a0 a1 a2 c.f).map fun v=>(v,c):=rfl
 rw[h]
 unfold qgj
 rw[qaq]
 cases qgi a0 a1 a2 c.f<;>rfl
def qoF (e:Env)(c:Cfg):R:=some (.map c.s.next,{c with s:=qav c.s (.map [])})
def qmr (kd:Nat)(ks:List Nat)(m:Arg)(k:Arg)(x:Arg)(e:Env)(c:Cfg):R:=(zA.pureW (k.ev c.f)).bind fun k=>match m.ev c.f with
  |.map l=>match qaD c.s.heap l with
   |some (.map es)=>cond (qc6 kd ks k&&qaR (x.ev c.f)) ((qib kd ks es k (x.ev c.f)).bind fun es=>(qaI c.s.heap l (.map es)).map fun h=>(qaf,{c with s:={c.s with heap:=h}})) none
   |_=>none
  |_=>none
def qpU (kd:Nat)(ks:List Nat)(z:zA)(ok:Bool)(m:Arg)(k:Arg)(e:Env)(c:Cfg):R:=(zA.pureW (k.ev c.f)).bind fun k=>(qgA e.E c.s (m.ev c.f)).bind fun es=>cond (qc6 kd ks k) ((findKey kd ks k es 0).map fun r=>
   match r with
   |some (_,x)=>(cond ok (.tuple [x,.p (.bool true)]) x,c)
   |none=>(cond ok (.tuple [z,.p (.bool false)]) z,c)) none
def qpV (kd:Nat)(ks:List Nat)(z:zA)(m:Arg)(k:Arg)(e:Env)(c:Cfg):R:=(zA.pureW (k.ev c.f)).bind fun k=>match m.ev c.f with
  |.map l=>match qaD c.s.heap l with
   |some (.map es)=>cond (qc6 kd ks k&&qaR z) ((findKey kd ks k es 0).bind fun r=>
    match r with
    |some (j,x)=>(qaI c.s.heap l (.map (qia es j (k,x)))).map fun h=>(.tuple [x,.p (.int .i64 (.ofNat j))],{c with s:={c.s with heap:=h}})
    |none=>(qaI c.s.heap l (.map (es++[(k,z)]))).map fun h=>(.tuple [z,.p (.int .i64 (.ofNat es.length))],{c with s:={c.s with heap:=h}})) none
   |_=>none
  |_=>none
def qpW (m:Arg)(j:Arg)(x:Arg)(e:Env)(c:Cfg):R:=(qbi (j.ev c.f)).bind fun j=>match m.ev c.f with
  |.map l=>match qaD c.s.heap l with
   |some (.map es)=>cond (qaR (x.ev c.f)) ((qdh es j).bind fun p=>(qaI c.s.heap l (.map (qia es j (p.1,x.ev c.f)))).map fun h=>(qaf,{c with s:={c.s with heap:=h}})) none
   |_=>none
  |_=>none
def qpX (m:Arg)(e:Env)(c:Cfg):R:=(qgA e.E c.s (m.ev c.f)).map fun es=>(.p (.int .i64 (.ofNat es.length)),c)
def qrl (m:Arg)(e:Env)(c:Cfg):R:=match m.ev c.f with
  |.map l=>match qaD c.s.heap l with
   |some (.map es)=>some (.ptr c.s.next 0,{c with s:=qav c.s (.iter l es.length es.length [])})
   |_=>none
  |_=>none
def qrm (x:Arg)(e:Env)(c:Cfg):R:=match x.ev c.f with
  |.ptr q 0=>match qaD c.s.heap q with
   |some (.iter l since last seen)=>match qaD c.s.heap l with
    |some (.map es)=>cond (seen.isEmpty||Nat.blt 0 last) (match qep seen es 0 with
     |[]=>some (.tuple [.p (.bool false)],c)
     |[(i,k,v)]=>cond (Nat.blt i since) ((qaI c.s.heap q (.iter l since es.length (seen++[i]))).map fun h=>(.tuple [.p (.bool true),k.whole,v],{c with s:={c.s with heap:=h}})) none
     |_=>none) none
    |_=>none
   |_=>none
  |_=>none
def qrn (x:Arg)(e:Env)(c:Cfg):R:=match x.ev c.f with
  |.ptr q 0=>match qaD c.s.heap q with
   |some (.iter l _ last seen)=>match qaD c.s.heap l with
    |some (.map es)=>cond (Nat.beq es.length last) (seen.getLast?.bind fun i=>(qdh es i).map fun(k,v)=>(.tuple [k.whole,v],c)) none
    |_=>none
   |_=>none
  |_=>none
def qro (g:Nat)(n:Nat)(sz:Nat)(i:Arg)(e:Env)(c:Cfg):R:=(qbi (i.ev c.f)).bind fun i=>cond (Nat.blt i n) (match e.E (PB+g) with
  |some (.cells cs)=>(qcY cs).map fun ps=>(.elem ps (i*sz),c)
  |_=>none) none
def qpY (_:Env)(c:Cfg):R:=some (.junk,c)
def qpZ (kd:Nat)(ks:List Nat)(_m:Arg)(k:Arg)(v:Arg)(_:Env)(c:Cfg):R:=(zA.pureW (k.ev c.f)).bind fun k=>cond (qc6 kd ks k&&qaR (v.ev c.f)) (some (qaf,c)) none
def qhg (o:Ins):Env->Cfg->R:=
 Ins.rec (motive:=fun _=>Env->Cfg->R) iMov qn2 qpP qkC qra ql0 qjs qpY qpZ qpQ (fun a0 a1 e c=>qag e c (.hbld a0 a1)) qhR qn6 qn8 qn3 qkz qoa qrb qoc qoe qof qoh qoi qok qom qrc qrd qre qoo qoq qor qkE qot qrf qrg qpR qov qox qoz qpS qrh qri qhT qkG iFa qrj qoB qoC qn4 qkB qoD qrk qpT qoE qgj qoF qmr qpU qpV qpW qpX qrl qrm qrn qro o
theorem qdA (o:Ins)(e:Env)(c:Cfg):qhg o e c=qag e c o:=by
 cases o
 case build a0 a1=>exact qjt a0 a1 e c
 case mks a0 a1 a2=>exact ql1 a0 a1 a2 e c
 case mkr a0 a1 a2=>exact ql2 a0 a1 a2 e c
 case nck a0=>exact ql3 a0 e c
 case eqv a0 a1 a2 a3=>exact ql4 a0 a1 a2 a3 e c
 case eqs a0 a1 a2 a3=>exact ql5 a0 a1 a2 a3 e c
 case not a0=>exact ql7 a0 e c
 case shf a0 a1 a2=>exact ql8 a0 a1 a2 e c
 case cvt a0 a1=>exact qma a0 a1 e c
 case i2s a0=>exact qmb a0 e c
 case s2s a0=>exact qmc a0 e c
 case iaA a0 a1 a2 a3=>exact qmd a0 a1 a2 a3 e c
 case cap a0=>exact qme a0 e c
 case fld a0 a1 a2=>exact qmg a0 a1 a2 e c
 case idxa a0 a1 a2 a3=>exact qkF a0 a1 a2 a3 e c
 case eqn a0 a1=>exact qmh a0 a1 e c
 case mkf a0 a1 a2=>exact qmi a0 a1 a2 e c
 case mki a0 a1=>exact qmj a0 a1 e c
 case tas a0 a1 a2 a3=>exact qmk a0 a1 a2 a3 e c
 case slice a0 a1 a2 a3=>exact qju a0 a1 a2 a3 e c
 case sstr a0 a1 a2=>exact qkH a0 a1 a2 e c
 case ia a0 a1 a2=>exact qoA a0 a1 a2 e c
 case idx a0 a1=>exact qmm a0 a1 e c
 case ext a0 a1=>exact qmo a0 a1 e c
 case len a0 a1=>exact qmq a0 a1 e c
 case minmax a0 a1 a2=>exact qhU a0 a1 a2 e c
 all_goals try rfl
 case mov x=>show some (evA x c.f,c)=_;rw[qcM];rfl
 case pick b x y=>
  show qn2 b x y e c=_
  unfold qn2
  simp only[qcM,qag,qah]
  split<;>simp_all
 case box i n x=>
  show qra i n x e c=_
  unfold qra
  simp only[qcM,qaq,qgf,qag]
 case load n a=>
  show qn3 n a e c=_
  unfold qn3
  simp only[qcM,qaq,qag,qhe]
  congr 1
  funext cs
  cases zA.ofCells n cs<;>rfl
 case store n a x=>
  show qkz n a x e c=_
  unfold qkz
  simp only[qcM,qaq,qag,qhP]
  congr 1
  funext cs
  cases qbr c (a.ev c.f) cs<;>rfl
 case bin o x y=>
  show qrb o x y e c=_
  unfold qrb
  simp only[qcM,qaq,qag,qah]
  cases qfg o (x.ev c.f) (y.ev c.f)<;>rfl
 case fa off x=>
  show faA off c (evA x c.f)=_
  rw[qcM]
  simp only[qag,qah]
  cases x.ev c.f<;>rfl
 case call f args=>
  show qn4 f args e c=_
  unfold qn4
  simp only[qkA,qaq,qag]
  cases e.call f (args.map (Arg.ev c.f)) c.s<;>rfl
 case callv f args=>
  show qkB f args e c=_
  unfold qkB
  simp only[qkA,qcM,qaq,qag]
  cases e.callv (f.ev c.f) (args.map (Arg.ev c.f)) c.s<;>rfl
def qqY (d:Option Nat)(v:zA)(c:Cfg):Cfg:=Option.rec (motive:=fun _=>Cfg) c (fun t=>{c with f:=qlY c.f t v}) d
theorem qkI (d:Option Nat)(v:zA)(c:Cfg):qqY d v c=c.put d v:=by
 cases d with
 |none=>rfl
 |some t=>show({c with f:=qlY c.f t v}:Cfg)=_;rw[qgf];rfl
def goF (o:COp)(e:Env)(c:Cfg):Option Cfg:=qaC (qhg o.op e c) fun r=>some (qqY o.dst r.1 r.2)
def qjv (e:Env)(c:Cfg)(o:COp):Option Cfg:=Option.rec (motive:=fun _=>Option Cfg) (goF o e c) (fun _=>qaC (wanted c.f o.guard) fun b=>bF b (goF o e c) (some (qqY o.dst qaf c))) o.guard
theorem qiQ (e:Env)(c:Cfg)(o:COp):qjv e c o=qht e c o:=by
 have hg:goF o e c=(qag e c o.op).map fun(v,c)=>c.put o.dst v:=by
  unfold goF
  rw[qaq,qdA]
  cases qag e c o.op with
  |none=>rfl
  |some r=>simp[qkI]
 unfold qjv qht
 cases h:o.guard with
 |none=>
  show goF o e c=_
  rw[hg]
  rfl
 |some g=>
  show qaC (wanted c.f (some g)) (fun b=>bF b (goF o e c) (some (qqY o.dst qaf c)))=_
  rw[qaq,hg,qkI]
  congr 1
  funext b
  cases b<;>rfl
def qiR (e:Env)(l:List COp):Cfg->Option Cfg:=List.rec (motive:=fun _=>Cfg->Option Cfg) (fun c=>some c) (fun o _ ih c=>qaC (qjv e c o) ih) l
theorem qkJ (e:Env)(l:List COp):∀c,qiR e l c=qdn e l c:=by
 induction l with
 |nil=>intro c;rfl
 |cons o l ih=>
  intro c
  show qaC (qjv e c o) (qiR e l)=_
  rw[qaq,qiQ,qdn]
  congr 1
  funext c
  exact ih c
def qgk (e:Env)(l:List COp):Cfg->Option (List Cfg):=List.rec (motive:=fun _=>Cfg->Option (List Cfg)) (fun c=>some [c]) (fun o _ ih c=>qaC (qjv e c o) fun c'=>qaC (ih c') fun t=>some (c::t)) l
theorem qhV (e:Env)(l:List COp):∀c,qgk e l c=qbb e l c:=by
 induction l with
 |nil=>intro c;rfl
 |cons o l ih=>
  intro c
  show qaC (qjv e c o) (fun c'=>qaC (qgk e l c') fun t=>some (c::t))=_
  rw[qaq,qiQ,qbb]
  congr 1
  funext c'
  rw[qaq,ih]
  cases qbb e l c'<;>rfl
abbrev RC:=Option (EX×Cfg)
def cReg (ops:List COp)(e:Env)(_:Nat)(c:Cfg):RC:=qaC (qiR e ops c) fun c=>some (.normal,c)
def qoG (pre hpre:List (Nat×List zA))(ops:List COp)(chk:List Chk)(e:Env)(_:Nat)(c:Cfg):RC:=
 match preH c.s hpre with
  |(s,h)=>qaC (qgk e ops {c with l:=preL c.l pre,h:=h,s:=s}) fun tr=>
   match qbq c tr with
   |last=>cond (chk.all (qfh e tr last)) (some (.normal,last)) none
def cSeq (_ _:CC)(a b:Env->Nat->Cfg->RC)(e:Env)(n:Nat)(c:Cfg):RC:=qaC (a e n c) fun r=>xF r.1 (b e n r.2) (fun i=>some (.exit i,r.2)) (some (.ret,r.2))
def qoH (v:zA)(a b:RC):RC:=match v with
  |.p (.bool t)=>bF t a b
  |_=>none
def qrp (x:Arg)(_ _:CC)(a b:Env->Nat->Cfg->RC)(e:Env)(n:Nat)(c:Cfg):RC:=qoH (evA x c.f) (a e n c) (b e n c)
def qp0 (id:Nat)(_:CC)(a:Env->Nat->Cfg->RC)(e:Env)(n:Nat)(c:Cfg):RC:=qaC (a e n c) fun r=>some (xF r.1 .normal (fun i=>bF (Nat.beq i id) .normal (.exit i)) .ret,r.2)
def qrq (_:CC)(a:Env->Nat->Cfg->RC)(e:Env)(n:Nat)(c:Cfg):RC:=
 Nat.rec (motive:=fun _=>Cfg->RC) (fun _=>none) (fun _ ih c=>qaC (a e n c) fun r=>xF r.1 (ih r.2) (fun i=>some (.exit i,r.2)) (some (.ret,r.2))) n c
def qrr (als:List Nat)(ins:List (Arg×Arg))(_:CC)(b:Env->Nat->Cfg->RC)(e:Env)(n:Nat)(c:Cfg):RC:=qaC (b e n {c with s:=qav c.s (.map [])}) fun r=>(qic c.s.next als ins r.2).map fun c'=>(r.1,c')
def qe1 (cc:CC):Env->Nat->Cfg->RC:=
 CC.rec (motive:=fun _=>Env->Nat->Cfg->RC) (fun _ _ c=>some (.normal,c)) cReg qoG qrr cSeq qrp qp0 qrq (fun f ps a b _ _ e n c=>qaY e n (.rangeFunc f ps a b) c) (fun i _ _ c=>some (.exit i,c)) (fun _ _ c=>some (.ret,c)) (fun _ _ _=>none) cc
theorem qiS (cc:CC)(e:Env)(n:Nat):∀c,qe1 cc e n c=qaY e n cc c:=by
 induction cc with
 |skip=>intro c;rfl
 |reg ops=>
  intro c
  show qaC (qiR e ops c) (fun c=>some (EX.normal,c))=_
  rw[qaq,qkJ,qaY]
  cases qdn e ops c<;>rfl
 |regd pre hpre ops chk=>
  intro c
  show qoG pre hpre ops chk e n c=_
  unfold qoG
  simp only[qaq,qhV,qaY]
 |regl als ins body ih=>
  intro c
  show qaC (qe1 body e n {c with s:=qav c.s (.map [])}) (fun r=>(qic c.s.next als ins r.2).map fun c'=>(r.1,c'))=_
  rw[qaq,ih,qaY]
 |seq a b iha ihb=>
  intro c
  show qaC (qe1 a e n c) (fun r=>xF r.1 (qe1 b e n r.2) (fun i=>some (EX.exit i,r.2)) (some (EX.ret,r.2)))=_
  rw[qaq,iha,qaY]
  congr 1
  funext r
  obtain⟨x,c'⟩:=r
  cases x with
  |normal=>exact ihb c'
  |exit i=>rfl
  |ret=>rfl
 |cond x a b iha ihb=>
  intro c
  show qoH (evA x c.f) (qe1 a e n c) (qe1 b e n c)=_
  rw[qcM,iha,ihb,qaY]
  unfold qoH
  cases x.ev c.f with
  |p v=>cases v with
   |bool t=>cases t<;>rfl
   |_=>rfl
  |_=>rfl
 |block id a iha=>
  intro c
  show qaC (qe1 a e n c) (fun r=>some (xF r.1 EX.normal (fun i=>bF (Nat.beq i id) EX.normal (EX.exit i)) EX.ret,r.2))=_
  rw[qaq,iha,qaY]
  cases qaY e n a c with
  |none=>rfl
  |some r=>
   obtain⟨x,c'⟩:=r
   cases x with
   |normal=>rfl
   |exit i=>
    show some (bF (Nat.beq i id) EX.normal (EX.exit i),c')=some (cond (Nat.beq i id) EX.normal (EX.exit i),c')
    cases Nat.beq i id<;>rfl
   |ret=>rfl
 |loop a iha=>
  intro c
  rw[qaY]
  have:∀k c,Nat.rec (motive:=fun _=>Cfg->RC) (fun _=>none) (fun _ ih c=>qaC (qe1 a e n c) fun r=>xF r.1 (ih r.2) (fun i=>some (.exit i,r.2)) (some (.ret,r.2))) k c=qfN k (qaY e n a) c:=by
   intro k
   induction k with
   |zero=>intro c;rfl
   |succ k ih=>
    intro c
    show qaC (qe1 a e n c) _=(qaY e n a c).bind _
    rw[qaq,iha]
    congr 1
    funext r
    obtain⟨x,c'⟩:=r
    cases x with
    |normal=>exact ih c'
    |exit i=>rfl
    |ret=>rfl
  exact this n c
 |rangeFunc f ps a b _ _=>intro c;rfl
 |exit i=>intro c;rfl
 |ret=>intro c;rfl
 |bad=>intro c;rfl
def qoI (e:Env)(n:Nat)(cf:CF)(args:List zA)(s:ASt):Option zA:=
 qaC (qe1 cf.body e n ⟨qei args (mkF qaf cf.depth) 0,mkF (0,[]) cf.ldepth,[],none,{s with heap:=qjb,toks:=[]}⟩) fun r=>qfO e cf r
theorem qms:qoI=qmX:=by
 funext e n cf args s
 unfold qoI qmX
 rw[qaq,qiS,qe0,qky,qky]
def aGo (env:Rom->Env)(n:Nat)(E:Rom)(args:List zA)(s:ASt)(cf:CF):Option (zA×ASt):=
 bF cf.pure
  (qaC (qoI (env (qlk s.heap E)) n cf args s) fun v=>bF (plain s.next (qca v)) (some (qca v,s)) none)
  (qaC (qe1 cf.body (env E) n ⟨qei args (mkF qaf cf.depth) 0,mkF (0,[]) cf.ldepth,[],none,s⟩) fun r=>
   qaC (qfO (env E) cf r) fun v=>match cond cf.keepR v (qca v) with
    |v=>bF (qjK v) (some (v,r.2.s)) none)
def qhW (CP:Nat->Option CF)(env:Rom->Env)(n:Nat)(E:Rom)(f:Nat)(args:List zA)(s:ASt):Option (zA×ASt):=
 qaC (CP f) fun cf=>bF (Nat.beq args.length cf.np&&args.all qaR)
  (bF (cf.clone&&qfu (args.map qca)) (qer CP env n E f args s) (aGo env n E (cond cf.keepA args (args.map qca)) s cf)) none
theorem qdB {α:Type}(b:Bool)(x y:α):bF b x y=cond b x y:=by cases b<;>rfl
theorem qjw:qhW=qer:=by
 funext CP env n E f args s
 unfold qhW qer
 rw[qaq]
 cases h:CP f with
 |none=>rfl
 |some cf=>
  simp only[zap,qdB]
  cases Nat.beq args.length cf.np&&args.all qaR with
  |false=>rfl
  |true=>
   simp only[cond_true]
   cases h2:cf.clone&&qfu (args.map qca) with
   |true=>
    simp only[cond_true]
   |false=>
    simp only[cond_false]
    unfold aGo
    simp only[qdB,qaq,qms,qiS,qe0,qky]
def qhh (CP:Nat->Option CF)(sp:Sp)(env:Rom->Env)(n:Nat)(E:Rom)(f:Nat)(args:List zA)(s:ASt):Option (zA×ASt):=
 Option.rec (motive:=fun _=>Option (zA×ASt)) (qhW CP env n E f args s) (fun r=>some r) (sp (env E) f args s)
theorem qhi:qhh=qgC:=by
 funext CP sp env n E f args s
 unfold qhh qgC
 rw[qjw]
 cases sp (env E) f args s<;>rfl
def qiT (CP:Nat->Option CF)(sp:Sp)(env:Rom->Env)(n:Nat)(E:Rom)(f:Nat)(args:List zA)(s:ASt):Option (zA×ASt):=
 Option.rec (motive:=fun _=>Option (zA×ASt)) none (fun _=>qhh CP sp env n E f args s) (CP f)
theorem qkK:qiT=qgD:=by
 funext CP sp env n E f args s
 unfold qiT qgD
 rw[qhi]
 cases CP f<;>rfl
def qd2 (CP:Nat->Option CF)(sp:Sp)(n:Nat):Rom->Env:=
 Nat.rec (fun E=>{E:=E,pure:=qa6 CP,call:=fun _ _ _=>none,callv:=fun _ _ _=>none})
  (fun n env E=>{E:=E,pure:=qa6 CP,call:=qhh CP sp env n E,callv:=qdZ (qiT CP sp env n E) env n E}) n
theorem qe2 (CP:Nat->Option CF)(sp:Sp)(n:Nat):qd2 CP sp n=qbQ CP sp n:=by
 induction n with
 |zero=>rfl
 |succ n ih=>
  funext E
  show({E:=E,pure:=qa6 CP,call:=qhh CP sp (qd2 CP sp n) n E,callv:=qdZ (qiT CP sp (qd2 CP sp n) n E) (qd2 CP sp n) n E}:Env)=_
  rw[ih,qhi,qkK]
  rfl
end
end Go.AI
namespace Go.AI
open Go.Proofs
variable {P:Program} {E:Rom} {U pd:Nat->Option (List zA)} {l:Tr (Nat×List zA)} {s:ASt} {G:Gh} {w w':World}
def qmt:zP->Bool
 |.bool _=>true
 |.int .. =>true
 |.str _=>true
 |_=>false
theorem PR.lit {S S':Nat->Nat->Prop}{c:zP}{v:Value}(hl:qmt c=true)(h:PR S w c v):PR S' w' c v:=by
 cases h<;>first|(cases hl;done)|constructor
def Gh.still (G:Gh):Gh:={own:=(G.fix 0).own,bOf:=fun _=>none,lam:=fun _ _=>none,nt:=0,lo:=0}
def qe3 (k:Nat)(ps:List zP):Rom:=fun i=>cond (Nat.beq i k) (some (.cells (ps.map .p))) none
theorem qmu (h:MR P E U pd l s G w){g:Nat}{ps:List zP}{cs:List zA}(hE:E (PB+g)=some (.cells cs))(hcs:qcY cs=some ps)(hlit:ps.all qmt=true):
  MR P (qe3 (PB+g) ps) (fun _=>none) (fun _=>none) .nil s00 G.still w:=by
 refine⟨fun b hb=>h.own b (qhI (lo:=0) rfl hb),fun k b h=>(by cases h),zaf _,fun k zs h=>(by cases h),fun i zs h=>(by cases h),rfl,fun i g cs h hg _=>(by cases h;exact absurd rfl hg),fun i g b h=>(by cases h),fun k o h=>(by rw[show qaD s00.heap k=none from qd9 k] at h;cases h),?_,
  fun t n sz h=>(by cases h),fun b t n sz h=>(qda (lo:=0) h).elim,fun b b' t n n' sz sz' h=>(qda (lo:=0) h).elim⟩
 intro k o hk
 unfold qe3 at hk
 cases hb:Nat.beq k (PB+g) with
 |false=>rw[hb] at hk;cases hk
 |true=>
  rw[hb] at hk
  simp only[cond_true,zaa] at hk
  subst hk
  have:=beq_iff.1 hb
  subst this
  refine⟨fun h2=>absurd h2 (by omega),fun _=>?_⟩
  obtain⟨j,hown,cs',ecs,hj,_,c,T,fr,hfr,h3,h5⟩:=(h.ro _ _ hE).2 (Nat.le_add_right _ _)
  simp only[zH.cells.injEq] at ecs
  subst ecs
  obtain⟨hl,hpure⟩:=qcR hcs
  refine⟨j,?_,ps.map .p,rfl,by simp;omega,?_,c,T,fr,hfr,by simp;omega,fun i a v ha hv=>?_⟩
  ·show(G.fix 0).own _=_
   unfold Gh.fix
   simp only[hown]
  ·simp only[zaj]
   intro a ha
   obtain⟨p,_,rfl⟩:=zaS.1 ha
   rfl
  ·simp only[zav,zac] at ha
   obtain⟨p,hp,rfl⟩:=ha
   have hi:i<cs.length:=by rw[<-hl];exact(zah.1 hp).1
   have hv2:=h5 i _ v (zai hi) hv
   exact .p _ _ (PR.lit (zaj.1 hlit p (zaw hp)) (qcQ (hpure i _ p (zai hi) hp) hv2).1)
def qqZ (es:List (zP×zP)):List (zP×zA):=es.map fun x=>(x.1,.p x.2)
def qkL (fw g:Nat)(tbl:List zP)(es:List (zP×zP)):Sp:=fun e f args s=>cond (Nat.beq f fw) (match args with
 |[]=>match e.E (PB+g) with
  |some (.cells cs)=>match qcY cs with
   |some ps=>cond (qb4 ps tbl) (some (.map s.next,qav s (.map (qqZ es)))) none
   |none=>none
  |_=>none
 |_=>none) none
def isMap (es:List (zP×zP)):Option (zA×ASt)->Bool
 |some (.map l,s)=>match qaD s.heap l with
  |some (.map ds)=>match puresV ds with
   |some qs=>qb4 (es.flatMap fun x=>[x.1,x.2]) qs
   |none=>false
  |_=>false
 |_=>false
where puresV:List (zP×zA)->Option (List zP)
 |[]=>some []
 |(k,.p v)::r=>(puresV r).map fun t=>k::v::t
 |_=>none
theorem qhj:∀{ds:List (zP×zA)} {qs:List zP} {es:List (zP×zP)},isMap.puresV ds=some qs->(es.flatMap fun x=>[x.1,x.2])=qs->ds=qqZ es
 |[],qs,es,h,he=>by
  simp only[isMap.puresV,zaa] at h
  subst h
  match es,he with
  |[],_=>rfl
  |_::_,he=>simp at he
 |(k,.p v)::r,qs,es,h,he=>by
  simp only[isMap.puresV,zac] at h
  obtain⟨t,ht,rfl⟩:=h
  match es,he with
  |[],he=>simp at he
  |(a,b)::es2,hx=>
   simp only[List.flatMap_cons,List.cons_append,List.nil_append,List.cons.injEq] at hx
   obtain⟨ha,hb,hy⟩:=hx
   rw[qhj (es:=es2) ht hy,<-ha,<-hb]
   rfl
 |(k,.sl ..)::r,qs,es,h,he=>by simp[isMap.puresV] at h
 |(k,.lptr ..)::r,qs,es,h,he=>by simp[isMap.puresV] at h
 |(k,.ptr ..)::r,qs,es,h,he=>by simp[isMap.puresV] at h
 |(k,.elem ..)::r,qs,es,h,he=>by simp[isMap.puresV] at h
 |(k,.row ..)::r,qs,es,h,he=>by simp[isMap.puresV] at h
 |(k,.rel ..)::r,qs,es,h,he=>by simp[isMap.puresV] at h
 |(k,.func ..)::r,qs,es,h,he=>by simp[isMap.puresV] at h
 |(k,.yield ..)::r,qs,es,h,he=>by simp[isMap.puresV] at h
 |(k,.map ..)::r,qs,es,h,he=>by simp[isMap.puresV] at h
 |(k,.hs ..)::r,qs,es,h,he=>by simp[isMap.puresV] at h
 |(k,.iface ..)::r,qs,es,h,he=>by simp[isMap.puresV] at h
 |(k,.agg ..)::r,qs,es,h,he=>by simp[isMap.puresV] at h
 |(k,.tuple ..)::r,qs,es,h,he=>by simp[isMap.puresV] at h
 |(k,.sym ..)::r,qs,es,h,he=>by simp[isMap.puresV] at h
 |(k,.junk)::r,qs,es,h,he=>by simp[isMap.puresV] at h
def qm8 (CP:Nat->Option CF)(sp:Sp)(fw g:Nat)(tbl:List zP)(es:List (zP×zP)):Prop:=
 (∃n,isMap es ((qbQ CP sp n (qe3 (PB+g) tbl)).call fw [] s00)=true)/\tbl.all qmt=true/\es.all (fun x=>qmt x.1&&qmt x.2)=true/\qa6 CP fw=false
theorem qmv {CP:Nat->Option CF}{sp:Sp}(pk:ProgOK P CP)(sk:SpOK P CP sp){fw g:Nat}{tbl:List zP}{es:List (zP×zP)}(hr:qm8 CP sp fw g tbl es):SpOK P CP (qkL fw g tbl es) where
 ok:=fun {e} se {f args s v s'} h=>by
  obtain⟨⟨n,hrun⟩,hlit,hes,hpf⟩:=hr
  unfold qkL at h
  cases h1:Nat.beq f fw with
  |false=>rw[h1] at h;cases h
  |true=>
  rw[h1] at h
  simp only[cond_true] at h
  have ef:=beq_iff.1 h1
  subst ef
  split at h<;>try (cases h;done)
  split at h<;>try (cases h;done)
  rename_i cs hE
  split at h<;>try (cases h;done)
  rename_i ps hps
  obtain⟨hsm,h⟩:=qac h
  simp only[zaa,zad] at h
  obtain⟨rfl,rfl⟩:=h
  have:=qbc _ _ hsm
  subst this
  refine⟨fun h2=>(by rw[hpf] at h2;cases h2),fun {U pd l G w vs} mr ha=>?_⟩
  generalize hx:(qbQ CP sp n (qe3 (PB+g) ps)).call f [] s00=x at hrun
  unfold isMap at hrun
  split at hrun<;>try (cases hrun;done)
  rename_i q s1
  split at hrun<;>try (cases hrun;done)
  rename_i ds hds
  split at hrun<;>try (cases hrun;done)
  rename_i qs hqs
  have e1:=qhj hqs (qbc _ _ hrun)
  subst e1
  have mr0:=qmu mr hE hps hlit
  rw[<-qb0 CP sp n (qe3 (PB+g) ps)] at mr0
  have hvs:vs= #[]:=by
   have:=ha.1
   simp at this
   exact Array.eq_empty_of_size_eq_zero this.symm
  subst hvs
  refine((qiL pk sk n (qe3 (PB+g) ps)).call hx mr0 VRs.nil).mono fun u w' ⟨G',x1,mr',hv⟩=>?_
  have k:Keep w w':=⟨x1.size,x1.os,x1.tape,x1.output,fun b hb=>(x1.still b hb (qbY G 0 b)).1⟩
  cases hv with|map _ b hb=>
  rcases(mr'.heap q _ hds).2 with e|⟨b',h2,h3,h4⟩
  ·rw[hb] at e;cases e
  rw[hb] at h2
  cases h2
  obtain⟨⟨ents,g1,g2,g3⟩,g4⟩:=h4
  have hlt:b<w'.heap.size:=(zag.1 g1).1
  have hge:w.heap.size<=b:=by
   rcases Nat.lt_or_ge b w.heap.size with h5|h5
   ·have:=(x1.still b h5 (qbY G 0 b)).2
    rw[h3] at this
    have h6:=qbY G 0 b
    rw[show(G.fix 0).own b=.loc q from this.symm] at h6
    exact h6.elim
   ·exact h5
  have x':=mr.ext_addH k (q:=s.next) hge mr.bOf_next mr.lo_
  refine⟨_,x',mr.addH k hge hlt (o:=.map (qqZ es)) ⟨⟨ents,g1,g2,fun j kk y e he hen=>?_⟩,g4⟩,.map _ _ (by simp[Gh.addH,qas])⟩
  obtain⟨p1,p2,p3⟩:=g3 j kk y e he hen
  unfold qqZ at he
  rw[zav,zac] at he
  obtain⟨z,hz,he⟩:=he
  simp only[zad] at he
  obtain⟨rfl,rfl⟩:=he
  have hlz:=zaj.1 hes z (zaw hz)
  rw[zae] at hlz
  refine⟨PR.lit hlz.1 p1,?_,p3⟩
  cases p2 with|p _ _ hp=>
  exact .p _ _ (PR.lit hlz.2 hp)
noncomputable def ixB (c:Nat) (l:List UInt8):Int:=List.rec (motive:=fun _=>Int) (-1) (fun b _ ih=>bF (Nat.beq b.toNat c) 0 (match ih with|.ofNat n=> .ofNat (n+1)|.negSucc m=> .negSucc m)) l
theorem qm9 {c:Nat}(hc:c<256):∀(l:List UInt8),ixB c l=Lib.indexByte l c.toUInt8
 |[]=>rfl
 |b::r=>by
  have ih:=qm9 hc r
  show bF (Nat.beq b.toNat c) (0:Int) (match ixB c r with|.ofNat n=>Int.ofNat (n+1)|.negSucc m=>Int.negSucc m)=_
  unfold Lib.indexByte
  rw[qdB,ih]
  have hb:(b==c.toUInt8)=Nat.beq b.toNat c:=by
   rw[Bool.eq_iff_iff,beq_iff,beq_iff_eq,<-UInt8.toNat_inj]
   simp only[Nat.toUInt8,UInt8.toNat_ofNat']
   omega
  rw[hb]
  cases Nat.beq b.toNat c with
  |true=>rfl
  |false=>
   simp only[cond_false,zaB,if_false]
   have hge:=Lib.indexByte_ge r c.toUInt8
   generalize Lib.indexByte r c.toUInt8=z at hge
   cases z with
   |ofNat n=>
    have:((Int.ofNat n== -1)=false):=by simp
    rw[this]
    rfl
   |negSucc m=>
    have:m=0:=by omega
    subst this
    rfl
noncomputable def qoJ (fi:Nat):Sp:=fun e f args s=>cond (Nat.beq f fi) (match args with
 |[.p (.str a),.p (.int .u8 (.ofNat c))]=>cond (Nat.blt c 256) (some (.p (.int .i64 (ixB c a.data.toList)),s)) none
 |_=>none) none
def qp1 (P:Program)(fi:Nat):Prop:=∀(s:ByteArray) (c:Int) (w:World),(callFunc fi #[.string s,.int .u8 c]).run P w=.ok (.value (.int .i64 (Lib.indexByte s.data.toList c.toNat.toUInt8))) w
theorem qp2 {fi:Nat}{fn:Func}(hf:P.funcs[fi]? =some fn)(hname:(fn.name== "runtime.NumGoroutine")=false)(hb:fn.body.isNone=true)(hn:Extern.findNext fn=none)(he:Extern.find fn=some Extern.BytealgIndexByte.indexByte):qp1 P fi:=fun s c w=>by
 rw[run_callFunc_extern hf hname hb hn he,Lib.run_indexByteString]
 rfl
theorem qmw {CP:Nat->Option CF}{fi:Nat}(hi:qp1 P fi):SpOK P CP (qoJ fi) where
 ok:=fun {e} se {f args s v s'} h=>by
  unfold qoJ at h
  cases h1:Nat.beq f fi with
  |false=>rw[h1] at h;cases h
  |true=>
  rw[h1] at h
  simp only[cond_true] at h
  have ef:=beq_iff.1 h1
  subst ef
  split at h<;>try (cases h;done)
  rename_i a c
  obtain⟨hc,h⟩:=qac h
  simp only[zaa,zad] at h
  obtain⟨rfl,rfl⟩:=h
  refine⟨fun _=>rfl,fun {U pd l G w vs} mr ha=>?_⟩
  obtain⟨u1,u2,rfl,a1,a2⟩:=qnX (args:=[]) ha
  have e1:=a1.str_inv
  have e2:u2=.int .u8 (.ofNat c):=by
   cases a2 with|p _ _ hv=>
   cases hv
   rfl
  subst e1;subst e2
  rw[hi a (.ofNat c) w,qm9 (blt_iff.1 hc)]
  exact⟨G,Ext.refl G _,mr,.p _ _ (.int _ _)⟩
end Go.AI
namespace Go.AI
open Go.Proofs
variable {P:Program} {E:Rom} {U pd:Nat->Option (List zA)} {l:Tr (Nat×List zA)} {s:ASt} {G G':Gh} {w w':World}
theorem qdV {P:Program}{w:World}{a:Addr}{v z:Value}(h1:v.oneCell'=true)(hc:w.cell? a=some z)(hf:w.frozen? a=false):(storeCells a [v]).run P w=.ok () (w.setCell a v):=by
 simp only[storeCells,Sem.run_bind,Sem.run_pure]
 have hadd:a.add 0=a:=by unfold Addr.add;simp
 rw[hadd,run_store P w _ v _ h1,hc]
 simp[hf]
def tw3 (t0 t1 t2:TypeId)(w:World):World:=((w.alloc (.cells #[.pointer none] t0 (0,0))).alloc (.cells #[.int .i64 0] t1 (0,0))).alloc (.cells #[.bool false] t2 (0,0))
def qkM (P:Program)(ft:Nat)(t0 t1 t2:TypeId):Prop:=∀(rv:Value) (fn:Nat) (first cap:Array Value) (w:World) (Q:Value->World->Prop),
  (callFunc fn (first++cap)).run P (tw3 t0 t1 t2 w)=.ok (.enter fn (first++cap)) (tw3 t0 t1 t2 w)->
  Calls P fn (first++cap) (tw3 t0 t1 t2 w) (fun e w2=>∃v,e=.returned v/\Q v w2)->
  (∀v w2,Q v w2->v.oneCell'=true/\∀i,i<3->(∃z,w2.cell? ⟨w.heap.size+i,0,none⟩=some z)/\w2.frozen? ⟨w.heap.size+i,0,none⟩=false)->
  Calls P ft #[rv,.func (.func fn) first cap] w fun e w'=>∃v w2,Q v w2/\e=.returned (.tuple #[v,.int .i64 0,.bool true])/\w'=((w2.setCell ⟨w.heap.size,0,none⟩ v).setCell ⟨w.heap.size+1,0,none⟩ (.int .i64 0)).setCell ⟨w.heap.size+2,0,none⟩ (.bool true)
def qrQ (s:ASt):ASt:=qav (qav (qav s (.cells [.p .nilp])) (.cells [.p (.int .i64 0)])) (.cells [.p (.bool false)])
def qcO:Option zH->Bool
 |some (.cells [_])=>true
 |_=>false
def qoK (ft:Nat):Sp:=fun e f args s=>cond (Nat.beq f ft) (match args with
 |[_,fv]=>cond (qo3 fv) ((e.callv fv [] (qrQ s)).bind fun(v,s2)=>match v with
  |.ptr q o=>cond (qcO (qaD s2.heap s.next)&&(qcO (qaD s2.heap (s.next+1))&&qcO (qaD s2.heap (s.next+2)))) ((qaI s2.heap s.next (.cells [.ptr q o])).bind fun h1=>(qaI h1 (s.next+1) (.cells [.p (.int .i64 0)])).bind fun h2=>(qaI h2 (s.next+2) (.cells [.p (.bool true)])).map fun h3=>(.tuple [.ptr q o,.p (.int .i64 0),.p (.bool true)],{s2 with heap:=h3})) none
  |_=>none) none
 |_=>none) none
theorem qbP {o:Option zH}(h:qcO o=true):∃a,o=some (.cells [a]):=by
 unfold qcO at h
 split at h
 ·exact⟨_,rfl⟩
 ·cases h
theorem qo5 (h:MR P E U pd l s G w)(a:zA)(z:Value)(t:TypeId)(ha:qaF a=true)(hz:z.oneCell'=true)(hv:∀G w,VR G w a z):
  Ext G w (G.addH w.heap.size s.next) (w.alloc (.cells #[z] t (0,0)))/\MR P E U pd l (qav s (.cells [a])) (G.addH w.heap.size s.next) (w.alloc (.cells #[z] t (0,0))):=by
 have kp:=Keep.alloc w (.cells #[z] t (0,0))
 refine⟨h.ext_addH kp (b:=w.heap.size) (q:=s.next) (zaf _) h.bOf_next h.lo_,h.addH kp (zaf _) (qa9 w _) (o:=.cells [a]) ⟨⟨#[z],t,⟨(0,0),heap_alloc_new w _,Thaw.none _⟩,by simp,by simp[hz],fun j x v hx hv2=>?_⟩,by simp[ha]⟩⟩
 match j with
 |0=>simp at hx hv2;subst hx;subst hv2;exact hv _ _
 |j+1=>simp at hx
theorem qb2 (h:MR P E U pd l s G w){q b off:Nat}{cs:List zA}(hb:G.bOf q=some b)(hold:qaD s.heap q=some (.cells cs))(hc:off<cs.length):w.frozen? ⟨b,off,none⟩=false:=by
 rcases(h.heap q _ hold).2 with e|⟨b',g1,g2,g3,_⟩
 ·rw[hb] at e;cases e
 ·rw[hb] at g1
  cases g1
  obtain⟨c,T,⟨fr,h1,ht⟩,h2,_,h4⟩:=g3
  have:=ht off (by omega)
  simp[World.frozen?,h1]
  omega
theorem qmx {CP:Nat->Option CF}{ft t0 t1 t2:Nat}(hd:qkM P ft t0 t1 t2)(hen:∀args w,(callFunc ft args).run P w=.ok (.enter ft args) w)(p1:qa6 CP ft=false):SpOK P CP (qoK ft) where
 ok:=fun {e} se {f args s v s'} h=>by
  unfold qoK at h
  obtain⟨hf,h'⟩:=qac h
  clear h
  have ef:=beq_iff.1 hf
  subst ef
  refine⟨(fun hp=>by rw[p1] at hp;cases hp),fun {U pd l G w vs} mr ha=>?_⟩
  split at h'<;>try (cases h';done)
  rename_i rv fv
  obtain⟨hfn,h⟩:=qac h'
  clear h'
  simp only[zab] at h
  obtain⟨⟨r,s2⟩,hcall,h⟩:=h
  simp only at h
  split at h<;>try (cases h;done)
  rename_i q o
  obtain⟨hcs,h⟩:=qac h
  simp only[zae] at hcs
  obtain⟨⟨a0,c0⟩,⟨a1,c1⟩,⟨a2,c2⟩⟩:(∃a,_=_)/\(∃a,_=_)/\∃a,_=_:=⟨qbP hcs.1,qbP hcs.2.1,qbP hcs.2.2⟩
  simp only[zab,zac,zad] at h
  obtain⟨h1,hs1,h2,hs2,h3,hs3,rfl,rfl⟩:=h
  obtain⟨u1,u2,rfl,_,av⟩:=qnX (args:=[]) ha
  obtain⟨x0,m0⟩:=qo5 mr (.p .nilp) (.pointer none) t0 rfl rfl fun _ _=> .p _ _ .nilp
  obtain⟨x1,m1⟩:=qo5 m0 (.p (.int .i64 0)) (.int .i64 0) t1 rfl rfl fun _ _=> .p _ _ (.int _ _)
  obtain⟨x2,m2⟩:=qo5 m1 (.p (.bool false)) (.bool false) t2 rfl rfl fun _ _=> .p _ _ (.bool _)
  have X:=x0.trans (x1.trans x2)
  have hsz1:(w.alloc (.cells #[.pointer none] t0 (0,0))).heap.size=w.heap.size+1:=by simp
  have hsz2:((w.alloc (.cells #[.pointer none] t0 (0,0))).alloc (.cells #[.int .i64 0] t1 (0,0))).heap.size=w.heap.size+2:=by simp
  generalize hG0:G.addH w.heap.size s.next=G0 at*
  generalize hG1:G0.addH (w.alloc (.cells #[.pointer none] t0 (0,0))).heap.size (qav s (.cells [.p .nilp])).next=G1 at*
  generalize hG2:G1.addH ((w.alloc (.cells #[.pointer none] t0 (0,0))).alloc (.cells #[.int .i64 0] t1 (0,0))).heap.size (qav (qav s (.cells [.p .nilp])) (.cells [.p (.int .i64 0)])).next=G2 at*
  have b0:G2.bOf s.next=some w.heap.size:=x2.bOf _ _ (x1.bOf _ _ (by rw[<-hG0];simp[Gh.addH,qas]))
  have b1:G2.bOf (s.next+1)=some (w.heap.size+1):=x2.bOf _ _ (by rw[<-hG1];simp[Gh.addH,qas,qav])
  have b2:G2.bOf (s.next+2)=some (w.heap.size+2):=by rw[<-hG2];simp[Gh.addH,qas,qav]
  have av':=av.ext X
  obtain⟨fn,first,cap,rfl,hent⟩:=se.callf hcall hfn m2 av' (vs:= #[]) VRs.nil
  have hn:=se.callv hcall m2 av' (vs:= #[]) VRs.nil
  let Q:Value->World->Prop:=fun u w2=>qa8 P e.E U pd G2 (tw3 t0 t1 t2 w) l s2 (.ptr q o) u w2
  have hcf:Calls P fn (first++cap) (tw3 t0 t1 t2 w) fun e2 w2=>∃v,e2=.returned v/\Q v w2:=by
   have hent':(callFunc fn (first++ #[]++cap)).run P (tw3 t0 t1 t2 w)=.ok (.enter fn (first++ #[]++cap)) (tw3 t0 t1 t2 w):=hent
   have e1:(do let d <-Deferred.ofValue (.func (.func fn) first cap) #[];invoke d.target d.args:Sem Next).run P (tw3 t0 t1 t2 w)=(callFunc fn (first++ #[]++cap)).run P (tw3 t0 t1 t2 w):=by
    simp[Deferred.ofValue,invoke]
   have hn':NextP P (qa8 P e.E U pd G2 (tw3 t0 t1 t2 w) l s2 (.ptr q o)) ((do let d <-Deferred.ofValue (.func (.func fn) first cap) #[];invoke d.target d.args:Sem Next).run P (tw3 t0 t1 t2 w)):=hn
   rw[e1,hent'] at hn'
   have h2:=callsIn_wide.1 hn'
   rw[Array.append_empty] at h2
   exact h2.mono fun e2 w2 ⟨u,he,hu⟩=>⟨u,he,hu⟩
  have hent2:(callFunc fn (first++cap)).run P (tw3 t0 t1 t2 w)=.ok (.enter fn (first++cap)) (tw3 t0 t1 t2 w):=by
   have:=hent
   rw[Array.append_empty] at this
   exact this
  refine qaK (hen _ _) ((hd _ fn first cap w Q hent2 hcf fun u w2 hq=>?_).mono ?_)
  ·obtain⟨G3,x3,m3,hv⟩:=hq
   refine⟨by cases hv with|ptr=>rfl,fun i hi=>?_⟩
   match i,hi with
   |0,_=>exact⟨qbC m3 (x3.bOf _ _ b0) c0 (by simp),qb2 m3 (x3.bOf _ _ b0) c0 (by simp)⟩
   |1,_=>exact⟨qbC m3 (x3.bOf _ _ b1) c1 (by simp),qb2 m3 (x3.bOf _ _ b1) c1 (by simp)⟩
   |2,_=>exact⟨qbC m3 (x3.bOf _ _ b2) c2 (by simp),qb2 m3 (x3.bOf _ _ b2) c2 (by simp)⟩
  ·rintro e2 w' ⟨u,w2,hq,rfl,rfl⟩
   obtain⟨G3,x3,m3,hv⟩:=hq
   have hu1:u.oneCell'=true:=by cases hv with|ptr=>rfl
   obtain⟨x4,m4⟩:=qby (off:=0) m3 (x3.bOf _ _ b0) c0 (new:=[.ptr q o]) rfl rfl hv hu1 hs1
   have d1:qaD h1 (s.next+1)=some (.cells [a1]):=by rw[qa3 hs1,if_neg (by omega)];exact c1
   obtain⟨x5,m5⟩:=qby (off:=0) m4 (x3.bOf _ _ b1) d1 (new:=[.p (.int .i64 0)]) rfl rfl (VR.int (G:=G3) (w:=w2.setCell ⟨w.heap.size,0,none⟩ u) .i64 0) rfl hs2
   have d2:qaD h2 (s.next+2)=some (.cells [a2]):=by rw[qa3 hs2,if_neg (by omega)];rw[qa3 hs1,if_neg (by omega)];exact c2
   obtain⟨x6,m6⟩:=qby (off:=0) m5 (x3.bOf _ _ b2) d2 (new:=[.p (.bool true)]) rfl rfl (.p _ _ (.bool true)) rfl hs3
   have Y:=x4.trans (x5.trans x6)
   exact⟨_,rfl,G3,X.trans (x3.trans Y),m6,.tuple _ _ rfl fun i c v hc hv2=>by
    match i with
    |0=>cases hc;cases hv2;exact hv.ext Y
    |1=>cases hc;cases hv2;exact .p _ _ (.int _ _)
    |2=>cases hc;cases hv2;exact .p _ _ (.bool _)
    |i+3=>simp at hc⟩
end Go.AI
namespace Go.AI
open Go.Proofs
variable {P:Program} {E:Rom} {U pd:Nat->Option (List zA)} {l:Tr (Nat×List zA)} {s:ASt} {G G':Gh} {w w':World}
abbrev pan (T:TypeId)(n:Int):Ending:=.panicked [{v:=.iface T (.agg #[.int .i64 n]),recovered:=false}]
def qkN (P:Program)(ff fp:Nat)(T:TypeId):Prop:=∀(rv:Value) (w:World) (Q:Int->World->Prop),Calls P fp #[rv] w (fun e w'=>∃n,e=.returned (.int .i64 n)/\Q n w')->Calls P ff #[rv] w fun e w'=>∃n,e=pan T n/\Q n w'
def qkO (P:Program)(fn fm ff:Nat)(T:TypeId):Prop:=∀(rv:Value) (b:ByteArray) (w:World) (Q1:World->Prop) (Q:Int->World->Prop),Calls P fm #[rv,.string b] w (fun e w'=>e=.returned (.bool false)/\Q1 w')->
 (∀w',Q1 w'->Calls P ff #[rv] w' fun e w''=>∃n,e=pan T n/\Q n w'')->Calls P fn #[rv,.string b] w fun e w'=>∃n,e=pan T n/\Q n w'
def qhX:ByteArray:=⟨#[105,109,112,111,114,116]⟩
def qrs:ByteArray:=⟨#[100,101,102]⟩
def qgl:ByteArray:=⟨#[101,120,112,111,114,116]⟩
def qkP (P:Program)(fi fo fm fn:Nat)(T:TypeId)(k1 k2:Int):Prop:=∀(rv:Value) (w:World) (Q1 Q2 Q3:Nat->World->Prop) (Q:Int->World->Prop),
 Calls P fo #[rv,.int .u8 k1] w (fun e w1=>∃k,e=.returned (.pointer (some ⟨k,0,none⟩))/\Q1 k w1)->
 (∀k w1,Q1 k w1->Calls P fm #[rv,.string qhX] w1 fun e w2=>e=.returned (.bool false)/\Q2 k w2)->
 (∀k w2,Q2 k w2->(∃z,w2.cell? ⟨k,0,none⟩=some z)/\w2.frozen? ⟨k,0,none⟩=false/\Calls P fm #[rv,.string qrs] (w2.setCell ⟨k,0,none⟩ (.int .u8 k2)) fun e w3=>e=.returned (.bool false)/\Q3 k w3)->
 (∀k w3,Q3 k w3->Calls P fn #[rv,.string qgl] w3 fun e w4=>∃n,e=pan T n/\Q n w4)->
 Calls P fi #[rv] w fun e w'=>∃n,e=pan T n/\Q n w'
def qiU (P:Program)(ft:Nat)(t0 t1 t2 T:TypeId):Prop:=∀(rv:Value) (fn:Nat) (first cap:Array Value) (w:World) (Q:Int->World->Prop),
  (callFunc fn (first++cap)).run P (tw3 t0 t1 t2 w)=.ok (.enter fn (first++cap)) (tw3 t0 t1 t2 w)->
  Calls P fn (first++cap) (tw3 t0 t1 t2 w) (fun e w2=>∃n,e=pan T n/\Q n w2)->
  (∀n w2,Q n w2->∀i,i<3->(∃z,w2.cell? ⟨w.heap.size+i,0,none⟩=some z)/\w2.frozen? ⟨w.heap.size+i,0,none⟩=false)->
  Calls P ft #[rv,.func (.func fn) first cap] w fun e w'=>∃n w2,Q n w2/\e=.returned (.tuple #[.pointer none,.int .i64 n,.bool false])/\w'=((((w2.alloc (.cells #[.int .i64 n] T)).setCell ⟨w.heap.size,0,none⟩ (.pointer none)).setCell ⟨w.heap.size+1,0,none⟩ (.int .i64 n)).setCell ⟨w.heap.size+2,0,none⟩ (.bool false)).drew
def qhY (fo fm fp:Nat)(k1 k2:Nat)(e:Env)(r:zA)(s:ASt):Option (Int×ASt):=
 (e.call fo [r,.p (.int .u8 (.ofNat k1))] s).bind fun(k,s1)=>match k with
 |.ptr q 0=>(e.call fm [r,.p (.str qhX)] s1).bind fun(b,s2)=>match b with
  |.p (.bool false)=>match qaD s2.heap q with
   |some (.cells cs)=>(over cs 0 [.p (.int .u8 (.ofNat k2))]).bind fun cs'=>(qaI s2.heap q (.cells cs')).bind fun h3=>(e.call fm [r,.p (.str qrs)] {s2 with heap:=h3}).bind fun(b,s4)=>match b with
    |.p (.bool false)=>(e.call fm [r,.p (.str qgl)] s4).bind fun(b,s5)=>match b with
     |.p (.bool false)=>(e.call fp [r] s5).bind fun(n,s6)=>match n with
      |.p (.int .i64 n)=>some (n,s6)
      |_=>none
     |_=>none
    |_=>none
   |_=>none
  |_=>none
 |_=>none
def qkQ (ft fi fo fm fp k1 k2:Nat):Sp:=fun e f args s=>cond (Nat.beq f ft) (match args with
 |[_,fv]=>match fv with
  |.func f' [r] []=>cond (Nat.beq f' fi) ((qhY fo fm fp k1 k2 e r (qrQ s)).bind fun(n,s2)=>cond (qcO (qaD s2.heap s.next)&&(qcO (qaD s2.heap (s.next+1))&&qcO (qaD s2.heap (s.next+2)))) ((qaI s2.heap s.next (.cells [.p .nilp])).bind fun h1=>(qaI h1 (s.next+1) (.cells [.p (.int .i64 n)])).bind fun h2=>(qaI h2 (s.next+2) (.cells [.p (.bool false)])).map fun h3=>(.tuple [.p .nilp,.p (.int .i64 n),.p (.bool false)],{s2 with heap:=h3})) none) none
  |_=>none
 |_=>none) none
theorem qdC {e:Env}(se:SoundEnv P e){f:Nat}(hen:∀args w,(callFunc f args).run P w=.ok (.enter f args) w){args:List zA}{v:zA}{s':ASt}(h:e.call f args s=some (v,s'))(mr:MR P e.E U pd l s G w){vs:Array Value}(ha:VRs G w args vs.toList):
  Calls P f vs w fun e' w'=>∃u,e'=.returned u/\qa8 P e.E U pd G w l s' v u w':=by
 have:=se.call h mr ha
 rw[hen] at this
 exact callsIn_wide.1 this
theorem qjx {e:Env}(se:SoundEnv P e){fi fo fm fn ff fp k1 k2:Nat}{T:TypeId}(hf:qkN P ff fp T)(hn:qkO P fn fm ff T)(hi:qkP P fi fo fm fn T k1 k2)
  (eno:∀args w,(callFunc fo args).run P w=.ok (.enter fo args) w)(enm:∀args w,(callFunc fm args).run P w=.ok (.enter fm args) w)(enp:∀args w,(callFunc fp args).run P w=.ok (.enter fp args) w)
  {r:zA}{rv:Value}{n:Int}{s':ASt}(h:qhY fo fm fp k1 k2 e r s=some (n,s'))(mr:MR P e.E U pd l s G w)(hr:VR G w r rv):
  Calls P fi #[rv] w fun e' w'=>∃m,e'=pan T m/\m=n/\∃G',Ext G w G' w'/\MR P e.E U pd l s' G' w':=by
 unfold qhY at h
 simp only[zab] at h
 obtain⟨⟨v1,s1⟩,c1,h⟩:=h
 simp only at h
 split at h<;>try (cases h;done)
 rename_i q
 simp only[zab] at h
 obtain⟨⟨v2,s2⟩,c2,h⟩:=h
 simp only at h
 split at h<;>try (cases h;done)
 split at h<;>try (cases h;done)
 rename_i cs hq
 simp only[zab] at h
 obtain⟨cs',ho,h3,hs,⟨v4,s4⟩,c4,h⟩:=h
 simp only at h
 split at h<;>try (cases h;done)
 simp only[zab] at h
 obtain⟨⟨v5,s5⟩,c5,h⟩:=h
 simp only at h
 split at h<;>try (cases h;done)
 simp only[zab] at h
 obtain⟨⟨v6,s6⟩,c6,h⟩:=h
 simp only at h
 split at h<;>try (cases h;done)
 rename_i n6
 simp only[zaa,zad] at h
 obtain⟨e6,e7⟩:=h
 subst e6;subst e7
 have two:∀{G:Gh} {w:World} {b:ByteArray},VR G w r rv->VRs G w [r,.p (.str b)] (#[rv,Value.string b]:Array Value).toList:=fun h=> .cons h (.cons (.p _ _ (.str _)) .nil)
 refine(hi rv w (fun k w1=>qa8 P e.E U pd G w l s1 (.ptr q 0) (.pointer (some ⟨k,0,none⟩)) w1) (fun k w2=>qa8 P e.E U pd G w l s2 (.ptr q 0) (.pointer (some ⟨k,0,none⟩)) w2)
  (fun k w3=>qa8 P e.E U pd G w l s4 (.ptr q 0) (.pointer (some ⟨k,0,none⟩)) w3) (fun m w4=>m=n6/\∃G',Ext G w G' w4/\MR P e.E U pd l s6 G' w4) ?_ ?_ ?_ ?_)
 ·refine(qdC se eno c1 mr (vs:= #[rv,.int .u8 k1]) (.cons hr (.cons (.p _ _ (.int _ _)) .nil))).mono ?_
  rintro e1 w1 ⟨u,rfl,G1,x1,m1,hv⟩
  cases hv with|ptr _ _ b hb=>
  exact⟨b,rfl,G1,x1,m1,.ptr _ _ _ hb⟩
 ·rintro k w1 ⟨G1,x1,m1,hv⟩
  refine(qdC se enm c2 m1 (vs:= #[rv,.string qhX]) (two (hr.ext x1))).mono ?_
  rintro e2 w2 ⟨u,rfl,G2,x2,m2,hv2⟩
  exact⟨by rw[hv2.bool_inv],G2,x1.trans x2,m2,hv.ext x2⟩
 ·rintro k w2 ⟨G2,x2,m2,hv⟩
  cases hv with|ptr _ _ _ hb=>
  have hl:0<cs.length:=by
   cases cs with
   |nil=>cases ho
   |cons a r=>simp
  refine⟨qbC m2 hb hq hl,qb2 m2 hb hq hl,?_⟩
  obtain⟨x3,m3⟩:=qby (off:=0) m2 hb hq ho rfl (VR.int (G:=G2) (w:=w2) .u8 k2) rfl hs
  refine(qdC se enm c4 m3 (vs:= #[rv,.string qrs]) (two (hr.ext (x2.trans x3)))).mono ?_
  rintro e4 w4 ⟨u,rfl,G4,x4,m4,hv4⟩
  exact⟨by rw[hv4.bool_inv],G4,x2.trans (x3.trans x4),m4,.ptr _ _ _ (x4.bOf _ _ hb)⟩
 ·rintro k w4 ⟨G4,x4,m4,hv⟩
  refine hn rv qgl w4 (fun w5=>∃G',Ext G w G' w5/\MR P e.E U pd l s5 G' w5) _ ?_ ?_
  ·refine(qdC se enm c5 m4 (vs:= #[rv,.string qgl]) (two (hr.ext x4))).mono ?_
   rintro e5 w5 ⟨u,rfl,G5,x5,m5,hv5⟩
   exact⟨by rw[hv5.bool_inv],G5,x4.trans x5,m5⟩
  ·rintro w5 ⟨G5,x5,m5⟩
   refine hf rv w5 _ ?_
   refine(qdC se enp c6 m5 (vs:= #[rv]) (.cons (hr.ext x5) .nil)).mono ?_
   rintro e6 w6 ⟨u,rfl,G6,x6,m6,hv6⟩
   cases hv6 with|p _ _ hp=>
   cases hp
   exact⟨_,rfl,rfl,G6,x5.trans x6,m6⟩
theorem qkR {CP:Nat->Option CF}{ft fi fo fm fn ff fp k1 k2 t0 t1 t2 T:Nat}(hd:qiU P ft t0 t1 t2 T)(hen:∀args w,(callFunc ft args).run P w=.ok (.enter ft args) w)(p1:qa6 CP ft=false)(hf:qkN P ff fp T)(hn:qkO P fn fm ff T)(hi:qkP P fi fo fm fn T k1 k2)
  (eni:∀args w,(callFunc fi args).run P w=.ok (.enter fi args) w)(eno:∀args w,(callFunc fo args).run P w=.ok (.enter fo args) w)(enm:∀args w,(callFunc fm args).run P w=.ok (.enter fm args) w)(enp:∀args w,(callFunc fp args).run P w=.ok (.enter fp args) w):SpOK P CP (qkQ ft fi fo fm fp k1 k2) where
 ok:=fun {e} se {f args s v s'} h=>by
  unfold qkQ at h
  obtain⟨hf1,h'⟩:=qac h
  clear h
  have ef:=beq_iff.1 hf1
  subst ef
  refine⟨(fun hp=>by rw[p1] at hp;cases hp),fun {U pd l G w vs} mr ha=>?_⟩
  split at h'<;>try (cases h';done)
  rename_i rv0 fv
  split at h'<;>try (cases h';done)
  rename_i f' r
  obtain⟨hff,h⟩:=qac h'
  clear h'
  have ef2:=beq_iff.1 hff
  subst ef2
  simp only[zab] at h
  obtain⟨⟨n,s2⟩,hpan,h⟩:=h
  obtain⟨hcs,h⟩:=qac h
  simp only[zae] at hcs
  obtain⟨⟨a0,c0⟩,⟨a1,c1⟩,⟨a2,c2⟩⟩:(∃a,_=_)/\(∃a,_=_)/\∃a,_=_:=⟨qbP hcs.1,qbP hcs.2.1,qbP hcs.2.2⟩
  simp only[zab,zac,zad] at h
  obtain⟨h1,hs1,h2,hs2,h3,hs3,rfl,rfl⟩:=h
  obtain⟨u1,u2,rfl,_,av⟩:=qnX (args:=[]) ha
  cases av with|func _ _ _ fs cps hl hm hfs hcps=>
  have hcp:cps= #[]:=by
   simp at hm
   exact Array.eq_empty_of_size_eq_zero hm.symm
  subst hcp
  obtain⟨rv,rfl⟩:∃rv,fs= #[rv]:=by
   obtain⟨fl⟩:=fs
   match fl,hl with
   |[x],_=>exact⟨x,rfl⟩
  have hrv:VR G w r rv:=hfs 0 r rv rfl rfl
  obtain⟨x0,m0⟩:=qo5 mr (.p .nilp) (.pointer none) t0 rfl rfl fun _ _=> .p _ _ .nilp
  obtain⟨x1,m1⟩:=qo5 m0 (.p (.int .i64 0)) (.int .i64 0) t1 rfl rfl fun _ _=> .p _ _ (.int _ _)
  obtain⟨x2,m2⟩:=qo5 m1 (.p (.bool false)) (.bool false) t2 rfl rfl fun _ _=> .p _ _ (.bool _)
  have X:=x0.trans (x1.trans x2)
  have hsz1:(w.alloc (.cells #[.pointer none] t0 (0,0))).heap.size=w.heap.size+1:=by simp
  have hsz2:((w.alloc (.cells #[.pointer none] t0 (0,0))).alloc (.cells #[.int .i64 0] t1 (0,0))).heap.size=w.heap.size+2:=by simp
  generalize hG0:G.addH w.heap.size s.next=G0 at*
  generalize hG1:G0.addH (w.alloc (.cells #[.pointer none] t0 (0,0))).heap.size (qav s (.cells [.p .nilp])).next=G1 at*
  generalize hG2:G1.addH ((w.alloc (.cells #[.pointer none] t0 (0,0))).alloc (.cells #[.int .i64 0] t1 (0,0))).heap.size (qav (qav s (.cells [.p .nilp])) (.cells [.p (.int .i64 0)])).next=G2 at*
  have b0:G2.bOf s.next=some w.heap.size:=x2.bOf _ _ (x1.bOf _ _ (by rw[<-hG0];simp[Gh.addH,qas]))
  have b1:G2.bOf (s.next+1)=some (w.heap.size+1):=x2.bOf _ _ (by rw[<-hG1];simp[Gh.addH,qas,qav])
  have b2:G2.bOf (s.next+2)=some (w.heap.size+2):=by rw[<-hG2];simp[Gh.addH,qas,qav]
  have hcf:=qjx se hf hn hi eno enm enp hpan m2 (hrv.ext X)
  have hent2:(callFunc f' (#[rv]++ #[])).run P (tw3 t0 t1 t2 w)=.ok (.enter f' (#[rv]++ #[])) (tw3 t0 t1 t2 w):=eni _ _
  refine qaK (hen _ _) ((hd _ f' #[rv] #[] w (fun m w2=>m=n/\∃G',Ext G2 (tw3 t0 t1 t2 w) G' w2/\MR P e.E U pd l s2 G' w2) hent2 hcf fun m w2 hq=>?_).mono ?_)
  ·obtain⟨_,G3,x3,m3⟩:=hq
   refine fun i hi=>?_
   match i,hi with
   |0,_=>exact⟨qbC m3 (x3.bOf _ _ b0) c0 (by simp),qb2 m3 (x3.bOf _ _ b0) c0 (by simp)⟩
   |1,_=>exact⟨qbC m3 (x3.bOf _ _ b1) c1 (by simp),qb2 m3 (x3.bOf _ _ b1) c1 (by simp)⟩
   |2,_=>exact⟨qbC m3 (x3.bOf _ _ b2) c2 (by simp),qb2 m3 (x3.bOf _ _ b2) c2 (by simp)⟩
  ·rintro e2 w' ⟨m,w2,hq,rfl,rfl⟩
   obtain⟨rfl,G3,x3,m3⟩:=hq
   have ka:=Keep.alloc w2 (.cells #[.int .i64 m] T)
   have m3:=m3.keep ka
   have x3:=x3.trans (ka.ext G3)
   obtain⟨x4,m4⟩:=qby (off:=0) m3 (x3.bOf _ _ b0) c0 (new:=[.p .nilp]) rfl rfl (.p _ _ .nilp) rfl hs1
   have d1:qaD h1 (s.next+1)=some (.cells [a1]):=by rw[qa3 hs1,if_neg (by omega)];exact c1
   obtain⟨x5,m5⟩:=qby (off:=0) m4 (x3.bOf _ _ b1) d1 (new:=[.p (.int .i64 m)]) rfl rfl (.p _ _ (.int _ _)) rfl hs2
   have d2:qaD h2 (s.next+2)=some (.cells [a2]):=by rw[qa3 hs2,if_neg (by omega)];rw[qa3 hs1,if_neg (by omega)];exact c2
   obtain⟨x6,m6⟩:=qby (off:=0) m5 (x3.bOf _ _ b2) d2 (new:=[.p (.bool false)]) rfl rfl (.p _ _ (.bool false)) rfl hs3
   have kd:=Keep.drew ((((w2.alloc (.cells #[.int .i64 m] T)).setCell ⟨w.heap.size,0,none⟩ (.pointer none)).setCell ⟨w.heap.size+1,0,none⟩ (.int .i64 m)).setCell ⟨w.heap.size+2,0,none⟩ (.bool false))
   have Y:=x4.trans (x5.trans (x6.trans (kd.ext G3)))
   exact⟨_,rfl,G3,X.trans (x3.trans Y),m6.keep kd,.tuple _ _ rfl fun i c v hc hv2=>by
    match i with
    |0=>cases hc;cases hv2;exact .p _ _ .nilp
    |1=>cases hc;cases hv2;exact .p _ _ (.int _ _)
    |2=>cases hc;cases hv2;exact .p _ _ (.bool _)
    |i+3=>simp at hc⟩
end Go.AI
namespace Go.AI
variable {P:Program}
noncomputable def qrt (P:Program) (t:Tr (Option Flag)) (n:Nat):Option CF:=
 (t.get none n).bind fun fl=>(P.funcs[n]?).bind fun fn=>cond (fn.name== "runtime.NumGoroutine") none (qje P fl fn)
theorem qoL {t:Tr (Option Flag)}(h:P.follows .mixedOrders=true):ProgOK P (qrt P t):=
 ⟨h,fun f cf hf=>by
  unfold qrt at hf
  obtain⟨fl,_,hf⟩:=zab.1 hf
  obtain⟨fn,h2,hf⟩:=zab.1 hf
  cases h3:fn.name== "runtime.NumGoroutine" with
  |true=>rw[h3,cond_true] at hf;cases hf
  |false=>rw[h3,cond_false] at hf;exact⟨fn,fl,h2,hf,h3⟩⟩
end Go.AI
namespace Go.AI
variable {P:Program}
def Good (P:Program)(f:Nat)(c:Option CF):Prop:=∀cf,c=some cf->∃fn fl,P.funcs[f]? =some fn/\qje P fl fn=some cf/\(fn.name== "runtime.NumGoroutine")=false
theorem Good.none (P:Program)(f:Nat):Good P f none:=fun _ h=>by cases h
end Go.AI
namespace Go.AI
abbrev FL:=List (Nat×zA)
abbrev LL:=List (Nat×(Nat×List zA))
abbrev HH:=List (Nat×Nat)
abbrev Res:=Option (zA×ASt)
def tb (m i:Nat):Bool:=Nat.beq (Nat.mod (Nat.shiftRight m i) 2) 1
def bit (i:Nat):Nat:=Nat.shiftLeft 1 i
def qaL (m:Nat):Nat->Nat->List Nat
 |_,0=>[]
 |i,k+1=>cond (tb m i) (i::qaL m (i+1) k) (qaL m (i+1) k)
def qe4 (a b:Nat):Nat:=Nat.xor a (Nat.land a b)
def qru:Arg->Nat
 |.t n=>bit n
 |.c _=>0
def qp3 (xs:List Arg):Nat:=xs.foldr (fun x m=>zaQ (qru x) m) 0
def qfK:Option Nat->Nat
 |some t=>bit t
 |none=>0
def qoM:List COp->Nat->Nat
 |[],out=>out
 |o::r,out=>zaQ (zaQ (qe4 (qoM r out) (qfK o.dst)) (qp3 o.op.args)) (match o.guard with|some (t,_)=>bit t|none=>0)
def rvM:List RV->Nat
 |[]=>0
 |.t n::r=>zaQ (bit n) (rvM r)
 |.l a _::r=>zaQ (bit a) (rvM r)
def qrv (ks:List Chk)(out:Nat):Nat:=ks.foldr (fun k m=>zaQ (qp3 k.op.args) m) out
def exL:CC->List Nat
 |.seq a b=>exL a++exL b
 |.cond _ a b=>exL a++exL b
 |.block id a=>(exL a).filter fun i=>!Nat.beq i id
 |.loop a=>exL a
 |.exit i=>[i]
 |_=>[]
def exB (b:CC):Nat:=match exL b with
 |[]=>99999
 |i::_=>i
def qjG:CC->Nat->List (Nat×Nat)->Nat->Nat
 |.skip,nrm,_,_=>nrm
 |.reg ops,nrm,_,_=>qoM ops nrm
 |.regd _ _ ops chk,nrm,_,_=>qoM ops (qrv chk nrm)
 |.regl ..,_,_,_=>0
 |.seq a b,nrm,ex,rt=>qjG a (qjG b nrm ex rt) ex rt
 |.cond x a b,nrm,ex,rt=>zaQ (qru x) (zaQ (qjG a nrm ex rt) (qjG b nrm ex rt))
 |.block id a,nrm,ex,rt=>qjG a nrm ((id,nrm)::ex) rt
 |.loop a,_,ex,rt=>qjG a (qjG a 0 ex rt) ex rt
 |.rangeFunc f ps a b,nrm,ex,rt=>zaQ (qru f) (zaQ (qe4 (qjG a (qjG b 0 [] 0) [] 0) (ps.foldr (fun p m=>zaQ (bit p) m) 0)) (zaQ nrm (zaQ rt (ex.foldr (fun p m=>zaQ p.2 m) 0))))
 |.exit id,_,ex,_=>match qap ex id with|some m=>m|none=>0
 |.ret,_,_,rt=>rt
 |.bad,_,_,_=>0
def qkS:List COp->Nat->Nat
 |[],m=>m
 |o::r,m=>qkS r (match o.dst with
  |none=>m
  |some d=>match o.op with
   |.alloc .. =>zaQ m (bit d)
   |.alloced _=>zaQ m (bit d)
   |.box .. =>zaQ m (bit d)
   |.fa _ (.t x)=>cond (tb m x) (zaQ m (bit d)) m
   |.nck (.t x)=>cond (tb m x) (zaQ m (bit d)) m
   |.mov (.t x)=>cond (tb m x) (zaQ m (bit d)) m
   |.iaA _ _ (.t x) _=>cond (tb m x) (zaQ m (bit d)) m
   |_=>m)
def qhk:CC->Nat->Nat
 |.reg ops,m=>qkS ops m
 |.regd _ _ ops _,m=>qkS ops m
 |.seq a b,m=>qhk b (qhk a m)
 |.cond _ a b,m=>qhk b (qhk a m)
 |.block _ a,m=>qhk a m
 |.loop a,m=>qhk a m
 |_,m=>m
structure Ef where
 d:Nat
 al:Nat
 st:Bool
 cs:Bool
def Ef.or (a b:Ef):Ef:=⟨zaQ a.d b.d,zaQ a.al b.al,a.st||b.st,a.cs||b.cs⟩
def qgm (loc:Nat):Arg->Bool
 |.t n=>tb loc n
 |.c _=>false
def qln (loc:Nat)(o:COp):Ef:=
 match o.op with
 |.alloc i _=>⟨qfK o.dst,bit i,false,false⟩
 |.box i _ _=>⟨qfK o.dst,bit i,false,false⟩
 |.store _ a _=>cond (qgm loc a) ⟨qfK o.dst,0,true,false⟩ ⟨qfK o.dst,0,false,true⟩
 |.alloced _=>⟨qfK o.dst,0,false,false⟩
 |.halloced _ _=>⟨qfK o.dst,0,false,false⟩
 |p=>cond (qaX p||qbH p) ⟨qfK o.dst,0,false,false⟩ ⟨qfK o.dst,0,false,true⟩
def qhl (loc:Nat):List COp->Ef
 |[]=>⟨0,0,false,false⟩
 |o::r=>(qln loc o).or (qhl loc r)
def qoN (l:List (Nat×List zA)):Nat:=l.foldr (fun x m=>zaQ (bit x.1) m) 0
def qhZ (loc:Nat):CC->Ef
 |.reg ops=>qhl loc ops
 |.regd pre hpre ops _=>(qhl loc ops).or ⟨0,qoN pre,false,!hpre.isEmpty⟩
 |.seq a b=>(qhZ loc a).or (qhZ loc b)
 |.cond _ a b=>(qhZ loc a).or (qhZ loc b)
 |.block _ a=>qhZ loc a
 |.loop a=>qhZ loc a
 |.rangeFunc _ _ a b=>⟨0,zaQ (qhZ loc a).al (qhZ loc b).al,false,true⟩
 |_=>⟨0,0,false,false⟩
def qe5:CC->Bool
 |.seq a b=>qe5 a&&qe5 b
 |.cond _ a b=>qe5 a||qe5 b
 |.block id a=>qe5 a||hasEx id a
 |.loop _=>false
 |.exit _=>false
 |.ret=>false
 |.bad=>false
 |_=>true
where
 hasEx (id:Nat):CC->Bool
 |.seq a b=>hasEx id a||hasEx id b
 |.cond _ a b=>hasEx id a||hasEx id b
 |.block _ a=>hasEx id a
 |.loop a=>hasEx id a
 |.exit j=>Nat.beq id j
 |_=>false
def exN (id:Nat):CC->Nat
 |.seq a b=>exN id a+exN id b
 |.cond _ a b=>exN id a+exN id b
 |.block _ a=>exN id a
 |.loop a=>exN id a
 |.exit j=>cond (Nat.beq id j) 1 0
 |.rangeFunc _ _ _ b=>cond (Nat.beq id (exB b)) 1 0
 |_=>0
def qe6:List COp->Bool
 |[]=>false
 |o::r=>(match o.guard with|some _=>true|none=>false)||qe6 r
def Fn (α:Type):Nat->Type->Type
 |0,T=>T
 |k+1,T=>α->Fn α k T
def qjH {α T:Type}:(k:Nat)->(List α->T)->Fn α k T
 |0,g=>g []
 |k+1,g=>fun v=>qjH k fun l=>g (v::l)
def qgn {α T:Type}(z:α):(k:Nat)->Fn α k T->List α->T
 |0,f,_=>f
 |k+1,f,v::l=>qgn z k (f v) l
 |k+1,f,[]=>qgn z k (f z) []
def FnS:Bool->Type->Type
 |true,T=>ASt->T
 |false,T=>T
def qq0 {T:Type}(s0:ASt):(b:Bool)->(ASt->T)->FnS b T
 |true,g=>g
 |false,g=>g s0
def qo6 {T:Type}:(b:Bool)->FnS b T->ASt->T
 |true,f,s=>f s
 |false,f,_=>f
def jn {α β:Type}(x:α)(f:α->β):β:=f x
def lp {T:Type}(z:T)(f:T->T)(n:Nat):T:=Nat.rec (motive:=fun _=>T) z (fun _ ih=>f ih) n
def qiV (F:FL):List Nat->Option (List zA)
 |[]=>some []
 |t::r=>match qap F t with
  |some v=>match qiV F r with
   |some l=>some (v::l)
   |none=>none
  |none=>none
def qhw (L:LL):List Nat->Option (List Nat)
 |[]=>some []
 |i::r=>match qap L i with
  |some p=>match qhw L r with
   |some l=>some (p.1::l)
   |none=>none
  |none=>none
def qhx (L:LL):List Nat->Option (List (List zA))
 |[]=>some []
 |i::r=>match qap L i with
  |some p=>match qhx L r with
   |some l=>some (p.2::l)
   |none=>none
  |none=>none
def qgo (m:Nat)(F:FL):List Nat->FL
 |[]=>[]
 |t::r=>match qap F t with
  |some v=>cond (tb m t) ((t,v)::qgo m F r) (qgo m F r)
  |none=>qgo m F r
def qoO:List Nat->List zA->FL->FL
 |t::r,v::l,F=>(t,v)::qoO r l F
 |_,_,F=>F
def qoP:List Nat->List Nat->List (Nat×Nat)
 |i::r,g::gs=>(i,g)::qoP r gs
 |_,_=>[]
def qlo (L:LL)(al:Nat)(gm:List (Nat×Nat)):List Nat->List (List zA)->LL
 |i::r,c::cs=>cond (tb al i) (match qap gm i with
   |some g=>(i,(g,c))::qlo L al gm r cs
   |none=>qlo L al gm r cs) (match qap L i with
   |some p=>(i,(p.1,c))::qlo L al gm r cs
   |none=>qlo L al gm r cs)
 |_,_=>[]
def qhm (al:Nat):LL->LL
 |[]=>[]
 |(i,p)::r=>cond (tb al i) (qhm al r) ((i,p)::qhm al r)
def Arg.o (F:FL):Arg->Option zA
 |.t n=>qap F n
 |.c v=>some v
def qiW (F:FL)(x:Arg):Option Arg:=match x with
 |.t n=>match qap F n with
  |some v=>some (.c v)
  |none=>none
 |.c v=>some (.c v)
def qhn (F:FL):List Arg->Option (List Arg)
 |[]=>some []
 |x::r=>match qiW F x with
  |some y=>match qhn F r with
   |some l=>some (y::l)
   |none=>none
  |none=>none
def qd3 (F:FL):List (Nat×Option Nat×Arg)->Option (List (Nat×Option Nat×Arg))
 |[]=>some []
 |(o,n,x)::r=>match qiW F x with
  |some y=>match qd3 F r with
   |some l=>some ((o,n,y)::l)
   |none=>none
  |none=>none
def qkT (F:FL):Option Arg->Option (Option Arg)
 |none=>some none
 |some x=>match qiW F x with
  |some y=>some (some y)
  |none=>none
def o1 (F:FL)(x:Arg)(k:Arg->Ins):Option Ins:=match qiW F x with|some y=>some (k y)|none=>none
def o2 (F:FL)(x y:Arg)(k:Arg->Arg->Ins):Option Ins:=match qiW F x with
 |some x=>match qiW F y with
  |some y=>some (k x y)
  |none=>none
 |none=>none
def o3 (F:FL)(x y z:Arg)(k:Arg->Arg->Arg->Ins):Option Ins:=match qiW F x with
 |some x=>match qiW F y with
  |some y=>match qiW F z with
   |some z=>some (k x y z)
   |none=>none
  |none=>none
 |none=>none
def oP (F:FL)(ps:List (Nat×Option Nat×Arg))(k:List (Nat×Option Nat×Arg)->Ins):Option Ins:=match qd3 F ps with|some ps=>some (k ps)|none=>none
def oL (F:FL)(xs:List Arg)(k:List Arg->Ins):Option Ins:=match qhn F xs with|some l=>some (k l)|none=>none
def o1L (F:FL)(x:Arg)(xs:List Arg)(k:Arg->List Arg->Ins):Option Ins:=match qiW F x with
 |some x=>match qhn F xs with
  |some l=>some (k x l)
  |none=>none
 |none=>none
def oLL (F:FL)(xs ys:List Arg)(k:List Arg->List Arg->Ins):Option Ins:=match qhn F xs with
 |some a=>match qhn F ys with
  |some b=>some (k a b)
  |none=>none
 |none=>none
def oSl (F:FL)(x:Arg)(lo hi:Option Arg)(k:Arg->Option Arg->Option Arg->Ins):Option Ins:=match qiW F x with
 |some x=>match qkT F lo with
  |some lo=>match qkT F hi with
   |some hi=>some (k x lo hi)
   |none=>none
  |none=>none
 |none=>none
def Ins.o (F:FL):Ins->Option Ins
 |.mov x=>o1 F x .mov
 |.pick a b c=>o3 F a b c .pick
 |.alloc i z=>some (.alloc i z)
 |.alloced i=>some (.alloced i)
 |.box i n x=>o1 F x (.box i n)
 |.halloc z=>some (.halloc z)
 |.halloced m d=>some (.halloced m d)
 |.lmap=>none
 |.lins .. =>none
 |.hbox n x=>o1 F x (.hbox n)
 |.hbld T e=>some (.hbld T e)
 |.build z ps=>oP F ps (.build z)
 |.mks n z ps=>oP F ps (.mks n z)
 |.mkr n z ps=>oP F ps (.mkr n z)
 |.load n a=>o1 F a (.load n)
 |.store n a x=>o2 F a x (.store n)
 |.nck x=>o1 F x .nck
 |.bin o x y=>o2 F x y (.bin o)
 |.eqv k n x y=>o2 F x y (.eqv k n)
 |.eqs k n x y=>o2 F x y (.eqs k n)
 |.not x=>o1 F x .not
 |.shf l x y=>o2 F x y (.shf l)
 |.cvt k x=>o1 F x (.cvt k)
 |.i2s x=>o1 F x .i2s
 |.s2s x=>o1 F x .s2s
 |.b2s x=>o1 F x .b2s
 |.inv t x a=>o1L F x a (.inv t)
 |.s2b x=>o1 F x .s2b
 |.iaA n z x i=>o2 F x i (.iaA n z)
 |.cap x=>o1 F x .cap
 |.fld o n x=>o1 F x (.fld o n)
 |.idxa m n x i=>o2 F x i (.idxa m n)
 |.eqn g x=>o1 F x (.eqn g)
 |.cpy z d x=>o2 F d x (.cpy z)
 |.clr z zs x=>o1 F x (.clr z zs)
 |.appz z b zs x y=>o2 F x y (.appz z b zs)
 |.mkf fn a b=>oLL F a b (.mkf fn)
 |.mki t x=>o1 F x (.mki t)
 |.tas t z k x=>o1 F x (.tas t z k)
 |.mksl sz b c=>o1 F c (.mksl sz b)
 |.mkh sz b z l c=>o2 F l c (.mkh sz b z)
 |.mkl n sz z ps=>oP F ps (.mkl n sz z)
 |.slice sz x lo hi=>oSl F x lo hi (.slice sz)
 |.sstr x lo hi=>oSl F x lo hi .sstr
 |.fa off x=>o1 F x (.fa off)
 |.ia sz x i=>o2 F x i (.ia sz)
 |.idx x i=>o2 F x i .idx
 |.ext x i=>o1 F x (.ext · i)
 |.call f args=>oL F args (.call f)
 |.callv f args=>o1L F f args .callv
 |.pcall f args=>oL F args (.pcall f)
 |.app sz b x y=>o2 F x y (.app sz b)
 |.apph sz b x y=>o2 F x y (.apph sz b)
 |.len st x=>o1 F x (.len st)
 |.minmax mx x y=>o2 F x y (.minmax mx)
 |.mkmap=>some .mkmap
 |.insert kd ks m k v=>o3 F m k v (.insert kd ks)
 |.look kd ks z ok m k=>o2 F m k (.look kd ks z ok)
 |.ment kd ks z m k=>o2 F m k (.ment kd ks z)
 |.mest m j v=>o3 F m j v .mest
 |.mlen m=>o1 F m .mlen
 |.rng m=>o1 F m .rng
 |.nxt x=>o1 F x .nxt
 |.ent x=>o1 F x .ent
 |.gla g n z i=>o1 F i (.gla g n z)
def c0 (s:ASt):Cfg:=⟨.nil,.nil,[],none,s⟩
def e0:Env:=⟨fun _=>none,fun _=>false,fun _ _ _=>none,fun _ _ _=>none⟩
noncomputable section
def s0:ASt:=⟨0,qjb,0,[]⟩
def tlF {α:Type}(l:List α):List α:=List.rec (motive:=fun _=>List α) [] (fun _ t _=>t) l
def qmy {α:Type}(l:List α)(n:Nat):List α:=Nat.rec (motive:=fun _=>List α) l (fun _ ih=>tlF ih) n
def qmz {α:Type}(n:Nat):List α->Option (List α):=Nat.rec (motive:=fun _=>List α->Option (List α)) (fun _=>some [])
 (fun _ ih l=>List.rec (motive:=fun _=>Option (List α)) none (fun x r _=>Option.rec (motive:=fun _=>Option (List α)) none (fun t=>some (x::t)) (ih r)) l) n
def qoQ {α:Type}(xs:List α)(off n:Nat):Option (List α):=bF (Nat.beq n 0) (cut xs off n) (qmz n (qmy xs off))
def qp4 {α:Type}(d:α)(t:Tr α):Nat->α:=
 Tr.rec (motive:=fun _=>Nat->α) (fun _=>d) (fun v _ _ a b i=>bF (Nat.beq i 0) v (bF (Nat.beq (Nat.mod i 2) 1) (a (Nat.div i 2)) (b (Nat.sub (Nat.div i 2) 1)))) t
def qmA (h:Heap)(k:Nat):Option zH:=bF (Nat.blt k 1048575) (qp4 none h.t k) (qaD h k)
def qkU (E:Rom)(s:ASt)(l:Nat):Option (List zA):=Option.rec (motive:=fun _=>Option (List zA)) (qb9 E s l)
 (fun o=>match o with
  |.cells cs=>some cs
  |_=>none) (qmA s.heap l)
def qkV {α:Type}(p:α->Bool)(l:List α):Bool:=List.rec (motive:=fun _=>Bool) true (fun x _ ih=>bF (p x) ih false) l
def qna (v:zA):Bool:=match v with
 |.p _=>true
 |.sl .. =>true
 |.ptr .. =>true
 |.hs .. =>true
 |.map _=>true
 |.elem .. =>true
 |v=>qaF v
def qq1 (v:zA):Bool:=match v with
 |.p _=>true
 |.sl .. =>true
 |.ptr .. =>true
 |.hs .. =>true
 |.map _=>true
 |.elem .. =>true
 |.agg cs=>qkV qna cs
 |v=>qaR v
def awG (v:zA):Bool:=match v with
 |.p _=>true
 |.sl .. =>true
 |.ptr .. =>true
 |.hs .. =>true
 |.map _=>true
 |.elem .. =>true
 |.tuple vs=>qkV qq1 vs
 |v=>qaR v
def qq2 {α:Type}(ys:List α):List α->Option (List α):=List.rec (motive:=fun _=>List α->Option (List α)) (fun xs=>some xs)
 (fun y _ ih xs=>List.rec (motive:=fun _=>Option (List α)) none (fun _ t _=>Option.rec (motive:=fun _=>Option (List α)) none (fun t=>some (y::t)) (ih t)) xs) ys
def qam {α:Type}(xs:List α)(off:Nat)(ys:List α):Option (List α):=Nat.rec (motive:=fun _=>List α->Option (List α)) (fun xs=>qq2 ys xs)
 (fun _ ih xs=>List.rec (motive:=fun _=>Option (List α)) none (fun x t _=>Option.rec (motive:=fun _=>Option (List α)) none (fun t=>some (x::t)) (ih t)) xs) off xs
def qjy (ps:List (Nat×Option Nat×Arg)):List zA->Option (List zA):=List.rec (motive:=fun _=>List zA->Option (List zA)) (fun zs=>some zs)
 (fun p _ ih zs=>Option.rec (motive:=fun _=>Option (List zA)) none (fun cs=>Option.rec (motive:=fun _=>Option (List zA)) none (fun zs=>ih zs) (qam zs p.1 cs)) (zA.cells p.2.1 (evA p.2.2 .nil))) ps
def qrR (k k':IntKind):Bool:=Nat.beq (IntKind.ctorIdx k) (IntKind.ctorIdx k')
def qmB (k:IntKind)(n:Int):Int:=match k with
 |.i64=>match n with
  |.ofNat m=>bF (Nat.blt m 9223372036854775808) n (IntKind.wrap k n)
  |.negSucc m=>bF (Nat.blt m 9223372036854775808) n (IntKind.wrap k n)
 |k=>qd6 k n
def bnI (o:BinOp)(k:IntKind)(a b:Int):Option zA:=match o with
 |.add=>some (.p (.int k (qmB k (a+b))))
 |.sub=>some (.p (.int k (qmB k (a-b))))
 |.eql=>some (.p (.bool (ieq a b)))
 |.lss=>some (.p (.bool (ilt a b)))
 |.gtr=>some (.p (.bool (ilt b a)))
 |o=>(qeo o k a b).map .p
def bn (o:BinOp)(x y:zA):Option zA:=match x with
 |.p (.int k a)=>match y with
  |.p (.int k' b)=>bF (qrR k k') (bnI o k a b) none
  |y=>(qfg o (.p (.int k a)) y).map .p
 |x=>(qfg o x y).map .p
def ln (st:Bool)(x:zA):Option zA:=qmp st (.c x) .nil
def ex (x:zA)(i:Nat):Option zA:=qmn (.c x) i .nil
def fl (o:Nat)(n:Option Nat)(x:zA):Option zA:=qmf o n (.c x) .nil
def nt (x:zA):Option zA:=ql6 (.c x) .nil
def cv (k:IntKind)(x:zA):Option zA:=ql9 k (.c x) .nil
def iaq (sz:Nat)(x i:zA):Option zA:=qqX sz (.c x) (.c i) .nil
def ix (x i:zA):Option zA:=qml (.c x) (.c i) .nil
def cl (e:Env)(f:Nat)(xs:List zA)(s:ASt):Option (zA×ASt):=e.call f xs s
def clv (e:Env)(f:zA)(xs:List zA)(s:ASt):Option (zA×ASt):=e.callv f xs s
def pu (o:Ins):Option zA:=Option.rec (motive:=fun _=>Option zA) none (fun r=>some r.1) (qhg o e0 (c0 s0))
def stV (e:Env)(s:ASt)(o:Ins):Option (zA×ASt):=Option.rec (motive:=fun _=>Option (zA×ASt)) none (fun r=>some (r.1,r.2.s)) (qhg o e (c0 s))
def bd (zs:List zA)(ps:List (Nat×Option Nat×Arg)):Option zA:=Option.rec (motive:=fun _=>Option zA) none (fun cs=>some (.agg cs)) (qjy ps zs)
def qaz (n:Nat)(zs:List zA)(ps:List (Nat×Option Nat×Arg)):Option zA:=Option.rec (motive:=fun _=>Option zA) none (fun cs=>some (.row n cs)) (qjy ps zs)
def ss (x:zA)(lo hi:Option Arg):Option zA:=match x with
 |.p (.str s)=>Option.rec (motive:=fun _=>Option zA) none (fun a=>Option.rec (motive:=fun _=>Option zA) none (fun b=>
   bF (Nat.ble a b) (bF (Nat.ble b (qm7 s.data.toList)) (Option.rec (motive:=fun _=>Option zA) none (fun l=>some (.p (.str ⟨⟨l⟩⟩))) (qmz (Nat.sub b a) (qmy s.data.toList a))) none) none) (qa1 (qm7 s.data.toList) .nil hi)) (qa1 0 .nil lo)
 |_=>none
def puF (o:Ins):Option zA:=match o with
 |.build zs ps=>bd zs ps
 |.mkr n zs ps=>qaz n zs ps
 |.sstr (.c x) lo hi=>ss x lo hi
 |o=>pu o
def qoR (n sz:Nat)(zs:List zA)(ps:List (Nat×Option Nat×Arg))(s:ASt):Res:=Option.rec (motive:=fun _=>Res) none (fun cs=>bF (qkV qna cs) (some (.hs s.next 0 n n sz false,qav s (.cells cs))) none) (qjy ps zs)
def hbq (n:Option Nat)(x:zA)(s:ASt):Res:=Option.rec (motive:=fun _=>Res) none (fun cs=>bF (qkV qna cs) (some (.ptr s.next 0,qav s (.cells cs))) none) (zA.cells n x)
def qdD (zs:List zA)(s:ASt):Res:=bF (qkV qna zs) (some (.ptr s.next 0,qav s (.cells zs))) none
def stF (e:Env)(s:ASt)(o:Ins):Res:=match o with
 |.mkl n sz zs ps=>qoR n sz zs ps s
 |.hbox n (.c x)=>hbq n x s
 |.halloc zs=>qdD zs s
 |o=>stV e s o
def rdV (e:Env)(s:ASt)(o:Ins):Option zA:=Option.rec (motive:=fun _=>Option zA) none (fun r=>some r.1) (qhg o e (c0 s))
def qaa {α β γ:Type}(x:Option (α×β))(k:α->β->Option γ):Option γ:=x.bind fun r=>k r.1 r.2
def up1 {α:Type}(x:α):α:=x
def up2 {α:Type}(x:α):α:=up1 x
abbrev cnd {α:Type}(b:Bool)(x y:α):α:=match b with
 |true=>x
 |false=>y
theorem qaV {α:Type}(b:Bool)(x y:α):cnd b x y=cond b x y:=by cases b<;>rfl
abbrev qab (v:zA)(a b:Res):Res:=match v with
 |.p (.bool true)=>a
 |.p (.bool false)=>b
 |_=>none
theorem qe7 {v:zA}{a b:Res}{r:zA×ASt}(h:qab v a b=some r):∃t,v=.p (.bool t)/\cond t a b=some r:=by
 unfold qab at h
 split at h
 ·exact⟨true,rfl,h⟩
 ·exact⟨false,rfl,h⟩
 ·cases h
def ldL (cs:List zA)(off:Nat):Option Nat->Option zA
 |none=>match qoQ cs off 1 with
  |some [v]=>some v
  |_=>none
 |some n=>match qoQ cs off n with
  |some l=>some (.agg l)
  |none=>none
def ldH (e:Env)(s:ASt)(a:zA)(n:Option Nat):Option zA:=match a with
 |.ptr l off=>Option.rec (motive:=fun _=>Option zA) none (fun cs=>Option.rec (motive:=fun _=>Option zA) none (fun cs=>zA.ofCells n cs) (qoQ cs off (cnt n))) (qkU e.E s l)
 |.elem cs off=>Option.rec (motive:=fun _=>Option zA) none (fun cs=>zA.ofCells n (qqV cs)) (qoQ cs off (cnt n))
 |.rel cs off=>Option.rec (motive:=fun _=>Option zA) none (fun cs=>zA.ofCells n cs) (qoQ cs off (cnt n))
 |_=>none
def stH (s:ASt)(a:zA)(cs:List zA):Option ASt:=match a with
 |.ptr l off=>Option.rec (motive:=fun _=>Option ASt) none (fun o=>match o with
  |.cells old=>bF (qkV qna cs) (Option.rec (motive:=fun _=>Option ASt) none (fun new=>some ⟨s.next,qhs s.heap l (some (.cells new)),s.ntok,s.toks⟩) (qam old off cs)) none
  |_=>none) (qmA s.heap l)
 |_=>none
def faK (off:Nat)(v:zA)(k:zA->Res):Res:=up2 (match v with
 |.lptr i g o=>k (.lptr i g (o+off))
 |.ptr l o=>k (.ptr l (o+off))
 |.elem cs o=>k (.elem cs (o+off))
 |.rel cs o=>k (.rel cs (o+off))
 |_=>none)
def qal (v:zA)(k:zA->Res):Res:=up2 (match v with
 |.ptr l o=>k (.ptr l o)
 |.lptr i g o=>k (.lptr i g o)
 |.elem cs o=>k (.elem cs o)
 |.rel cs o=>k (.rel cs o)
 |_=>none)
def qdd (n sz:Nat)(v i:zA)(k:zA->Res):Res:=(qbi i).bind fun i=>cnd (Nat.blt i n) (faK (i*sz) v k) none
def qjz (F:FL):List Arg->Option (List zA)
 |[]=>some []
 |x::r=>match x.o F with
  |some v=>match qjz F r with
   |some l=>some (v::l)
   |none=>none
  |none=>none
abbrev q1 (F:FL)(x:Arg)(g:zA->Option zA)(k:zA->Res):Res:=match x.o F with
 |some v=>(g v).bind k
 |none=>none
abbrev q2 (F:FL)(x y:Arg)(g:zA->zA->Option zA)(k:zA->Res):Res:=match x.o F with
 |some v=>match y.o F with
  |some u=>(g v u).bind k
  |none=>none
 |none=>none
abbrev KO:=zA->LL->ASt->Res
def opK (loc:Nat)(e:Env)(F:FL)(L:LL)(h:HH)(s:ASt)(o:Ins)(k:KO):Res:=
 match o with
 |.mov x=>match x.o F with
  |some v=>k v L s
  |none=>none
 |.fa off x=>match x.o F with
  |some v=>faK off v fun v=>k v L s
  |none=>none
 |.nck x=>match x.o F with
  |some v=>qal v fun v=>k v L s
  |none=>none
 |.alloc i zs=>match qap L i with
  |some p=>k (.lptr i (p.1+1) 0) ((i,(p.1+1,zs))::L) s
  |none=>none
 |.alloced i=>match qap L i with
  |some p=>k (.lptr i p.1 0) L s
  |none=>none
 |.box i n x=>match x.o F with
  |some v=>match qap L i with
   |some p=>(zA.cells n v).bind fun cs=>k (.lptr i (p.1+1) 0) ((i,(p.1+1,cs))::L) s
   |none=>none
  |none=>none
 |.halloced m d=>match qap h d with
  |some l=>match m with
   |true=>k (.map l) L s
   |false=>k (.ptr l 0) L s
  |none=>none
 |.load n a=>match a.o F with
  |some v=>cnd (qgm loc a) (match v with
   |.lptr i g off=>match qap L i with
    |some p=>cnd (Nat.beq g p.1) ((ldL p.2 off n).bind fun v=>k v L s) none
    |none=>none
   |_=>none) ((ldH e s v n).bind fun v=>k v L s)
  |none=>none
 |.store n a x=>match a.o F with
  |some v=>match x.o F with
   |some x=>(zA.cells n x).bind fun cs=>cnd (qgm loc a) (match v with
    |.lptr i g off=>match qap L i with
     |some p=>cnd (Nat.beq g p.1) ((qam p.2 off cs).bind fun new=>k qaf ((i,(p.1,new))::L) s) none
     |none=>none
    |_=>none) ((stH s v cs).bind fun s=>k qaf L s)
   |none=>none
  |none=>none
 |.iaA n sz x i=>match x.o F with
  |some x=>match i.o F with
   |some i=>qdd n sz x i fun v=>k v L s
   |none=>none
  |none=>none
 |.bin o x y=>q2 F x y (fun x y=>bn o x y) fun v=>k v L s
 |.len st x=>q1 F x (fun x=>ln st x) fun v=>k v L s
 |.ext x i=>q1 F x (fun x=>ex x i) fun v=>k v L s
 |.fld o n x=>q1 F x (fun x=>fl o n x) fun v=>k v L s
 |.not x=>q1 F x (fun x=>nt x) fun v=>k v L s
 |.cvt kd x=>q1 F x (fun x=>cv kd x) fun v=>k v L s
 |.ia sz x i=>q2 F x i (fun x i=>iaq sz x i) fun v=>k v L s
 |.idx x i=>q2 F x i (fun x i=>ix x i) fun v=>k v L s
 |.call f xs=>match qjz F xs with
  |some l=>qaa (cl e f l s) fun v s=>k v L s
  |none=>none
 |.callv f xs=>match f.o F with
  |some f=>match qjz F xs with
   |some l=>qaa (clv e f l s) fun v s=>k v L s
   |none=>none
  |none=>none
 |_=>match o.o F with
  |some i=>cnd (qaX o) ((puF i).bind fun v=>k v L s) (cnd (qbH o) ((rdV e s i).bind fun v=>k v L s) (qaa (stF e s i) fun v s=>k v L s))
  |none=>none
abbrev TrL:=List (LL×ASt)
def qjA (nt:Nat)(d:Option Nat)(v:zA)(F:FL):Option FL:=match d with
 |none=>some F
 |some t=>cnd (Nat.blt t nt) (some ((t,v)::F)) none
def qh0 (m:Nat):Option Nat->Nat
 |some t=>qe4 m (bit t)
 |none=>m
def qh1 (loc nt:Nat)(e:Env):List COp->Nat->FL->LL->HH->ASt->(FL->LL->ASt->TrL->Res)->Res
 |[],_,F,L,_,s,k=>k F L s [(L,s)]
 |o::r,U,F,L,h,s,k=>
  match o.guard with
  |none=>opK loc e F L h s o.op fun v L' s'=>match qjA nt o.dst v F with
   |some F=>qh1 loc nt e r (qh0 U o.dst) F L' h s' fun F1 L1 s1 tr=>k F1 L1 s1 ((L,s)::tr)
   |none=>none
  |some (t,b)=>cnd (tb U t)
   (match qjA nt o.dst qaf F with
    |some F=>qh1 loc nt e r (zaQ U (qfK o.dst)) F L h s fun F1 L1 s1 tr=>k F1 L1 s1 ((L,s)::tr)
    |none=>none)
   (match qap F t with
   |none=>none
   |some gv=>
    qab gv
     (cnd b (opK loc e ((t,.p (.bool true))::F) L h s o.op fun v L' s'=>match qjA nt o.dst v ((t,.p (.bool true))::F) with
       |some F=>qh1 loc nt e r (qh0 U o.dst) F L' h s' fun F1 L1 s1 tr=>k F1 L1 s1 ((L,s)::tr)
       |none=>none)
      (match qjA nt o.dst qaf ((t,.p (.bool true))::F) with
       |some F=>qh1 loc nt e r (zaQ U (qfK o.dst)) F L h s fun F1 L1 s1 tr=>k F1 L1 s1 ((L,s)::tr)
       |none=>none))
     (cnd b (match qjA nt o.dst qaf ((t,.p (.bool false))::F) with
       |some F=>qh1 loc nt e r (zaQ U (qfK o.dst)) F L h s fun F1 L1 s1 tr=>k F1 L1 s1 ((L,s)::tr)
       |none=>none)
      (opK loc e ((t,.p (.bool false))::F) L h s o.op fun v L' s'=>match qjA nt o.dst v ((t,.p (.bool false))::F) with
       |some F=>qh1 loc nt e r (qh0 U o.dst) F L' h s' fun F1 L1 s1 tr=>k F1 L1 s1 ((L,s)::tr)
       |none=>none)))
def qkW (e:Env)(L:LL)(s:ASt)(a:zA)(n:Nat):Option (List zA):=match a with
 |.lptr i g off=>match qap L i with
  |some p=>cond (Nat.beq g p.1) (cut p.2 off n) none
  |none=>none
 |.ptr l off=>qax e.E .nil s (.ptr l off) n
 |_=>none
def ldC (n:Option Nat)(x:Option (List zA)):Option zA:=match x with
 |some cs=>zA.ofCells n cs
 |none=>none
def okJ (e:Env)(tr:TrL)(a:zA)(n:Option Nat)(b:Bool)(j:Nat):Bool:=b||(match qdh tr j with
 |some c=>match qdh tr (j+1) with
  |some c'=>qcg (ldC n (qkW e c.1 c.2 a (cnt n))) (ldC n (qkW e c'.1 c'.2 a (cnt n)))
  |none=>false
 |none=>false)
def okV (e:Env)(tr:TrL)(a:zA)(n:Option Nat)(js:List (Nat×Nat)):Bool:=
 match a with
 |.lptr i g o=>js.all fun x=>okJ e tr (.lptr i g o) n (Nat.blt 0 x.2) x.1
 |.tuple []=>true
 |_=>false
def okS (e:Env)(ss:List ASt)(i:Ins)(j:Nat):Bool:=match qdh ss j with
 |some c=>match qdh ss (j+1) with
  |some c'=>qcg (rdV e c i) (rdV e c' i)
  |none=>false
 |none=>false
def okQ (e:Env)(ss:List ASt)(i:Ins)(js:List (Nat×Nat)):Bool:=js.all fun x=>okS e ss i x.1
def okW (e:Env)(ss:List ASt)(a:zA)(n:Option Nat)(js:List (Nat×Nat)):Bool:=
 match a with
 |.ptr l o=>okQ e ss (.load n (.c (.ptr l o))) js
 |.elem _ _=>true
 |.rel _ _=>true
 |.tuple []=>true
 |_=>false
def okC (loc:Nat)(e:Env)(tr:TrL)(F:FL)(k:Chk):Bool:=
 match k.op with
 |.load n a=>match a.o F with
  |some v=>cnd (qgm loc a) (okV e tr v n k.js) (okW e (tr.map fun x=>x.2) v n k.js)
  |none=>false
 |op=>cnd (qbH op) (match op.o F with
  |some i=>okQ e (tr.map fun x=>x.2) i k.js
  |none=>false) false
def qo7:List (Nat×List zA)->LL->Option LL
 |[],L=>some L
 |(i,zs)::r,L=>match qap L i with
  |some p=>qo7 r ((i,(p.1+1,zs))::L)
  |none=>none
abbrev KN:=FL->LL->HH->ASt->Res
abbrev KC:=EX->FL->LL->HH->ASt->Res
def qjB (nt nl:Nat)(ef:Ef)(lv:Nat)(F:FL)(L:LL)(s:ASt)(kn:KN)(body:KN→Res):Res:=
 match qaL (Nat.land lv ef.d) 0 nt with
 |vs=>match qaL ef.al 0 nl with
  |gl=>match cond ef.st (qaL (qoN (L.map fun x=>(x.1,[]))) 0 nl) gl with
   |cl=>match qgo (qe4 lv ef.d) F (qaL lv 0 nt) with
    |F0=>
     jn (qjH (α:=zA) vs.length fun xs=>qjH (α:=Nat) gl.length fun gs=>qjH (α:=List zA) cl.length fun cs=>qq0 s ef.cs fun s=>kn (qoO vs xs F0) (qlo L ef.al (qoP gl gs) cl cs++cond ef.st [] (qhm ef.al L)) [] s)
      fun j=>body fun F1 L1 _ s1=>match qiV F1 vs with
       |some xs=>match qhw L1 gl with
        |some gs=>match qhx L1 cl with
         |some cs=>qo6 ef.cs (qgn [] cl.length (qgn 0 gl.length (qgn qaf vs.length j xs) gs) cs) s1
         |none=>none
        |none=>none
       |none=>none
def qoS (nt nl n:Nat)(ef:Ef)(lv:Nat)(F:FL)(L:LL)(s:ASt)(body:FL→LL→ASt→KN→Res):Res:=
 match qaL (Nat.land lv ef.d) 0 nt with
 |vs=>match qaL ef.al 0 nl with
  |gl=>match cond ef.st (qaL (qoN (L.map fun x=>(x.1,[]))) 0 nl) gl with
   |cl=>match qgo (qe4 lv ef.d) F (qaL lv 0 nt) with
    |F0=>match qiV F vs with
     |some xs=>match qhw L gl with
      |some gs=>match qhx L cl with
       |some cs=>
        qo6 ef.cs (qgn [] cl.length (qgn 0 gl.length (qgn qaf vs.length
         (lp (qjH (α:=zA) vs.length fun _=>qjH (α:=Nat) gl.length fun _=>qjH (α:=List zA) cl.length fun _=>qq0 s ef.cs fun _=>(none:Res))
          (fun ih=>qjH (α:=zA) vs.length fun xs=>qjH (α:=Nat) gl.length fun gs=>qjH (α:=List zA) cl.length fun cs=>qq0 s ef.cs fun s=>
           body (qoO vs xs F0) (qlo L ef.al (qoP gl gs) cl cs++cond ef.st [] (qhm ef.al L)) s fun F1 L1 _ s1=>match qiV F1 vs with
            |some xs=>match qhw L1 gl with
             |some gs=>match qhx L1 cl with
              |some cs=>qo6 ef.cs (qgn [] cl.length (qgn 0 gl.length (qgn qaf vs.length ih xs) gs) cs) s1
              |none=>none
             |none=>none
            |none=>none) n) xs) gs) cs) s
       |none=>none
      |none=>none
     |none=>none
def qfo (loc nt nl:Nat)(e:Env)(n:Nat):CC->Nat->List (Nat×Nat)->Nat->FL->LL->HH->ASt->KC->Res
 |.skip,_,_,_,F,L,h,s,k=>k .normal F L h s
 |.reg ops,nrm,_,_,F,L,h,s,k=>
  cnd (qe6 ops)
   (qjB nt nl (qhl loc ops) nrm F L s (k .normal) fun j=>qh1 loc nt e ops 0 F L h s fun F L s _=>j F L h s)
   (qh1 loc nt e ops 0 F L h s fun F L s _=>k .normal F L h s)
 |.regl ..,_,_,_,_,_,_,_,_=>none
 |.regd pre hpre ops chk,nrm,_,_,F,L,_,s,k=>
  match qo7 pre L with
  |none=>none
  |some L0=>match preH s hpre with
   |(s0,h0)=>
    cnd (qe6 ops)
     (qjB nt nl (qhl loc ops) nrm F L0 s0 (k .normal) fun j=>qh1 loc nt e ops 0 F L0 h0 s0 fun F L s tr=>cnd (chk.all (okC loc e tr F)) (j F L h0 s) none)
     (qh1 loc nt e ops 0 F L0 h0 s0 fun F L s tr=>cnd (chk.all (okC loc e tr F)) (k .normal F L h0 s) none)
 |.seq a b,nrm,ex,rt,F,L,h,s,k=>
  qfo loc nt nl e n a (qjG b nrm ex rt) ex rt F L h s fun x F L h s=>match x with
   |.normal=>qfo loc nt nl e n b nrm ex rt F L h s k
   |x=>k x F L h s
 |.cond x a b,nrm,ex,rt,F,L,h,s,k=>
  match x.o F with
  |none=>none
  |some v=>cnd (qe5 a&&qe5 b)
   (qjB nt nl ((qhZ loc a).or (qhZ loc b)) nrm F L s (k .normal) fun j=>
    qab v (qfo loc nt nl e n a nrm ex rt F L h s fun x F L h s=>match x with
      |.normal=>j F L h s
      |x=>k x F L h s)
     (qfo loc nt nl e n b nrm ex rt F L h s fun x F L h s=>match x with
      |.normal=>j F L h s
      |x=>k x F L h s))
   (qab v (qfo loc nt nl e n a nrm ex rt F L h s k) (qfo loc nt nl e n b nrm ex rt F L h s k))
 |.block id a,nrm,ex,rt,F,L,h,s,k=>
  cnd (Nat.blt 1 (exN id a+cnd (qe5 a) 1 0))
   (qjB nt nl (qhZ loc a) nrm F L s (k .normal) fun j=>
    qfo loc nt nl e n a nrm ((id,nrm)::ex) rt F L h s fun x F L h s=>match x with
     |.normal=>j F L h s
     |.exit i=>cnd (Nat.beq i id) (j F L h s) (k (.exit i) F L h s)
     |.ret=>k .ret F L h s)
   (qfo loc nt nl e n a nrm ((id,nrm)::ex) rt F L h s fun x F L h s=>match x with
     |.normal=>k .normal F L h s
     |.exit i=>cnd (Nat.beq i id) (k .normal F L h s) (k (.exit i) F L h s)
     |.ret=>k .ret F L h s)
 |.loop a,_,ex,rt,F,L,_,s,k=>
  match qjG a (qjG a 0 ex rt) ex rt with
  |lv=>qoS nt nl n (qhZ loc a) lv F L s fun F L s j=>qfo loc nt nl e n a lv ex rt F L [] s fun x F L h s=>match x with
   |.normal=>j F L h s
   |x=>k x F L h s
 |.rangeFunc _ _ _ _,_,_,_,_,_,_,_,_=>none
 |.exit id,_,_,_,F,L,h,s,k=>k (.exit id) F L h s
 |.ret,_,_,_,F,L,h,s,k=>k .ret F L h s
 |.bad,_,_,_,_,_,_,_,_=>none
def eqv (k:Nat)(n:Bool)(x y:zA):Option zA:=pu (.eqv k n (.c x) (.c y))
def eqs (k:List Nat)(n:Bool)(x y:zA):Option zA:=pu (.eqs k n (.c x) (.c y))
def pk (c a b:zA):Option zA:=pu (.pick (.c c) (.c a) (.c b))
def sl (sz:Nat)(x:zA)(lo hi:Option Arg):Option zA:=pu (.slice sz (.c x) lo hi)
def mm (mx:Bool)(x y:zA):Option zA:=pu (.minmax mx (.c x) (.c y))
def aph (e:Env)(sz b:Nat)(x y:zA)(s:ASt):Option (zA×ASt):=stV e s (.apph sz b (.c x) (.c y))
def rvK (loc:Nat)(e:Env)(F:FL)(L:LL)(s:ASt):List RV->(List zA->Res)->Res
 |[],k=>k []
 |.t n::r,k=>match qap F n with
  |some v=>rvK loc e F L s r fun l=>k (v::l)
  |none=>none
 |.l a n::r,k=>match qap F a with
  |some v=>cnd (tb loc a) (match v with
   |.lptr i g off=>match qap L i with
    |some p=>cnd (Nat.beq g p.1) ((ldL p.2 off n).bind fun v=>rvK loc e F L s r fun l=>k (v::l)) none
    |none=>none
   |_=>none) ((ldH e s v n).bind fun v=>rvK loc e F L s r fun l=>k (v::l))
  |none=>none
def qp5 (i:Nat):List zA->FL
 |[]=>[]
 |v::r=>(i,v)::qp5 (i+1) r
def qad (cf:CF)(e:Env)(n:Nat)(args:List zA)(s:ASt):Res:=
 match qhk cf.body 0 with
 |loc=>match qhZ loc cf.body with
  |ef=>qfo loc (2^cf.depth-1) (2^cf.ldepth-1) e n cf.body 0 [] (rvM cf.res) (qp5 0 args) ((qaL ef.al 0 (2^cf.ldepth-1)).map fun i=>(i,(0,[]))) [] s fun x F L _ s=>match x with
   |.exit _=>none
   |_=>rvK loc e F L s cf.res fun l=>some (qft l,s)
end
end Go.AI
namespace Go.AI
abbrev i64 (n:Int):zA:=.p (.int .i64 n)
abbrev u8 (n:Int):zA:=.p (.int .u8 n)
abbrev bl (b:Bool):zA:=.p (.bool b)
abbrev un:zA:=.tuple []
end Go.AI
namespace Go.AI
theorem qe8 (m i:Nat):tb m i=m.testBit i:=by
 unfold tb
 have e:Nat.shiftRight m i=m/2^i:=Nat.shiftRight_eq_div_pow m i
 rw[Nat.testBit_eq_decide_div_mod_eq,e]
 cases h:Nat.beq (Nat.mod (m/2^i) 2) 1 with
 |true=>exact(decide_eq_true (Nat.eq_of_beq_eq_true h)).symm
 |false=>exact(decide_eq_false (fun h2=>by rw[show Nat.mod (m/2^i) 2=1 from h2] at h;cases h)).symm
theorem qho (a b i:Nat):tb (zaQ a b) i=(tb a i||tb b i):=by
 rw[qe8,qe8,qe8]
 exact Nat.testBit_or a b i
theorem qiX (t i:Nat):tb (bit t) i=decide (t=i):=by
 rw[qe8]
 unfold bit
 show(1<<<t).testBit i=_
 rw[Nat.one_shiftLeft,Nat.testBit_two_pow]
theorem qdW (i:Nat):tb 0 i=false:=by rw[qe8];exact Nat.zero_testBit i
structure AG (nt:Nat)(F:FL)(L:LL)(h:HH)(c:Cfg):Prop where
 f:∀t v,qap F t=some v->c.f.get qaf t=v
 l:∀i p,qap L i=some p->c.l.get (0,[]) i=p/\c.l.has i=true
 h:∀d l,qap h d=some l->qap c.h d=some l
 hf:∀t,t<nt->c.f.has t=true
structure KP (ef:Ef)(c c':Cfg):Prop where
 f:∀t,tb ef.d t=false->c'.f.get qaf t=c.f.get qaf t
 g:∀i,tb ef.al i=false->(c'.l.get (0,[]) i).1=(c.l.get (0,[]) i).1
 l:ef.st=false->∀i,tb ef.al i=false->c'.l.get (0,[]) i=c.l.get (0,[]) i
 s:ef.cs=false->c'.s=c.s
 rd:c'.rd=c.rd
 hf:∀t,c'.f.has t=c.f.has t
 hl:∀i,c'.l.has i=c.l.has i
theorem KP.refl (ef:Ef)(c:Cfg):KP ef c c:=⟨fun _ _=>rfl,fun _ _=>rfl,fun _ _ _=>rfl,fun _=>rfl,rfl,fun _=>rfl,fun _=>rfl⟩
theorem KP.left {a b:Ef}{c c':Cfg}(h:KP a c c'):KP (a.or b) c c':=by
 refine⟨fun t ht=>h.f t ?_,fun i hi=>h.g i ?_,fun hs i hi=>h.l ?_ i ?_,fun hs=>h.s ?_,h.rd,h.hf,h.hl⟩
 ·simp only[Ef.or,qho,zaK] at ht;exact ht.1
 ·simp only[Ef.or,qho,zaK] at hi;exact hi.1
 ·simp only[Ef.or,zaK] at hs;exact hs.1
 ·simp only[Ef.or,qho,zaK] at hi;exact hi.1
 ·simp only[Ef.or,zaK] at hs;exact hs.1
theorem KP.right {a b:Ef}{c c':Cfg}(h:KP b c c'):KP (a.or b) c c':=by
 refine⟨fun t ht=>h.f t ?_,fun i hi=>h.g i ?_,fun hs i hi=>h.l ?_ i ?_,fun hs=>h.s ?_,h.rd,h.hf,h.hl⟩
 ·simp only[Ef.or,qho,zaK] at ht;exact ht.2
 ·simp only[Ef.or,qho,zaK] at hi;exact hi.2
 ·simp only[Ef.or,zaK] at hs;exact hs.2
 ·simp only[Ef.or,qho,zaK] at hi;exact hi.2
 ·simp only[Ef.or,zaK] at hs;exact hs.2
theorem KP.trans {a:Ef}{c c1 c2:Cfg}(h:KP a c c1)(k:KP a c1 c2):KP a c c2:=
 ⟨fun t ht=>(k.f t ht).trans (h.f t ht),fun i hi=>(k.g i hi).trans (h.g i hi),fun hs i hi=>(k.l hs i hi).trans (h.l hs i hi),fun hs=>(k.s hs).trans (h.s hs),k.rd.trans h.rd,fun t=>(k.hf t).trans (h.hf t),fun i=>(k.hl i).trans (h.hl i)⟩
section
variable {F:FL} {f:Tr zA} (hF:∀t v,qap F t=some v->f.get qaf t=v)
include hF
theorem qdX {x:Arg}{v:zA}(h:x.o F=some v):x.ev f=v:=by
 cases x with
 |t n=>exact hF n v h
 |c u=>
  simp only[Arg.o,zaa] at h
  exact h
theorem qbF {x y:Arg}(h:qiW F x=some y):y.ev .nil=x.ev f/\∃v,y=.c v:=by
 cases x with
 |t n=>
  simp only[qiW] at h
  split at h
  ·rename_i v hv
   simp only[zaa] at h
   subst h
   exact⟨(hF n v hv).symm,v,rfl⟩
  ·cases h
 |c u=>
  simp only[qiW,zaa] at h
  subst h
  exact⟨rfl,u,rfl⟩
theorem qdE:∀{xs ys:List Arg},qhn F xs=some ys->ys.map (Arg.ev .nil)=xs.map (Arg.ev f)
 |[],ys,h=>by
  simp only[qhn,zaa] at h
  subst h;rfl
 |x::xs,ys,h=>by
  simp only[qhn] at h
  split at h
  ·rename_i y hy
   split at h
   ·rename_i l hl
    simp only[zaa] at h
    subst h
    simp only[zaF,(qbF hF hy).1,qdE hl]
   ·cases h
  ·cases h
theorem qnb:∀{ps qs:List (Nat×Option Nat×Arg)} (zs:List zA),qd3 F ps=some qs->qbD zs .nil qs=qbD zs f ps
 |[],qs,zs,h=>by
  simp only[qd3,zaa] at h
  subst h;rfl
 |(o,n,x)::r,qs,zs,h=>by
  simp only[qd3] at h
  split at h
  ·rename_i y hy
   split at h
   ·rename_i l hl
    simp only[zaa] at h
    subst h
    simp only[qbD,(qbF hF hy).1]
    congr 1;funext cs
    congr 1;funext zs
    exact qnb zs hl
   ·cases h
  ·cases h
theorem qnc:∀{ps qs:List (Nat×Option Nat×Arg)} (zs:List zP),qd3 F ps=some qs->qdl zs .nil qs=qdl zs f ps
 |[],qs,zs,h=>by
  simp only[qd3,zaa] at h
  subst h;rfl
 |(o,n,x)::r,qs,zs,h=>by
  simp only[qd3] at h
  split at h
  ·rename_i y hy
   split at h
   ·rename_i l hl
    simp only[zaa] at h
    subst h
    simp only[qdl,(qbF hF hy).1]
    congr 1;funext cs
    congr 1;funext cs
    congr 1;funext zs
    exact qnc zs hl
   ·cases h
  ·cases h
theorem qiY {x y:Option Arg}(h:qkT F x=some y)(d:Nat):qa1 d .nil y=qa1 d f x:=by
 cases x with
 |none=>
  simp only[qkT,zaa] at h
  subst h;rfl
 |some x=>
  simp only[qkT] at h
  split at h
  ·rename_i z hz
   simp only[zaa] at h
   subst h
   simp only[qa1,(qbF hF hz).1]
  ·cases h
theorem qbN {x:Arg}{k:Arg->Ins}{i:Ins}(h:o1 F x k=some i):∃y,i=k y/\y.ev .nil=x.ev f:=by
 unfold o1 at h
 split at h
 ·rename_i y hy
  simp only[zaa] at h
  exact⟨y,h.symm,(qbF hF hy).1⟩
 ·cases h
theorem qc0 {x y:Arg}{k:Arg->Arg->Ins}{i:Ins}(h:o2 F x y k=some i):∃x' y',i=k x' y'/\x'.ev .nil=x.ev f/\y'.ev .nil=y.ev f:=by
 unfold o2 at h
 split at h
 ·rename_i x' hx
  split at h
  ·rename_i y' hy
   simp only[zaa] at h
   exact⟨x',y',h.symm,(qbF hF hx).1,(qbF hF hy).1⟩
  ·cases h
 ·cases h
theorem qoT {x y z:Arg}{k:Arg->Arg->Arg->Ins}{i:Ins}(h:o3 F x y z k=some i):∃x' y' z',i=k x' y' z'/\x'.ev .nil=x.ev f/\y'.ev .nil=y.ev f/\z'.ev .nil=z.ev f:=by
 unfold o3 at h
 split at h
 ·rename_i x' hx
  split at h
  ·rename_i y' hy
   split at h
   ·rename_i z' hz
    simp only[zaa] at h
    exact⟨x',y',z',h.symm,(qbF hF hx).1,(qbF hF hy).1,(qbF hF hz).1⟩
   ·cases h
  ·cases h
 ·cases h
theorem qmC {ps:List (Nat×Option Nat×Arg)}{k:List (Nat×Option Nat×Arg)->Ins}{i:Ins}(h:oP F ps k=some i):∃qs,i=k qs/\(∀zs,qbD zs .nil qs=qbD zs f ps)/\∀zs,qdl zs .nil qs=qdl zs f ps:=by
 unfold oP at h
 split at h
 ·rename_i qs hq
  simp only[zaa] at h
  exact⟨qs,h.symm,fun zs=>qnb hF zs hq,fun zs=>qnc hF zs hq⟩
 ·cases h
theorem qp6 {xs:List Arg}{k:List Arg->Ins}{i:Ins}(h:oL F xs k=some i):∃ys,i=k ys/\ys.map (Arg.ev .nil)=xs.map (Arg.ev f):=by
 unfold oL at h
 split at h
 ·rename_i ys hy
  simp only[zaa] at h
  exact⟨ys,h.symm,qdE hF hy⟩
 ·cases h
theorem qnd {x:Arg}{xs:List Arg}{k:Arg->List Arg->Ins}{i:Ins}(h:o1L F x xs k=some i):∃y ys,i=k y ys/\y.ev .nil=x.ev f/\ys.map (Arg.ev .nil)=xs.map (Arg.ev f):=by
 unfold o1L at h
 split at h
 ·rename_i y hy
  split at h
  ·rename_i ys hys
   simp only[zaa] at h
   exact⟨y,ys,h.symm,(qbF hF hy).1,qdE hF hys⟩
  ·cases h
 ·cases h
theorem qp7 {xs zs:List Arg}{k:List Arg->List Arg->Ins}{i:Ins}(h:oLL F xs zs k=some i):∃ys ws,i=k ys ws/\ys.map (Arg.ev .nil)=xs.map (Arg.ev f)/\ws.map (Arg.ev .nil)=zs.map (Arg.ev f):=by
 unfold oLL at h
 split at h
 ·rename_i y hy
  split at h
  ·rename_i ys hys
   simp only[zaa] at h
   exact⟨y,ys,h.symm,qdE hF hy,qdE hF hys⟩
  ·cases h
 ·cases h
theorem qne {x:Arg}{lo hi:Option Arg}{k:Arg->Option Arg->Option Arg->Ins}{i:Ins}(h:oSl F x lo hi k=some i):∃y l u,i=k y l u/\y.ev .nil=x.ev f/\(∀d,qa1 d .nil l=qa1 d f lo)/\∀d,qa1 d .nil u=qa1 d f hi:=by
 unfold oSl at h
 split at h
 ·rename_i y hy
  split at h
  ·rename_i l hl
   split at h
   ·rename_i u hu
    simp only[zaa] at h
    exact⟨y,l,u,h.symm,(qbF hF hy).1,qiY hF hl,qiY hF hu⟩
   ·cases h
  ·cases h
 ·cases h
theorem qrw {o i:Ins}(hp:qaX o=true)(h:o.o F=some i):qaX i=true/\qah .nil i=qah f o:=by
 cases o<;>simp only[qaX,zaB] at hp<;>simp only[Ins.o] at h
 case mov x=>obtain⟨y,rfl,hy⟩:=qbN hF h;exact⟨rfl,by simp only[qah,hy]⟩
 case nck x=>obtain⟨y,rfl,hy⟩:=qbN hF h;exact⟨rfl,by simp only[qah,hy]⟩
 case not x=>obtain⟨y,rfl,hy⟩:=qbN hF h;exact⟨rfl,by simp only[qah,hy]⟩
 case cvt k x=>obtain⟨y,rfl,hy⟩:=qbN hF h;exact⟨rfl,by simp only[qah,hy]⟩
 case i2s x=>obtain⟨y,rfl,hy⟩:=qbN hF h;exact⟨rfl,by simp only[qah,hy]⟩
 case s2s x=>obtain⟨y,rfl,hy⟩:=qbN hF h;exact⟨rfl,by simp only[qah,hy]⟩
 case cap x=>obtain⟨y,rfl,hy⟩:=qbN hF h;exact⟨rfl,by simp only[qah,hy]⟩
 case fld o n x=>obtain⟨y,rfl,hy⟩:=qbN hF h;exact⟨rfl,by simp only[qah,hy]⟩
 case eqn g x=>obtain⟨y,rfl,hy⟩:=qbN hF h;exact⟨rfl,by simp only[qah,hy]⟩
 case mki t x=>obtain⟨y,rfl,hy⟩:=qbN hF h;exact⟨rfl,by simp only[qah,hy]⟩
 case tas t z k x=>obtain⟨y,rfl,hy⟩:=qbN hF h;exact⟨rfl,by simp only[qah,hy]⟩
 case fa off x=>obtain⟨y,rfl,hy⟩:=qbN hF h;exact⟨rfl,by simp only[qah,hy]⟩
 case ext x i=>obtain⟨y,rfl,hy⟩:=qbN hF h;exact⟨rfl,by simp only[qah,hy]⟩
 case len st x=>obtain⟨y,rfl,hy⟩:=qbN hF h;exact⟨rfl,by simp only[qah,hy]⟩
 case bin o x y=>obtain⟨x',y',rfl,hx,hy⟩:=qc0 hF h;exact⟨rfl,by simp only[qah,hx,hy]⟩
 case eqv k n x y=>obtain⟨x',y',rfl,hx,hy⟩:=qc0 hF h;exact⟨rfl,by simp only[qah,hx,hy]⟩
 case eqs k n x y=>obtain⟨x',y',rfl,hx,hy⟩:=qc0 hF h;exact⟨rfl,by simp only[qah,hx,hy]⟩
 case shf l x y=>obtain⟨x',y',rfl,hx,hy⟩:=qc0 hF h;exact⟨rfl,by simp only[qah,hx,hy]⟩
 case iaA n z x i=>obtain⟨x',y',rfl,hx,hy⟩:=qc0 hF h;exact⟨rfl,by simp only[qah,hx,hy]⟩
 case idxa m n x i=>obtain⟨x',y',rfl,hx,hy⟩:=qc0 hF h;exact⟨rfl,by simp only[qah,hx,hy]⟩
 case ia sz x i=>obtain⟨x',y',rfl,hx,hy⟩:=qc0 hF h;exact⟨rfl,by simp only[qah,hx,hy]⟩
 case idx x i=>obtain⟨x',y',rfl,hx,hy⟩:=qc0 hF h;exact⟨rfl,by simp only[qah,hx,hy]⟩
 case minmax m x y=>obtain⟨x',y',rfl,hx,hy⟩:=qc0 hF h;exact⟨rfl,by simp only[qah,hx,hy]⟩
 case pick a b c=>obtain⟨x,y,z,rfl,hx,hy,hz⟩:=qoT hF h;exact⟨rfl,by simp only[qah,hx,hy,hz]⟩
 case build z ps=>obtain⟨qs,rfl,h1,h2⟩:=qmC hF h;exact⟨rfl,by simp only[qah,h1,h2]⟩
 case mks n z ps=>obtain⟨qs,rfl,h1,h2⟩:=qmC hF h;exact⟨rfl,by simp only[qah,h1,h2]⟩
 case mkr n z ps=>obtain⟨qs,rfl,h1,h2⟩:=qmC hF h;exact⟨rfl,by simp only[qah,h1,h2]⟩
 case mkf fn a b=>obtain⟨ys,ws,rfl,h1,h2⟩:=qp7 hF h;exact⟨rfl,by simp only[qah,h1,h2]⟩
 case slice sz x lo hi=>obtain⟨y,l,u,rfl,h1,h2,h3⟩:=qne hF h;exact⟨rfl,by simp only[qah,h1,h2,h3]⟩
 case sstr x lo hi=>obtain⟨y,l,u,rfl,h1,h2,h3⟩:=qne hF h;exact⟨rfl,by simp only[qah,h1,h2,h3]⟩
end
theorem qkX {e:Env}{c:Cfg}{o:Ins}(hp:qaX o=true):qag e c o=(qah c.f o).map fun v=>(v,c):=by
 cases o<;>simp only[qaX,zaB] at hp<;>rfl
def qoU:Ins->Bool
 |.alloc .. |.alloced _|.box .. |.halloced .. |.load .. |.store .. =>true
 |_=>false
def Rl (c:Cfg)(x y:Option (zA×Cfg)):Prop:=∀v c',y=some (v,c')->x=some (v,{c with s:=c'.s})
theorem Rl.none {c:Cfg}{x:Option (zA×Cfg)}:Rl c x .none:=fun _ _ h=>by cases h
theorem Rl.some {c:Cfg}{v:zA}{c1 c2:Cfg}(h:c1={c with s:=c2.s}):Rl c (.some (v,c1)) (.some (v,c2)):=fun u c' h2=>by
 simp only[zaa,zad] at h2
 obtain⟨rfl,rfl⟩:=h2
 rw[h]
theorem Rl.bind {c:Cfg}{α:Type}{q:Option α}{k k':α->Option (zA×Cfg)}(h:∀a,Rl c (k a) (k' a)):Rl c (q.bind k) (q.bind k'):=fun v c' hv=>by
 cases q with
 |none=>cases hv
 |some a=>exact h a v c' hv
theorem Rl.map {c:Cfg}{α:Type}{q:Option α}{k k':α->zA×Cfg}(h:∀a,Rl c (.some (k a)) (.some (k' a))):Rl c (q.map k) (q.map k'):=fun v c' hv=>by
 cases q with
 |none=>cases hv
 |some a=>exact h a v c' hv
theorem Rl.cond {c:Cfg}{b:Bool}{x y x' y':Option (zA×Cfg)}(h:Rl c x x')(k:Rl c y y'):Rl c (cond b x y) (cond b x' y'):=by
 cases b with
 |true=>exact h
 |false=>exact k
section
variable {F:FL} {f:Tr zA} (hF:∀t v,qap F t=some v->f.get qaf t=v)
include hF
theorem qnf {e:Env}{c:Cfg}(hc:c.f=f){o i:Ins}(hl:qoU o=false)(hp:qaX o=false)(h:o.o F=some i):Rl c (qag e c o) (qag e (c0 c.s) i):=by
 subst hc
 cases o<;>simp only[qoU,qaX,Bool.true_eq_false] at hl hp<;>simp only[Ins.o] at h
 case lmap=>cases h
 case lins kd ks m k v=>cases h
 case halloc zs=>
  simp only[zaa] at h
  subst h
  simp only[qag,c0]
  repeat' (first|exact Rl.none|exact Rl.some rfl|refine Rl.bind fun _=>?_|refine Rl.map fun _=>?_|refine Rl.cond ?_ ?_|(split<;>try dsimp only))
 case hbld T e=>
  simp only[zaa] at h
  subst h
  simp only[qag,c0]
  repeat' (first|exact Rl.none|exact Rl.some rfl|refine Rl.bind fun _=>?_|refine Rl.map fun _=>?_|refine Rl.cond ?_ ?_|(split<;>try dsimp only))
 case mkmap=>
  simp only[zaa] at h
  subst h
  simp only[qag,c0]
  repeat' (first|exact Rl.none|exact Rl.some rfl|refine Rl.bind fun _=>?_|refine Rl.map fun _=>?_|refine Rl.cond ?_ ?_|(split<;>try dsimp only))
 case hbox n x=>
  obtain⟨y,rfl,h1⟩:=qbN hF h
  simp only[qag,c0,h1]
  repeat' (first|exact Rl.none|exact Rl.some rfl|refine Rl.bind fun _=>?_|refine Rl.map fun _=>?_|refine Rl.cond ?_ ?_|(split<;>try dsimp only))
 case mksl sz b x=>
  obtain⟨y,rfl,h1⟩:=qbN hF h
  simp only[qag,c0,h1]
  repeat' (first|exact Rl.none|exact Rl.some rfl|refine Rl.bind fun _=>?_|refine Rl.map fun _=>?_|refine Rl.cond ?_ ?_|(split<;>try dsimp only))
 case mkh sz b z l k=>
  obtain⟨y,z',rfl,h1,h2⟩:=qc0 hF h
  simp only[qag,c0,h1,h2]
  repeat' (first|exact Rl.none|exact Rl.some rfl|refine Rl.bind fun _=>?_|refine Rl.map fun _=>?_|refine Rl.cond ?_ ?_|(split<;>try dsimp only))
 case mkl n sz z ps=>
  obtain⟨qs,rfl,h1,h2⟩:=qmC hF h
  simp only[qag,c0,h1]
  repeat' (first|exact Rl.none|exact Rl.some rfl|refine Rl.bind fun _=>?_|refine Rl.map fun _=>?_|refine Rl.cond ?_ ?_|(split<;>try dsimp only))
 case call g args=>
  obtain⟨ys,rfl,h1⟩:=qp6 hF h
  simp only[qag,c0,h1]
  repeat' (first|exact Rl.none|exact Rl.some rfl|refine Rl.bind fun _=>?_|refine Rl.map fun _=>?_|refine Rl.cond ?_ ?_|(split<;>try dsimp only))
 case pcall g args=>
  obtain⟨ys,rfl,h1⟩:=qp6 hF h
  simp only[qag,c0,h1]
  repeat' (first|exact Rl.none|exact Rl.some rfl|refine Rl.bind fun _=>?_|refine Rl.map fun _=>?_|refine Rl.cond ?_ ?_|(split<;>try dsimp only))
 case inv t x args=>
  obtain⟨y,ys,rfl,h1,h2⟩:=qnd hF h
  simp only[qag,c0,h1,h2]
  repeat' (first|exact Rl.none|exact Rl.some rfl|refine Rl.bind fun _=>?_|refine Rl.map fun _=>?_|refine Rl.cond ?_ ?_|(split<;>try dsimp only))
 case callv g args=>
  obtain⟨y,ys,rfl,h1,h2⟩:=qnd hF h
  simp only[qag,c0,h1,h2]
  repeat' (first|exact Rl.none|exact Rl.some rfl|refine Rl.bind fun _=>?_|refine Rl.map fun _=>?_|refine Rl.cond ?_ ?_|(split<;>try dsimp only))
 case app sz b x y=>
  obtain⟨y,z',rfl,h1,h2⟩:=qc0 hF h
  simp only[qag,c0,h1,h2]
  repeat' (first|exact Rl.none|exact Rl.some rfl|refine Rl.bind fun _=>?_|refine Rl.map fun _=>?_|refine Rl.cond ?_ ?_|(split<;>try dsimp only))
 case apph sz b x y=>
  obtain⟨y,z',rfl,h1,h2⟩:=qc0 hF h
  simp only[qag,c0,h1,h2]
  repeat' (first|exact Rl.none|exact Rl.some rfl|refine Rl.bind fun _=>?_|refine Rl.map fun _=>?_|refine Rl.cond ?_ ?_|(split<;>try dsimp only))
 case b2s x=>
  obtain⟨y,rfl,h1⟩:=qbN hF h
  simp only[qag,c0,h1]
  repeat' (first|exact Rl.none|exact Rl.some rfl|refine Rl.bind fun _=>?_|refine Rl.map fun _=>?_|refine Rl.cond ?_ ?_|(split<;>try dsimp only))
 case cpy z d x=>
  obtain⟨y,z',rfl,h1,h2⟩:=qc0 hF h
  simp only[qag,c0,h1,h2]
  repeat' (first|exact Rl.none|exact Rl.some rfl|refine Rl.bind fun _=>?_|refine Rl.map fun _=>?_|refine Rl.cond ?_ ?_|(split<;>try dsimp only))
 case clr z zs x=>
  obtain⟨y,rfl,h1⟩:=qbN hF h
  simp only[qag,c0,h1]
  repeat' (first|exact Rl.none|exact Rl.some rfl|refine Rl.bind fun _=>?_|refine Rl.map fun _=>?_|refine Rl.cond ?_ ?_|(split<;>try dsimp only))
 case s2b x=>
  obtain⟨y,rfl,h1⟩:=qbN hF h
  simp only[qag,c0,h1]
  repeat' (first|exact Rl.none|exact Rl.some rfl|refine Rl.bind fun _=>?_|refine Rl.map fun _=>?_|refine Rl.cond ?_ ?_|(split<;>try dsimp only))
 case appz z b zs x y=>
  obtain⟨y,z',rfl,h1,h2⟩:=qc0 hF h
  simp only[qag,c0,h1,h2]
  repeat' (first|exact Rl.none|exact Rl.some rfl|refine Rl.bind fun _=>?_|refine Rl.map fun _=>?_|refine Rl.cond ?_ ?_|(split<;>try dsimp only))
 case insert kd ks m k v=>
  obtain⟨y,z',w',rfl,h1,h2,h3⟩:=qoT hF h
  simp only[qag,c0,h1,h2,h3]
  repeat' (first|exact Rl.none|exact Rl.some rfl|refine Rl.bind fun _=>?_|refine Rl.map fun _=>?_|refine Rl.cond ?_ ?_|(split<;>try dsimp only))
 case look kd ks z ok m k=>
  obtain⟨y,z',rfl,h1,h2⟩:=qc0 hF h
  simp only[qag,c0,h1,h2]
  repeat' (first|exact Rl.none|exact Rl.some rfl|refine Rl.bind fun _=>?_|refine Rl.map fun _=>?_|refine Rl.cond ?_ ?_|(split<;>try dsimp only))
 case ment kd ks z m k=>
  obtain⟨y,z',rfl,h1,h2⟩:=qc0 hF h
  simp only[qag,c0,h1,h2]
  repeat' (first|exact Rl.none|exact Rl.some rfl|refine Rl.bind fun _=>?_|refine Rl.map fun _=>?_|refine Rl.cond ?_ ?_|(split<;>try dsimp only))
 case mest m j v=>
  obtain⟨y,z',w',rfl,h1,h2,h3⟩:=qoT hF h
  simp only[qag,c0,h1,h2,h3]
  repeat' (first|exact Rl.none|exact Rl.some rfl|refine Rl.bind fun _=>?_|refine Rl.map fun _=>?_|refine Rl.cond ?_ ?_|(split<;>try dsimp only))
 case mlen m=>
  obtain⟨y,rfl,h1⟩:=qbN hF h
  simp only[qag,c0,h1]
  repeat' (first|exact Rl.none|exact Rl.some rfl|refine Rl.bind fun _=>?_|refine Rl.map fun _=>?_|refine Rl.cond ?_ ?_|(split<;>try dsimp only))
 case rng m=>
  obtain⟨y,rfl,h1⟩:=qbN hF h
  simp only[qag,c0,h1]
  repeat' (first|exact Rl.none|exact Rl.some rfl|refine Rl.bind fun _=>?_|refine Rl.map fun _=>?_|refine Rl.cond ?_ ?_|(split<;>try dsimp only))
 case nxt x=>
  obtain⟨y,rfl,h1⟩:=qbN hF h
  simp only[qag,c0,h1]
  repeat' (first|exact Rl.none|exact Rl.some rfl|refine Rl.bind fun _=>?_|refine Rl.map fun _=>?_|refine Rl.cond ?_ ?_|(split<;>try dsimp only))
 case ent x=>
  obtain⟨y,rfl,h1⟩:=qbN hF h
  simp only[qag,c0,h1]
  repeat' (first|exact Rl.none|exact Rl.some rfl|refine Rl.bind fun _=>?_|refine Rl.map fun _=>?_|refine Rl.cond ?_ ?_|(split<;>try dsimp only))
 case gla g n z i=>
  obtain⟨y,rfl,h1⟩:=qbN hF h
  simp only[qag,c0,h1]
  repeat' (first|exact Rl.none|exact Rl.some rfl|refine Rl.bind fun _=>?_|refine Rl.map fun _=>?_|refine Rl.cond ?_ ?_|(split<;>try dsimp only))
end
end Go.AI
