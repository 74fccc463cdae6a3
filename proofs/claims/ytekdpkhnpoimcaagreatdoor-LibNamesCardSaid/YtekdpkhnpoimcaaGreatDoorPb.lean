/- An interpreter for the code of the model, proved sound. No condition. -/
import Derived.Test.YtekdpkhnpoimcaaGreatDoorPa
import Derived.MapKept
import Derived.Laws.IdiomRangeMap
import Derived.Laws.BytesString
import Derived.Laws.IdiomStrings
set_option linter.unusedVariables false
set_option linter.unusedSimpArgs false
open Array renaming getElem?_eq_some_iff→zag,getElem?_toList→zal,getElem?_eq_getElem→zam,getD_eq_getD_getElem?→zao,length_toList→zay
open Bool renaming and_eq_true→zae,false_eq_true→zaB,not_eq_true'→zaC,or_eq_true→zaG
open List renaming getElem?_eq_some_iff→zah,getElem?_eq_getElem→zai,all_eq_true→zaj,getElem?_cons_zero→zak,length_append→zan,replicate→zar,getElem?_append_right→zat,getElem?_append_left→zau,getElem?_map→zav,mem_of_getElem?→zaw,length_eq_zero_iff→zax,mem_cons_self→zaz,mem_append→zaA,getElem?_take→zaD,mem_cons_of_mem→zaE,map_cons→zaF,mem_cons→zaI,length_take→zaM,length_cons→zaO,mem_map→zaS
open Nat renaming le_refl→zaf,lt_of_lt_of_le→zas,mul_le_mul_right→zaH,zero_add→zaL,add_mul→zaP,le_trans→zaR
open Option renaming bind_eq_some_iff→zab,map_eq_some_iff→zac,bind_some→zap,map_some→zaq
open Option.some renaming injEq→zaa
open Prod.mk renaming injEq→zad
namespace Go.AI
variable {P:Program} {E:Rom} {U pd:Nat->Option (List zA)} {l:Tr (Nat×List zA)} {s:ASt} {G:Gh} {w w':World} {f:Tr zA} {a:Act} {o:Oper} {v:zA}
theorem PR.vals {S:Nat->Nat->Prop}{n:Nat}{cs:List zP}{ad:Option Addr}{cap:Nat}(h:PR S w (.sl n cs) (.slice ad n cap)):
  ∃vs:List Value,n<=cap/\(n=0↔cs=[])/\Rows (PR S w) cs vs.toArray/\∀(i:Nat) v,vs[i]? =some v->∃x,ad=some x/\w.cell? (x.add i)=some v:=by
 cases h with
 |sl _ _ _ _ vs hn hl hz h1 hc h=>
  exact⟨vs,hn,hz,⟨by simpa using hl,by simpa using h1,fun i c v hc hv=>h i c v hc (by simpa using hv)⟩,fun i v hv=>by
   obtain⟨x,e,h2,_⟩:=hc i v hv
   exact⟨x,e,h2⟩⟩
theorem qdv {sz n cap:Nat}{ad:Option Addr}{vs:List Value}(hl:vs.length=n*sz)(h0:n=0↔vs=[])(hc:∀(i:Nat) v,vs[i]? =some v->∃x,ad=some x/\w.cell? (x.add i)=some v):
  (Builtin.firstCells sz n (.slice ad n cap)).run P w=.ok vs.toArray w:=by
 cases ad with
 |none=>
  cases vs with
  |nil=>
   have:=h0.2 rfl
   subst this
   exact run_firstCells_none w sz 0 0 cap
  |cons v vs=>obtain⟨_,e,_⟩:=hc 0 v rfl;cases e
 |some x=>exact run_firstCells_some w sz n x n cap vs hl (fun j u hu=>by
   obtain⟨x',e,h⟩:=hc j u hu
   cases e
   exact h)
theorem qpv {sz n cap:Nat}{tx e':TypeId}(hk:P.underlying tx=some (.slice e')){ad:Option Addr}{vs:List Value}(hl:vs.length=n*sz)(h0:n=0↔vs=[])(hc:∀(i:Nat) v,vs[i]? =some v->∃x,ad=some x/\w.cell? (x.add i)=some v)
  (h1:∀u∈vs,u.oneCell'=true):Src P sz tx (.slice ad n cap) n vs w:=
 ⟨.inl ⟨e',hk⟩,fun _=>rfl,qdv hl h0 hc,qdv hl h0 (fun i v hv=>by simpa using hc i v hv),hl,h1⟩
theorem qeE {t tx ty e e':TypeId}{i:TypeInfo}(ht:P.underlying t=some (.slice e))(hk:P.underlying tx=some (.slice e'))(hi:P.info? e=some i){b n cap m:Nat}{c:Array Value}{E0:TypeId}(hb:w.heap[b]? =some (.cells c E0 (0,0)))
  {x:Value}{news:List Value}(hs:Src P i.size tx x m news w)(hroom:n+m<=cap)(hfit:n*i.size+news.length<=c.size):
  (Builtin.append_ #[t,tx] ty #[.slice (some ⟨b,0,none⟩) n cap,x]).run P w=
   .ok (.slice (some ⟨b,0,none⟩) (n+m) cap) (w.setRow b (c.toList.take (n*i.size)++news++c.toList.drop (n*i.size+news.length)).toArray):=by
 have hst:=run_storeCells_at P b (n*i.size) E0 news 0 c w hb (by simpa using hfit) hs.one
 simp only[Nat.add_zero] at hst
 simp[Builtin.append_,run_underlying ht,run_underlying hk,sizeOf,typeInfo,hi,hs.len,hroom,hs.cells,Addr.add_lit,hst]
theorem Rows.pext {G':Gh}(x:Ext G w G' w'){cs:List zP}{c:Array Value}(h:Rows (PR G.S w) cs c):Rows (PR G'.S w') cs c:=⟨h.1,h.2.1,fun i a v ha hv=>(h.2.2 i a v ha hv).ext x⟩
theorem Rows.append {α:Type}{R:α->Value->Prop}{xs ys:List α}{us vs:List Value}(h:Rows R xs us.toArray)(k:Rows R ys vs.toArray):Rows R (xs++ys) (us++vs).toArray:=by
 have hl:xs.length=us.length:=by simpa using h.1
 refine⟨by have:=k.1;simp at this⊢;omega,fun v hv=>?_,fun i c v hc hv=>?_⟩
 ·simp only[List.mem_toArray,zaA] at hv
  rcases hv with hv|hv
  ·exact h.2.1 v (by simpa using hv)
  ·exact k.2.1 v (by simpa using hv)
 ·rw[List.getElem?_toArray] at hv
  by_cases hi:i<xs.length
  ·rw[zau hi] at hc
   rw[zau (by omega)] at hv
   exact h.2.2 i c v hc (by simpa using hv)
  ·rw[zat (by omega)] at hc
   rw[zat (by omega)] at hv
   exact k.2.2 (i-xs.length) c v hc (by rw[List.getElem?_toArray,hl];exact hv)
theorem PR.head {S:Nat->Nat->Prop}{b n cap:Nat}{cs:List zP}{vs:List Value}{c:Array Value}{E0:TypeId}(hb:w.heap[b]? =some (.cells c E0 (0,0)))(hr:Rows (PR S w) cs vs.toArray)(hz:n=0↔cs=[])(hn:n<=cap)
  (hc:∀i,i<vs.length->c[i]? =vs[i]?)(hS:∀i,i<vs.length->S b i):PR S w (.sl n cs) (.slice (some ⟨b,0,none⟩) n cap):=by
 refine .sl n cs _ cap vs hn (by simpa using hr.1) hz (fun u hu=>hr.2.1 u (by simpa using hu)) (fun i u hu=>?_) (fun i c u hc hu=>hr.2.2 i c u hc (by simpa using hu))
 have hi:i<vs.length:=(zah.1 hu).1
 refine⟨_,rfl,?_,?_⟩
 ·rw[qb5]
  unfold World.cell?
  simp only[hb,Option.isSome_none,zaB,if_false]
  simp only[zaL]
  rw[hc i hi]
  exact hu
 ·simpa using hS i hi
theorem qnF {G:Gh}{b t n sz i:Nat}(h:G.own b=.tok t n sz)(hi:i<n*sz):G.S b i:=by unfold Gh.S;rw[h];exact hi
theorem qeF {e:TypeId}{i:TypeInfo}(hi:P.info? e=some i)(h:(zeroCells P e).isSome=true):∃z,i.zero=some z/\z.cells.size=i.size:=by
 obtain⟨cs,hcs⟩:=Option.isSome_iff_exists.1 h
 obtain⟨i',z,n,hi',hz,hn,hl,hr,_⟩:=qaB (P:=P) ⟨fun _=> .free,fun _=>none,fun _ _=>none,0,0⟩ default hcs
 rw[hi] at hi'
 cases hi'
 obtain⟨_,i'',_,hi'',hsz,_⟩:=qcx hn
 rw[hi] at hi''
 cases hi''
 exact⟨z,hz,by rw[<-hr.1,hl,hsz]⟩
theorem qpw (h:MR P E U pd l s G w)(c:Call)(hop:o.op=.call c)(hc:c.callee=.builtin .append){x y:Operand}(hxs:c.args.toList=[x,y]){t u e e':TypeId}(hts:c.argTypes.toList=[t,u])(ht:P.underlying t=some (.slice e))(hu:P.underlying u=some (.slice e'))
  {i:TypeInfo}(hi:P.info? e=some i)(hsz:0<i.size)(hby:0<i.bytes)(hzc:(zeroCells P e).isSome=true){gx gy:Arg}(hx:qaw x=some gx)(hy:qaw y=some gy)(hr:qan G w f a (gx.tmps++gy.tmps))
  {m n:Nat}{cs new:List zP}{tk:Tk}(hnew:qcz (gy.ev f)=some (m,new))(hsv:gx.ev f=.sl n cs tk)(hle:(n+m)*i.bytes<=140737488355328)(hnl:new.length=m*i.size):
  (m=0->NextP P (qa8 P E U pd G w l s (.sl n cs tk)) ((execOp a.eval o).run P w))/\
  (m≠0->tk=.full->cs.length=n*i.size->NextP P (qa8 P E U pd G w l {s with ntok:=s.ntok+1,toks:=(s.ntok,n+m,i.size)::s.toks} (.sl (n+m) (cs++new) (.own s.ntok))) ((execOp a.eval o).run P w))/\
  (m≠0->∀t ts,tk=.own t->qap s.toks t=some (n,i.size)->qb3 s.toks t (n+m,i.size)=some ts->NextP P (qa8 P E U pd G w l {s with toks:=ts} (.sl (n+m) (cs++new) (.own t))) ((execOp a.eval o).run P w)):=by
 have h1:=qar hx fun t ht=>hr t (by simp[ht])
 have h2:=qar hy fun t ht=>hr t (by simp[ht])
 have he:execOp a.eval o=(do pure (.value (<-Builtin.append_ #[t,u] o.type #[a.eval x,a.eval y]))):=by
  rw[qaH c hop .append hc,qfl hxs,qfl hts];simp[builtin]
 obtain⟨ad,cap,ey,hpy⟩:=qcC hnew h2
 obtain⟨news,_,hnz,hrn,hcn⟩:=hpy.vals
 have hnl':news.length=m*i.size:=by have:=hrn.1;simp at this;omega
 have hm0:m=0↔news=[]:=by
  constructor
  ·intro e;rw[e,Nat.zero_mul] at hnl';exact zax.1 hnl'
  ·intro e
   rw[e] at hnl'
   rcases Nat.eq_zero_or_pos m with e1|e1
   ·exact e1
   ·have:=Nat.mul_pos e1 hsz
    simp at hnl'
    omega
 have hsrc:Src P i.size u (.slice ad m cap) m news w:=qpv hu hnl' hm0 hcn (fun u hu=>hrn.2.1 u (by simpa using hu))
 obtain⟨z,hz,hzs⟩:=qeF hi hzc
 have h63:((n+m:Nat):Int)<=9223372036854775807:=by
  have:n+m<=(n+m)*i.bytes:=Nat.le_mul_of_pos_right _ hby
  omega
 have hrow:qcz (gx.ev f)=some (n,cs):=by rw[hsv];rfl
 obtain⟨bd,bc,ex,hpx⟩:=qcC hrow h1
 obtain⟨olds,hnc,hoz,hro,hco⟩:=hpx.vals
 have hol:olds.length=cs.length:=by have:=hro.1;simp at this;omega
 refine⟨fun em=>?_,fun em etk ecs=>?_,fun em t1 ts etk ets qaI=>?_⟩
 ·subst em
  have:news=[]:=hm0.1 rfl
  subst this
  refine qaJ (u:=a.eval x) (w':=w) he ?_ ⟨G,Ext.refl G w,h,by rw[<-hsv];exact h1⟩
  rw[ex,ey]
  exact run_append_nothing w t u o.type e i ht hi bd n bc hnc _ hsrc
 ·
  subst etk
  rw[hsv] at h1
  have hbc:bc=n:=by
   rw[ex] at h1
   cases h1
   rfl
  subst hbc
  have hfo:(Builtin.firstCells i.size bc (.slice bd bc bc)).run P w.drew=.ok olds.toArray w.drew:=qdv (by omega) (by
   constructor
   ·intro e0;rw[hoz] at e0;rw[e0] at hol;exact zax.1 (by simpa using hol)
   ·intro e0;rw[hoz];rw[e0] at hol;exact zax.1 (by simpa using hol.symm)) (fun j v hv=>by simpa using hco j v hv)
  have hrun:=run_append_grow_src w t u o.type e i z ht hi hz bd bc bc olds hfo (.slice ad m cap) m news hsrc (by omega) h63 (growslice_fits (by omega) hle)
  generalize hcap':grownCap w (bc+m) bc e=cap' at hrun
  have hge:bc+m<=cap':=by rw[<-hcap'];exact grownCap_ge w _ _ _
  have k:Keep w (w.drew.alloc (.cells ((olds++news).toArray++Builtin.zeroCells z.cells (cap'-(bc+m))) e)):=(Keep.drew w).trans (Keep.alloc _ _)
  have hheap:=heap_alloc_new w.drew (.cells ((olds++news).toArray++Builtin.zeroCells z.cells (cap'-(bc+m))) e)
  have hdsz:w.drew.heap.size=w.heap.size:=rfl
  rw[hdsz] at hheap
  have hcsz:((olds++news).toArray++Builtin.zeroCells z.cells (cap'-(bc+m))).size=cap'*i.size:=by
   rw[Array.size_append,size_zeroCells,hzs]
   simp only[List.size_toArray,zan,hol,ecs,hnl',<-zaP]
   congr 1
   omega
  have hlt:w.heap.size<(w.drew.alloc (.cells ((olds++news).toArray++Builtin.zeroCells z.cells (cap'-(bc+m))) e)).heap.size:=by simp
  obtain⟨x1,m1⟩:=h.addT k (n:=bc+m) (sz:=i.size) (zaf _) hlt hsz hheap (by rw[hcsz];exact zaH _ hge)
  have hown:(G.addT w.heap.size s.ntok (bc+m) i.size).own w.heap.size=.tok s.ntok (bc+m) i.size:=by simp[Gh.addT,qas]
  refine qaJ he (by rw[ex,ey];exact hrun) ⟨_,x1,m1,.own _ _ _ _ _ ?_ ?_⟩
  ·refine PR.head hheap ((hro.append hrn).pext x1) ?_ hge (fun j hj=>?_) (fun j hj=>qnF hown (by simp only[zan,hol,ecs,hnl',←zaP] at hj;exact hj))
   ·have:new≠[]:=fun e0=>em (hnz.2 e0)
    simp[em,this]
   ·rw[Array.getElem?_append_left (by simpa using hj)];simp
  ·refine⟨by show s.ntok<G.nt+1;rw[h.nt];exact Nat.lt_succ_self _,fun b q p hb=>?_⟩
   have hb':b=w.heap.size:=m1.tok.2.2 b w.heap.size _ _ _ _ _ hb hown
   subst hb'
   rw[hown] at hb
   injection hb with e1 e2 e3
   subst e2;subst e3
   exact⟨zaf _,fun _=>⟨rfl,by simp only[zan,ecs,hnl,zaP],hsz,_,_,hheap,hcsz⟩⟩
 ·
  subst etk
  rw[hsv,ex] at h1
  obtain⟨hr1,hr2⟩:Right G w n cs t1 bd bc:=by cases h1;assumption
  obtain⟨_,b,hb⟩:=h.tok.1 t1 n i.size ets
  obtain⟨_,hr3⟩:=hr2 b n i.size hb
  obtain⟨ebd,ecs,_,c0,E0,hheap0,hc0⟩:=hr3 rfl
  subst ebd
  have hfo0:n=0↔olds=[]:=by
   constructor
   ·intro e0;rw[hoz] at e0;rw[e0] at hol;exact zax.1 (by simpa using hol)
   ·intro e0;rw[hoz];rw[e0] at hol;exact zax.1 (by simpa using hol.symm)
  have hne:new≠[]:=fun e0=>em (hnz.2 e0)
  by_cases hroom:n+m<=bc
  ·have hfit:n*i.size+news.length≤c0.size:=by rw[hnl',hc0,←zaP];exact zaH _ hroom
   have hrun:=qeE (ty:=o.type) ht hu hi hheap0 hsrc hroom hfit
   have hheap1:=setRow_heap w b c0 (c0.toList.take (n*i.size)++news++c0.toList.drop (n*i.size+news.length)).toArray E0 (0,0) hheap0
   have qaD:=qc9 c0 news (n*i.size) hfit
   have hsize:=qaZ c0 news (n*i.size) hfit
   obtain⟨x1,m1⟩:=h.setT (n':=n+m) (Swap.setRow w b _ (fun c1 E1 f1 h1=>by rw[hheap0] at h1;injection h1 with h1;injection h1 with h1 _ _;rw[<-h1];exact hsize)) hb (Nat.le_add_right _ _) hheap0 hheap1 hsize (by rw[hc0];exact zaH _ hroom) (fun j hj=>by rw[qaD,if_pos hj]) qaI
   have hown:(G.setT b t1 (n+m) i.size).own b=.tok t1 (n+m) i.size:=by simp[Gh.setT,qas]
   refine qaJ he (by rw[ex,ey];exact hrun) ⟨_,x1,m1,.own _ _ _ _ _ ?_ ?_⟩
   ·refine PR.head hheap1 ((hro.append hrn).pext x1) (by simp[em,hne]) hroom (fun j hj=>?_) (fun j hj=>qnF hown (by simp only[zan,hol,ecs,hnl',←zaP] at hj;exact hj))
    rw[qaD]
    simp only[zan] at hj
    by_cases c1:j<n*i.size
    ·rw[if_pos c1,zau (by omega)]
     have hj':j<olds.length:=by omega
     obtain⟨x',e1,e2⟩:=hco j _ (zai hj')
     cases e1
     rw[qb5] at e2
     unfold World.cell? at e2
     simp only[hheap0,Option.isSome_none,zaB,if_false,zaL] at e2
     rw[e2,zai hj']
    ·rw[if_neg c1,if_pos (by omega),zat (by omega)]
     congr 1
     omega
   ·refine⟨by show t1<G.nt;exact hr1,fun b' q p hb'=>?_⟩
    have hbb:b'=b:=m1.tok.2.2 b' b _ _ _ _ _ hb' hown
    subst hbb
    rw[hown] at hb'
    injection hb' with e1 e2 e3
    subst e2;subst e3
    exact⟨zaf _,fun _=>⟨rfl,by simp only[zan,ecs,hnl,zaP],hsz,_,_,hheap1,by rw[hsize,hc0]⟩⟩
  ·have hfo:(Builtin.firstCells i.size n (.slice (some ⟨b,0,none⟩) n bc)).run P w.drew=.ok olds.toArray w.drew:=by
    refine run_firstCells_some w.drew i.size n ⟨b,0,none⟩ n bc olds (by omega) (fun j v hv=>?_)
    obtain⟨x',e1,e2⟩:=hco j v hv
    cases e1
    simpa using e2
   have hrun:=run_append_grow_src w t u o.type e i z ht hi hz (some ⟨b,0,none⟩) n bc olds hfo (.slice ad m cap) m news hsrc (by omega) h63 (growslice_fits (by omega) hle)
   generalize hcap':grownCap w (n+m) bc e=cap' at hrun
   have hge:n+m<=cap':=by rw[<-hcap'];exact grownCap_ge w _ _ _
   have k:Keep w (w.drew.alloc (.cells ((olds++news).toArray++Builtin.zeroCells z.cells (cap'-(n+m))) e)):=(Keep.drew w).trans (Keep.alloc _ _)
   have hheap:=heap_alloc_new w.drew (.cells ((olds++news).toArray++Builtin.zeroCells z.cells (cap'-(n+m))) e)
   have hdsz:w.drew.heap.size=w.heap.size:=rfl
   rw[hdsz] at hheap
   have hcsz:((olds++news).toArray++Builtin.zeroCells z.cells (cap'-(n+m))).size=cap'*i.size:=by
    rw[Array.size_append,size_zeroCells,hzs]
    simp only[List.size_toArray,zan,hol,ecs,hnl',<-zaP]
    congr 1
    omega
   have hlt:w.heap.size<(w.drew.alloc (.cells ((olds++news).toArray++Builtin.zeroCells z.cells (cap'-(n+m))) e)).heap.size:=by simp
   obtain⟨x1,m1⟩:=h.movT k (n':=n+m) (nb:=w.heap.size) hb (by omega) (zaf _) hlt hheap (by rw[hcsz];exact zaH _ hge) qaI
   have hown:(G.movT b w.heap.size t1 (n+m) i.size).own w.heap.size=.tok t1 (n+m) i.size:=by simp[Gh.movT,qas]
   refine qaJ he (by rw[ex,ey];exact hrun) ⟨_,x1,m1,.own _ _ _ _ _ ?_ ?_⟩
   ·refine PR.head hheap ((hro.append hrn).pext x1) (by simp[em,hne]) hge (fun j hj=>?_) (fun j hj=>qnF hown (by simp only[zan,hol,ecs,hnl',←zaP] at hj;exact hj))
    rw[Array.getElem?_append_left (by simpa using hj)];simp
   ·refine⟨by show t1<G.nt;exact hr1,fun b' q p hb'=>?_⟩
    have hbb:b'=w.heap.size:=m1.tok.2.2 b' w.heap.size _ _ _ _ _ hb' hown
    subst hbb
    rw[hown] at hb'
    injection hb' with e1 e2 e3
    subst e2;subst e3
    exact⟨zaf _,fun _=>⟨rfl,by simp only[zan,ecs,hnl,zaP],hsz,_,_,hheap,hcsz⟩⟩
theorem qnG (h:MR P E U pd l s G w)(t:TypeId)(x:Operand)(hop:o.op=.makeSlice t (.const (.int .i64 0)) x){e:TypeId}(ht:P.underlying t=some (.slice e)){i:TypeInfo}(hi:P.info? e=some i)(hsz:0<i.size)(hby:0<i.bytes)(hzc:(zeroCells P e).isSome=true)
  {g:Arg}(hg:qaw x=some g)(hr:qan G w f a g.tmps){m:Nat}(hm:qbi (g.ev f)=some m)(hle:m*i.bytes<=140737488355328):
  NextP P (qa8 P E U pd G w l {s with ntok:=s.ntok+1,toks:=(s.ntok,0,i.size)::s.toks} (.sl 0 [] (.own s.ntok))) ((execOp a.eval o).run P w):=by
 obtain⟨k,ek⟩:=qbm hm (qar hg hr)
 obtain⟨z,hz,hzs⟩:=qeF hi hzc
 have hmb:m<=m*i.bytes:=Nat.le_mul_of_pos_right _ hby
 have hrun:=run_make (P:=P) w t e i z ht hi hz .i64 k 0 (m:Int) (Int.le_refl _) (by omega) (by
  have:((m*i.bytes:Nat):Int)<=140737488355328:=by omega
  rw[Int.natCast_mul,Int.mul_comm] at this
  omega) (by omega)
 have hheap:=heap_alloc_new w (.cells (madeCells z.cells ((m:Int).toNat*i.size)) e)
 obtain⟨x1,m1⟩:=h.addT (Keep.alloc w (.cells (madeCells z.cells ((m:Int).toNat*i.size)) e)) (n:=0) (sz:=i.size) (zaf _) (qa9 w _) hsz hheap (by simp)
 have hown:(G.addT w.heap.size s.ntok 0 i.size).own w.heap.size=.tok s.ntok 0 i.size:=by simp[Gh.addT,qas]
 refine qaJ (qc1 t _ x hop) (by rw[ek];exact hrun) ⟨_,x1,m1,.own _ _ _ _ _ (PR.nil_row _ _) ?_⟩
 refine⟨by show s.ntok<G.nt+1;rw[h.nt];exact Nat.lt_succ_self _,fun b q p hb=>?_⟩
 have hb':b=w.heap.size:=m1.tok.2.2 b w.heap.size _ _ _ _ _ hb hown
 subst hb'
 rw[hown] at hb
 injection hb with e1 e2 e3
 subst e2;subst e3
 exact⟨zaf _,fun _=>⟨rfl,by simp,hsz,_,_,hheap,by rw[size_madeCells]⟩⟩
theorem qcc {z:List zA}(hz:z.all qaF=true)(n:Nat):(zar n z).flatten.all qaF=true:=by
 rw[zaj]
 intro x hx
 obtain⟨l,hl,hx⟩:=List.mem_flatten.1 hx
 rw[List.eq_of_mem_replicate hl] at hx
 exact zaj.1 hz x hx
theorem qpx (h:MR P E U pd l s G w)(t:TypeId)(x y:Operand)(hop:o.op=.makeSlice t x y){e:TypeId}(ht:P.underlying t=some (.slice e)){i:TypeInfo}(hi:P.info? e=some i)(hsz:0<i.size)(hby:0<i.bytes){zs:List zA}(hzc:zeroCells P e=some zs)
  {gx gy:Arg}(hgx:qaw x=some gx)(hgy:qaw y=some gy)(hr:qan G w f a (gx.tmps++gy.tmps)){m k:Nat}(hm:qbi (gx.ev f)=some m)(hk:qbi (gy.ev f)=some k)(hmk:m<=k)(hle:k*i.bytes<=140737488355328)(ha:zs.all qaF=true):
  NextP P (qa8 P E U pd G w l (qav s (.cells (zar k zs).flatten)) (.hs s.next 0 m k i.size false)) ((execOp a.eval o).run P w):=by
 obtain⟨q1,e1⟩:=qbm hm (qar hgx fun t ht=>hr t (by simp[ht]))
 obtain⟨q2,e2⟩:=qbm hk (qar hgy fun t ht=>hr t (by simp[ht]))
 obtain⟨i',z,n,hi',hz,hn,hlen,hrows,_⟩:=qaB G w hzc
 rw[hi] at hi'
 cases hi'
 obtain⟨_,i2,_,hi2,hs2,_⟩:=qcx hn
 rw[hi] at hi2
 cases hi2
 have hzs:z.cells.size=i.size:=by rw[<-hrows.1,hlen,hs2]
 have hkb:k<=k*i.bytes:=Nat.le_mul_of_pos_right _ hby
 have hrun:=run_make (P:=P) w t e i z ht hi hz q1 q2 (m:Int) (k:Int) (by omega) (by omega) (by
  have:((k*i.bytes:Nat):Int)<=140737488355328:=by omega
  rw[Int.natCast_mul,Int.mul_comm] at this
  omega) (by omega)
 have hr1:=qaT hrows k
 rw[hzs] at hr1
 have e3:madeCells z.cells (k*i.size)=(Array.range (k*i.size)).map (z.cells[·%i.size]!):=by unfold madeCells;rw[hzs]
 rw[<-e3] at hr1
 have ha1:=qcc ha k
 have x1:=h.ext_addH (Keep.alloc w (.cells (madeCells z.cells (k*i.size)) e)) (b:=w.heap.size) (q:=s.next) (zaf _) h.bOf_next h.lo_
 have m1:=h.addH (Keep.alloc w (.cells (madeCells z.cells (k*i.size)) e)) (zaf _) (qa9 w _) (o:=.cells (zar k zs).flatten) ⟨BR.of_rows (heap_alloc_new w _) (hr1.ext x1),ha1⟩
 refine qaJ (qc1 t x y hop) (by rw[e1,e2];exact hrun) ⟨_,x1,m1,.hs _ _ _ _ _ _ w.heap.size k (by simp[Gh.addH,qas]) hmk (zaf _) (fun _=>rfl) ⟨_,e,_,heap_alloc_new w _,?_⟩⟩
 rw[size_madeCells]
 omega
theorem qpy (h:MR P E U pd l s G w)(t:TypeId)(len:Nat)(ps:Array (Nat×Operand))(hop:o.op=.buildSlice t len ps){e:TypeId}(ht:qbR P t=some e){sz:Nat}(hs:qcZ P e=some sz){n:Option Nat}(hn:shp P e=some n)
  {z:List zA}(hz:zeroCells P e=some z)(hle:len*sz<=100000){gs:List (Nat×Option Nat×Arg)}(hg:qbz (fun i=>some (i*sz,n)) ps.toList=some gs)
  (hr:qan G w f a (gs.flatMap fun p=>p.2.2.tmps)){cs:List zA}(hf:qbD (zar len z).flatten f gs=some cs)(ha:cs.all qaF=true):
  NextP P (qa8 P E U pd G w l (qav s (.cells cs)) (.hs s.next 0 len len sz false)) ((execOp a.eval o).run P w):=by
 obtain⟨i,zv,n',hi,hiz,hsh,hlen,hrows,_⟩:=qaB G w hz
 obtain⟨hs0,i',hi',his⟩:=qbL hs
 obtain⟨_,i'',_,hi'',hsz,_⟩:=qcx hn
 rw[hi] at hi' hi''
 cases hi';cases hi''
 rw[hn] at hsh
 cases hsh
 have hu:=qaP ht
 have hzc:zv.cells.size=sz:=by rw[<-hrows.1,hlen,<-hsz,his]
 have hr0:=qaT hrows len
 rw[hzc] at hr0
 obtain⟨cells',h1,h2⟩:=qds (w:=w) (f:=f) (a:=a) (place':=fun i=>some (i*sz,sz)) (fun i off n h=>by
  simp only[zaa,zad] at h⊢
  obtain⟨rfl,rfl⟩:=h
  exact⟨rfl,by omega⟩) hg hf hr hr0
 have hsmall:¬len*i.size>2^24:=by rw[his];omega
 have hsize:cells'.size=len*sz:=by
  have e1:=h2.1
  rw[qgP hf] at e1
  have e2:=hr0.1
  rw[Array.size_map,Array.size_range] at e2
  rw[<-e1,e2]
 have x1:=h.ext_addH (Keep.alloc w (.cells cells' e)) (b:=w.heap.size) (q:=s.next) (zaf _) h.bOf_next h.lo_
 have m1:=h.addH (Keep.alloc w (.cells cells' e)) (zaf _) (qa9 w _) (o:=.cells cs) ⟨BR.of_rows (heap_alloc_new w _) (h2.ext x1),ha⟩
 refine qaJ (qbW t len ps hop) (qbX w t e len _ cells' i zv hu hi hiz hsmall ?_) ⟨_,x1,m1,.hs _ _ _ _ _ _ w.heap.size len (by simp[Gh.addH,qas]) (zaf _) (zaf _) (fun _=>rfl) ⟨_,e,_,heap_alloc_new w _,by omega⟩⟩
 rw[his,hzc,Array.toList_map]
 exact h1
end Go.AI
namespace Go.AI
variable {P:Program} {E:Rom} {U pd:Nat->Option (List zA)} {l:Tr (Nat×List zA)} {s:ASt} {G:Gh} {w w':World} {f:Tr zA} {a:Act} {o:Oper} {v:zA}
theorem qfD (h:MR P E U pd l s G w){q b:Nat}{cs0:List zA}(hb:G.bOf q=some b)(hc0:qb9 E s q=some cs0):BR G w b cs0:=by
 unfold qb9 at hc0
 split at hc0
 ·rename_i ds he
  simp only[zaa] at hc0
  subst hc0
  rcases(h.heap q _ he).2 with e|⟨b',h1,h2,h3⟩
  ·rw[hb] at e;cases e
  ·rw[hb] at h1;cases h1;exact h3.1
 ·cases hc0
 ·split at hc0<;>try (cases hc0;done)
  rename_i ds he
  simp only[zaa] at hc0
  subst hc0
  obtain⟨hqlo,he⟩:=qey he
  rcases((h.ro q _ he).1 hqlo).2 with e|⟨b',j,h1,h2,h3⟩
  ·rw[hb] at e;cases e
  ·rw[hb] at h1;cases h1;exact h3.1
theorem MR.delH (h:MR P E U pd l s G w){q b:Nat}(hb:G.bOf q=some b):MR P E U pd l {s with heap:=qhs s.heap q none} G w:=by
 refine⟨h.own,h.bOf,h.lo_,fun k zs hk=>?_,h.pdz,h.nt,h.loc,h.lam,fun k p hk=>?_,h.ro,h.tok⟩
 ·obtain⟨h1,h2,h3⟩:=h.un k zs hk
  refine⟨h1,?_,h3⟩
  show qaD (qhs s.heap q none) k=_
  rw[qbw,if_neg (fun e=>by subst e;rw[hb] at h1;cases h1)]
  exact h2
 ·have hk':qaD (qhs s.heap q none) k=some p:=hk
  rw[qbw] at hk'
  split at hk'
  ·cases hk'
  ·exact h.heap k p hk'
theorem MR.ext_mvH (h:MR P E U pd l s G w){b q:Nat}(sw:Swap b w w')(ho:G.own b=.loc q):Ext G w (G.addH b s.next) w' where
 size:=by rw[sw.size];exact zaf _
 os:=sw.os
 tape:=sw.tape
 output:=sw.output
 still:=fun y _ hs=>by
  have e:y≠b:=fun e=>by subst e;rw[ho] at hs;exact hs
  exact⟨sw.same y e,qak _ _ _ e⟩
 tok:=fun y t n sz _ h1=>by
  have e:y≠b:=fun e=>by subst e;rw[ho] at h1;cases h1
  refine⟨fun i u _ hu=>?_,.inr ⟨n,zaf _,by simp only[Gh.addH];rw[qak _ _ _ e];exact h1⟩⟩
  unfold World.cell? at hu⊢
  rw[sw.same y e]
  exact hu
 shape:=fun y t n sz c E h1 h2 _=>by
  have e:y≠b:=fun e=>by subst e;rw[ho] at h1;cases h1
  exact⟨c,by rw[sw.same y e];exact h2,rfl⟩
 wide:=sw.wideAll
 loc:=fun y q1 h1=>by
  by_cases e:y=b
  ·subst e;exact⟨s.next,by simp[Gh.addH,qas]⟩
  ·exact⟨q1,by simp only[Gh.addH];rw[qak _ _ _ e];exact h1⟩
 lcl:=fun y i g h1=>by
  have e:y≠b:=fun e=>by subst e;rw[ho] at h1;cases h1
  simp only[Gh.addH];rw[qak _ _ _ e];exact h1
 bOf:=fun j x hx=>by
  simp only[Gh.addH]
  rw[qak _ _ _ (fun e=>by rw[e,h.bOf_next] at hx;cases hx)]
  exact hx
 lam:=fun _ _ _ h=>h
 nt:=zaf _
 lo_:=rfl
 low:=fun j hj=>by
  simp only[Gh.addH]
  rw[qak _ _ _ (by have:=h.lo_;omega)]
 old:=fun y t m sz h1 _=>by
  have e:y≠b:=fun e=>by subst e;simp[Gh.addH,qas] at h1
  simp only[Gh.addH] at h1
  rw[qak _ _ _ e] at h1
  exact⟨y,m,h1,zaf _,fun _=>rfl⟩
theorem MR.mvH (h:MR P E U pd l s G w){b q:Nat}(sw:Swap b w w')(ho:G.own b=.loc q)(hd:qaD s.heap q=none){ob:zH}(hr:OR P (G.addH b s.next) w' b ob):MR P E U pd l (qav s ob) (G.addH b s.next) w':=by
 have x:Step G w (G.addH b s.next) w' (fun y=>y=b):=⟨h.ext_mvH sw ho,fun y _ hn=>⟨sw.same y hn,qak _ _ _ hn⟩⟩
 have hne:∀y r,G.own y=r->r≠.loc q->y≠b:=fun y r h1 h2 e=>h2 (by rw[<-h1,e,ho])
 refine⟨fun y hy=>?_,fun j y hj=>?_,Nat.le_succ_of_le h.lo_,fun j zs hj=>?_,h.pdz,h.nt,h.loc.step x (fun y q r ho=>hne y _ ho (by simp)),h.lam,fun j p hj=>?_,h.ro.step x (fun y q ho=>hne y _ ho (by simp)),
  h.tok.step (fun y t n sz ho=>by simp only[Gh.addH];rw[qak _ _ _ (hne y _ ho (by simp))];exact ho) (fun y t n sz ho=>by
   have hy:y≠b:=fun e=>by subst e;simp[Gh.addH,qas] at ho
   simp only[Gh.addH] at ho
   rw[qak _ _ _ hy] at ho
   exact ho) (fun y _ _ _ ho=>sw.same y (hne y _ ho (by simp)))⟩
 ·rw[sw.size]
  by_cases e:y=b
  ·subst e;exact h.own y (by rw[ho];simp)
  ·simp only[Gh.addH] at hy
   rw[qak _ _ _ e] at hy
   exact h.own y hy
 ·show j<s.next+1
  simp only[Gh.addH] at hj
  by_cases e:j=s.next
  ·omega
  ·rw[qak _ _ _ e] at hj
   exact Nat.lt_succ_of_lt (h.bOf j y hj)
 ·obtain⟨h1,h2,h3⟩:=h.un j zs hj
  have hlt:=(h.heap _ _ h2).1
  have e:j≠s.next:=by omega
  refine⟨by simp only[Gh.addH];rw[qak _ _ _ e];exact h1,?_,h3⟩
  show qaD (qhs s.heap s.next (some ob)) j=_
  rw[qbw,if_neg (fun e'=>e e'.symm)]
  exact h2
 ·have hj':qaD (qhs s.heap s.next (some ob)) j=some p:=hj
  rw[qbw] at hj'
  split at hj'
  ·rename_i e
   subst e
   injection hj' with e1
   subst e1
   exact⟨Nat.lt_succ_self _,.inr ⟨b,by simp[Gh.addH,qas],by simp[Gh.addH,qas],hr⟩⟩
  ·rename_i e
   obtain⟨h1,h2⟩:=h.heap j p hj'
   refine⟨Nat.lt_succ_of_lt h1,?_⟩
   rcases h2 with h2|⟨y,h3,h4,h5⟩
   ·exact .inl (by simp only[Gh.addH];rw[qak _ _ _ (fun e'=>e e'.symm)];exact h2)
   ·have hy:y≠b:=fun e'=>by
     subst e'
     rw[ho] at h4
     injection h4 with h4
     rw[h4,hj'] at hd
     cases hd
    obtain⟨h6,h7⟩:=x.same y h5.lt hy
    have hyg:∀g,G.own g=G.own y->g≠b:=fun g he e'=>by
     rw[e',ho,h4] at he
     injection he with he
     rw[he,hj'] at hd
     cases hd
    exact .inr ⟨y,x.ext.bOf _ _ h3,h7.trans h4,h5.ext x.ext h6 fun g hg he=>⟨(x.same g hg (hyg g he)).1,by rw[(x.same g hg (hyg g he)).2,h7,he]⟩⟩
theorem qeG (s:ByteArray):VRs G w (s.data.toList.map fun x=>zA.p (.int .u8 (.ofNat x.toNat))) (byteCells s):=by
 unfold byteCells
 refine⟨by simp,fun i c v hc hv=>?_⟩
 simp only[zav,zac] at hc hv
 obtain⟨x,hx,rfl⟩:=hc
 obtain⟨y,hy,rfl⟩:=hv
 rw[hx] at hy
 cases hy
 exact VR.int _ _
theorem qbe (s:ByteArray):qaM s=s.size:=by unfold qaM;rw[zay];rfl
theorem qnH (h:MR P E U pd l s G w){x:zA}{u:Value}(hv:VR G w x u){sz m:Nat}{new:List zA}(hs:qjF E s sz x=some (m,new))(hl:new.length=m*sz)(hsz:0<sz){tx:TypeId}
  (hk:(∃e',P.underlying tx=some (.slice e'))\/P.underlying tx=some .string):∃news,Src P sz tx u m news w/\VRs G w new news:=by
 unfold qjF at hs
 split at hs
 ·obtain⟨hz,hs⟩:=qac hs
  simp only[zab,zac,zad] at hs
  obtain⟨cs,hcs,r,hr,rfl,rfl⟩:=hs
  cases hv with|hs _ _ _ _ _ _ b cap' hb hn hc he hz'=>
  obtain⟨us,k1,k2,k3,k4⟩:=(qfD h hb hcs).cut hr
  exact⟨us,⟨hk,fun _=>rfl,run_firstCells_some w sz _ _ _ cap' us k1 k4,run_firstCells_some w.drew sz _ _ _ cap' us k1 (by simpa using k4),k1,k3⟩,k2⟩
 ·obtain⟨hz,hs⟩:=qac hs
  simp only[zaa,zad] at hs
  obtain⟨rfl,rfl⟩:=hs
  have e1:=hv.str_inv
  subst e1
  have e2:sz=1:=beq_iff.1 hz
  subst e2
  rw[qbe]
  exact⟨_,⟨hk,fun _=>rfl,firstCells_string _ w,firstCells_string _ w.drew,by rw[byteCells_length,Nat.mul_one],fun u hu=>by
   obtain⟨_,_,rfl⟩:=zaS.1 hu
   rfl⟩,qeG _⟩
 ·simp only[zaa,zad] at hs
  obtain⟨rfl,rfl⟩:=hs
  cases hv with|p _ _ hp=>
  cases hp
  exact⟨[],⟨hk,fun _=>rfl,run_firstCells_none w sz 0 0 0,run_firstCells_none w.drew sz 0 0 0,by simp,fun _ h=>by cases h⟩,VRs.nil⟩
 ·simp only[zaa,zad] at hs
  obtain⟨rfl,rfl⟩:=hs
  cases hv with|row _ _ ad cap vs hn hll k1 hcc hvv=>
  have hlv:vs.length=_:=hll.symm.trans hl
  exact⟨vs,⟨hk,fun _=>rfl,run_firstCells_some w sz _ ad _ cap vs hlv (fun i v hv=>(hcc i v hv).1),run_firstCells_some w.drew sz _ ad _ cap vs hlv (fun i v hv=>by simpa using(hcc i v hv).1),hlv,k1⟩,hll,hvv⟩
 ·simp only[zac,zad] at hs
  obtain⟨⟨n,cs⟩,hrow,rfl,rfl⟩:=hs
  obtain⟨ad,cap,rfl,hp⟩:=qcC hrow hv
  obtain⟨vs,hn,hz,hr,hc⟩:=hp.vals
  have hlv:vs.length=n*sz:=by have:=hr.1;simp at this hl;omega
  have h0:n=0↔vs=[]:=by
   rw[hz]
   have:=hr.1
   simp at this
   constructor
   ·intro e;rw[e] at this;exact zax.1 this.symm
   ·intro e;rw[e] at this;exact zax.1 this
  refine⟨vs,⟨hk,fun _=>rfl,qdv hlv h0 hc,qdv hlv h0 (fun i v hv=>by simpa using hc i v hv),hlv,fun u hu=>hr.2.1 u (by simpa using hu)⟩,by have:=hr.1;simpa using this,fun i c v hc hv=>?_⟩
  simp only[zav,zac] at hc
  obtain⟨c',hc',rfl⟩:=hc
  exact .p _ _ (hr.2.2 i c' v hc' (by simpa using hv))
theorem qcr {t tx ty e:TypeId}{i:TypeInfo}(ht:P.underlying t=some (.slice e))(hi:P.info? e=some i){b off n cap m:Nat}{c:Array Value}{E0:TypeId}{fr:Nat×Nat}(hb:w.heap[b]? =some (.cells c E0 fr))(hth:Thaw fr c.size)
  {x:Value}{news:List Value}(hs:Src P i.size tx x m news w)(hroom:n+m<=cap)(hfit:off+n*i.size+news.length<=c.size):
  (Builtin.append_ #[t,tx] ty #[.slice (some ⟨b,off,none⟩) n cap,x]).run P w=
   .ok (.slice (some ⟨b,off,none⟩) (n+m) cap) (w.setRow b (c.toList.take (off+n*i.size)++news++c.toList.drop (off+n*i.size+news.length)).toArray):=by
 have hst:=qbn P b (off+n*i.size) E0 fr news 0 c w hb hth (by simpa using hfit) hs.one
 simp only[Nat.add_zero] at hst
 rcases hs.kind with⟨e',hk⟩|hk<;>simp[Builtin.append_,run_underlying ht,run_underlying hk,sizeOf,typeInfo,hi,hs.len,hroom,hs.cells,Addr.add_lit,hst]
theorem BR.lay {G':Gh}{b off:Nat}{old cs new:List zA}(hb:BR G w b old)(ho:over old off cs=some new){us:List Value}(hr:VRs G w cs us)(h1:∀u∈us,u.oneCell'=true){c:Array Value}{E:TypeId}{fr:Nat×Nat}(hc:w.heap[b]? =some (.cells c E fr))
  (x:Ext G w G' (w.setRow b (c.toList.take off++us++c.toList.drop (off+us.length)).toArray)):off+us.length<=c.size/\BR G' (w.setRow b (c.toList.take off++us++c.toList.drop (off+us.length)).toArray) b new:=by
 obtain⟨c',E',⟨fr',e1,hth⟩,h2,h3,h4⟩:=hb
 rw[hc] at e1
 injection e1 with e1
 injection e1 with e1 e1' e1''
 subst e1;subst e1';subst e1''
 obtain⟨h5,_⟩:=qbA ho
 have hl:=hr.1
 have hfit:off+us.length<=c.size:=by omega
 refine⟨hfit,_,E,⟨fr,setRow_heap w b c _ E fr hc,by rw[qaZ _ _ _ hfit];exact hth⟩,?_,fun u hu=>?_,fun j y u hy hu=>?_⟩
 ·rw[qaZ _ _ _ hfit,qbU ho];exact h2
 ·obtain⟨j,hj⟩:=Array.getElem?_of_mem hu
  rw[qc9 _ _ _ hfit] at hj
  split at hj
  ·exact h3 u (Array.mem_of_getElem? hj)
  ·split at hj
   ·exact h1 u (zaw hj)
   ·exact h3 u (Array.mem_of_getElem? hj)
 ·rw[qfS ho] at hy
  rw[qc9 _ _ _ hfit] at hu
  split at hy
  ·rename_i c1;rw[if_pos c1] at hu;exact(h4 j y u hy hu).ext x
  ·rename_i c1
   rw[if_neg c1] at hu
   split at hy
   ·rename_i c2;rw[if_pos (by omega)] at hu;exact(hr.2 _ y u hy hu).ext x
   ·rename_i c2;rw[if_neg (by omega)] at hu;exact(h4 j y u hy hu).ext x
theorem BR.sub {b k:Nat}{cs:List zA}(h:BR G w b cs):BR G w b (cs.take k):=by
 obtain⟨c,E,h1,h2,h3,h4⟩:=h
 refine⟨c,E,h1,by rw[zaM];omega,h3,fun j a v ha hv=>?_⟩
 rw[zaD] at ha
 split at ha
 ·exact h4 j a v ha hv
 ·cases ha
theorem qlD {p:zA->Bool}{xs:List zA}(h:xs.all p=true)(k:Nat):(xs.take k).all p=true:=by
 rw[zaj] at h⊢
 exact fun x hx=>h x (List.mem_of_mem_take hx)
theorem qhE {p:zA->Bool}{xs ys:List zA}{off n:Nat}(h:xs.all p=true)(hc:cut xs off n=some ys):ys.all p=true:=by
 obtain⟨_,rfl⟩:=qco hc
 rw[zaj] at h⊢
 exact fun x hx=>h x (List.mem_of_mem_drop (List.mem_of_mem_take hx))
theorem qnI (h:MR P E U pd l s G w)(c:Call)(hop:o.op=.call c)(hc:c.callee=.builtin .append){x y:Operand}(hxs:c.args.toList=[x,y]){t u e:TypeId}(hts:c.argTypes.toList=[t,u])(ht:P.underlying t=some (.slice e))(hu:(∃e',P.underlying u=some (.slice e'))\/P.underlying u=some .string)
  {i:TypeInfo}(hi:P.info? e=some i)(hsz:0<i.size)(hby:0<i.bytes)(hzc:(zeroCells P e).isSome=true){gx gy:Arg}(hx:qaw x=some gx)(hy:qaw y=some gy)(hr:qan G w f a (gx.tmps++gy.tmps))
  {m:Nat}{new:List zA}(hnew:qjF E s i.size (gy.ev f)=some (m,new))(hnl:new.length=m*i.size)(hna:new.all qaF=true){s':ASt}(hap:qqS s i.size i.bytes (gx.ev f) m new=some (v,s')):
  NextP P (qa8 P E U pd G w l s' v) ((execOp a.eval o).run P w):=by
 have h1:=qar hx fun t ht=>hr t (by simp[ht])
 have h2:=qar hy fun t ht=>hr t (by simp[ht])
 have he:execOp a.eval o=(do pure (.value (<-Builtin.append_ #[t,u] o.type #[a.eval x,a.eval y]))):=by
  rw[qaH c hop .append hc,qfl hxs,qfl hts];simp[builtin]
 obtain⟨news,hsrc,hrel⟩:=qnH h h2 hnew hnl hsz hu
 obtain⟨z,hz,hzs⟩:=qeF hi hzc
 generalize hxv:a.eval x=xv at h1 he
 generalize gx.ev f=gxv at h1 hap
 unfold qqS at hap
 have grow:∀{G0:Gh} {s0:ASt} {bd:Option Addr} {n bc:Nat} {olds:List zA} {ovs:List Value},xv=.slice bd n bc->G0=G->MR P E U pd l s0 G w->bc<n+m->(n+m)*i.bytes<=140737488355328->VRs G w olds ovs->(∀u∈ovs,u.oneCell'=true)->olds.all qaF=true->
   (Builtin.firstCells i.size n (.slice bd n bc)).run P w.drew=.ok ovs.toArray w.drew->ovs.length=n*i.size->NextP P (qa8 P E U pd G w l (qav s0 (.cells (olds++new))) (.hs s0.next 0 (n+m) (n+m) i.size true)) ((execOp a.eval o).run P w):=by
  intro G0 s0 bd n bc olds ovs ex eG h0 hlt hle hov ho1 hoa hfo hol
  have h63:((n+m:Nat):Int)<=9223372036854775807:=by
   have:n+m<=(n+m)*i.bytes:=Nat.le_mul_of_pos_right _ hby
   omega
  have hrun:=run_append_grow_src w t u o.type e i z ht hi hz bd n bc ovs hfo _ m news hsrc hlt h63 (growslice_fits (by omega) hle)
  generalize hcap':grownCap w (n+m) bc e=cap' at hrun
  have hge:n+m<=cap':=by rw[<-hcap'];exact grownCap_ge w _ _ _
  have k:Keep w (w.drew.alloc (.cells ((ovs++news).toArray++Builtin.zeroCells z.cells (cap'-(n+m))) e)):=(Keep.drew w).trans (Keep.alloc _ _)
  have hheap:=heap_alloc_new w.drew (.cells ((ovs++news).toArray++Builtin.zeroCells z.cells (cap'-(n+m))) e)
  have hdsz:w.drew.heap.size=w.heap.size:=rfl
  rw[hdsz] at hheap
  have hcsz:((ovs++news).toArray++Builtin.zeroCells z.cells (cap'-(n+m))).size=cap'*i.size:=by
   rw[Array.size_append,size_zeroCells,hzs]
   simp only[List.size_toArray,zan,hol,hsrc.newsLen,<-zaP]
   congr 1
   omega
  have x1:=h0.ext_addH k (b:=w.heap.size) (q:=s0.next) (zaf _) h0.bOf_next h0.lo_
  have hz1:∀u∈Builtin.zeroCells z.cells (cap'-(n+m)),u.oneCell'=true:=by
   obtain⟨zc,hzc'⟩:=Option.isSome_iff_exists.1 hzc
   obtain⟨i',z',n',hi',hz',_,_,hrows,_⟩:=qaB G w hzc'
   rw[hi] at hi'
   cases hi'
   rw[hz] at hz'
   cases hz'
   intro u hu
   unfold Builtin.zeroCells at hu
   simp only[Array.mem_map,Array.mem_range] at hu
   obtain⟨j,hj,rfl⟩:=hu
   have hpos:0<z.cells.size:=by rw[hzs];exact hsz
   have hlt:j%z.cells.size<z.cells.size:=Nat.mod_lt _ hpos
   rw[getElem!_pos z.cells _ hlt]
   exact hrows.2.1 _ (Array.getElem_mem hlt)
  have m1:=h0.addH k (zaf _) (by simp) (o:=.cells (olds++new)) ⟨⟨_,e,⟨_,hheap,Thaw.none _⟩,by rw[hcsz,zan,hov.1,hol,hnl,<-zaP];exact zaH _ hge,fun u hu=>by
   rcases Array.mem_append.1 hu with hu|hu
   ·simp only[List.mem_toArray,zaA] at hu
    rcases hu with hu|hu
    ·exact ho1 u hu
    ·exact hsrc.one u hu
   ·exact hz1 u hu,fun j q v hq hv=>by
   have hj:j<(olds++new).length:=(zah.1 hq).1
   rw[zan] at hj
   rw[Array.getElem?_append_left (by simp only[List.size_toArray,zan];have:=hov.1;have:=hrel.1;omega),List.getElem?_toArray] at hv
   exact((hov.append hrel).2 j q v hq hv).ext x1⟩,by rw[List.all_append,hoa,hna];rfl⟩
  rw[ex] at he
  refine qaJ he hrun ⟨_,x1,m1,.hs _ _ _ _ _ _ w.heap.size cap' (by simp[Gh.addH,qas]) (zaf _) hge (fun e=>by cases e) ⟨_,e,_,hheap,?_⟩⟩
  rw[hcsz];omega
 split at hap
 ·
  cases h1 with|p _ _ h1=>
  cases h1
  cases hm:Nat.beq m 0 with
  |true=>
   rw[hm] at hap
   simp only[cond_true,zaa,zad] at hap
   obtain⟨rfl,rfl⟩:=hap
   have hm0:m=0:=beq_iff.1 hm
   subst hm0
   have hn0:news=[]:=zax.1 (by rw[hsrc.newsLen,Nat.zero_mul])
   subst hn0
   exact qaJ he (run_append_nothing w t u o.type e i ht hi none 0 0 (zaf _) _ hsrc) ⟨G,Ext.refl G w,h,.p _ _ .nil0⟩
  |false=>
   rw[hm] at hap
   simp only[cond_false] at hap
   obtain⟨hle,hap⟩:=qac hap
   simp only[zaa,zad] at hap
   obtain⟨rfl,rfl⟩:=hap
   have hm0:m≠0:=fun e=>by rw[qaA e] at hm;cases hm
   have:=grow (G0:=G) (s0:=s) (bd:=none) (n:=0) (bc:=0) (olds:=[]) (ovs:=[]) rfl rfl h (by omega) (by rw[zaL];exact ble_iff.1 hle) VRs.nil (fun _ h=>by cases h) rfl (run_firstCells_none w.drew i.size 0 0 0) (by simp)
   simpa using this
 ·rename_i q off n cap zz op
  cases h1 with|hs _ _ _ _ _ _ b cap' hb hn hcc hce hz'=>
  cases hm:Nat.beq m 0 with
  |true=>
   rw[hm] at hap
   simp only[cond_true,zaa,zad] at hap
   obtain⟨rfl,rfl⟩:=hap
   have hm0:m=0:=beq_iff.1 hm
   subst hm0
   have hn0:news=[]:=zax.1 (by rw[hsrc.newsLen,Nat.zero_mul])
   subst hn0
   exact qaJ he (run_append_nothing w t u o.type e i ht hi _ n cap' (by omega) _ hsrc) ⟨G,Ext.refl G w,h,.hs _ _ _ _ _ _ b cap' hb hn hcc hce hz'⟩
  |false=>
   rw[hm] at hap
   simp only[cond_false] at hap
   have hm0:m≠0:=fun e=>by rw[qaA e] at hm;cases hm
   split at hap<;>try (cases hap;done)
   rename_i old hold
   obtain⟨hcl,hap2⟩:=qac hap
   simp only[zae] at hcl
   have ezz:zz=i.size:=beq_iff.1 hcl.1
   subst ezz
   have hle:=ble_iff.1 hcl.2
   have hbr:BR G w b old/\old.all qaF=true/\G.own b=.loc q:=by
    rcases(h.heap q _ hold).2 with e|⟨b',g1,g2,g3⟩
    ·rw[hb] at e;cases e
    ·rw[hb] at g1;cases g1;exact⟨g3.1,g3.2,g2⟩
   obtain⟨hbr,hoa,hown⟩:=hbr
   obtain⟨c0,E0,fr0,hc0,hcs⟩:=hz'
   have hth0:Thaw fr0 c0.size:=by
    obtain⟨c1,E1,⟨fr1,g1,g2⟩,_⟩:=hbr
    rw[hc0] at g1
    injection g1 with g1
    injection g1 with g1 _ g3
    rw[g1,g3]
    exact g2
   have here:n+m<=cap'->off+n*i.size+news.length<=c0.size:=fun hroom=>by
    rw[hsrc.newsLen,Nat.add_assoc,<-zaP]
    have:=zaH i.size hroom
    omega
   cases hnm:Nat.ble (n+m) cap with
   |true=>
    rw[hnm] at hap2
    simp only[cond_true,zab,zac,zad] at hap2
    obtain⟨cs,hov,hp,qaI,rfl,rfl⟩:=hap2
    have hroom:n+m<=cap':=zaR (ble_iff.1 hnm) hcc
    have sw:Swap b w (w.setRow b (c0.toList.take (off+n*i.size)++news++c0.toList.drop (off+n*i.size+news.length)).toArray):=Swap.setRow w b _ (fun c1 E1 f1 h1=>by
     rw[hc0] at h1;injection h1 with h1;injection h1 with h1 _ _;rw[<-h1];exact qaZ _ _ _ (here hroom))
    have x:=Ext.chg (G:=G) sw (by rw[hown];exact fun e=>e) (by rw[hown];intros;simp)
    obtain⟨_,hbn⟩:=hbr.lay hov hrel hsrc.one hc0 x
    obtain⟨_,hmr⟩:=h.chgH sw hb hown qaI (ob:=.cells cs) ⟨hbn,qdO hov hoa hna⟩
    refine qaJ he (qcr ht hi hc0 hth0 hsrc hroom (here hroom)) ⟨G,x,hmr,.hs _ _ _ _ _ _ b cap' hb (ble_iff.1 hnm) hcc hce ⟨_,E0,_,setRow_heap w b c0 _ E0 fr0 hc0,?_⟩⟩
    rw[qaZ _ _ _ (here hroom)];exact hcs
   |false=>
    rw[hnm] at hap2
    have hnm':cap<n+m:=by
     rcases Nat.lt_or_ge cap (n+m) with g|g
     ·exact g
     ·rw[ble_iff.2 g] at hnm;cases hnm
    simp only[cond_false,zab] at hap2
    obtain⟨olds,hcut,hap2⟩:=hap2
    obtain⟨ovs,k1,k2,k3,k4⟩:=hbr.cut hcut
    have hfo:(Builtin.firstCells i.size n (.slice (some ⟨b,off,none⟩) n cap')).run P w.drew=.ok ovs.toArray w.drew:=run_firstCells_some w.drew i.size n ⟨b,off,none⟩ n cap' ovs k1 (by simpa using k4)
    cases op with
    |false=>
     simp only[cond_false,zaa,zad] at hap2
     obtain⟨rfl,rfl⟩:=hap2
     have e1:=hce rfl
     exact grow rfl (G0:=G) rfl h (by omega) hle k2 k3 (qhE hoa hcut) hfo k1
    |true=>
     simp only[cond_true] at hap2
     obtain⟨hoff,hap2⟩:=qac hap2
     simp only[zaa,zad] at hap2
     obtain⟨rfl,rfl⟩:=hap2
     have e0:off=0:=beq_iff.1 hoff
     subst e0
     have hd:=h.delH hb
     by_cases hroom:n+m<=cap'
     ·have sw:Swap b w (w.setRow b (c0.toList.take (0+n*i.size)++news++c0.toList.drop (0+n*i.size+news.length)).toArray):=Swap.setRow w b _ (fun c1 E1 f1 h1=>by
       rw[hc0] at h1;injection h1 with h1;injection h1 with h1 _ _;rw[<-h1];exact qaZ _ _ _ (here hroom))
      have x:=hd.ext_mvH sw hown
      have hfit:=here hroom
      have hlen:(olds++new).length=n*i.size+news.length:=by rw[zan,k2.1,k1,hrel.1]
      have hheap1:=setRow_heap w b c0 (c0.toList.take (0+n*i.size)++news++c0.toList.drop (0+n*i.size+news.length)).toArray E0 fr0 hc0
      obtain⟨c1,E1,⟨fr1,g1,g5⟩,g2,g3,g4⟩:=hbr
      rw[hc0] at g1
      injection g1 with g1
      injection g1 with g1 g1' _
      subst g1;subst g1'
      have hmr:=hd.mvH sw hown (by show qaD (qhs s.heap q none) q=none;rw[qbw,if_pos rfl]) (ob:=.cells (olds++new)) ⟨⟨_,E0,⟨fr0,hheap1,by rw[qaZ _ _ _ hfit];exact hth0⟩,by rw[qaZ _ _ _ hfit,hlen];omega,fun u hu=>by
       obtain⟨j,hj⟩:=Array.getElem?_of_mem hu
       rw[qc9 _ _ _ hfit] at hj
       split at hj
       ·exact g3 u (Array.mem_of_getElem? hj)
       ·split at hj
        ·exact hsrc.one u (zaw hj)
        ·exact g3 u (Array.mem_of_getElem? hj),fun j y u hy hu=>by
       rw[qc9 _ _ _ hfit] at hu
       by_cases c2:j<n*i.size
       ·rw[if_pos (by omega)] at hu
        rw[zau (by rw[k2.1,k1];exact c2),qfR hcut j c2] at hy
        exact(g4 _ y u hy (by rw[zaL];exact hu)).ext x
       ·have hj:j<(olds++new).length:=(zah.1 hy).1
        rw[if_neg (by omega),if_pos (by omega)] at hu
        rw[zat (by rw[k2.1,k1];omega),k2.1,k1] at hy
        exact(hrel.2 _ y u hy (by rw[zaL] at hu;exact hu)).ext x⟩,by rw[List.all_append,qhE hoa hcut,hna];rfl⟩
      refine qaJ he (qcr ht hi hc0 hth0 hsrc hroom hfit) ⟨_,x,hmr,.hs _ _ _ _ _ _ b cap' (by simp[Gh.addH,qas]) (zaf _) hroom (fun e=>by cases e) ⟨_,E0,_,hheap1,?_⟩⟩
      rw[qaZ _ _ _ hfit];exact hcs
     ·exact grow rfl (G0:=G) rfl hd (by omega) hle k2 k3 (qhE hoa hcut) hfo k1
 ·obtain⟨hm,hap⟩:=qac hap
  simp only[zaa,zad] at hap
  obtain⟨rfl,rfl⟩:=hap
  cases h1 with|row _ _ ad cap vs hn hll k1 hcc hvv=>
  have hm0:m=0:=beq_iff.1 hm
  subst hm0
  have hn0:news=[]:=zax.1 (by rw[hsrc.newsLen,Nat.zero_mul])
  subst hn0
  exact qaJ he (run_append_nothing w t u o.type e i ht hi _ _ cap (by omega) _ hsrc) ⟨G,Ext.refl G w,h,.row _ _ ad cap vs hn hll k1 hcc hvv⟩
 ·cases hap
end Go.AI
namespace Go.AI
variable {P:Program} {E:Rom} {U pd:Nat->Option (List zA)} {l:Tr (Nat×List zA)} {s:ASt} {G:Gh} {w w':World} {f:Tr zA} {a:Act} {o:Oper} {v:zA}
def qm2:Nat->TypeDesc->Prop
 |0,.bool=>True
 |1,.int _=>True
 |2,.string=>True
 |_,_=>False
theorem qj6 {kt:TypeId}{kd:Nat}(h:qfP P kt=some kd)(h3:kd<3):∃d,P.underlying kt=some d/\qm2 kd d:=by
 obtain⟨h0,h1,h2,_⟩:=qfW h
 rcases(by omega:kd=0\/kd=1\/kd=2) with rfl|rfl|rfl
 ·exact⟨_,h0 rfl,trivial⟩
 ·obtain⟨i,hi⟩:=h1 rfl
  exact⟨_,hi,trivial⟩
 ·exact⟨_,h2 rfl,trivial⟩
theorem qdw {kt:TypeId}{d:TypeDesc}{kd:Nat}(hd:P.underlying kt=some d)(hk:qm2 kd d)(e:Bool)(n:Nat)(k:Value):(Instr.checkKey e (n+1) kt k).run P w=.ok () w:=by
 unfold Instr.checkKey
 simp only[Sem.run_bind,run_underlying hd,Result.andThen]
 match kd,d,hk with
 |0,.bool,_=>rfl
 |1,.int _,_=>rfl
 |2,.string,_=>rfl
theorem qjk {kd:Nat}{b:Bool}(h:qdm kd (.bool b)=true):kd=0:=by
 match kd,h with
 |0,h=>first|rfl|cases h
 |1,h=>first|rfl|cases h
 |2,h=>first|rfl|cases h
 |n+3,h=>cases h
theorem qj7 {kd:Nat}{k:IntKind}{n:Int}(h:qdm kd (.int k n)=true):kd=1:=by
 match kd,h with
 |0,h=>first|rfl|cases h
 |1,h=>first|rfl|cases h
 |2,h=>first|rfl|cases h
 |n+3,h=>cases h
theorem qj8 {kd:Nat}{b:ByteArray}(h:qdm kd (.str b)=true):kd=2:=by
 match kd,h with
 |0,h=>first|rfl|cases h
 |1,h=>first|rfl|cases h
 |2,h=>first|rfl|cases h
 |n+3,h=>cases h
theorem qis {kd:Nat}{k:zP}(h:qdm kd k=true):kd<3:=by
 unfold qdm at h
 split at h<;>first|omega|cases h
theorem qnJ {S:Nat->Nat->Prop}{d:TypeDesc}{kd:Nat}{x k:zP}{xv kv:Value}{b:Bool}(hd:qm2 kd d)(hx:qdm kd x=true)(h:qo8 x k=some b)(h1:PR S w x xv)(h2:PR S w k kv):
  Instr.sameNow d xv kv=some b/\(b=true->kv=xv):=by
 unfold qo8 at h
 split at h
 ·rename_i j m j' n
  have hk:kd=1:=qj7 hx
  subst hk
  cases d<;>try (exact hd.elim;done)
  cases h1;cases h2
  rw[qcb] at h
  by_cases e:j=j'
  ·subst e
   simp only[decide_true,cond_true,zaa] at h
   subst h
   rw[qbV]
   refine⟨?_,fun e=>?_⟩
   ·simp only[Instr.sameNow,if_true]
    congr 1
   ·rw[of_decide_eq_true e]
  ·simp only[e,decide_false,cond_false] at h
   cases h
 ·rename_i m n
  have hk:kd=2:=qj8 hx
  subst hk
  cases d<;>try (exact hd.elim;done)
  cases h1;cases h2
  simp only[zaa] at h
  subst h
  rw[qdo]
  refine⟨?_,fun e=>by rw[of_decide_eq_true e]⟩
  simp only[Instr.sameNow]
  congr 1
  rw[Bool.eq_iff_iff,decide_eq_true_iff]
  exact MapKept.bytes_beq m n
 ·rename_i m n
  have hk:kd=0:=qjk hx
  subst hk
  cases d<;>try (exact hd.elim;done)
  cases h1;cases h2
  simp only[zaa] at h
  subst h
  cases m<;>cases n<;>simp[Instr.sameNow]
 ·cases h
theorem qlE {d:TypeDesc}{kd:Nat}{S:Nat->Nat->Prop}{x:zP}{xv:Value}(hd:qm2 kd d)(hx:qdm kd x=true)(h1:PR S w x xv)(n:Nat):Instr.sameBits n xv xv=true:=by
 unfold qdm at hx
 split at hx<;>try (cases hx;done)
 all_goals
  cases h1
  cases n<;>simp[Instr.sameBits]
 all_goals
  have:=(MapKept.bytes_beq ‹ByteArray› _).2 rfl
  exact this
theorem qec {α:Type}:∀(l:List α) (n:Nat) (y:α),(qia l n y).length=l.length
 |[],_,_=>rfl
 |x::xs,n,y=>by
  unfold qia
  cases Nat.beq n 0 with
  |true=>rfl
  |false=>simp only[cond_false,zaO,qec xs]
theorem qhF {α:Type}:∀(l:List α) (n:Nat) (y:α),qia l n y=l.set n y
 |[],_,_=>rfl
 |x::xs,n,y=>by
  unfold qia
  cases n with
  |zero=>rfl
  |succ n=>
   have:Nat.beq (n+1) 0=false:=qaE (by omega)
   rw[this,cond_false,qhF xs,Nat.add_sub_cancel]
   rfl
inductive KeyT (P:Program)(kt:TypeId)(kd:Nat)(ks:List Nat):Prop where
 |one (d:TypeDesc) (hd:P.underlying kt=some d) (hk:qm2 kd d)
 |many (hag:qbI P kt=true) (hk:qcn P 8 kt=some ks) (h9:kd=9)
theorem qfZ {kt:TypeId}{kd:Nat}{ks:List Nat}(h:qjR P kt=some (kd,ks)):KeyT P kt kd ks:=by
 unfold qjR at h
 split at h
 ·rename_i hag
  simp only[zac,zad] at h
  obtain⟨_,hk,rfl,rfl⟩:=h
  exact .many hag hk rfl
 ·simp only[zab] at h
  obtain⟨k,hk,h⟩:=h
  obtain⟨h3,h⟩:=qac h
  simp only[zaa,zad] at h
  obtain⟨rfl,rfl⟩:=h
  obtain⟨d,hd,hkD⟩:=qj6 hk (blt_iff.1 h3)
  exact .one d hd hkD
theorem qfE {S:Nat->Nat->Prop}:∀{ks:List Nat} {a b:List zP} {vs us:List Value},(∀k∈ks,k<3)->qcf ks (a.map zA.p) (b.map zA.p)=some true->a.length=vs.length->b.length=us.length->(∀(i:Nat) c v,a[i]? =some c->vs[i]? =some v->PR S w c v)->
  (∀(i:Nat) c v,b[i]? =some c->us[i]? =some v->PR S w c v)->us=vs/\∀v∈vs,∀n,Instr.sameBits n v v=true
 |[],a,b,vs,us,_,h,hl,hm,_,_=>by
  cases a<;>cases b<;>simp only[List.map_nil,zaF,qcf] at h<;>try (cases h;done)
  cases vs<;>cases us<;>simp at hl hm
  exact⟨rfl,fun v hv=>by cases hv⟩
 |k::ks,a,b,vs,us,h3,h,hl,hm,ha,hb=>by
  match a,b,vs,us,hl,hm with
  |[],_,_,_,_,_=>simp only[List.map_nil,qcf] at h;cases h
  |_::_,[],_,_,_,_=>simp only[List.map_nil,zaF,qcf] at h;cases h
  |x::a,y::b,v::vs,u::us,hl,hm=>
   simp only[zaF,qcf,zab] at h
   obtain⟨c,hc,h⟩:=h
   cases c with
   |false=>simp at h
   |true=>
    simp only[cond_true] at h
    obtain⟨e1,e2⟩:=qfE (fun k hk=>h3 k (zaE _ hk)) h (by simpa using hl) (by simpa using hm) (fun i c v hc hv=>ha (i+1) c v (by simpa using hc) (by simpa using hv)) (fun i c v hc hv=>hb (i+1) c v (by simpa using hc) (by simpa using hv))
    have h1:=ha 0 x v rfl rfl
    have h2:=hb 0 y u rfl rfl
    have hk3:=h3 k zaz
    have key:u=v/\∀n,Instr.sameBits n v v=true:=by
     unfold eqK at hc
     match k,hk3 with
     |0,_=>
      simp only at hc
      split at hc<;>try (cases hc;done)
      rename_i p q ep eq
      injection ep with ep;injection eq with eq
      subst ep;subst eq
      cases h1;cases h2
      refine⟨?_,fun n=>by cases n<;>simp[Instr.sameBits]⟩
      cases p<;>cases q<;>simp at hc<;>rfl
     |1,_=>
      simp only at hc
      split at hc<;>try (cases hc;done)
      rename_i k1 p k2 q ep eq
      injection ep with ep;injection eq with eq
      subst ep;subst eq
      cases h1;cases h2
      rw[qcb] at hc
      by_cases e:k1=k2
      ·subst e
       simp only[decide_true,cond_true,zaa] at hc
       rw[qbV] at hc
       rw[of_decide_eq_true hc]
       exact⟨rfl,fun n=>by cases n<;>simp[Instr.sameBits]⟩
      ·simp only[e,decide_false,cond_false] at hc
       cases hc
     |2,_=>
      simp only at hc
      split at hc<;>try (cases hc;done)
      rename_i p q ep eq
      injection ep with ep;injection eq with eq
      subst ep;subst eq
      cases h1;cases h2
      simp only[zaa] at hc
      rw[qdo] at hc
      rw[of_decide_eq_true hc]
      exact⟨rfl,fun n=>by
       cases n<;>simp only[Instr.sameBits]
       all_goals exact(MapKept.bytes_beq _ _).2 rfl⟩
    refine⟨by rw[key.1,e1],fun z hz=>?_⟩
    rcases zaI.1 hz with rfl|hz
    ·exact key.2
    ·exact e2 z hz
theorem qit {g:TypeId->Option (List Nat)}(hg:∀t ks,g t=some ks->∀k∈ks,k<3):∀{fs:List Field} {off:Nat} {ks:List Nat},qet g fs off=some ks->∀k∈ks,k<3
 |[],off,ks,h=>by
  simp only[qet,zaa] at h
  subst h
  intro k hk;cases hk
 |f::fs,off,ks,h=>by
  simp only[qet] at h
  obtain⟨_,h⟩:=qac h
  simp only[zab,zac] at h
  obtain⟨k1,h1,k2,h2,rfl⟩:=h
  intro k hk
  rcases zaA.1 hk with hk|hk
  ·exact hg _ _ h1 k hk
  ·exact qit hg h2 k hk
theorem qf0:∀{d:Nat} {t:TypeId} {ks:List Nat},qcn P d t=some ks->∀k∈ks,k<3
 |0,_,_,h=>by cases h
 |d+1,t,ks,h=>by
  obtain⟨i,_,_,_,hc⟩:=qb6 h
  rcases hc with⟨_,k,rfl,_,h3⟩|⟨_,⟨fs,_,_,hF⟩|⟨n,e,ke,_,hE,rfl⟩⟩
  ·intro k' hk'
   rw[List.mem_singleton.1 hk'];exact h3
  ·exact qit (fun t ks h=>qf0 h) hF
  ·intro k hk
   obtain⟨l,hl,hk⟩:=List.mem_flatten.1 hk
   rw[List.eq_of_mem_replicate hl] at hk
   exact qf0 hE k hk
def ChD (P:Program)(w:World)(em:Bool)(dd:Nat)(t:TypeId)(ks:List Nat):Prop:=∀cs:List Value,cs.length=ks.length->(Instr.checkKey em dd t (qhB P t cs)).run P w=.ok () w
theorem qeH {em:Bool}{g:TypeId->Option (List Nat)}{d dd:Nat}(hg:∀t ks,g t=some ks->qcn P d t=some ks/\ChD P w em dd t ks):∀{fs:List Field} {off:Nat} {ks:List Nat} {cs:Array Value},qet g fs off=some ks->off+ks.length<=cs.size->
  ((forIn fs PUnit.unit fun f _=>if f.name≠ "_" then do Instr.checkKey em dd f.type (<-part f.type cs f.offset);pure (ForInStep.yield PUnit.unit) else pure (ForInStep.yield PUnit.unit)):Sem PUnit).run P w=.ok PUnit.unit w
 |[],off,ks,cs,h,hl=>by simp
 |f::fs,off,ks,cs,h,hl=>by
  simp only[qet] at h
  obtain⟨hc,h⟩:=qac h
  simp only[zae,bne_iff_ne] at hc
  obtain⟨hname,hoff⟩:=hc
  have hoff:=beq_iff.1 hoff
  simp only[zab,zac] at h
  obtain⟨k1,h1,k2,h2,rfl⟩:=h
  rw[zan] at hl
  obtain⟨hfl,hC⟩:=hg _ _ h1
  have hpart:(part f.type cs f.offset).run P w=.ok (qhB P f.type ((cs.toList.drop off).take k1.length)) w:=by rw[hoff];exact qcF hfl (by omega) w
  have hch:=hC ((cs.toList.drop off).take k1.length) (by simp;omega)
  have ih:=qeH hg (off:=off+k1.length) (cs:=cs) h2 (by omega)
  simp only[List.forIn_cons,hname,ne_eq,not_false_eq_true,if_true,Sem.run_bind,hpart,Result.andThen_ok,hch,Sem.run_pure]
  exact ih
theorem qeI {em:Bool}{d dd:Nat}{e:TypeId}{ke:List Nat}(hfl:qcn P d e=some ke)(hC:ChD P w em dd e ke){i:TypeInfo}(hi:P.info? e=some i)(hs:i.size=ke.length){cs:Array Value}:∀(m j:Nat),(j+m)*ke.length<=cs.size->
  ((forIn (List.range' j m) PUnit.unit fun k _=>do Instr.checkKey em dd e (<-part e cs (k*(<-sizeOf e)));pure (ForInStep.yield PUnit.unit)):Sem PUnit).run P w=.ok PUnit.unit w
 |0,j,_=>by simp
 |m+1,j,hl=>by
  have h1:j*ke.length+ke.length<=cs.size:=by
   have:(j+1)*ke.length<=(j+(m+1))*ke.length:=zaH _ (by omega)
   rw[zaP,Nat.one_mul] at this
   omega
  have hsz:(sizeOf e).run P w=.ok ke.length w:=by simp[sizeOf,typeInfo,hi,hs]
  have ih:=qeI hfl hC hi hs (cs:=cs) m (j+1) (by rw[show j+1+m=j+(m+1) by omega];exact hl)
  simp only[List.range'_succ,List.forIn_cons,Sem.run_bind,hsz,Result.andThen_ok,qcF hfl h1 w,hC _ (show((cs.toList.drop (j*ke.length)).take ke.length).length=ke.length by simp;omega),Sem.run_pure]
  exact ih
theorem qdP (em:Bool)(D:Nat):∀(d:Nat) (t:TypeId) (ks:List Nat),qcn P d t=some ks->ChD P w em (D+d) t ks
 |0,_,_,h=>by cases h
 |d+1,t,ks,h=>by
  intro cs hl
  obtain⟨i,hi,_,hs,hc⟩:=qb6 h
  rcases hc with⟨hf,k,rfl,hk,h3⟩|⟨hf,⟨fs,hu,hst,hfl⟩|⟨n,e,ke,hu,hke,rfl⟩⟩
  ·obtain⟨dd,hd,hkD⟩:=qj6 hk h3
   exact qdw hd hkD em (D+d) _
  ·unfold qhB
   rw[hf]
   simp only[cond_true]
   have:=qeH (w:=w) (em:=em) (g:=qcn P d) (d:=d) (dd:=D+d) (off:=0) (cs:=cs.toArray) (fun t ks h=>⟨h,qdP em D d t ks h⟩) hfl (by simpa using Nat.le_of_eq hl.symm)
   rw[show D+(d+1)=(D+d)+1 from rfl]
   unfold Instr.checkKey
   simp only[Sem.run_bind,run_underlying hu,Result.andThen_ok]
   rw[<-Array.forIn_toList,this]
   rfl
  ·unfold qhB
   rw[hf]
   simp only[cond_true]
   cases d with
   |zero=>cases hke
   |succ d=>
    obtain⟨ie,hie,_,hse,_⟩:=qb6 hke
    have hlen:(zar n ke).flatten.length=n*ke.length:=by simp[List.length_flatten,List.map_replicate,List.sum_replicate_nat]
    have:=qeI (w:=w) (em:=em) hke (qdP em D (d+1) e ke hke) hie hse (cs:=cs.toArray) n 0 (by simp only[zaL,List.size_toArray];omega)
    rw[show D+(d+1+1)=(D+(d+1))+1 from rfl]
    unfold Instr.checkKey
    simp only[Sem.run_bind,run_underlying hu,Result.andThen_ok]
    simp only[Std.Legacy.Range.forIn_eq_forIn_range',Std.Legacy.Range.size,Nat.sub_zero,Nat.add_one_sub_one,Nat.div_one]
    rw[this]
    rfl
theorem qbf {kt:TypeId}{kd:Nat}{ks:List Nat}(hk:KeyT P kt kd ks){x:zP}{xv:Value}{S:Nat->Nat->Prop}(hx:PR S w x xv)(ho:qc6 kd ks x=true)(e:Bool):(Instr.checkKey e 10000 kt xv).run P w=.ok () w:=by
 cases hk with
 |one d hd hkD=>exact qdw hd hkD e 9999 xv
 |many hag hks h9=>
  subst h9
  unfold qc6 at ho
  split at ho
  ·rename_i a
   cases hx with|agg _ vs hl h1 hv=>
   simp only[zae] at ho
   have hlen:=beq_iff.1 ho.2
   have:=qdP (P:=P) (w:=w) e 9992 8 kt ks hks vs.toList (by simp;omega)
   unfold qhB at this
   rw[hag] at this
   exact this
  ·rename_i hne
   exfalso
   have:=qis ho
   omega
def qjl (w:World)(ents:List MapEntry)(es:List (zP×zA))(xv:Value)(i:Nat):Option (Nat×zA)->Option (Nat×Value)->Prop
 |none,none=>True
 |some (n,y),some (m,u)=>n=m/\∃(j:Nat) (e:MapEntry) (k:zP),n=i+j/\es[j]? =some (k,y)/\ents[j]? =some e/\u=e.val/\e.key=xv
 |_,_=>False
theorem qj9 {kt:TypeId}{kd:Nat}{ks:List Nat}(hk:KeyT P kt kd ks){S:Nat->Nat->Prop}{x k:zP}{xv kv:Value}{b:Bool}(h:qgz kd ks x k=some b)(h1:PR S w x xv)(h2:PR S w k kv)(hS:S=G.S):
  (b=true->kv=xv/\Instr.sameBits 10000 xv xv=true)/\(∀d,P.underlying kt=some d->qm2 kd d->Instr.sameNow d xv kv=some b)/\(qbI P kt=true->(Op.equal kt xv kv).run P w=.ok b w):=by
 subst hS
 unfold qgz at h
 split at h
 ·rename_i a
  split at h<;>try (cases h;done)
  rename_i c
  obtain⟨h9,h⟩:=qac h
  simp only[zae] at h9
  have hla:=beq_iff.1 h9.2.1
  have hlc:=beq_iff.1 h9.2.2
  have h9:=beq_iff.1 h9.1
  cases hk with
  |one d hd hkD=>subst h9;exact absurd hkD (by intro h;cases d<;>exact h.elim)
  |many hag hks _=>
   cases h1 with|agg _ ps hpl hp1 hpv=>
   cases h2 with|agg _ qs hql hq1 hqv=>
   refine⟨fun hb=>?_,fun d _ hkD=>by subst h9;cases d<;>exact hkD.elim,fun _=>?_⟩
   ·subst hb
    obtain⟨e1,e2⟩:=qfE (w:=w) (S:=G.S) (vs:=ps.toList) (us:=qs.toList) (qf0 hks) h (by simpa using hpl) (by simpa using hql) (fun i c v hc hv=>hpv i c v hc (by simpa using hv)) (fun i c v hc hv=>hqv i c v hc (by simpa using hv))
    have e3:qs=ps:=Array.toList_inj.1 e1
    subst e3
    refine⟨rfl,?_⟩
    simp only[Instr.sameBits,beq_self_eq_true,Bool.true_and,zaj]
    rintro ⟨x,y⟩ hz
    obtain⟨j,hj⟩:=List.getElem?_of_mem hz
    rw[List.getElem?_zip_eq_some] at hj
    have:x=y:=by have:=hj.1.symm.trans hj.2;injection this
    subst this
    exact e2 x (zaw hj.1) _
   ·have up:∀{a:List zP} {ps:Array Value},a.length=ps.size→(∀(i:Nat) c v,a[i]? =some c→ps[i]? =some v→PR G.S w c v)→VRs G w (a.map zA.p) ps.toList:=by
     intro a ps hl hv
     refine⟨by simp[hl],fun i c v hc hv'=>?_⟩
     simp only[zav,zac] at hc
     obtain⟨z,hz,rfl⟩:=hc
     exact .p _ _ (hv i z v hz (by simpa using hv'))
    have:=qfX (P:=P) (G:=G) (w:=w) 9992 8 kt ks hks _ _ b ps.toList qs.toList h (up hpl hpv) (up hql hqv) (by simpa using hla) (by simpa using hlc)
    unfold qhB at this
    rw[hag] at this
    exact this
 ·obtain⟨hik,h⟩:=qac h
  cases hk with
  |one d hd hkD=>
   obtain⟨h3,h4⟩:=qnJ hkD hik h h1 h2
   refine⟨fun hb=>⟨h4 hb,qlE hkD hik h1 10000⟩,fun d' hd' hkD'=>?_,fun hag=>?_⟩
   ·rw[hd] at hd';injection hd' with e;subst e;exact h3
   ·exfalso
    unfold qbI at hag
    rw[hd] at hag
    simp only at hag
    revert hkD
    unfold qm2
    split<;>simp_all [qcw]
  |many hag hks h9=>subst h9;have:=qis hik;omega
theorem qka {kt:TypeId}{kd:Nat}{ks:List Nat}(hk:KeyT P kt kd ks){x:zP}{xv:Value}(h1:PR G.S w x xv):
  ∀{es:List (zP×zA)} {ents:List MapEntry} {r:Option (Nat×zA)} (i:Nat),es.length=ents.length->(∀(j:Nat) k y e,es[j]? =some (k,y)->ents[j]? =some e->PR G.S w k e.key)->findKey kd ks x es i=some r->
   ∃r',qjl w ents es xv i r r'/\(∀d,P.underlying kt=some d->qm2 kd d->Instr.findNow d xv ents i=some r')/\(qbI P kt=true->(Instr.findAsking kt xv ents i).run P w=.ok r' w)
 |[],[],r,i,_,_,h=>by
  simp only[findKey,zaa] at h
  subst h
  exact⟨none,trivial,fun d _ _=>rfl,fun _=>rfl⟩
 |(k,y)::es,e::ents,r,i,hl,hp,h=>by
  simp only[findKey,zab] at h
  obtain⟨b,hb,h⟩:=h
  obtain⟨q1,q2,q3⟩:=qj9 hk hb h1 (hp 0 _ _ _ rfl rfl) rfl
  cases b with
  |true=>
   simp only[cond_true,zaa] at h
   subst h
   refine⟨some (i,e.val),⟨rfl,0,e,k,rfl,rfl,rfl,rfl,(q1 rfl).1⟩,fun d hd hkD=>?_,fun hu=>?_⟩
   ·simp[Instr.findNow,q2 d hd hkD]
   ·simp[Instr.findAsking,q3 hu]
  |false=>
   simp only[cond_false] at h
   obtain⟨r',h3,h4,h5⟩:=qka hk h1 (i+1) (by simpa using hl) (fun j k y e h3 h4=>hp (j+1) k y e (by simpa using h3) (by simpa using h4)) h
   refine⟨r',?_,fun d hd hkD=>?_,fun hu=>?_⟩
   ·revert h3
    unfold qjl
    split
    ·exact id
    ·rintro ⟨h6,j,e',k',h7,h8,h9,h10⟩
     exact⟨h6,j+1,e',k',by omega,by simpa using h8,by simpa using h9,h10⟩
    ·exact id
   ·simp[Instr.findNow,q2 d hd hkD,h4 d hd hkD]
   ·simp[Instr.findAsking,q3 hu,h5 hu]
theorem qf1 {kd:Nat}{ks:List Nat}{x k:zP}{y y':zA}:∀{es:List (zP×zA)} {i j:Nat},findKey kd ks x es i=some (some (i+j,y))->es[j]? =some (k,y')->qgz kd ks x k=some true
 |[],i,j,h,hj=>by simp at hj
 |(k0,y0)::es,i,j,h,hj=>by
  simp only[findKey,zab] at h
  obtain⟨b,hb,h⟩:=h
  cases b with
  |true=>
   simp only[cond_true,zaa,zad] at h
   have:j=0:=by omega
   subst this
   simp only[zak,zaa,zad] at hj
   rw[<-hj.1];exact hb
  |false=>
   simp only[cond_false] at h
   cases j with
   |zero=>exact absurd h (by
     have:∀{es:List (zP×zA)} {i m:Nat} {y:zA},findKey kd ks x es i=some (some (m,y))->i<=m:=by
      intro es
      induction es with
      |nil=>intro i m y h;simp[findKey] at h
      |cons p es ih=>
       intro i m y h
       simp only[findKey,zab] at h
       obtain⟨b,_,h⟩:=h
       cases b with
       |true=>simp only[cond_true,zaa,zad] at h;omega
       |false=>simp only[cond_false] at h;have:=ih h;omega
     intro h'
     have:=this h'
     omega)
   |succ j=>
    exact qf1 (i:=i+1) (j:=j) (by rw[h];congr 3;omega) (by simpa using hj)
theorem qlF {es:List (zP×zA)}(h:es.all (fun p=>qaR p.2)=true){j:Nat}{k:zP}{y:zA}(hj:es[j]? =some (k,y)):qaR y=true:=zaj.1 h (k,y) (zaw hj)
theorem qdx {kt:TypeId}{kd:Nat}{ks:List Nat}(hk:KeyT P kt kd ks){x:zP}{xv:Value}(h1:PR G.S w x xv){es:List (zP×zA)}{ents:Array MapEntry}{r:Option (Nat×zA)}(hl:es.length=ents.size)
  (hp:∀(j:Nat) k y e,es[j]? =some (k,y)->ents[j]? =some e->PR G.S w k e.key)(h:findKey kd ks x es 0=some r):∃r',qjl w ents.toList es xv 0 r r'/\(Instr.findKey kt xv ents.toList).run P w=.ok r' w:=by
 obtain⟨r',h2,h3,h4⟩:=qka hk h1 (ents:=ents.toList) 0 (by simpa using hl) (fun j k y e h5 h6=>hp j k y e h5 (by simpa using h6)) h
 refine⟨r',h2,?_⟩
 cases hk with
 |one d hd hkD=>exact MapKept.run_findKey hd (h3 d hd hkD)
 |many hag hks h9=>
  obtain⟨_,_,⟨u,hu⟩,_⟩:=qb6 (d:=7) hks
  have hua:qcw u=true:=by unfold qbI at hag;rw[hu] at hag;exact hag
  unfold Instr.findKey
  simp only[Sem.run_bind,run_underlying hu,Result.andThen_ok]
  cases he:ents.toList with
  |nil=>
   have e2:=h4 hag
   rw[he] at e2
   simp only[Instr.findAsking,Sem.run_pure,Result.ok.injEq] at e2
   simp only[Instr.findNow,Sem.run_pure,e2.1]
  |cons e l=>
   have:Instr.findNow u xv (e::l) 0=none:=by
    cases u<;>first|(cases hua;done)|simp[Instr.findNow,Instr.sameNow]
   rw[this]
   rw[he] at h4
   exact h4 hag
theorem qlG (h:MR P E U pd l s G w)(t:TypeId)(hop:o.op=.makeMap t none):NextP P (qa8 P E U pd G w l (qav s (.map [])) (.map s.next)) ((execOp a.eval o).run P w):=by
 have x:=h.ext_addH (Keep.alloc w (.map #[] 0)) (b:=w.heap.size) (q:=s.next) (zaf _) h.bOf_next h.lo_
 refine qaJ (u:=.map (some w.heap.size)) (w':=w.alloc (.map #[] 0)) (qcE t none hop) (by simp[Instr.makeMap]) ⟨_,x,h.addH (Keep.alloc w (.map #[] 0)) (zaf _) (qa9 w _) (o:=.map []) ?_,.map _ _ (by simp[Gh.addH,qas])⟩
 exact⟨⟨#[],heap_alloc_new w _,rfl,fun j k x e h1=>by simp at h1⟩,rfl⟩
theorem Swap.setObj {w:World}{b:Nat}{o0:Obj}(hb:w.heap[b]? =some o0)(ob:Obj)(h0:qnv o0:=by exact trivial):Swap b w {w with heap:=w.heap.setIfInBounds b ob}:=⟨by simp,rfl,rfl,rfl,fun y hy=>by simp[Ne.symm hy],
 fun c0 E fr h=>by rw[hb] at h;injection h with h;subst h;exact h0.elim⟩
theorem qpz {es es':List (zP×zA)}(h:es'=es\/(es'.Perm es/\qbj es=true)):es'.length=es.length:=by
 rcases h with rfl|⟨h,_⟩
 ·rfl
 ·exact h.length_eq
theorem qb7 {p:zP×zA}{r:List (zP×zA)}(h:qbj (p::r)=true):∃k n,p.1=.int k n/\(∀q∈r,∃n',q.1=.int k n'/\n≠n')/\qbj r=true:=by
 obtain⟨p,v⟩:=p
 cases p<;>try (cases h;done)
 rename_i k n
 simp only[qbj,zae,zaj] at h
 refine⟨k,n,rfl,fun q hq=>?_,h.2⟩
 have:=h.1 q hq
 split at this<;>try (cases this;done)
 rename_i k' n' e
 simp only[zae,qcb,qbV,decide_eq_true_eq,zaC,decide_eq_false_iff_not] at this
 exact⟨n',by rw[e,this.1],this.2⟩
theorem qcI:∀{es:List (zP×zA)} {p q:zP×zA} {k:IntKind} {n:Int},qbj es=true->p∈es->q∈es->p.1=.int k n->∃n',q.1=.int k n'
 |[],p,q,k,n,_,hp,_,_=>by cases hp
 |x::r,p,q,k,n,h,hp,hq,e=>by
  obtain⟨k0,n0,e0,h1,h2⟩:=qb7 h
  have hk:∀y∈x::r,∃m,y.1=.int k0 m:=fun y hy=>by
   rcases zaI.1 hy with rfl|hy
   ·exact⟨n0,e0⟩
   ·obtain⟨m,hm,_⟩:=h1 y hy;exact⟨m,hm⟩
  obtain⟨m,hm⟩:=hk p hp
  rw[e] at hm
  cases hm
  exact hk q hq
theorem qeJ:∀{es:List (zP×zA)} {p q:zP×zA} {k k':IntKind} {n:Int},qbj es=true->p∈es->q∈es->p.1=.int k n->q.1=.int k' n->p=q
 |[],p,q,k,k',n,_,hp,_,_,_=>by cases hp
 |x::r,p,q,k,k',n,h,hp,hq,e,e'=>by
  obtain⟨k0,n0,e0,h1,h2⟩:=qb7 h
  rcases zaI.1 hp with rfl|hp2
  ·rcases zaI.1 hq with rfl|hq2
   ·rfl
   ·obtain⟨m,hm,hne⟩:=h1 q hq2
    rw[e] at e0
    rw[e'] at hm
    cases e0;cases hm
    exact absurd rfl hne
  ·rcases zaI.1 hq with rfl|hq2
   ·obtain⟨m,hm,hne⟩:=h1 p hp2
    rw[e'] at e0
    rw[e] at hm
    cases e0;cases hm
    exact absurd rfl hne
   ·exact qeJ h2 hp2 hq2 e e'
theorem qf2 {kd:Nat}{ks:List Nat}{x:zP}:∀{es:List (zP×zA)} (i:Nat),(∀p∈es,∃b,qgz kd ks x p.1=some b)->
  (findKey kd ks x es i=some none/\∀p∈es,qgz kd ks x p.1=some false)\/∃j k v,findKey kd ks x es i=some (some (i+j,v))/\(k,v)∈es/\qgz kd ks x k=some true
 |[],i,_=> .inl ⟨rfl,fun p hp=>by cases hp⟩
 |(k,v)::r,i,h=>by
  obtain⟨b,hb⟩:=h (k,v) zaz
  simp only at hb
  cases b with
  |true=>exact .inr ⟨0,k,v,by simp only[findKey,hb,zap,cond_true,Nat.add_zero],zaz,hb⟩
  |false=>
   rcases qf2 (es:=r) (i+1) (fun p hp=>h p (zaE _ hp)) with⟨h1,h2⟩|⟨j,k',v',h1,h2,h3⟩
   ·refine .inl ⟨by simp only[findKey,hb,zap,cond_false,h1],fun p hp=>?_⟩
    rcases zaI.1 hp with rfl|hp
    ·exact hb
    ·exact h2 p hp
   ·exact .inr ⟨j+1,k',v',by simp only[findKey,hb,zap,cond_false,h1];congr 3;omega,zaE _ h2,h3⟩
theorem qlH {kd:Nat}{ks:List Nat}{x:zP}{k:IntKind}{n:Int}{b:Bool}(h:qgz kd ks x (.int k n)=some b):∃m,x=.int k m/\qdm kd x=true/\b=decide (m=n):=by
 unfold qgz at h
 split at h
 ·cases h
 ·rename_i hx
  obtain⟨h1,h2⟩:=qac h
  cases x with
  |int k' m=>
   unfold qo8 at h2
   simp only at h2
   obtain⟨h3,h4⟩:=qac h2
   rw[qcb,decide_eq_true_eq] at h3
   subst h3
   simp only[zaa,qbV] at h4
   exact⟨m,rfl,h1,h4.symm⟩
  |_=>cases h2
theorem qhG {kd:Nat}{ks:List Nat}{k:IntKind}{m n:Int}(h:qdm kd (.int k m)=true):qgz kd ks (.int k m) (.int k n)=some (decide (m=n)):=by
 unfold qgz
 simp only[h,cond_true,qo8,qcb,decide_true,qbV]
theorem qlI {kd:Nat}{ks:List Nat}{x:zP}{es es':List (zP×zA)}(hp:es'=es\/(es'.Perm es/\qbj es=true)){r:Option (Nat×zA)}(h:findKey kd ks x es 0=some r):∃r',findKey kd ks x es' 0=some r'/\r'.map (·.2)=r.map (·.2):=by
 rcases hp with rfl|⟨hp,hi⟩
 ·exact⟨r,h,rfl⟩
 cases es with
 |nil=>
  rw[hp.eq_nil]
  exact⟨r,h,rfl⟩
 |cons p0 rest=>
  have h0:=h
  obtain⟨k0,v0⟩:=p0
  simp only[findKey,zab] at h
  obtain⟨b0,hb0,_⟩:=h
  obtain⟨kk,n0,e0,_,_⟩:=qb7 hi
  simp only at e0
  subst e0
  obtain⟨m,rfl,hm,_⟩:=qlH hb0
  have ht:∀p∈(.int kk n0,v0)::rest,∃b,qgz kd ks (.int kk m) p.1=some b:=fun p hp=>by
   obtain⟨n',e'⟩:=qcI hi zaz hp rfl
   rw[e',qhG hm]
   exact⟨_,rfl⟩
  have one:∀k v k' v',(k,v)∈(zP.int kk n0,v0)::rest->(k',v')∈(zP.int kk n0,v0)::rest->qgz kd ks (.int kk m) k=some true->qgz kd ks (.int kk m) k'=some true->v=v':=by
   intro k v k' v' hk hk' h1 h2
   obtain⟨n1,e1⟩:=qcI hi zaz hk rfl
   obtain⟨n2,e2⟩:=qcI hi zaz hk' rfl
   simp only at e1 e2
   subst e1;subst e2
   rw[qhG hm] at h1 h2
   simp only[zaa,decide_eq_true_eq] at h1 h2
   subst h1;subst h2
   have:=qeJ hi hk hk' rfl rfl
   injection this
  have ht':∀p∈es',∃b,qgz kd ks (.int kk m) p.1=some b:=fun p h=>ht p (hp.mem_iff.1 h)
  rcases qf2 (i:=0) ht with⟨h1,h2⟩|⟨j,k,v,h1,h2,h3⟩<;>rcases qf2 (i:=0) ht' with⟨h4,h5⟩|⟨j',k',v',h4,h5,h6⟩
  ·rw[h0] at h1;cases h1
   exact⟨_,h4,rfl⟩
  ·have:=h2 _ (hp.mem_iff.1 h5)
   simp only at this
   rw[h6] at this
   cases this
  ·have:=h5 _ (hp.mem_iff.2 h2)
   simp only at this
   rw[h3] at this
   cases this
  ·rw[h0] at h1;cases h1
   refine⟨_,h4,?_⟩
   simp only[zaq,one k v k' v' h2 (hp.mem_iff.1 h5) h3 h6]
theorem qm3 (h:MR P E U pd l s G w){x:zA}{v:Value}(hv:VR G w x v){es:List (zP×zA)}(hm:qgA E s x=some es):
  (v=.map none/\es=[])\/∃b ents,∃es':List (zP×zA),v=.map (some b)/\w.heap[b]? =some (.map ents ents.size)/\es'.length=ents.size/\(∀(j:Nat) k x e,es'[j]? =some (k,x)->ents[j]? =some e->PR G.S w k e.key/\VR G w x e.val/\e.born=j)/\(es'=es\/(es'.Perm es/\qbj es=true)):=by
 unfold qgA at hm
 split at hm
 ·rename_i q
  cases hv with|map _ b hb=>
  split at hm
  ·rename_i ds he
   simp only[zaa] at hm
   subst hm
   rcases(h.heap q _ he).2 with e|⟨b',h1,h2,⟨ents,h3,h4,h5⟩,_⟩
   ·rw[hb] at e;cases e
   ·rw[hb] at h1;cases h1;exact .inr ⟨b,ents,_,rfl,h3,h4,h5,.inl rfl⟩
  ·rename_i ds he
   simp only[zaa] at hm
   subst hm
   rcases(h.heap q _ he).2 with e|⟨b',h1,h2,⟨es',h6,h7,ents,h3,h4,h5⟩,_⟩
   ·rw[hb] at e;cases e
   ·rw[hb] at h1;cases h1;exact .inr ⟨b,ents,es',rfl,h3,h4,h5,.inr ⟨h6,h7⟩⟩
  ·cases hm
  ·split at hm<;>try (cases hm;done)
   rename_i ds he
   simp only[zaa] at hm
   subst hm
   obtain⟨hqlo,he⟩:=qey he
   rcases((h.ro q _ he).1 hqlo).2 with e|⟨b',j,h1,h2,⟨ents,h3,h4,h5⟩,_⟩
   ·rw[hb] at e;cases e
   ·rw[hb] at h1;cases h1;exact .inr ⟨b,ents,_,rfl,h3,h4,h5,.inl rfl⟩
 ·simp only[zaa] at hm
  subst hm
  cases hv with|p _ _ hv=>
  cases hv
  exact .inl ⟨rfl,rfl⟩
 ·cases hm
theorem qnK (h:MR P E U pd l s G w)(c:Call)(hop:o.op=.call c)(hc:c.callee=.builtin .len){x:Operand}(hxs:c.args.toList=[x]){t kt et:TypeId}(hts:c.argTypes.toList=[t])(ht:P.underlying t=some (.map kt et)){g:Arg}(hg:qaw x=some g)
  (hr:qan G w f a g.tmps){es:List (zP×zA)}(hm:qgA E s (g.ev f)=some es):PureOK P G w o a (.p (.int .i64 (.ofNat es.length))):=by
 have h1:=qar hg hr
 have he:execOp a.eval o=(do pure (.value (<-Builtin.len_ #[t] o.type #[a.eval x]))):=by
  rw[qaH c hop .len hc,qd7 hxs,qd7 hts];simp[builtin]
 rcases qm3 h h1 hm with⟨e,rfl⟩|⟨b,ents,es',e,h2,h3,_,h4⟩
 ·exact qau he (u:=goInt 0) (by rw[e];simp[Builtin.len_,run_underlying ht]) (Keep.refl w) (.int _ _)
 ·exact qau he (u:=goInt ents.size) (by rw[e];simp[Builtin.len_,run_underlying ht,MapKept.run_getObj_map h2]) (Keep.refl w) (by rw[<-qpz h4,h3];exact .int _ _)
abbrev qlJ (ok:Bool)(zv:zA)(r:Option (Nat×zA)):zA:=match r with
 |some (_,x)=>cond ok (.tuple [x,.p (.bool true)]) x
 |none=>cond ok (.tuple [zv,.p (.bool false)]) zv
theorem qnL (h:MR P E U pd l s G w)(t:TypeId)(x y:Operand)(ok:Bool)(hop:o.op=.lookup t x y ok){kt et:TypeId}(ht:P.underlying t=some (.map kt et)){kd:Nat}{ks:List Nat}(hkt:qjR P kt=some (kd,ks)){i:TypeInfo}(hi:P.info? et=some i){z:Value}(hz:i.zero=some z){zv:zA}(hzv:qll z=some zv)
  {gx gy:Arg}(hx:qaw x=some gx)(hy:qaw y=some gy)(hr:qan G w f a (gx.tmps++gy.tmps)){k:zP}(hk:zA.pureW (gy.ev f)=some k){es:List (zP×zA)}(hm:qgA E s (gx.ev f)=some es)(hik:qc6 kd ks k=true){r:Option (Nat×zA)}(hf:findKey kd ks k es 0=some r):
  PureOK P G w o a (match r with
   |some (_,x)=>cond ok (.tuple [x,.p (.bool true)]) x
   |none=>cond ok (.tuple [zv,.p (.bool false)]) zv):=by
 have h1:=qar hx fun t ht=>hr t (by simp[ht])
 have hp:=qcS hk (qar hy fun t ht=>hr t (by simp[ht]))
 have hK:=qfZ hkt
 have pair:∀{x:zA} {u:Value} {b:Bool},VR G w x u->VR G w (cond ok (.tuple [x,.p (.bool b)]) x) (if ok then .tuple #[u,.bool b] else u):=by
  intro x u b hu
  cases ok with
  |false=>exact hu
  |true=>exact qdr hu (.bool b)
 rcases qm3 h h1 hm with⟨e,rfl⟩|⟨b,ents,es',e,h2,h3,h4,h40⟩
 ·simp only[findKey,zaa] at hf
  subst hf
  obtain⟨r',h5,h6⟩:=qdx hK hp (es:=[]) (ents:= #[]) rfl (fun j k y e h=>by simp at h) (r:=none) rfl
  have:r'=none:=by cases r' with|none=>rfl|some q=>exact h5.elim
  subst this
  refine qau (qc8 t x y ok hop) (u:=if ok then .tuple #[z,.bool false] else z) ?_ (Keep.refl w) (pair (qcD hzv))
  rw[e]
  simp[Instr.lookup,run_underlying ht,qbf hK hp hik,h6,zeroValue,typeInfo,hi,hz]
 ·obtain⟨r0,hf,hr0⟩:=qlI h40 hf
  obtain⟨r',h5,h6⟩:=qdx hK hp h3 (fun j k y e h7 h8=>(h4 j k y e h7 h8).1) hf
  have hg:=MapKept.run_getObj_map (P:=P) h2
  suffices main:PureOK P G w o a (qlJ ok zv r0) by
   have e0:qlJ ok zv r=qlJ ok zv r0:=by
    cases r<;>cases r0
    ·rfl
    ·cases hr0
    ·cases hr0
    ·simp only[zaq,zaa] at hr0
     simp only[qlJ,hr0]
   rw[<-e0] at main
   cases r<;>exact main
  unfold qjl at h5
  split at h5
  ·refine qau (qc8 t x y ok hop) (u:=if ok then .tuple #[z,.bool false] else z) ?_ (Keep.refl w) (pair (qcD hzv))
   rw[e]
   simp[Instr.lookup,run_underlying ht,hg,qbf hK hp hik,h6,zeroValue,typeInfo,hi,hz]
  ·obtain⟨_,j,e',k',h7,h8,h9,rfl,_⟩:=h5
   refine qau (qc8 t x y ok hop) (u:=if ok then .tuple #[e'.val,.bool true] else e'.val) ?_ (Keep.refl w) (pair (h4 j _ _ e' h8 (by simpa using h9)).2.1)
   rw[e]
   simp[Instr.lookup,run_underlying ht,hg,qbf hK hp hik,h6]
  ·exact h5.elim
theorem qiu {xv:Value}(h:Instr.sameBits 10000 xv xv=true):(Instr.keyThatStays xv xv).run P w=.ok xv w:=by simp[Instr.keyThatStays,h]
def EntsR (G:Gh)(w:World)(es:List (zP×zA))(ents:Array MapEntry):Prop:=∀(j:Nat) k x e,es[j]? =some (k,x)->ents[j]? =some e->PR G.S w k e.key/\VR G w x e.val/\e.born=j
theorem EntsR.push {es:List (zP×zA)}{ents:Array MapEntry}(h:EntsR G w es ents)(hl:es.length=ents.size){k:zP}{x:zA}{kv xv:Value}(hk:PR G.S w k kv)(hx:VR G w x xv):EntsR G w (es++[(k,x)]) (ents.push {key:=kv,val:=xv,born:=ents.size}):=by
 intro j k' y e hj he
 rw[Array.getElem?_push] at he
 by_cases c:j<es.length
 ·rw[zau c] at hj
  rw[if_neg (by omega)] at he
  exact h j k' y e hj he
 ·by_cases c':j=ents.size
  ·rw[if_pos c'] at he
   simp only[zaa] at he
   subst he
   rw[zat (by omega),show j-es.length=0 by omega] at hj
   simp only[zak,zaa,zad] at hj
   obtain⟨rfl,rfl⟩:=hj
   exact⟨hk,hx,c'.symm⟩
  ·rw[if_neg c',Array.getElem?_eq_none (by omega)] at he
   cases he
theorem EntsR.modify {es:List (zP×zA)}{ents:Array MapEntry}(h:EntsR G w es ents)(hl:es.length=ents.size){j:Nat}{e0:MapEntry}(he0:ents[j]? =some e0){k:zP}{x:zA}{g:MapEntry->MapEntry}(hk:PR G.S w k (g e0).key)(hx:VR G w x (g e0).val)(hb:(g e0).born=e0.born):
  EntsR G w (qia es j (k,x)) (ents.modify j g):=by
 intro j' k' y e hj he
 have hjl:j<ents.size:=(zag.1 he0).1
 rw[qhF] at hj
 rw[Array.getElem?_modify] at he
 by_cases c:j=j'
 ·subst c
  rw[List.getElem?_set_self (by omega)] at hj
  rw[if_pos rfl,he0] at he
  simp only[zaa,zad,zaq] at hj he
  obtain⟨rfl,rfl⟩:=hj
  subst he
  obtain⟨k0,h0⟩:∃p,es[j]? =some p:=⟨_,zai (by omega)⟩
  exact⟨hk,hx,by rw[hb];exact(h j _ _ e0 h0 he0).2.2⟩
 ·rw[List.getElem?_set_ne c] at hj
  rw[if_neg c] at he
  exact h j' k' y e hj he
theorem qiv {es:List (zP×zA)}(h:es.all (fun p=>qaR p.2)=true){k:zP}{x:zA}(hx:qaR x=true):(es++[(k,x)]).all (fun p=>qaR p.2)=true:=by
 rw[List.all_append,h];simp[hx]
theorem qf3 {es:List (zP×zA)}(h:es.all (fun p=>qaR p.2)=true){j:Nat}{k:zP}{x:zA}(hx:qaR x=true):(qia es j (k,x)).all (fun p=>qaR p.2)=true:=by
 rw[qhF,zaj]
 rw[zaj] at h
 intro p hp
 rcases List.mem_or_eq_of_mem_set hp with hp|hp
 ·exact h p hp
 ·rw[hp];exact hx
theorem MR.setMap (h:MR P E U pd l s G w){q b:Nat}(hb:G.bOf q=some b)(hown:G.own b=.loc q){ents0:Array MapEntry}{c0:Nat}(hheap:w.heap[b]? =some (.map ents0 c0)){es:List (zP×zA)}{ents:Array MapEntry}{hp:Heap}(hs:qaI s.heap q (.map es)=some hp)(hl:es.length=ents.size)
  (hr:EntsR G w es ents)(ha:es.all (fun p=>qaR p.2)=true):Ext G w G {w with heap:=w.heap.setIfInBounds b (.map ents ents.size)}/\MR P E U pd l {s with heap:=hp} G {w with heap:=w.heap.setIfInBounds b (.map ents ents.size)}:=by
 have x:=Ext.chg (G:=G) (Swap.setObj hheap (.map ents ents.size)) (by rw[hown];exact fun e=>e) (by rw[hown];intros;simp)
 exact⟨x,(h.chgH (Swap.setObj hheap (.map ents ents.size)) hb hown hs ⟨⟨ents,(MapKept.heap_set hheap).1,hl,fun j k y e h4 h5=>⟨(hr j k y e h4 h5).1.ext x,(hr j k y e h4 h5).2.1.ext x,(hr j k y e h4 h5).2.2⟩⟩,ha⟩).2⟩
theorem qdQ (h:MR P E U pd l s G w){q:Nat}{v:Value}(hv:VR G w (.map q) v){es:List (zP×zA)}(hm:qaD s.heap q=some (.map es)):
  ∃b ents,v=.map (some b)/\G.bOf q=some b/\G.own b=.loc q/\w.heap[b]? =some (.map ents ents.size)/\es.length=ents.size/\EntsR G w es ents/\es.all (fun p=>qaR p.2)=true:=by
 cases hv with|map _ b hb=>
 rcases(h.heap q _ hm).2 with e|⟨b',h1,h2,⟨ents,h3,h4,h5⟩,h6⟩
 ·rw[hb] at e;cases e
 ·rw[hb] at h1;cases h1;exact⟨b,ents,rfl,hb,h2,h3,h4,h5,h6⟩
theorem qgT (h:MR P E U pd l s G w)(t:TypeId)(x y z:Operand)(hop:o.op=.insert t x y z\/o.op=.mapUpdate t x y z){kt et:TypeId}(ht:P.underlying t=some (.map kt et)){kd:Nat}{ks:List Nat}(hkt:qjR P kt=some (kd,ks))
  {gx gy gz:Arg}(hx:qaw x=some gx)(hy:qaw y=some gy)(hz:qaw z=some gz)(hr:qan G w f a (gx.tmps++(gy.tmps++gz.tmps))){q:Nat}{k:zP}(hk:zA.pureW (gy.ev f)=some k)(hq:gx.ev f=.map q){es es':List (zP×zA)}(hm:qaD s.heap q=some (.map es))
  (hik:qc6 kd ks k=true)(hv:qaR (gz.ev f)=true)(hf:qib kd ks es k (gz.ev f)=some es'){hp:Heap}(qaI:qaI s.heap q (.map es')=some hp):
  NextP P (qa8 P E U pd G w l {s with heap:=hp} qaf) ((execOp a.eval o).run P w):=by
 have h1:=qar hx fun t ht=>hr t (by simp[ht])
 have hp1:=qcS hk (qar hy fun t ht=>hr t (by simp[ht]))
 have h3:=qar hz fun t ht=>hr t (by simp[ht])
 have hK:=qfZ hkt
 rw[hq] at h1
 obtain⟨b,ents,e1,hb,hown,hheap,hl,hrel,ha⟩:=qdQ h h1 hm
 have hg:=MapKept.run_getObj_map (P:=P) hheap
 have hso:=fun ob=>MapKept.run_setObj_map (P:=P) ob hheap
 have he:execOp a.eval o=(do Instr.mapUpdate t (a.eval x) (a.eval y) (a.eval z);pure .skip):=by
  rcases hop with hop|hop
  ·exact qeA t x y z hop
  ·exact qc2 t x y z hop
 simp only[qib,zac] at hf
 obtain⟨r,hf,rfl⟩:=hf
 obtain⟨r',h5,h6⟩:=qdx hK hp1 hl (fun j k y e h7 h8=>(hrel j k y e h7 h8).1) hf
 unfold qjl at h5
 split at h5
 ·obtain⟨x',hmr⟩:=h.setMap (c0:=ents.size) (ents:=ents.push {key:=a.eval y,val:=a.eval z,born:=ents.size}) hb hown hheap qaI (by simp[hl]) (hrel.push hl hp1 h3) (qiv ha hv)
  refine qdu he ?_ ⟨G,x',hmr,.undef⟩
  rw[e1]
  simp[Instr.mapUpdate,run_underlying ht,hg,qbf hK hp1 hik,h6,hso]
 ·rename_i n y' m u
  obtain⟨rfl,j,e',k',rfl,h8,h9,rfl,h10⟩:=h5
  rw[zaL] at h6 qaI
  have h9':ents[j]? =some e':=by simpa using h9
  obtain⟨_,hsb⟩:a.eval y=a.eval y/\Instr.sameBits 10000 (a.eval y) (a.eval y)=true:=by
   refine⟨rfl,?_⟩
   have hpe:∃k0,PR G.S w k0 e'.key/\qgz kd ks k k0=some true:=by
    refine⟨k',(hrel j k' y' e' h8 h9').1,?_⟩
    exact qf1 hf h8
   obtain⟨k0,hk0,hpe⟩:=hpe
   exact((qj9 hK hpe hp1 hk0 rfl).1 rfl).2
  obtain⟨x',hmr⟩:=h.setMap (c0:=ents.size) (ents:=ents.modify j fun e=>{e with key:=a.eval y,val:=a.eval z}) hb hown hheap qaI (by simp[hl,qec]) (hrel.modify hl h9' hp1 h3 rfl) (qf3 ha hv)
  refine qdu he ?_ ⟨G,x',hmr,.undef⟩
  rw[e1]
  have hkk:((ents[j]?).map (·.key)).getD (a.eval y)=a.eval y:=by rw[h9'];simp[h10]
  have hkeep:(Instr.keyThatStays (((ents[j]?).map (·.key)).getD (a.eval y)) (a.eval y)).run P w=.ok (a.eval y) w:=by rw[hkk];exact qiu hsb
  simp only[Instr.mapUpdate,Sem.run_bind,run_underlying ht,Result.andThen_ok,hg,qbf hK hp1 hik,h6,hkeep,hso,Array.size_modify]
 ·exact h5.elim
theorem qnM (h:MR P E U pd l s G w)(t:TypeId)(x y:Operand)(hop:o.op=.mapEntry t x y){kt et:TypeId}(ht:P.underlying t=some (.map kt et)){kd:Nat}{ks:List Nat}(hkt:qjR P kt=some (kd,ks)){i:TypeInfo}(hi:P.info? et=some i){z:Value}(hz:i.zero=some z){zv:zA}(hzv:qll z=some zv)
  {gx gy:Arg}(hx:qaw x=some gx)(hy:qaw y=some gy)(hr:qan G w f a (gx.tmps++gy.tmps)){q:Nat}{k:zP}(hk:zA.pureW (gy.ev f)=some k)(hq:gx.ev f=.map q){es:List (zP×zA)}(hm:qaD s.heap q=some (.map es))
  (hik:qc6 kd ks k=true)(hv:qaR zv=true){r:Option (Nat×zA)}(hf:findKey kd ks k es 0=some r):
  match r with
  |some (j,y)=>∀hp,qaI s.heap q (.map (qia es j (k,y)))=some hp->NextP P (qa8 P E U pd G w l {s with heap:=hp} (.tuple [y,.p (.int .i64 (.ofNat j))])) ((execOp a.eval o).run P w)
  |none=>∀hp,qaI s.heap q (.map (es++[(k,zv)]))=some hp->NextP P (qa8 P E U pd G w l {s with heap:=hp} (.tuple [zv,.p (.int .i64 (.ofNat es.length))])) ((execOp a.eval o).run P w):=by
 have h1:=qar hx fun t ht=>hr t (by simp[ht])
 have hp1:=qcS hk (qar hy fun t ht=>hr t (by simp[ht]))
 have hK:=qfZ hkt
 rw[hq] at h1
 obtain⟨b,ents,e1,hb,hown,hheap,hl,hrel,ha⟩:=qdQ h h1 hm
 have hg:=MapKept.run_getObj_map (P:=P) hheap
 have hso:=fun ob=>MapKept.run_setObj_map (P:=P) ob hheap
 have he:=qfV (ρ:=a.eval) t x y hop
 obtain⟨r',h5,h6⟩:=qdx hK hp1 hl (fun j k y e h7 h8=>(hrel j k y e h7 h8).1) hf
 unfold qjl at h5
 split at h5
 ·intro hp qaI
  obtain⟨x',hmr⟩:=h.setMap (c0:=ents.size) (ents:=ents.push {key:=a.eval y,val:=z,born:=ents.size}) hb hown hheap qaI (by simp[hl]) (hrel.push hl hp1 (qcD hzv)) (qiv ha hv)
  refine qaJ he (u:=.tuple #[z,goInt ents.size]) ?_ ⟨G,x',hmr,qdr ((qcD hzv).ext x') (by rw[hl];exact .int _ _)⟩
  rw[e1]
  simp[Instr.mapEntry,run_underlying ht,hg,qbf hK hp1 hik,h6,hso,zeroValue,typeInfo,hi,hz]
 ·rename_i n y' m u
  obtain⟨rfl,j,e',k',rfl,h8,h9,rfl,h10⟩:=h5
  intro hp qaI
  have qaI:=qaI
  rw[zaL] at h6
  rw[zaL] at qaI
  have e0:0+j=j:=zaL j
  rw[e0]
  have h9':ents[j]? =some e':=by simpa using h9
  obtain⟨g1,g2,g3⟩:=hrel j k' y' e' h8 h9'
  have hsb:Instr.sameBits 10000 (a.eval y) (a.eval y)=true:=by
   have hpe:qgz kd ks k k'=some true:=by
    exact qf1 hf h8
   exact((qj9 hK hpe hp1 g1 rfl).1 rfl).2
  obtain⟨x',hmr⟩:=h.setMap (c0:=ents.size) (ents:=ents.modify j fun e=>{e with key:=a.eval y}) hb hown hheap qaI (by simp[hl,qec]) (hrel.modify hl h9' hp1 g2 rfl) (qf3 ha (qlF ha h8))
  refine qaJ he (u:=.tuple #[e'.val,goInt e'.born]) ?_ ⟨G,x',hmr,qdr (g2.ext x') (by rw[g3];exact .int _ _)⟩
  rw[e1]
  have hkk:((ents[j]?).map (·.key)).getD (a.eval y)=a.eval y:=by rw[h9'];simp[h10]
  have hkeep:(Instr.keyThatStays (((ents[j]?).map (·.key)).getD (a.eval y)) (a.eval y)).run P w=.ok (a.eval y) w:=by rw[hkk];exact qiu hsb
  have hbo:((ents[j]?).map (fun x:MapEntry=>(x.born:Int))).getD 0=(e'.born:Int):=by rw[h9'];rfl
  simp only[Instr.mapEntry,Sem.run_bind,run_underlying ht,Result.andThen_ok,hg,qbf hK hp1 hik,h6,hkeep,hso,Array.size_modify,Sem.run_pure,hbo]
 ·exact h5.elim
theorem qnN (h:MR P E U pd l s G w)(t:TypeId)(x y z:Operand)(hop:o.op=.entryStore t x y z)
  {gx gy gz:Arg}(hx:qaw x=some gx)(hy:qaw y=some gy)(hz:qaw z=some gz)(hr:qan G w f a (gx.tmps++(gy.tmps++gz.tmps))){q j:Nat}(hj:qbi (gy.ev f)=some j)(hq:gx.ev f=.map q){es:List (zP×zA)}(hm:qaD s.heap q=some (.map es))
  (hv:qaR (gz.ev f)=true){p:zP×zA}(hp0:qdh es j=some p){hp:Heap}(qaI:qaI s.heap q (.map (qia es j (p.1,gz.ev f)))=some hp):
  NextP P (qa8 P E U pd G w l {s with heap:=hp} qaf) ((execOp a.eval o).run P w):=by
 have h1:=qar hx fun t ht=>hr t (by simp[ht])
 obtain⟨kk,ek⟩:=qbm hj (qar hy fun t ht=>hr t (by simp[ht]))
 have h3:=qar hz fun t ht=>hr t (by simp[ht])
 rw[hq] at h1
 obtain⟨b,ents,e1,hb,hown,hheap,hl,hrel,ha⟩:=qdQ h h1 hm
 have hg:=MapKept.run_getObj_map (P:=P) hheap
 have hso:=fun ob=>MapKept.run_setObj_map (P:=P) ob hheap
 have he:=qeC (ρ:=a.eval) t x y z hop
 rw[qbs] at hp0
 have hjl:j<es.length:=(zah.1 hp0).1
 have he0:ents[j]? =some (ents[j]'(by omega)):=zam (by omega)
 obtain⟨g1,g2,g3⟩:=hrel j p.1 p.2 _ hp0 he0
 have hborn:∀i (hi:i<ents.size),(ents[i]).born=i:=fun i hi=>(hrel i (es[i]'(by omega)).1 (es[i]'(by omega)).2 _ (zai (by omega)) (zam hi)).2.2
 have hfi:ents.findIdx? (fun e=>(e.born:Int)==(j:Int))=some j:=by
  rw[Array.findIdx?_eq_some_iff_getElem]
  refine⟨by omega,by simp[hborn],fun i hi=>?_⟩
  have:=hborn i (by omega)
  simp only[this,beq_iff_eq]
  omega
 obtain⟨x',hmr⟩:=h.setMap (c0:=ents.size) (ents:=ents.modify j fun e=>{e with val:=a.eval z}) hb hown hheap qaI (by simp[hl,qec]) (hrel.modify hl he0 g1 h3 rfl) (qf3 ha hv)
 refine qdu he ?_ ⟨G,x',hmr,.undef⟩
 rw[e1,ek]
 simp[Instr.entryStore,hg,hfi,hso,asInt,asIntOf]
end Go.AI
namespace Go.AI
section
variable {G G':Gh} {w:World}
structure Moves (G G':Gh)(w:World):Prop where
 S:∀b o,G.S b o->G'.S b o
 bOf:∀l b,G.bOf l=some b->G'.bOf l=some b
 R:∀n cs t a cap,Right G w n cs t a cap->Right G' w n cs t a cap
theorem Moves.pr (h:Moves G G' w){c:zP}{v:Value}(k:PR G.S w c v):PR G'.S w c v:=k.mono fun _ _ hc hs=>⟨hc,h.S _ _ hs⟩
theorem Moves.atQ (h:Moves G G' w){c:zA}{v:Value}(k:VR G w c v)(ha:qno c=true):VR G' w c v:=by
 cases k with
 |p c v hp=>exact .p _ _ (h.pr hp)
 |full n cs a hp=>exact .full _ _ _ (h.pr hp)
 |own n cs t a cap hp r=>exact .own _ _ _ _ _ (h.pr hp) (h.R _ _ _ _ _ r)
 |ptr l off b hb=>exact .ptr _ _ _ (h.bOf _ _ hb)
 |elem cs i ad he=>
  refine .elem _ _ _ fun j c hc=>?_
  obtain⟨v,h1,h2,h3,h4⟩:=he j c hc
  exact⟨v,h1,h.S _ _ h2,h.pr h3,h4⟩
 |yield l b hb=>exact .yield _ _ (h.bOf _ _ hb)
 |map l b hb=>exact .map _ _ (h.bOf _ _ hb)
 |hs l off n cap sz op b cap' hb hn hc he hz=>exact .hs _ _ _ _ _ _ _ _ (h.bOf _ _ hb) hn hc he hz
 |sym b ls n h hn=>exact .sym b ls n h hn
 |_=>cases ha
theorem qaU {α:Type}{p:α->Bool}{xs:List α}(h:xs.all p=true){i:Nat}{x:α}(hx:xs[i]? =some x):p x=true:=zaj.1 h x (zaw hx)
theorem Moves.atN (h:Moves G G' w):∀(n:Nat) {c:zA} {v:Value},VR G w c v->qd5 n c=true->VR G' w c v
 |0,c,v,k,ha=>h.atQ k ha
 |n+1,c,v,k,ha=>by
  cases c with
  |row m cs=>
   cases k with
   |row _ _ a cap vs hn hl h1 hc hv=>exact .row _ _ _ _ vs hn hl h1 (fun i v hv=>⟨(hc i v hv).1,h.S _ _ (hc i v hv).2⟩) fun i c v hc hv'=>h.atN n (hv i c v hc hv') (qaU (p:=qd5 n) ha hc)
  |rel cs i=>
   cases k with
   |rel _ _ a vs hl h1 hc hv=>exact .rel _ _ _ vs hl h1 (fun i v hv=>⟨(hc i v hv).1,h.S _ _ (hc i v hv).2⟩) fun i c v hc hv'=>h.atN n (hv i c v hc hv') (qaU (p:=qd5 n) ha hc)
  |func f xs ys=>
   simp only[qd5,zae] at ha
   cases k with
   |func _ _ _ vs us hl hm hx hy=>exact .func _ _ _ _ _ hl hm (fun i c v hc hv=>h.atN n (hx i c v hc hv) (qaU ha.1 hc)) (fun i c v hc hv=>h.atN n (hy i c v hc hv) (qaU ha.2 hc))
  |iface t d=>
   cases k with
   |iface _ _ u hu=>exact .iface _ _ _ (h.atN n hu ha)
  |agg cs=>
   cases k with
   |agg _ vs hl h1 hv=>exact .agg _ _ hl h1 fun i c v hc hv'=>h.atN n (hv i c v hc hv') (qaU (p:=qd5 n) ha hc)
  |_=>exact h.atQ k ha
theorem Moves.atF (h:Moves G G' w){c:zA}{v:Value}(k:VR G w c v)(ha:qjI c=true):VR G' w c v:=h.atN 8 k ha
theorem Moves.at0 (h:Moves G G' w){c:zA}{v:Value}(k:VR G w c v)(ha:qjJ c=true):VR G' w c v:=by
 cases c with
 |iface t d=>
  cases k with
  |iface _ _ u hu=>exact .iface _ _ _ (h.atF hu ha)
 |_=>exact h.atF k ha
theorem Moves.atX (h:Moves G G' w){c:zA}{v:Value}(k:VR G w c v)(ha:qnp c=true):VR G' w c v:=by
 cases c with
 |agg cs=>
  cases k with
  |agg _ vs hl h1 hv=>exact .agg _ _ hl h1 fun i c v hc hv'=>h.at0 (hv i c v hc hv') (qaU (p:=qjJ) ha hc)
 |_=>exact h.at0 k ha
theorem Moves.at1 (h:Moves G G' w){c:zA}{v:Value}(k:VR G w c v)(ha:qaF c=true):VR G' w c v:=by
 cases c with
 |func f xs ys=>
  simp only[qaF,zae] at ha
  cases k with
  |func _ _ _ vs us hl hm hx hy=>exact .func _ _ _ _ _ hl hm (fun i c v hc hv=>h.atX (hx i c v hc hv) (qaU ha.1 hc)) (fun i c v hc hv=>h.atX (hy i c v hc hv) (qaU ha.2 hc))
 |_=>exact h.at0 k ha
theorem Moves.atC (h:Moves G G' w){c:zA}{v:Value}(k:VR G w c v)(ha:qaR c=true):VR G' w c v:=by
 cases c with
 |agg cs=>
  cases k with
  |agg _ vs hl h1 hv=>exact .agg _ _ hl h1 fun i c v hc hv'=>h.at1 (hv i c v hc hv') (qaU (p:=qaF) ha hc)
 |_=>exact h.at1 k ha
theorem Moves.at (h:Moves G G' w){c:zA}{v:Value}(k:VR G w c v)(ha:qjK c=true):VR G' w c v:=by
 cases c with
 |tuple cs=>
  cases k with
  |tuple _ vs hl hv=>exact .tuple _ _ hl fun i c v hc hv'=>h.atC (hv i c v hc hv') (qaU (p:=qaR) ha hc)
 |_=>exact h.atC k ha
theorem Moves.br (h:Moves G G' w){b:Nat}{cs:List zA}(k:BR G w b cs)(ha:cs.all qaF=true):BR G' w b cs:=by
 obtain⟨c,E,h1,h2,h3,h4⟩:=k
 exact⟨c,E,h1,h2,h3,fun j a v hj hv=>h.at1 (h4 j a v hj hv) (qaU ha hj)⟩
theorem Moves.or (h:Moves G G' w){P:Program}{b:Nat}{o:zH}(ho:∀g,G.own g=G.own b->G'.own g=G'.own b)(k:OR P G w b o):OR P G' w b o:=by
 cases o with
 |bld T e bs=>exact k.move rfl fun g _ he=>⟨rfl,ho g he⟩
 |bldf T e bs=>exact BldFR.move rfl (fun g _ he=>⟨rfl,ho g he⟩) k
 |cells cs=>exact⟨h.br k.1 k.2,k.2⟩
 |map es=>
  obtain⟨⟨ents,h1,h2,h3⟩,h4⟩:=k
  exact⟨⟨ents,h1,h2,fun j k x e hj he=>⟨h.pr (h3 j k x e hj he).1,h.atC (h3 j k x e hj he).2.1 (qaU (p:=fun p:zP×zA=>qaR p.2) h4 hj),(h3 j k x e hj he).2.2⟩⟩,h4⟩
 |umap es=>
  obtain⟨⟨es',hp,hk,ents,h1,h2,h3⟩,h4⟩:=k
  exact⟨⟨es',hp,hk,ents,h1,h2,fun j k x e hj he=>⟨h.pr (h3 j k x e hj he).1,h.atC (h3 j k x e hj he).2.1 (zaj.1 h4 (k,x) (hp.mem_iff.1 (zaw hj))),(h3 j k x e hj he).2.2⟩⟩,h4⟩
 |loop st pend f l ps a c=>
  obtain⟨r,h1,h2⟩:=k
  exact⟨r,h1,⟨h2.st_,h2.pend_,⟨fun t=>by
   rcases h2.aw t with e|e
   ·exact h.at (h2.f_.1 t) e
   ·rw[e];exact .junk _,h2.f_.2⟩,h2.aw,h2.ps_,h2.psl,h2.l_,h2.code⟩⟩
 |gone=>exact k
 |iter m since last seen=>
  obtain⟨bm,h1,h2⟩:=k
  exact⟨bm,h1,h.atC h2 rfl⟩
theorem qgU {c:zA}{v:Value}(h:VR G w c v):VR G w (qgw c) v:=by
 cases h with
 |full n cs a hp=>exact .p _ _ hp
 |own n cs t a cap hp r=>exact .p _ _ hp
 |p c v h=>exact .p _ _ h
 |lptr i g off b h=>exact .lptr _ _ _ _ h
 |ptr l off b h=>exact .ptr _ _ _ h
 |elem cs i ad h=>exact .elem _ _ _ h
 |row n cs a cap vs hn hl h1 hc h=>exact .row _ _ _ _ vs hn hl h1 hc h
 |rel cs i a vs hl h1 hc h=>exact .rel _ _ _ vs hl h1 hc h
 |func f fs cps vs us hl hm h k=>exact .func _ _ _ _ _ hl hm h k
 |yield l b h=>exact .yield _ _ h
 |map l b h=>exact .map _ _ h
 |hs l off n cap sz op b cap' hb hn hc he hz=>exact .hs _ _ _ _ _ _ _ _ hb hn hc he hz
 |iface t c v h=>exact .iface _ _ _ h
 |agg cs vs hl h1 h=>exact .agg _ _ hl h1 h
 |tuple cs vs hl h=>exact .tuple _ _ hl h
 |sym b ls n h hn=>exact .sym b ls n h hn
 |junk v=>exact .junk _
theorem qgV {c:zA}{v:Value}(h:VR G w c v):VR G w (qjL c) v:=by
 cases c with
 |agg cs=>
  cases h with
  |agg _ vs hl h1 hv=>
   refine .agg _ _ (by simpa using hl) h1 fun i c v hc hv'=>?_
   simp only[zav,zac] at hc
   obtain⟨d,hd,rfl⟩:=hc
   exact qgU (hv i d v hd hv')
 |_=>exact qgU h
theorem qf4 {c:zA}{v:Value}(h:VR G w c v):VR G w (qca c) v:=by
 cases c with
 |tuple cs=>
  cases h with
  |tuple _ vs hl hv=>
   refine .tuple _ _ (by simpa using hl) fun i c v hc hv'=>?_
   simp only[zav,zac] at hc
   obtain⟨d,hd,rfl⟩:=hc
   exact qgV (hv i d v hd hv')
 |_=>exact qgV h
theorem qgW (c:zA)(h:qaF c=true):qaF (qgw c)=true:=by cases c<;>first|exact h|rfl
theorem qhH (c:zA)(h:qaR c=true):qaR (qca c)=true:=by
 cases c with
 |agg cs=>
  show((cs.map qgw).all qaF)=true
  rw[zaj]
  intro x hx
  obtain⟨y,hy,rfl⟩:=zaS.1 hx
  exact qgW y (zaj.1 h y hy)
 |tuple cs=>cases h
 |_=>first|exact h|rfl
end
def Gh.sub (G:Gh):Gh:={G with own:=fun b=>match G.own b with|.lcl _ _=> .ro 0|r=>r,lam:=fun _ _=>none}
def Gh.back (G G1:Gh):Gh:={G1 with own:=fun b=>match G.own b with|.lcl i g=> .lcl i g|_=>(match G1.own b with|.lcl _ _=> .free|r=>r),lam:=G.lam}
section
variable {P:Program} {E:Rom} {U pd pd1:Nat->Option (List zA)} {l l1:Tr (Nat×List zA)} {s s':ASt} {G G1:Gh} {w w':World}
theorem qeK {b:Nat}{r:Own}(h:G.sub.own b=r)(hr:r≠.ro 0):G.own b=r:=by
 unfold Gh.sub at h
 simp only at h
 split at h
 ·exact absurd h.symm hr
 ·exact h
theorem qbo {b:Nat}{r:Own}(h:G.own b=r)(hr:∀i g,r≠.lcl i g):G.sub.own b=r:=by
 unfold Gh.sub
 simp only
 split
 ·rename_i i g e
  exact absurd (h.symm.trans e) (hr i g)
 ·exact h
theorem qkb {b i g:Nat}(h:G.own b=.lcl i g):G.sub.own b=.ro 0:=by unfold Gh.sub;simp only[h]
theorem moves_sub:Moves G G.sub w:=by
 refine⟨fun b o h=>?_,fun _ _ h=>h,fun n cs t a cap h=>⟨h.1,fun b m sz hb=>h.2 b m sz (qeK hb (by simp))⟩⟩
 unfold Gh.S at h⊢
 cases e:G.own b with
 |lcl i g=>rw[e] at h;exact h.elim
 |_=>rw[qbo e (by simp)];rw[e] at h;exact h
theorem MR.sub (h:MR P E U pd l s G w){l0:Tr (Nat×List zA)}(h0:∀i,l0.get (0,[]) i=(0,[])):MR P E U (fun _=>none) l0 s G.sub w:=by
 refine⟨fun b hb=>?_,h.bOf,h.lo_,h.un,fun _ _ e=>(by cases e),h.nt,fun i g cs hl hg _=>?_,fun i g b hb=>(by cases hb),fun k o hk=>?_,fun k o hk=>?_,?_,?_,?_⟩
 ·refine h.own b fun e=>hb ?_
  exact qbo e (by simp)
 ·rw[h0] at hl
  injection hl with e
  exact absurd e.symm hg
 ·obtain⟨h1,h2⟩:=h.heap k o hk
  exact⟨h1,h2.imp id fun⟨b,h3,h4,h5⟩=>⟨b,h3,qbo h4 (by simp),moves_sub.or (fun g he=>by rw[qbo (he.trans h4) (by simp),qbo h4 (by simp)]) h5⟩⟩
 ·obtain⟨h12,hph⟩:=h.ro k o hk
  refine⟨fun hlo=>?_,fun hhi=>?_⟩
  ·obtain⟨h1,h2⟩:=h12 hlo
   exact⟨h1,h2.imp id fun⟨b,j,h3,h4,h5⟩=>⟨b,j,h3,qbo h4 (by simp),moves_sub.or (fun g he=>by rw[qbo (he.trans h4) (by simp),qbo h4 (by simp)]) h5⟩⟩
  ·obtain⟨j,h4,h5⟩:=hph hhi
   exact⟨j,qbo h4 (by simp),h5.go rfl fun a v ha h=>moves_sub.at1 h ha⟩
 ·intro t n sz ht
  obtain⟨h1,b,h2⟩:=h.tok.1 t n sz ht
  exact⟨h1,b,qbo h2 (by simp)⟩
 ·intro b t n sz hb
  exact h.tok.2.1 b t n sz (qeK hb (by simp))
 ·intro b b' t n n' sz sz' h1 h2
  exact h.tok.2.2 b b' t n n' sz sz' (qeK h1 (by simp)) (qeK h2 (by simp))
theorem qf5 {b i g:Nat}(h:G.own b=.lcl i g):(G.back G1).own b=.lcl i g:=by unfold Gh.back;simp only[h]
theorem qbp {b:Nat}{r:Own}(h:∀i g,G.own b≠.lcl i g)(h1:G1.own b=r)(hr:∀i g,r≠.lcl i g):(G.back G1).own b=r:=by
 have key:(match G1.own b with|.lcl _ _=>Own.free|r=>r)=r:=by
  rw[h1]
  cases r<;>first|rfl|exact absurd rfl (hr _ _)
 unfold Gh.back
 cases e:G.own b with
 |lcl i g=>exact absurd e (h i g)
 |_=>simp only[e];exact key
theorem qcU {b:Nat}{r:Own}(h:(G.back G1).own b=r)(hr:r≠.free)(hr':∀i g,r≠.lcl i g):G1.own b=r/\∀i g,G.own b≠.lcl i g:=by
 by_cases e:∃i g,G.own b=.lcl i g
 ·obtain⟨i,g,e⟩:=e
  rw[qf5 e] at h
  exact absurd h.symm (hr' i g)
 ·have hne:∀i g,G.own b≠.lcl i g:=fun i g e'=>e ⟨i,g,e'⟩
  refine⟨?_,hne⟩
  cases e1:G1.own b with
  |lcl i g=>
   have:(G.back G1).own b=.free:=by
    unfold Gh.back
    cases e:G.own b with
    |lcl i g=>exact absurd e (hne i g)
    |_=>simp only[e,e1]
   rw[this] at h
   exact absurd h.symm hr
  |_=>rw[qbp hne e1 (by simp)] at h;exact h
theorem qeL (x:Ext G.sub w G1 w')(h:MR P E U pd l s G w){b i g:Nat}(hb:G.own b=.lcl i g):w'.heap[b]? =w.heap[b]?/\G1.own b=.ro 0:=by
 obtain⟨h1,h2⟩:=x.still b (h.own b (by rw[hb];simp)) (by rw[qkb hb];trivial)
 exact⟨h1,h2.trans (qkb hb)⟩
theorem qfF (h:MR P E U pd l s G w)(x:Ext G.sub w G1 w'):Moves G1 (G.back G1) w':=by
 refine⟨fun b o hs=>?_,fun _ _ h=>h,fun n cs t a cap hr=>⟨hr.1,fun b m sz hb=>hr.2 b m sz (qcU hb (by simp) (by simp)).1⟩⟩
 unfold Gh.S at hs⊢
 cases e:G.own b with
 |lcl i g=>
  rw[(qeL x h e).2] at hs
  exact absurd hs (Nat.not_lt_zero _)
 |_=>
  cases e1:G1.own b with
  |lcl i g=>rw[e1] at hs;exact hs.elim
  |_=>rw[qbp (by rw[e];intros;simp) e1 (by simp)];rw[e1] at hs;exact hs
theorem qiw (_h:MR P E U pd l s G w)(x:Ext G.sub w G1 w'):Ext G w (G.back G1) w' where
 size:=x.size
 os:=x.os
 tape:=x.tape
 output:=x.output
 still:=fun b hb hs=>by
  have hne:∀i g,G.own b≠.lcl i g:=fun i g e=>by rw[e] at hs;exact hs
  have e:=qbo (G:=G) (b:=b) rfl hne
  obtain⟨h1,h2⟩:=x.still b hb (by rw[e];exact hs)
  exact⟨h1,qbp hne (h2.trans e) hne⟩
 tok:=fun b t n sz hb ho=>by
  have hne:∀i g,G.own b≠.lcl i g:=fun i g e=>by rw[e] at ho;cases ho
  obtain⟨h1,h2⟩:=x.tok b t n sz hb (qbo ho (by simp))
  exact⟨h1,h2.imp (fun e=>qbp hne e (by simp)) fun⟨n',h3,h4⟩=>⟨n',h3,qbp hne h4 (by simp)⟩⟩
 shape:=fun b t n sz c E' ho hc ⟨n',hn⟩=>x.shape b t n sz c E' (qbo ho (by simp)) hc ⟨n',(qcU hn (by simp) (by simp)).1⟩
 wide:=x.wide
 loc:=fun b q ho=>by
  obtain⟨q',h1⟩:=x.loc b q (qbo ho (by simp))
  exact⟨q',qbp (by rw[ho];intros;simp) h1 (by simp)⟩
 lcl:=fun b i g ho=>qf5 ho
 bOf:=x.bOf
 lam:=fun _ _ _ h=>h
 nt:=x.nt
 lo_:=x.lo_
 low:=x.low
 old:=fun b t m sz hb ht=>by
  obtain⟨b0,m0,h1,h2⟩:=x.old b t m sz (qcU hb (by simp) (by simp)).1 ht
  exact⟨b0,m0,qeK h1 (by simp),h2⟩
theorem MR.back (h:MR P E U pd l s G w)(x:Ext G.sub w G1 w')(k:MR P E U pd1 l1 s' G1 w'):MR P E U pd l s' (G.back G1) w':=by
 have hx:=qiw h x
 have hm:=qfF h x
 have hne:∀b r,G1.own b=r->r≠.ro 0->∀i g,G.own b≠.lcl i g:=fun b r h1 h2 i g e=>h2 (by rw[<-h1];exact(qeL x h e).2)
 refine⟨fun b hb=>?_,k.bOf,k.lo_,k.un,h.pdz,k.nt,fun i g cs hl hg hp=>?_,h.lam,fun q o hq=>?_,fun q o hq=>?_,?_,?_,?_⟩
 ·by_cases e:G1.own b=.free
  ·by_cases e':∃i g,G.own b=.lcl i g
   ·obtain⟨i,g,e'⟩:=e'
    exact zas (h.own b (by rw[e'];simp)) x.size
   ·exact absurd (qbp (fun i g e2=>e' ⟨i,g,e2⟩) e (by simp)) hb
  ·exact k.own b e
 ·obtain⟨b,h1,h2,h3⟩:=h.loc i g cs hl hg hp
  exact⟨b,h1,qf5 h2,h3.ext hx (qeL x h h2).1⟩
 ·obtain⟨h1,h2⟩:=k.heap q o hq
  exact⟨h1,h2.imp id fun⟨b,h3,h4,h5⟩=>⟨b,h3,qbp (hne b _ h4 (by simp)) h4 (by simp),hm.or (fun g he=>by rw[qbp (hne g _ (he.trans h4) (by simp)) (he.trans h4) (by simp),qbp (hne b _ h4 (by simp)) h4 (by simp)]) h5⟩⟩
 ·obtain⟨h12,hph⟩:=h.ro q o hq
  refine⟨fun hlo=>?_,fun hhi=>?_⟩
  rotate_left
  ·obtain⟨j,h4,h5⟩:=hph hhi
   obtain⟨h6,h7⟩:=hx.still _ (h.own _ (by rw[h4];simp)) (by rw[h4];trivial)
   exact⟨j,h7.trans h4,h5.go h6 fun a v _ h=>h.ext hx⟩
  obtain⟨h1,h2⟩:=h12 hlo
  refine⟨by rw[show(G.back G1).lo=G.lo from x.lo_];exact h1,?_⟩
  rcases h2 with e|⟨b,j,h3,h4,h5⟩
  ·exact .inl ((x.low q h1).trans e)
  ·obtain⟨h6,h7⟩:=hx.still b (h.own b (by rw[h4];simp)) (by rw[h4];trivial)
   exact .inr ⟨b,j,x.bOf _ _ h3,h7.trans h4,h5.ext hx h6 fun g hg he=>by
    obtain⟨h8,h9⟩:=hx.still g hg (by rw[he,h4];trivial)
    exact⟨h8,by rw[h9,h7,he]⟩⟩
 ·intro t n sz ht
  obtain⟨h1,b,h2⟩:=k.tok.1 t n sz ht
  exact⟨h1,b,qbp (hne b _ h2 (by simp)) h2 (by simp)⟩
 ·intro b t n sz hb
  exact k.tok.2.1 b t n sz (qcU hb (by simp) (by simp)).1
 ·intro b b' t n n' sz sz' h1 h2
  exact k.tok.2.2 b b' t n n' sz sz' (qcU h1 (by simp) (by simp)).1 (qcU h2 (by simp) (by simp)).1
end
end Go.AI
namespace Go.AI
section
variable {P:Program} {E:Rom} {U pd U1 pd1:Nat->Option (List zA)} {l l1:Tr (Nat×List zA)} {s s':ASt} {G G1:Gh} {w w':World}
def Gh.fix (G:Gh)(lo:Nat):Gh:=
 {own:=fun b=>match G.own b with|.lcl _ _=> .ro 0|.loc _=> .ro 0|.tok _ n sz=> .ro (n*sz)|r=>r,bOf:=G.bOf,lam:=fun _ _=>none,nt:=G.nt,lo:=lo}
theorem qbY (G:Gh)(lo b:Nat):((G.fix lo).own b).still:=by
 unfold Gh.fix
 simp only
 split
 all_goals first
  |trivial
  |(cases e:G.own b<;>first|trivial|(exfalso;simp_all))
theorem qpA (G:Gh)(lo b o:Nat):(G.fix lo).S b o↔G.S b o:=by
 unfold Gh.S Gh.fix
 simp only
 cases e:G.own b<;>simp[Own.S]
theorem qda {G:Gh}{lo b t n sz:Nat}(h:(G.fix lo).own b=.tok t n sz):False:=by
 have:=qbY G lo b
 rw[h] at this
 exact this
theorem qhI {G:Gh}{lo b:Nat}{r:Own}(h:(G.fix lo).own b=r)(hr:r≠.free):G.own b≠.free:=fun e=>hr (by rw[<-h];unfold Gh.fix;simp only[e])
theorem qdy (lo:Nat):Moves G (G.fix lo) w:=⟨fun b o h=>(qpA G lo b o).2 h,fun _ _ h=>h,fun _ _ _ _ _ h=>⟨h.1,fun _ _ _ hb=>(qda hb).elim⟩⟩
theorem MR.fix (h:MR P E U pd l s G w){l0:Tr (Nat×List zA)}(h0:∀i,l0.get (0,[]) i=(0,[])):
  MR P (qlk s.heap E) (fun _=>none) (fun _=>none) l0 {s with heap:=qjb,toks:=[]} (G.fix s.next) w:=by
 refine⟨fun b hb=>h.own b (qhI rfl hb),h.bOf,zaf _,fun _ _ e=>(by cases e),fun _ _ e=>(by cases e),h.nt,fun i g cs hl hg _=>?_,fun i g b hb=>(by cases hb),fun k o hk=>(by rw[qd9] at hk;cases hk),fun k o hk=>?_,fun t n sz ht=>(by cases ht),
  fun b t n sz hb=>(qda hb).elim,fun b b' t n n' sz sz' hb _=>(qda hb).elim⟩
 ·rw[h0] at hl
  injection hl with e
  exact absurd e.symm hg
 ·unfold qlk at hk
  cases hb:Nat.blt k PB with
  |false=>
   rw[hb] at hk
   have hge:PB<=k:=by
    rcases Nat.lt_or_ge k PB with e|e
    ·rw[blt_iff.2 e] at hb;cases hb
    ·exact e
   refine⟨fun e=>by omega,fun _=>?_⟩
   obtain⟨j,h4,h5⟩:=(h.ro k o hk).2 hge
   exact⟨j,by unfold Gh.fix;simp only[h4],h5.go rfl fun a v ha h=>(qdy _).at1 h ha⟩
  |true=>
  have hlt:=blt_iff.1 hb
  rw[hb] at hk
  simp only[cond_true] at hk
  refine⟨fun _=>?_,fun e=>by omega⟩
  split at hk
  ·rename_i v hv
   injection hk with e
   subst e
   obtain⟨h1,h2⟩:=h.heap k v hv
   exact⟨h1,h2.imp id fun⟨b,h3,h4,h5⟩=>⟨b,0,h3,by unfold Gh.fix;simp only[h4],(qdy _).or (fun g he=>by unfold Gh.fix;simp only[he]) h5⟩⟩
  ·obtain⟨h1,h2⟩:=(h.ro k o hk).1 hlt
   exact⟨zas h1 h.lo_,h2.imp id fun⟨b,j,h3,h4,h5⟩=>⟨b,j,h3,by unfold Gh.fix;simp only[h4],(qdy _).or (fun g he=>by unfold Gh.fix;simp only[he]) h5⟩⟩
theorem qed {lo:Nat}(x:Ext (G.fix lo) w G1 w'):Keep w w':=⟨x.size,x.os,x.tape,x.output,fun b hb=>(x.still b hb (qbY G lo b)).1⟩
structure MovesP (lo:Nat)(G G':Gh)(w:World):Prop where
 S:∀b o,G.S b o->G'.S b o
 bOf:∀l b,l<lo->G.bOf l=some b->G'.bOf l=some b
section
variable {lo:Nat} {G G':Gh} {w:World}
theorem MovesP.pr (h:MovesP lo G G' w){c:zP}{v:Value}(k:PR G.S w c v):PR G'.S w c v:=k.mono fun _ _ hc hs=>⟨hc,h.S _ _ hs⟩
theorem MovesP.atF (h:MovesP lo G G' w){c:zA}{v:Value}(k:VR G w c v)(ha:qnr lo c=true):VR G' w c v:=by
 cases k with
 |p c v hp=>exact .p _ _ (h.pr hp)
 |ptr l off b hb=>exact .ptr _ _ _ (h.bOf _ _ (blt_iff.1 ha) hb)
 |map l b hb=>exact .map _ _ (h.bOf _ _ (blt_iff.1 ha) hb)
 |hs l off n cap sz op b cap' hb hn hc he hz=>exact .hs _ _ _ _ _ _ _ _ (h.bOf _ _ (blt_iff.1 ha) hb) hn hc he hz
 |_=>cases ha
theorem MovesP.at0 (h:MovesP lo G G' w){c:zA}{v:Value}(k:VR G w c v)(ha:qgx lo c=true):VR G' w c v:=by
 cases c with
 |iface t d=>
  cases k with
  |iface _ _ u hu=>exact .iface _ _ _ (h.atF hu ha)
 |_=>exact h.atF k ha
theorem MovesP.atX (h:MovesP lo G G' w){c:zA}{v:Value}(k:VR G w c v)(ha:qjM lo c=true):VR G' w c v:=by
 cases c with
 |agg cs=>
  cases k with
  |agg _ vs hl h1 hv=>exact .agg _ _ hl h1 fun i c v hc hv'=>h.at0 (hv i c v hc hv') (qaU (p:=qgx lo) ha hc)
 |_=>exact h.at0 k ha
theorem MovesP.at1 (h:MovesP lo G G' w){c:zA}{v:Value}(k:VR G w c v)(ha:qgy lo c=true):VR G' w c v:=by
 cases c with
 |func f xs ys=>
  simp only[qgy,zae] at ha
  cases k with
  |func _ _ _ vs us hl hm hx hy=>exact .func _ _ _ _ _ hl hm (fun i c v hc hv=>h.atX (hx i c v hc hv) (qaU ha.1 hc)) (fun i c v hc hv=>h.atX (hy i c v hc hv) (qaU ha.2 hc))
 |_=>exact h.at0 k ha
theorem MovesP.atC (h:MovesP lo G G' w){c:zA}{v:Value}(k:VR G w c v)(ha:qh9 lo c=true):VR G' w c v:=by
 cases c with
 |agg cs=>
  cases k with
  |agg _ vs hl h1 hv=>exact .agg _ _ hl h1 fun i c v hc hv'=>h.at1 (hv i c v hc hv') (qaU (p:=qgy lo) ha hc)
 |_=>exact h.at1 k ha
theorem MovesP.at (h:MovesP lo G G' w){c:zA}{v:Value}(k:VR G w c v)(ha:plain lo c=true):VR G' w c v:=by
 cases c with
 |tuple cs=>
  cases k with
  |tuple _ vs hl hv=>exact .tuple _ _ hl fun i c v hc hv'=>h.atC (hv i c v hc hv') (qaU (p:=qh9 lo) ha hc)
 |_=>exact h.atC k ha
end
theorem qhJ (h:MR P E U pd l s G w)(x:Ext (G.fix s.next) w G1 w'):MovesP s.next G1 G w':=by
 refine⟨fun b o hs=>?_,fun q b hq hb=>?_⟩
 ·by_cases e:b<w.heap.size
  ·refine(qpA G s.next b o).1 ?_
   have:=(x.still b e (qbY G _ b)).2
   unfold Gh.S at hs⊢
   rw[<-this]
   exact hs
  ·unfold Gh.S
   rw[h.free (by omega)]
   trivial
 ·rw[x.low q hq] at hb
  exact hb
theorem qkc (h:MR P E U pd l s G w)(x:Ext (G.fix s.next) w G1 w'){v:zA}{u:Value}(hv:VR G1 w' v u)(hp:plain s.next v=true):qa8 P E U pd G w l s v u w':=
 ⟨G,(qed x).ext G,h.keep (qed x),(qhJ h x).at hv hp⟩
theorem qf6 (h:MR P E U pd l s G w)(x:Ext G.sub w G1 w')(k:MR P E U pd1 l1 s' G1 w'){v:zA}{u:Value}(hv:VR G1 w' v u)(hp:qjK v=true):qa8 P E U pd G w l s' v u w':=
 ⟨G.back G1,qiw h x,h.back x k,(qfF h x).at hv hp⟩
end
end Go.AI
namespace Go.AI
variable {P:Program} {E:Rom} {U pd:Nat->Option (List zA)} {l:Tr (Nat×List zA)} {s:ASt} {G:Gh} {w w':World} {f:Tr zA} {a:Act} {o:Oper} {v:zA}
theorem qkd (l:List Nat)(i:Nat):l.any (Nat.beq i)=l.toArray.contains i:=by
 rw[List.contains_toArray]
 induction l with
 |nil=>rfl
 |cons x r ih=>
  rw[List.any_cons,List.contains_cons,ih]
  congr 1
  rw[Bool.eq_iff_iff,beq_iff,beq_iff_eq]
theorem qke (seen:List Nat):∀(es:List (zP×zA)) (L:List MapEntry) (n:Nat),es.length=L.length->(∀(j:Nat) e,L[j]? =some e->e.born=n+j)->
  (qep seen es n).length=(L.filter fun e=>!seen.toArray.contains e.born).length/\∀(m i:Nat) k v,(qep seen es n)[m]? =some (i,k,v)->∃e,(L.filter fun e=>!seen.toArray.contains e.born)[m]? =some e/\e.born=i/\n<=i/\es[i-n]? =some (k,v)/\L[i-n]? =some e
 |[],[],n,_,_=>⟨rfl,fun m i k v h=>by simp[qep] at h⟩
 |(k,v)::es,e::L,n,hl,hb=>by
  have h0:e.born=n:=by simpa using hb 0 e rfl
  obtain⟨h1,h2⟩:=qke seen es L (n+1) (by simpa using hl) fun j e' he=>by rw[hb (j+1) e' (by simpa using he)];omega
  simp only[qep,List.filter_cons,h0,qkd]
  have up:∀(m i:Nat) k' v',(qep seen es (n+1))[m]? =some (i,k',v')->∃e',(L.filter fun e=>!seen.toArray.contains e.born)[m]? =some e'/\e'.born=i/\n<=i/\((k,v)::es)[i-n]? =some (k',v')/\(e::L)[i-n]? =some e':=by
   intro m i k' v' hm
   obtain⟨e',g1,g2,g3,g4,g5⟩:=h2 m i k' v' hm
   have e1:i-n=(i-(n+1))+1:=by omega
   exact⟨e',g1,g2,by omega,by rw[e1];simpa using g4,by rw[e1];simpa using g5⟩
  cases hc:seen.toArray.contains n with
  |true=>
   simp only[cond_true,Bool.not_true,zaB,if_false]
   exact⟨h1,up⟩
  |false=>
   simp only[cond_false,Bool.not_false,if_true]
   refine⟨by simp[h1],fun m i k' v' hm=>?_⟩
   cases m with
   |zero=>
    simp only[zak,zaa,zad] at hm
    obtain⟨rfl,rfl,rfl⟩:=hm
    exact⟨e,rfl,h0,zaf _,by simp,by simp⟩
   |succ m=>
    obtain⟨e',g1,g2⟩:=up m i k' v' (by simpa using hm)
    exact⟨e',by simpa using g1,g2⟩
 |[],_::_,_,h,_=>by simp at h
 |_::_,[],_,h,_=>by simp at h
theorem qpB (h:MR P E U pd l s G w)(t:TypeId)(x:Operand)(hop:o.op=.range t x){kt et:TypeId}(ht:P.underlying t=some (.map kt et)){g:Arg}(hg:qaw x=some g)(hr:qan G w f a g.tmps){q:Nat}(hq:g.ev f=.map q)
  {es:List (zP×zA)}(hm:qaD s.heap q=some (.map es)):NextP P (qa8 P E U pd G w l (qav s (.iter q es.length es.length [])) (.ptr s.next 0)) ((execOp a.eval o).run P w):=by
 have h1:=qar hg hr
 rw[hq] at h1
 obtain⟨b,ents,e1,hb,hown,hheap,hl,hrel,ha⟩:=qdQ h h1 hm
 have kp:=Keep.alloc w (.mapIter (some b) ents.size #[] ents.size)
 have x':=h.ext_addH kp (b:=w.heap.size) (q:=s.next) (zaf _) h.bOf_next h.lo_
 refine qaJ (u:=.pointer (some ⟨w.heap.size,0,none⟩)) (w':=w.alloc (.mapIter (some b) ents.size #[] ents.size)) (qjg t x hop) ?_
  ⟨_,x',h.addH kp (zaf _) (qa9 w _) (o:=.iter q es.length es.length []) ⟨b,?_,?_⟩,.ptr _ _ _ (by simp[Gh.addH,qas])⟩
 ·rw[e1]
  exact run_range_map w t kt et b ents ents.size ht hheap
 ·rw[hl];exact heap_alloc_new w _
 ·rw[e1] at h1
  exact h1.ext x'
theorem qix (h:MR P E U pd l s G w){q:Nat}{v:Value}(hv:VR G w (.ptr q 0) v){m since last:Nat}{seen:List Nat}(hm:qaD s.heap q=some (.iter m since last seen)):
  ∃b bm,v=.pointer (some ⟨b,0,none⟩)/\G.bOf q=some b/\G.own b=.loc q/\w.heap[b]? =some (.mapIter (some bm) since seen.toArray last)/\VR G w (.map m) (.map (some bm)):=by
 cases hv with|ptr _ _ b hb=>
 rcases(h.heap q _ hm).2 with e|⟨b',h1,h2,bm,h3,h4⟩
 ·rw[hb] at e;cases e
 ·rw[hb] at h1;cases h1;exact⟨b,bm,rfl,hb,h2,h3,h4⟩
theorem qeM {b:Nat}{m:Option Nat}{n k:Nat}{c:Array Nat}(h:w.heap[b]? =some (.mapIter m n c k)):(getObj b).run P w=.ok (.mapIter m n c k) w:=by
 simp[getObj,Sem.run,h]
theorem qhK {b:Nat}{m:Option Nat}{n k:Nat}{c:Array Nat}(h:w.heap[b]? =some (.mapIter m n c k))(y:Obj):(setObj b y).run P w=.ok () {w with heap:=w.heap.setIfInBounds b y}:=by
 simp[setObj,Sem.run,h]
theorem qjm {seen:List Nat}{last:Nat}{ents:Array MapEntry}(hb:∀(j:Nat) e,ents[j]? =some e->e.born=j)(hc:(seen.isEmpty||Nat.blt 0 last)=true):
  (!seen.toArray.isEmpty&&!ents.isEmpty&&ents.all (fun x=>decide (x.born>=last)))=false:=by
 rw[zaG] at hc
 rcases hc with hc|hc
 ·have:seen=[]:=List.isEmpty_iff.1 hc
  subst this
  rfl
 ·have hl:=blt_iff.1 hc
  cases he:ents.isEmpty with
  |true=>simp
  |false=>
   have hs:0<ents.size:=by
    rcases Nat.eq_zero_or_pos ents.size with h0|h0
    ·simp[Array.isEmpty,h0] at he
    ·exact h0
   have hall:ents.all (fun x=>decide (x.born>=last))=false:=by
    rw[Bool.eq_false_iff]
    intro h
    rw[Array.all_eq_true_iff_forall_mem] at h
    have:=h _ (Array.getElem_mem hs)
    rw[hb 0 _ (zam hs)] at this
    simp at this
    omega
   simp[hall]
theorem qpC {x y z:zA}{a b c:Value}(h1:VR G w x a)(h2:VR G w y b)(h3:VR G w z c):VR G w (.tuple [x,y,z]) (.tuple #[a,b,c]):=by
 refine .tuple _ _ rfl fun i p q hp hq=>?_
 match i with
 |0=>cases hp;cases hq;exact h1
 |1=>cases hp;cases hq;exact h2
 |2=>cases hp;cases hq;exact h3
 |i+3=>simp at hp
theorem qpD (h:MR P E U pd l s G w)(x:Operand)(hop:o.op=.next x false){g:Arg}(hg:qaw x=some g)(hr:qan G w f a g.tmps){q:Nat}(hq:g.ev f=.ptr q 0)
  {m since last:Nat}{seen:List Nat}(hm:qaD s.heap q=some (.iter m since last seen)){es:List (zP×zA)}(hes:qaD s.heap m=some (.map es))(hc:(seen.isEmpty||Nat.blt 0 last)=true):
  (qep seen es 0=[]->NextP P (qa8 P E U pd G w l s (.tuple [.p (.bool false)])) ((execOp a.eval o).run P w))/\
  ∀i k y hp,qep seen es 0=[(i,k,y)]->i<since->qaI s.heap q (.iter m since es.length (seen++[i]))=some hp->NextP P (qa8 P E U pd G w l {s with heap:=hp} (.tuple [.p (.bool true),k.whole,y])) ((execOp a.eval o).run P w):=by
 have h1:=qar hg hr
 rw[hq] at h1
 obtain⟨b,bm,e1,hb,hown,hheap,hmv⟩:=qix h h1 hm
 obtain⟨bm',ents,e2,hbm,hownm,hmh,hl,hrel,ha⟩:=qdQ h hmv hes
 cases e2
 have hborn:∀(j:Nat) e,ents[j]? =some e->e.born=j:=fun j e he=>by
  have hj:j<es.length:=by rw[hl];exact(zag.1 he).1
  exact(hrel j _ _ e (zai hj) he).2.2
 obtain⟨hlen,hent⟩:=qke seen es ents.toList 0 (by simpa using hl) fun j e he=>by rw[hborn j e (by simpa using he)];omega
 have hg:=qeM (P:=P) hheap
 have hgm:=MapKept.run_getObj_map (P:=P) hmh
 have htest:=qjm hborn hc
 have hfilt:(ents.filter fun e=>!seen.toArray.contains e.born).toList=ents.toList.filter fun e=>!seen.toArray.contains e.born:=Array.toList_filter ..
 refine⟨fun qjb=>?_,fun i k y hp hone hi qaI=>?_⟩
 ·have hz:(ents.filter fun e=>!seen.toArray.contains e.born)= #[]:=by
   apply Array.toList_inj.1
   rw[hfilt]
   rw[qjb] at hlen
   exact List.eq_nil_of_length_eq_zero hlen.symm
  refine qaJ (u:=.tuple #[.bool false]) (w':=w) (qgL x false hop) ?_ ⟨G,Ext.refl G w,h,.tuple _ _ rfl fun i p q hp hq=>?_⟩
  ·rw[e1]
   simp only[Instr.next,Sem.run_bind,hg,hgm,Result.andThen,htest,hz,zaB,if_false]
   simp[choose,Sem.run,Question.forced]
  ·match i with
   |0=>cases hp;cases hq;exact .p _ _ (.bool _)
   |i+1=>simp at hp
 ·obtain⟨e,g1,g2,_,g4,g5⟩:=hent 0 i k y (by rw[hone];rfl)
  have hf1:(ents.filter fun e=>!seen.toArray.contains e.born)= #[e]:=by
   apply Array.toList_inj.1
   rw[hfilt]
   rw[hone] at hlen
   match hL:ents.toList.filter fun e=>!seen.toArray.contains e.born with
   |[]=>rw[hL] at hlen;simp at hlen
   |[e']=>
    rw[hL] at g1
    simp only[zak,zaa] at g1
    rw[hL,g1]
   |_::_::_=>rw[hL] at hlen;simp at hlen
  have hold:e.born<since:=by rw[g2];exact hi
  have hrun:(Instr.next (.pointer (some ⟨b,0,none⟩)) false o.type).run P w=.ok (.tuple #[.bool true,e.key,e.val]) {w with heap:=w.heap.setIfInBounds b (.mapIter (some bm) since (seen.toArray.push e.born) ents.size)}:=by
   simp only[Instr.next,Sem.run_bind,hg,hgm,Result.andThen,htest,hf1,zaB,if_false]
   have h3:(#[e]:Array MapEntry).filter (fun x=>decide (x.born<since))= #[e]:=by simp[hold]
   have h4:(#[e]:Array MapEntry).filter (fun x=>decide (x.born>=since))= #[]:=by simp;omega
   simp only[h3,h4]
   simp[choose,Sem.run,Question.forced,qhK hheap]
  obtain⟨p1,p2,_⟩:=hrel i k y e (by simpa using g4) (by simpa using g5)
  have sw:=Swap.setObj hheap (.mapIter (some bm) since (seen.toArray.push e.born) ents.size)
  have x':=Ext.chg (G:=G) sw (by rw[hown];exact fun e=>e) (by rw[hown];intros;simp)
  have hmr:=(h.chgH sw hb hown qaI ⟨bm,by
   rw[(MapKept.heap_set hheap).1,hl,g2]
   simp,hmv.ext x'⟩).2
  refine qaJ (w':=_) (qgL x false hop) (by rw[e1];exact hrun) ⟨G,x',hmr,qpC (.p _ _ (.bool _)) ((qdq p1).ext x') (p2.ext x')⟩
theorem qpE (h:MR P E U pd l s G w)(x:Operand)(hop:o.op=.entry x){g:Arg}(hg:qaw x=some g)(hr:qan G w f a g.tmps){q:Nat}(hq:g.ev f=.ptr q 0)
  {m since last:Nat}{seen:List Nat}(hm:qaD s.heap q=some (.iter m since last seen)){es:List (zP×zA)}(hes:qaD s.heap m=some (.map es))(hlast:es.length=last){i:Nat}(hi:seen.getLast? =some i){k:zP}{y:zA}(hy:qdh es i=some (k,y)):
  NextP P (qa8 P E U pd G w l s (.tuple [k.whole,y])) ((execOp a.eval o).run P w):=by
 have h1:=qar hg hr
 rw[hq] at h1
 obtain⟨b,bm,e1,hb,hown,hheap,hmv⟩:=qix h h1 hm
 obtain⟨bm',ents,e2,hbm,hownm,hmh,hl,hrel,ha⟩:=qdQ h hmv hes
 cases e2
 have hborn:∀(j:Nat) e,ents[j]? =some e->e.born=j:=fun j e he=>by
  have hj:j<es.length:=by rw[hl];exact(zag.1 he).1
  exact(hrel j _ _ e (zai hj) he).2.2
 rw[qbs] at hy
 have hj:i<ents.size:=by rw[<-hl];exact(zah.1 hy).1
 obtain⟨p1,p2,p3⟩:=hrel i k y ents[i] hy (zam hj)
 have hback:seen.toArray.back? =some i:=by simpa using hi
 have hfind:ents.find? (fun x=>x.born==i)=some ents[i]:=by
  rw[Array.find?_eq_some_iff_getElem]
  exact⟨by simp[p3],i,hj,rfl,fun j hj2=>by
   have:=hborn j _ (zam (by omega))
   simp[this];omega⟩
 refine qaJ (u:=.tuple #[ents[i].key,ents[i].val]) (w':=w) (qjh x hop) ?_ ⟨G,Ext.refl G w,h,qdr (qdq p1) p2⟩
 rw[e1]
 simp only[Instr.entry,Sem.run_bind,qeM hheap,MapKept.run_getObj_map hmh,Result.andThen,hback,hfind]
 rw[<-hlast,hl]
 simp
theorem qpF (h:MR P E U pd l s G w)(t:TypeId)(gv:Nat)(y:Operand)(hop:o.op=.indexAddr t (.global gv) y){n:Nat}{e:TypeId}(ht:P.underlying t=some (.array n e)){sz:Nat}(hs:qcZ P e=some sz){gy:Arg}(hy:qaw y=some gy)
  (hr:qan G w f a gy.tmps){m:Nat}(hm:qbi (gy.ev f)=some m)(hlt:m<n){cs:List zA}(hE:E (PB+gv)=some (.cells cs)){ps:List zP}(hps:qcY cs=some ps):
  NextP P (qa8 P E U pd G w l s (.elem ps (m*sz))) ((execOp a.eval o).run P w):=by
 have h2:=qar hy hr
 obtain⟨hs0,i,hi,his⟩:=qbL hs
 obtain⟨k,ek⟩:=qbm hm h2
 obtain⟨j,hown,cs',ecs,hjl,_,c,T,fr,h1,h3,h5⟩:=(h.ro _ _ hE).2 (Nat.le_add_right _ _)
 simp only[zH.cells.injEq] at ecs
 subst ecs
 rw[Nat.add_sub_cancel_left] at h1 hown
 obtain⟨hl,hpure⟩:=qcR hps
 refine qaJ (u:=.pointer (some ((⟨gv,0,none⟩:Addr).add (m*sz)))) (w':=w) (qaN t (.global gv) y hop) ?_ ⟨G,Ext.refl G w,h,.elem _ _ _ fun q cq hq=>?_⟩
 ·show(Instr.indexAt t (.pointer (some ⟨gv,0,none⟩)) (a.eval y)).run P w=_
  rw[ek]
  simp[Instr.indexAt,run_underlying ht,Instr.sureAddr,asIntOf,hlt,qay hi,his]
 ·have hlen:m*sz+q<cs.length:=by rw[←hl];exact(zah.1 hq).1
  have hcs:m*sz+q<c.size:=by omega
  have hv:=h5 (m*sz+q) _ c[m*sz+q] (zai hlen) (zam hcs)
  obtain⟨hp1,hp2⟩:=qcQ (hpure _ _ cq (zai hlen) hq) hv
  rw[qbJ]
  refine⟨c[m*sz+q],?_,?_,hp1,hp2⟩
  ·rw[qb5]
   simp[World.cell?,h1,hcs]
  ·show(G.own _).S _
   rw[qb5]
   simp only[zaL]
   rw[hown]
   exact(by omega:m*sz+q<j)
end Go.AI
namespace Go.AI
variable {P:Program} {E:Rom} {U pd:Nat->Option (List zA)} {l:Tr (Nat×List zA)} {s:ASt} {G:Gh} {w w':World} {f:Tr zA} {a:Act} {o:Oper} {v:zA}
theorem qcd {P:Program}(w:World)(sz m k:Nat)(ad:Addr)(n c:Nat)(vs:List Value)(hl:vs.length=m*sz)(hc:∀(i:Nat) u,vs[i]? =some u->w.cell? (ad.add i)=some u)(hk:k<=m):
  (Builtin.firstCells sz k (.slice (some ad) n c)).run P w=.ok (vs.take (k*sz)).toArray w:=by
 refine run_firstCells_some w sz k ad n c (vs.take (k*sz)) ?_ fun i u hu=>?_
 ·rw[zaM,hl]
  exact Nat.min_eq_left (zaH _ hk)
 ·rw[zaD] at hu
  split at hu
  ·exact hc i u hu
  ·cases hu
theorem qfm (w:World)(b:ByteArray)(k:Nat)(hk:k<=b.size):(Builtin.firstCells 1 k (.string b)).run P w=.ok ((byteCells b).take (k*1)).toArray w:=by
 simp only[Builtin.firstCells,Sem.run_pure,Nat.mul_one]
 congr 1
 apply Array.toList_inj.1
 unfold byteCells
 rw[<-List.map_take]
 rw[qd1 b 0 k (Nat.zero_le _) hk]
 simp
theorem qkf (h:MR P E U pd l s G w){x:zA}{u:Value}(hv:VR G w x u){sz m:Nat}{new:List zA}(hs:qjF E s sz x=some (m,new))(hl:new.length=m*sz):
  ∃news,(∀w':World,(Builtin.lenOf u).run P w'=.ok m w')/\(∀k,k<=m->(Builtin.firstCells sz k u).run P w=.ok (news.take (k*sz)).toArray w)/\news.length=m*sz/\(∀u∈news,u.oneCell'=true)/\VRs G w new news:=by
 unfold qjF at hs
 split at hs
 ·obtain⟨hz,hs⟩:=qac hs
  simp only[zab,zac,zad] at hs
  obtain⟨cs,hcs,r,hr,rfl,rfl⟩:=hs
  cases hv with|hs _ _ _ _ _ _ b cap' hb hn hc he hz'=>
  obtain⟨us,k1,k2,k3,k4⟩:=(qfD h hb hcs).cut hr
  exact⟨us,fun _=>rfl,fun k hk=>qcd w sz _ k _ _ cap' us k1 k4 hk,k1,k3,k2⟩
 ·obtain⟨hz,hs⟩:=qac hs
  simp only[zaa,zad] at hs
  obtain⟨rfl,rfl⟩:=hs
  have e1:=hv.str_inv
  subst e1
  have e2:sz=1:=beq_iff.1 hz
  subst e2
  rw[qbe] at hl⊢
  exact⟨_,fun _=>rfl,fun k hk=>qfm w _ k hk,by rw[byteCells_length,Nat.mul_one],fun u hu=>by
   obtain⟨_,_,rfl⟩:=zaS.1 hu
   rfl,qeG _⟩
 ·simp only[zaa,zad] at hs
  obtain⟨rfl,rfl⟩:=hs
  cases hv with|p _ _ hp=>
  cases hp
  exact⟨[],fun _=>rfl,fun k _=>by rw[List.take_nil];exact run_firstCells_none w sz k 0 0,by simp,(fun _ h=>by cases h),VRs.nil⟩
 ·simp only[zaa,zad] at hs
  obtain⟨rfl,rfl⟩:=hs
  cases hv with|row _ _ ad cap vs hn hll k1 hcc hvv=>
  have hlv:vs.length=_:=hll.symm.trans hl
  exact⟨vs,fun _=>rfl,fun k hk=>qcd w sz _ k ad _ cap vs hlv (fun i v hv=>(hcc i v hv).1) hk,hlv,k1,hll,hvv⟩
 ·simp only[zac,zad] at hs
  obtain⟨⟨n,cs⟩,hrow,rfl,rfl⟩:=hs
  obtain⟨ad,cap,rfl,hp⟩:=qcC hrow hv
  obtain⟨vs,hn,hz,hr,hc⟩:=hp.vals
  have hlv:vs.length=n*sz:=by have:=hr.1;simp at this hl;omega
  refine⟨vs,fun _=>rfl,fun k hk=>?_,hlv,fun u hu=>hr.2.1 u (by simpa using hu),by have:=hr.1;simpa using this,fun i c v hc hv=>?_⟩
  ·cases ad with
   |some x=>exact qcd w sz n k x n cap vs hlv (fun i v hv=>by
     obtain⟨y,e,h1⟩:=hc i v hv
     cases e
     exact h1) hk
   |none=>
    have:vs=[]:=by
     cases vs with
     |nil=>rfl
     |cons v vs=>
      obtain⟨y,e,_⟩:=hc 0 v rfl
      cases e
    subst this
    rw[List.take_nil]
    exact run_firstCells_none w sz k n cap
  ·simp only[zav,zac] at hc
   obtain⟨c',hc',rfl⟩:=hc
   exact .p _ _ (hr.2.2 i c' v hc' (by simpa using hv))
theorem qgX:∀{cs:List zA} {b:List UInt8} {us:List Value},qfs cs=some b->VRs G w cs us->∃ns:List Int,us=ns.map (Value.int .u8)/\∀r:ByteArray,ns.foldl (fun r n=>r.push (UInt8.ofNat n.toNat)) r=⟨r.data++b.toArray⟩
 |[],b,us,h,hv=>by
  simp only[qfs,zaa] at h
  subst h
  have:us=[]:=zax.1 hv.1.symm
  subst this
  exact⟨[],rfl,fun r=>by simp⟩
 |c::cs,b,us,h,hv=>by
  unfold qfs at h
  split at h
  ·rename_i e;cases e
  ·rename_i n r e
   injection e with e1 e2
   subst e1;subst e2
   simp only[zac] at h
   obtain⟨b',hb',rfl⟩:=h
   match us,hv with
   |[],hv=>exact absurd hv.1 (by simp)
   |u::us,hv=>
    have h0:=hv.2 0 _ u rfl rfl
    have eu:u=.int .u8 (.ofNat n):=by
     cases h0 with|p _ _ h0=>
     cases h0
     rfl
    obtain⟨ns,e1,e2⟩:=qgX hb' (us:=us) ⟨by simpa using hv.1,fun i c v hc hv'=>hv.2 (i+1) c v hc hv'⟩
    refine⟨(.ofNat n)::ns,by rw[eu,e1];rfl,fun r=>?_⟩
    rw[List.foldl_cons,e2]
    simp[ByteArray.push]
  ·cases h
theorem qpG (h:MR P E U pd l s G w)(t u:TypeId)(x:Operand)(hop:o.op=.convert t u x){e:TypeId}(ht:P.underlying t=some (.slice e))(hu:P.underlying u=some .string)(he:P.underlying e=some (.int .u8)){g:Arg}(hg:qaw x=some g)(hr:qan G w f a g.tmps)
  (hns:∀b,g.ev f≠.p (.str b)){n:Nat}{cs:List zA}(hs:qjF E s 1 (g.ev f)=some (n,cs))(hl:cs.length=n){b:List UInt8}(hb:qfs cs=some b):
  NextP P (qa8 P E U pd G w l s (.p (.str ⟨b.toArray⟩))) ((execOp a.eval o).run P w):=by
 have h1:=qar hg hr
 obtain⟨news,k1,k2,k3,_,k5⟩:=qkf h h1 hs (by rw[Nat.mul_one];exact hl)
 obtain⟨ns,e1,e2⟩:=qgX hb k5
 have k2:=k2 n (zaf _)
 rw[Nat.mul_one] at k3 k2
 rw[List.take_of_length_le (by omega)] at k2
 have key:(convert t u (a.eval x)).run P w=.ok (.string ⟨b.toArray⟩) w:=by
  generalize a.eval x=xv at h1 k1 k2
  generalize g.ev f=gv at h1 hns hs
  have k1:=k1 w
  cases xv with
  |slice ad m c=>
   have em:m=n:=by
    simp[Builtin.lenOf] at k1
    exact k1
   subst em
   rw[run_convert_bytes_string w t u e ad m c ht he hu]
   cases ad with
   |some ad=>
    have hlc:(loadCells ad m).run P w=.ok (ns.map (Value.int .u8)).toArray w:=by
     have:=k2
     simp only[Builtin.firstCells,Nat.mul_one] at this
     rw[this,e1]
    rw[run_bytesToString w ad m c ns hlc,e2]
    simp
   |none=>
    have hn:news=[]:=by
     simp[Builtin.firstCells] at k2
     exact k2
    have hn':ns=[]:=by
     rw[e1] at hn
     simpa using hn
    have:=e2 ByteArray.empty
    rw[hn'] at this
    simp only[List.foldl_nil] at this
    simp only[Conv.bytesToString,Sem.run_pure]
    rw[this]
    simp
  |string b'=>
   cases h1 with
   |p _ _ h1=>cases h1;exact absurd rfl (hns _)
   |sym=>cases hs
   |junk=>cases hs
  |_=>simp[Builtin.lenOf] at k1
 exact qaJ (qbB t u x hop) key ⟨G,Ext.refl G w,h,.p _ _ (.str _)⟩
theorem qf7 (h:MR P E U pd l s G w){q b off:Nat}{old cs new:List zA}(hb:G.bOf q=some b)(hold:qaD s.heap q=some (.cells old))(ho:over old off cs=some new)(hca:cs.all qaF=true){us:List Value}(hr:VRs G w cs us)(h1:∀u∈us,u.oneCell'=true)
  {hp:Heap}(hset':qaI s.heap q (.cells new)=some hp):
  ∃w',(∀i,(storeCells ⟨b,off,none⟩ us).run P w=.ok () w'\/i=(0:Nat))/\(storeCells ⟨b,off,none⟩ us).run P w=.ok () w'/\Ext G w G w'/\MR P E U pd l {s with heap:=hp} G w':=by
 have hbr:BR G w b old/\old.all qaF=true/\G.own b=.loc q:=by
  rcases(h.heap q _ hold).2 with e|⟨b',g1,g2,g3⟩
  ·rw[hb] at e;cases e
  ·rw[hb] at g1;cases g1;exact⟨g3.1,g3.2,g2⟩
 obtain⟨hbr,hoa,hown⟩:=hbr
 have hbr0:=hbr
 obtain⟨c0,E0,⟨fr0,hc0,hth⟩,hlen,_⟩:=hbr
 obtain⟨h5,_⟩:=qbA ho
 have hfit:off+us.length<=c0.size:=by have:=hr.1;omega
 have hst:=qbn P b off E0 fr0 us 0 c0 w hc0 hth (by simpa using hfit) h1
 simp only[Nat.add_zero] at hst
 have sw:Swap b w (w.setRow b (c0.toList.take off++us++c0.toList.drop (off+us.length)).toArray):=Swap.setRow w b _ (fun c1 E1 f1 h1=>by
  rw[hc0] at h1;injection h1 with h1;injection h1 with h1 _ _;rw[<-h1];exact qaZ _ _ _ hfit)
 have x:=Ext.chg (G:=G) sw (by rw[hown];exact fun e=>e) (by rw[hown];intros;simp)
 obtain⟨_,hbn⟩:=hbr0.lay ho hr h1 hc0 x
 obtain⟨_,hmr⟩:=h.chgH sw hb hown hset' (ob:=.cells new) ⟨hbn,qdO ho hoa hca⟩
 exact⟨_,fun _=> .inl hst,hst,x,hmr⟩
theorem VRs.take {cs:List zA}{us:List Value}(h:VRs G w cs us)(k:Nat):VRs G w (cs.take k) (us.take k):=⟨by simp[h.1],fun i c v hc hv=>by
 rw[zaD] at hc hv
 split at hc
 ·rename_i hi
  rw[if_pos hi] at hv
  exact h.2 i c v hc hv
 ·cases hc⟩
theorem Rows.vrs {xs:List zA}{c:Array Value}(h:Rows (VR G w) xs c):VRs G w xs c.toList:=⟨by rw[zay];exact h.1,fun i y u hy hu=>h.2.2 i y u hy (by rw[<-zal];exact hu)⟩
theorem qpH (h:MR P E U pd l s G w)(c:Call)(hop:o.op=.call c)(hc:c.callee=.builtin .copy){x y:Operand}(hxs:c.args.toList=[x,y]){t u e:TypeId}(hts:c.argTypes.toList=[t,u])(ht:P.underlying t=some (.slice e))
  {i:TypeInfo}(hi:P.info? e=some i){gx gy:Arg}(hx:qaw x=some gx)(hy:qaw y=some gy)(hr:qan G w f a (gx.tmps++gy.tmps))
  {m:Nat}{new:List zA}(hnew:qjF E s i.size (gy.ev f)=some (m,new))(hnl:new.length=m*i.size)(hna:new.all qaF=true){q off n cap:Nat}{op:Bool}(hgx:gx.ev f=.hs q off n cap i.size op){old cs:List zA}(hold:qaD s.heap q=some (.cells old))
  (hov:over old off (qcy new (Nat.min m n*i.size))=some cs){hp:Heap}(hst:qaI s.heap q (.cells cs)=some hp):
  NextP P (qa8 P E U pd G w l {s with heap:=hp} (.p (.int .i64 (.ofNat (Nat.min m n))))) ((execOp a.eval o).run P w):=by
 have h1:=qar hx fun t ht=>hr t (by simp[ht])
 have h2:=qar hy fun t ht=>hr t (by simp[ht])
 have he:execOp a.eval o=(do pure (.value (<-Builtin.copy_ #[t,u] o.type #[a.eval x,a.eval y]))):=by
  rw[qaH c hop .copy hc,qfl hxs,qfl hts];simp[builtin]
 obtain⟨news,k1,k2,k3,k4,k5⟩:=qkf h h2 hnew hnl
 rw[hgx] at h1
 generalize hxv:a.eval x=xv at h1 he
 cases h1 with|hs _ _ _ _ _ _ b cap' hb hn hcc hce hz'=>
 rw[qbv] at hov
 obtain⟨w',_,g2,g3,g4⟩:=qf7 h hb hold hov (qlD hna _) (k5.take _) (fun u hu=>k4 u (List.mem_of_mem_take hu)) hst
 have hrun:(Builtin.copy_ #[t,u] o.type #[.slice (some ⟨b,off,none⟩) n cap',a.eval y]).run P w=.ok (.int .i64 (.ofNat (Nat.min m n))) w':=by
  have hf:=k2 (Nat.min m n) (Nat.min_le_left _ _)
  have hf':(Builtin.firstCells i.size (m.min n) (a.eval y)).run P w=.ok (List.take (m.min n*i.size) news).toArray w:=hf
  simp[Builtin.copy_,run_underlying ht,k1,qay hi,hf',g2,goInt]
 exact qaJ he hrun ⟨G,g3,g4,.int _ _⟩
theorem qpI (h:MR P E U pd l s G w)(c:Call)(hop:o.op=.call c)(hc:c.callee=.builtin .clear){x:Operand}(hxs:c.args.toList=[x]){t e:TypeId}(hts:c.argTypes.toList=[t])(ht:P.underlying t=some (.slice e))
  {i:TypeInfo}(hi:P.info? e=some i){zs:List zA}(hz:zeroCells P e=some zs)(hza:zs.all qaF=true){gx:Arg}(hx:qaw x=some gx)(hr:qan G w f a gx.tmps)
  {q off n cap:Nat}{op:Bool}(hgx:gx.ev f=.hs q off n cap i.size op){old cs:List zA}(hold:qaD s.heap q=some (.cells old))
  (hov:over old off (zar n zs).flatten=some cs){hp:Heap}(hst:qaI s.heap q (.cells cs)=some hp):
  NextP P (qa8 P E U pd G w l {s with heap:=hp} qaf) ((execOp a.eval o).run P w):=by
 have h1:=qar hx hr
 have he:execOp a.eval o=(do pure (.value (<-Builtin.clear_ #[t] o.type #[a.eval x]))):=by
  rw[qaH c hop .clear hc,qd7 hxs,qd7 hts];simp[builtin]
 obtain⟨i',z,n',hi',hiz,hsh,hlen,hrows,_⟩:=qaB G w hz
 rw[hi] at hi'
 cases hi'
 rw[hgx] at h1
 generalize hxv:a.eval x=xv at h1 he
 cases h1 with|hs _ _ _ _ _ _ b cap' hb hn hcc hce hz'=>
 have hrep:=qaT hrows n
 have hvs:VRs G w (zar n zs).flatten (Builtin.zeroCells z.cells n).toList:=hrep.vrs
 obtain⟨w',_,g2,g3,g4⟩:=qf7 h hb hold hov (qcc hza n) hvs (fun u hu=>hrep.2.1 u (by simpa[Builtin.zeroCells] using hu)) hst
 have hzv:(zeroValue e).run P w=.ok z w:=by simp[zeroValue,typeInfo,hi,hiz]
 have hrun:(Builtin.clear_ #[t] o.type #[.slice (some ⟨b,off,none⟩) n cap']).run P w=.ok undef w':=by
  cases n with
  |zero=>
   have e0:(Builtin.zeroCells z.cells 0).toList=[]:=by simp[Builtin.zeroCells]
   rw[e0] at g2
   simp only[storeCells,Sem.run_pure,Result.ok.injEq,true_and] at g2
   subst g2
   simp[Builtin.clear_,run_underlying ht,undef]
  |succ k=>
   simp[Builtin.clear_,run_underlying ht,hzv,g2,undef]
 exact qaJ he hrun ⟨G,g3,g4,.tuple [] #[] rfl (fun i c v h=>by simp at h)⟩
theorem qnO (h:MR P E U pd l s G w)(c:Call)(hop:o.op=.call c)(hc:c.callee=.builtin .clear){x:Operand}(hxs:c.args.toList=[x]){t e:TypeId}(hts:c.argTypes.toList=[t])(ht:P.underlying t=some (.slice e))
  {gx:Arg}(hx:qaw x=some gx)(hr:qan G w f a gx.tmps)(hgx:gx.ev f=.p .nil0):NextP P (qa8 P E U pd G w l s qaf) ((execOp a.eval o).run P w):=by
 have h1:=qar hx hr
 have he:execOp a.eval o=(do pure (.value (<-Builtin.clear_ #[t] o.type #[a.eval x]))):=by
  rw[qaH c hop .clear hc,qd7 hxs,qd7 hts];simp[builtin]
 rw[hgx] at h1
 generalize hxv:a.eval x=xv at h1 he
 cases h1 with|p _ _ h1=>
 cases h1
 exact qaJ he (u:=undef) (w':=w) (by simp[Builtin.clear_,run_underlying ht,undef]) ⟨G,Ext.refl G w,h,.tuple [] #[] rfl (fun i c v h=>by simp at h)⟩
theorem qpJ (h:MR P E U pd l s G w)(t u:TypeId)(x:Operand)(hop:o.op=.convert t u x)(ht:P.underlying t=some .string){e:TypeId}(hu:P.underlying u=some (.slice e))(he:P.underlying e=some (.int .u8)){g:Arg}(hg:qaw x=some g)(hr:qan G w f a g.tmps)
  {b:ByteArray}(hb:g.ev f=.p (.str b)):
  NextP P (qa8 P E U pd G w l (qav s (.cells (b.data.toList.map fun x=> .p (.int .u8 (.ofNat x.toNat))))) (.hs s.next 0 (qaM b) (qaM b) 1 true)) ((execOp a.eval o).run P w):=by
 have h1:=qar hg hr
 rw[hb] at h1
 have ev:=h1.str_inv
 have hrun:=run_bytes_of_string (P:=P) w t u e b ht hu he
 generalize hcap':grownCap w b.size 0 e=cap' at hrun
 have hge:b.size<=cap':=by rw[<-hcap'];exact grownCap_ge w _ _ _
 have hsz:(bytesRow b cap').size=cap':=by unfold bytesRow;simp;show b.size+_=_;omega
 have k:Keep w (w.drew.alloc (.cells (bytesRow b cap') e ((bytesRow b cap').size,(bytesRow b cap').size+1))):=(Keep.drew w).trans (Keep.alloc _ _)
 have hheap:=heap_alloc_new w.drew (.cells (bytesRow b cap') e ((bytesRow b cap').size,(bytesRow b cap').size+1))
 have hdsz:w.drew.heap.size=w.heap.size:=rfl
 rw[hdsz] at hheap
 have x1:=h.ext_addH k (b:=w.heap.size) (q:=s.next) (zaf _) h.bOf_next h.lo_
 have hbl:b.data.toList.length=b.size:=by rw[zay];rfl
 have m1:=h.addH k (zaf _) (by simp) (o:=.cells (b.data.toList.map fun x=> .p (.int .u8 (.ofNat x.toNat)))) ⟨⟨_,e,⟨_,hheap,fun i hi hh=>by simp at hh;omega⟩,by rw[hsz,List.length_map,hbl];exact hge,fun u hu=>by
   unfold bytesRow at hu
   rcases Array.mem_append.1 hu with hu|hu
   ·obtain⟨y,_,rfl⟩:=Array.mem_map.1 hu
    rfl
   ·rw[(Array.mem_replicate.1 hu).2]
    rfl,fun j q v hq hv=>by
   have hj:j<b.size:=by
    have:=(zah.1 hq).1
    rw[List.length_map,hbl] at this
    exact this
   unfold bytesRow at hv
   rw[Array.getElem?_append_left (by simp;exact hj)] at hv
   refine((qeG (G:=G) (w:=w) b).2 j q v hq ?_).ext x1
   unfold byteCells
   simpa using hv⟩,by
   rw[zaj]
   intro q hq
   obtain⟨y,_,rfl⟩:=zaS.1 hq
   rfl⟩
 refine qaJ (qbB t u x hop) (by rw[ev];exact hrun) ⟨_,x1,m1,?_⟩
 rw[qbe]
 exact .hs _ _ _ _ _ _ w.heap.size cap' (by simp[Gh.addH,qas]) (zaf _) hge (fun e=>by cases e) ⟨_,e,_,hheap,by rw[hsz];omega⟩
theorem qnP (h:MR P E U pd l s G w)(c:Call)(hop:o.op=.call c)(hc:c.callee=.builtin .append){x y:Operand}(hxs:c.args.toList=[x,y]){t u e:TypeId}(hts:c.argTypes.toList=[t,u])(ht:P.underlying t=some (.slice e)){kd:IntKind}(hu:P.underlying u=some (.int kd))
  {i:TypeInfo}(hi:P.info? e=some i)(hsz:0<i.size)(hby:0<i.bytes){zs:List zA}(hzc:zeroCells P e=some zs)(hza:zs.all qaF=true){gx gy:Arg}(hx:qaw x=some gx)(hy:qaw y=some gy)(hr:qan G w f a (gx.tmps++gy.tmps))
  {m:Nat}(hm:qbi (gy.ev f)=some m)(hgx:gx.ev f=.p .nil0)(hm0:0<m)(hle:m*i.bytes<=140737488355328):
  NextP P (qa8 P E U pd G w l (qav s (.cells (zar m zs).flatten)) (.hs s.next 0 m m i.size true)) ((execOp a.eval o).run P w):=by
 have h1:=qar hx fun t ht=>hr t (by simp[ht])
 have h2:=qar hy fun t ht=>hr t (by simp[ht])
 obtain⟨kk,ek⟩:=qbm hm h2
 have he:execOp a.eval o=(do pure (.value (<-Builtin.append_ #[t,u] o.type #[a.eval x,a.eval y]))):=by
  rw[qaH c hop .append hc,qfl hxs,qfl hts];simp[builtin]
 rw[hgx] at h1
 generalize hxv:a.eval x=xv at h1 he
 cases h1 with|p _ _ h1=>
 cases h1
 obtain⟨i',z,n',hi',hiz,hsh,hlen,hrows,_⟩:=qaB G w hzc
 rw[hi] at hi'
 cases hi'
 obtain⟨_,i2,_,hi2,hs2,_⟩:=qcx hsh
 rw[hi] at hi2
 cases hi2
 have hzs:z.cells.size=i.size:=by rw[<-hrows.1,hlen,hs2]
 have hmb:m<=m*i.bytes:=Nat.le_mul_of_pos_right _ hby
 have hwrap:IntKind.i64.wrap (m:Int)=m:=by
  exact IntWalk.i64_in _ (by omega)
 have hfit:Builtin.nextslicecap (0+m) 0*i.bytes<=281474976710656:=growslice_fits (by omega) (by rw[zaL];exact hle)
 have hrun:(Builtin.append_ #[t,u] o.type #[.slice none 0 0,.int kk m]).run P w=
   .ok (.slice (some ⟨w.heap.size,0,none⟩) m (grownCap w m 0 e)) (w.drew.alloc (.cells (Builtin.zeroCells z.cells m++Builtin.zeroCells z.cells (grownCap w m 0 e-m)) e)):=by
  have hl:IntKind.i64.wrap (m:Int)=m:=hwrap
  have h48:¬(281474976710656<(m:Int)*(i.bytes:Int)):=by
   rw[<-Int.natCast_mul];omega
  have hms:¬(m*i.size=0):=by
   have:=Nat.mul_pos hm0 hsz;omega
  have hmn:¬m<=0:=by omega
  have h63':¬(9223372036854775807<(m:Int)):=by omega
  rw[zaL] at hfit
  have h48':¬(281474976710656<Builtin.nextslicecap m 0*i.bytes):=by omega
  simp[Builtin.append_,run_underlying ht,run_underlying hu,sizeOf,typeInfo,zeroValue,hi,hiz,asInt,asIntOf,hl,h48,Nat.ne_of_gt hm0,h63',h48',Question.forced,newRow,grownCap,Builtin.firstCells]
  rw[if_neg (by omega:¬(m:Int)<0),if_neg hms]
 generalize hcap':grownCap w m 0 e=cap' at hrun
 have hge:m<=cap':=by rw[<-hcap'];exact grownCap_ge w _ _ _
 have k:Keep w (w.drew.alloc (.cells (Builtin.zeroCells z.cells m++Builtin.zeroCells z.cells (cap'-m)) e)):=(Keep.drew w).trans (Keep.alloc _ _)
 have hheap:=heap_alloc_new w.drew (.cells (Builtin.zeroCells z.cells m++Builtin.zeroCells z.cells (cap'-m)) e)
 have hdsz:w.drew.heap.size=w.heap.size:=rfl
 rw[hdsz] at hheap
 have hcsz:(Builtin.zeroCells z.cells m++Builtin.zeroCells z.cells (cap'-m)).size=cap'*i.size:=by
  rw[Array.size_append,size_zeroCells,size_zeroCells,hzs,<-zaP]
  congr 1
  omega
 have hr1:=qaT hrows m
 have hr2:=qaT hrows (cap'-m)
 have x1:=h.ext_addH k (b:=w.heap.size) (q:=s.next) (zaf _) h.bOf_next h.lo_
 have hsz1:(Builtin.zeroCells z.cells m).size=m*i.size:=by rw[size_zeroCells,hzs]
 have hl1:(zar m zs).flatten.length=m*i.size:=by rw[hr1.1];exact hsz1
 have m1:=h.addH k (zaf _) (by simp) (o:=.cells (zar m zs).flatten) ⟨⟨_,e,⟨_,hheap,Thaw.none _⟩,by rw[hcsz,hl1];exact zaH _ hge,fun u hu=>by
   rcases Array.mem_append.1 hu with hu|hu
   ·exact hr1.2.1 u hu
   ·exact hr2.2.1 u hu,fun j q v hq hv=>by
   have hj:j<m*i.size:=by rw[<-hl1];exact(zah.1 hq).1
   rw[Array.getElem?_append_left (by rw[hsz1];exact hj)] at hv
   exact(hr1.2.2 j q v hq hv).ext x1⟩,qcc hza m⟩
 rw[ek] at he
 refine qaJ he hrun ⟨_,x1,m1,.hs _ _ _ _ _ _ w.heap.size cap' (by simp[Gh.addH,qas]) (zaf _) hge (fun e=>by cases e) ⟨_,e,_,hheap,?_⟩⟩
 rw[hcsz];omega
end Go.AI
namespace Go.AI
variable {P:Program} {E:Rom} {U pd:Nat->Option (List zA)} {l:Tr (Nat×List zA)} {s:ASt} {G:Gh} {w w':World} {f:Tr zA} {a:Act} {o:Oper} {v:zA}
theorem qcJ (g:Nat->Option Nat):∀(ts:List Nat) (t f:Nat),qap (ts.filterMap fun t=>(g t).map fun f=>(t,f)) t=some f->g t=some f
 |[],t,f,h=>by cases h
 |y::ts,t,f,h=>by
  rw[List.filterMap_cons] at h
  cases hy:g y with
  |none=>rw[hy] at h;exact qcJ g ts t f h
  |some z=>
   rw[hy] at h
   simp only[zaq,qap] at h
   cases hb:Nat.beq y t with
   |true=>
    rw[hb] at h
    simp only[cond_true,zaa] at h
    subst h
    rw[<-beq_iff.1 hb]
    exact hy
   |false=>rw[hb] at h;exact qcJ g ts t f h
theorem qdR {m:String}{t fn:Nat}(h:qls P m t=some fn)(v:Value)(args:Array Value):(callMethod (.iface t v) m args).run P w=(callFunc fn (#[v]++args)).run P w:=by
 unfold qls at h
 simp only[zab] at h
 obtain⟨i,hi,d,hd,mm,hm,h⟩:=h
 obtain⟨hp,h⟩:=qac h
 simp only[zab] at h
 obtain⟨⟨g,pr⟩,hf,h⟩:=h
 obtain⟨hc,h⟩:=qac h
 simp only[zaa] at h
 subst h
 have hpath:mm.path.toList=[]:=by
  have:mm.path= #[]:=by simpa using hp
  rw[this]
 have hpe:mm.path= #[]:=by simpa using hp
 have hrec:(receiverAt t (.val v) pr (if mm.path.isEmpty then some ((m.splitOn ".").getLastD m) else none)).run P w=.ok v w:=by
  unfold receiverAt
  cases pr with
  |true=>
   simp only[cond_true] at hc
   unfold qie at hc
   split at hc<;>try (cases hc;done)
   simp[run_underlying hd,Place.get]
  |false=>
   simp only[cond_false] at hc
   cases d<;>first|(simp[run_underlying hd,Place.get];done)|(exfalso;simp[qie] at hc;done)
 have hmeth:∀fuel,(method (fuel+1) t v m).run P w=.ok (g,v) w:=by
  intro fuel
  unfold method
  have hfol:(follow mm.path.toList t (.val v)).run P w=.ok (t,.val v) w:=by rw[hpath];rfl
  simp only[Array.isEmpty_iff,List.getLastD_eq_getLast?] at hrec
  simp[typeInfo,hi,hm,hf,hfol,hrec]
 have hn:P.types.size+Made.depth=(P.types.size+Made.depth-1)+1:=by
  have:0<Made.depth:=by decide
  omega
 have hpr:(program).run P w=.ok P w:=rfl
 simp only[callMethod,Sem.run_bind,hpr,Result.andThen_ok]
 rw[hn,hmeth]
 rfl
end Go.AI
namespace Go.AI
variable {P:Program} {E:Rom} {U pd:Nat->Option (List zA)} {l:Tr (Nat×List zA)} {s:ASt} {G:Gh} {w:World} {a:Act} {o:Oper} {v:zA} {lof:Nat->Option Nat} {dr:Bool} {i:Ins}
structure SoundEnv (P:Program)(e:Env):Prop where
 call:∀{f args s v s'},e.call f args s=some (v,s')->∀{U pd l G w} {vs:Array Value},MR P e.E U pd l s G w->VRs G w args vs.toList->NextP P (qa8 P e.E U pd G w l s' v) ((callFunc f vs).run P w)
 callv:∀{fv args s v s'},e.callv fv args s=some (v,s')->∀{U pd l G w u} {vs:Array Value},MR P e.E U pd l s G w->VR G w fv u->VRs G w args vs.toList->NextP P (qa8 P e.E U pd G w l s' v) ((do let d <-Deferred.ofValue u vs;invoke d.target d.args:Sem Next).run P w)
 callf:∀{fv args s v s'},e.callv fv args s=some (v,s')->qo3 fv=true->∀{U pd l G w u} {vs:Array Value},MR P e.E U pd l s G w->VR G w fv u->VRs G w args vs.toList->
  ∃fn first cap,u=.func (.func fn) first cap/\(callFunc fn (first++vs++cap)).run P w=.ok (.enter fn (first++vs++cap)) w
 pure:∀{f args s v s'},e.pure f=true->e.call f args s=some (v,s')->s'=s
theorem qfG (c:Call)(hop:o.op=.call c){fv:Operand}(hc:c.callee=.value fv):execOp a.eval o=(do let d <-Deferred.ofValue (a.eval fv) (c.args.map a.eval);invoke d.target d.args):=by
 rw[qeB c hop]
 unfold resolve
 rw[hc]
theorem qcV {α:Type}{d x:α}:∀{t:Tr α} {i:Nat},t.get d i=x->x≠d->t.has i=true
 |.nil,i,h,hx=>absurd h.symm hx
 |.node v l r,i,h,hx=>by
  unfold Tr.get at h
  unfold Tr.has
  cases h1:Nat.beq i 0 with
  |true=>rfl
  |false=>
   rw[h1] at h
   cases h2:Nat.beq (i%2) 1 with
   |true=>rw[h2] at h;exact qcV (t:=l) h hx
   |false=>rw[h2] at h;exact qcV (t:=r) h hx
theorem qiy {dr:Bool}{lof:Nat->Option Nat}{gx gy gz:Arg}{kd:Nat}{ks:List Nat}(hna:dr=true->(∀j,cond (qeu lof dr gx) (Ins.lins kd ks gx gy gz) (.insert kd ks gx gy gz)≠.alloced j)/\(∀m d,cond (qeu lof dr gx) (Ins.lins kd ks gx gy gz) (.insert kd ks gx gy gz)≠.halloced m d)/\qa5 (cond (qeu lof dr gx) (Ins.lins kd ks gx gy gz) (.insert kd ks gx gy gz))=false):qeu lof dr gx=false:=by
 cases hl:qeu lof dr gx with
 |false=>rfl
 |true=>
  cases dr with
  |false=>
   unfold qeu at hl
   split at hl<;>cases hl
  |true=>
   have:=(hna rfl).2.2
   rw[hl] at this
   cases this
theorem qkg {e:Env}(se:SoundEnv P e){c c':Cfg}(h:MR P e.E U pd c.l c.s G w)(hi:qhz P lof dr o=some i)(hna:dr=true->(∀j,i≠.alloced j)/\(∀m d,i≠.halloced m d)/\qa5 i=false)(hlh:∀t j,lof t=some j->c.l.has j=true)(hpd:dr=false->∀j,pd j=none)
  (hr:qan G w c.f a (i.args.flatMap Arg.tmps))(hev:qag e c i=some (v,c')):
  c'.f=c.f/\c'.h=c.h/\c'.rd=c.rd/\(∀j,c'.l.has j=c.l.has j)/\NextP P (qa8 P e.E U pd G w c'.l c'.s v) ((execOp a.eval o).run P w):=by
 have pure_case:qaX i=true->qah c.f i=some v->c'=c->c'.f=c.f/\c'.h=c.h/\c'.rd=c.rd/\(∀j,c'.l.has j=c.l.has j)/\NextP P (qa8 P e.E U pd G w c'.l c'.s v) ((execOp a.eval o).run P w):=by
  intro hp hv hc
  subst hc
  exact⟨rfl,rfl,rfl,fun _=>rfl,(qj3 hi hp (h.free (zaf _)) hr hv).eff h⟩
 have pc:qaX i=true->(qah c.f i).map (fun v=>(v,c))=some (v,c')->c'.f=c.f/\c'.h=c.h/\c'.rd=c.rd/\(∀j,c'.l.has j=c.l.has j)/\NextP P (qa8 P e.E U pd G w c'.l c'.s v) ((execOp a.eval o).run P w):=by
  intro hp hv
  simp only[zac,zad] at hv
  obtain⟨v',hv,rfl,rfl⟩:=hv
  exact pure_case hp hv rfl
 have hi0:=hi
 cases hop:o.op<;>simp only[qhz,hop,zab,zac] at hi<;>try (cases hi;done)
 case move x=>obtain⟨g,hg,rfl⟩:=hi;exact pc rfl hev
 case assign x=>obtain⟨g,hg,rfl⟩:=hi;exact pc rfl hev
 case pick c x y=>obtain⟨gc,hc,gx,hx,gy,hy,rfl⟩:=hi;exact pc rfl hev
 case alloc t=>
  split at hi
  ·obtain⟨_,hi⟩:=qaG hi
   simp only[zac] at hi
   obtain⟨e',he',rfl⟩:=hi
   simp only[qag,zaa,zad] at hev
   obtain⟨rfl,rfl⟩:=hev
   exact⟨rfl,rfl,rfl,fun _=>rfl,qnD h t hop he'⟩
  simp only[zab,zac] at hi
  obtain⟨d,hd,z,hz,hi⟩:=hi
  split at hi
  ·rename_i j hj
   cases dr with
   |true=>subst hi;exact absurd rfl ((hna rfl).1 j)
   |false=>
    simp only[cond_false] at hi
    subst hi
    simp only[qag,zaa,zad] at hev
    obtain⟨rfl,rfl⟩:=hev
    exact⟨rfl,rfl,rfl,fun k=>Tr.has_set _ _ _ _,qlA h t hop hz (hlh _ _ hj) (hpd rfl j)⟩
  ·cases dr with
   |true=>subst hi;exact absurd rfl ((hna rfl).2.1 false d)
   |false=>
    simp only[cond_false] at hi
    subst hi
    simp only[qag] at hev
    obtain⟨_,hev⟩:=qac hev
    simp only[zaa,zad] at hev
    obtain⟨rfl,rfl⟩:=hev
    exact⟨rfl,rfl,rfl,fun k=>rfl,qj5 h t hop hz⟩
 case box t x=>
  obtain⟨d,hd,n,hn,g,hg,hi⟩:=hi
  split at hi
  ·rename_i j hj
   obtain⟨hdr,hi⟩:=qaG hi
   simp only[zaa] at hi
   subst hi
   simp only[qag,zab,zaa,zad] at hev
   obtain⟨cs,hcs,rfl,rfl⟩:=hev
   exact⟨rfl,rfl,rfl,fun k=>Tr.has_set _ _ _ _,qpu h t x hop hg (by simpa[Ins.args] using hr) hcs (hlh _ _ hj) (hpd hdr j)⟩
  ·simp only[zaa] at hi
   subst hi
   simp only[qag,zab] at hev
   obtain⟨cs,hcs,hev⟩:=hev
   obtain⟨ha,hev⟩:=qac hev
   simp only[zaa,zad] at hev
   obtain⟨rfl,rfl⟩:=hev
   exact⟨rfl,rfl,rfl,fun k=>rfl,qnE h t x hop hg (by simpa[Ins.args] using hr) hcs ha⟩
 case build t ps=>
  split at hi
  ·simp only[zab,zac] at hi
   obtain⟨n,hn,z,hz,gs,hgs,rfl⟩:=hi
   exact pc rfl hev
  ·simp only[zab,zac] at hi
   obtain⟨fs,hfs,z,hz,pl,hpl,gs,hgs,rfl⟩:=hi
   exact pc rfl hev
 case buildSlice t len ps=>
  obtain⟨e,he,sz,hsz,n,hn,zs,hzs,hk⟩:=hi
  split at hk
  ·split at hk
   ·obtain⟨hle,hk⟩:=qac hk
    simp only[zac] at hk
    obtain⟨gs,hgs,rfl⟩:=hk
    simp only[qag,zab] at hev
    obtain⟨cs,hf,hev⟩:=hev
    obtain⟨ha,hev⟩:=qac hev
    simp only[zaa,zad] at hev
    obtain⟨rfl,rfl⟩:=hev
    exact⟨rfl,rfl,rfl,fun _=>rfl,qpy h t len ps hop he hsz hn hzs (ble_iff.1 hle) hgs (by simpa[Ins.args,List.flatMap_map] using hr) hf ha⟩
   ·obtain⟨hle,hk⟩:=qac hk
    simp only[zac] at hk
    obtain⟨gs,hgs,rfl⟩:=hk
    exact pc rfl hev
  simp only[zab] at hk
  obtain⟨z,hz,hk⟩:=hk
  obtain⟨hle,hk⟩:=qac hk
  simp only[zac] at hk
  obtain⟨gs,hgs,rfl⟩:=hk
  exact pc rfl hev
 case load t x=>
  obtain⟨n,hn,g,hg,rfl⟩:=hi
  simp only[qag,zab,zac,zad] at hev
  obtain⟨cs,hcs,v',hv,rfl,rfl⟩:=hev
  exact⟨rfl,rfl,rfl,fun _=>rfl,(qnC h t x hop hn hg (by simpa[Ins.args] using hr) hcs hv).eff h⟩
 case store t x y=>
  obtain⟨n,hn,gx,hx,gy,hy,rfl⟩:=hi
  simp only[qag,zab,zac,zad] at hev
  obtain⟨cs,hcs,c2,hs,rfl,rfl⟩:=hev
  have hl:∀j,c2.l.has j=c.l.has j:=by
   intro j
   unfold qbr at hs
   split at hs<;>try (cases hs;done)
   ·generalize c.l.get (0,[]) _=p at hs
    obtain⟨g',old⟩:=p
    simp only at hs
    obtain⟨_,hs⟩:=qac hs
    simp only[zac] at hs
    obtain⟨new,_,rfl⟩:=hs
    exact Tr.has_set _ _ _ _
   ·split at hs<;>try (cases hs;done)
    obtain⟨_,hs⟩:=qac hs
    simp only[zab,zac] at hs
    obtain⟨new,_,hp,_,rfl⟩:=hs
    rfl
  obtain⟨h1,h2,h3,h4⟩:=qlC h (fun j g cs hj hg=>qcV hj (by intro e;injection e with e1;exact hg e1)) t x y hop hn hx hy (by simpa[Ins.args] using hr) hcs hs
  exact⟨h1,h2,h3,hl,h4⟩
 case nilCheck x=>obtain⟨g,hg,rfl⟩:=hi;exact pc rfl hev
 case binOp op t x y u=>
  obtain⟨gx,hx,gy,hy,hi⟩:=hi
  have hp:qaX i=true/\(∀(r:Option zA),qag e c i=some (v,c')->(qah c.f i).map (fun v=>(v,c))=some (v,c')):=by
   have eqc:∀nl neg,cEq P t neg nl gx gy=some i->qaX i=true/\(∀(r:Option zA),qag e c i=some (v,c')->(qah c.f i).map (fun v=>(v,c))=some (v,c')):=by
    intro nl neg hi
    unfold cEq at hi
    split at hi
    ·obtain⟨_,hi⟩:=qac hi
     simp only[zac] at hi
     obtain⟨ks,_,rfl⟩:=hi
     exact⟨rfl,fun _ h=>h⟩
    ·simp only[zab] at hi
     obtain⟨k,_,hi⟩:=hi
     split at hi
     ·simp only[zaa] at hi;subst hi;exact⟨rfl,fun _ h=>h⟩
     ·simp only[zaa] at hi;subst hi;exact⟨rfl,fun _ h=>h⟩
     ·obtain⟨_,hi⟩:=qac hi
      simp only[zaa] at hi;subst hi;exact⟨rfl,fun _ h=>h⟩
     ·simp only[zaa] at hi;subst hi;exact⟨rfl,fun _ h=>h⟩
   have eqn:∀(ni nl neg:Bool),cond ni (qo4 P t neg gx) (cEq P t neg nl gx gy)=some i->qaX i=true/\(∀(r:Option zA),qag e c i=some (v,c')->(qah c.f i).map (fun v=>(v,c))=some (v,c')):=by
    intro ni nl neg hi
    cases ni with
    |false=>exact eqc nl neg hi
    |true=>
     simp only[cond_true] at hi
     unfold qo4 at hi
     split at hi<;>try (cases hi;done)
     simp only[zaa] at hi
     subst hi
     exact⟨rfl,fun _ h=>h⟩
   split at hi
   ·exact eqn _ _ _ hi
   ·exact eqn _ _ _ hi
   ·simp only[zaa] at hi;subst hi;exact⟨rfl,fun _ h=>h⟩
   ·simp only[zaa] at hi;subst hi;exact⟨rfl,fun _ h=>h⟩
   ·simp only[zaa] at hi
    subst hi
    exact⟨rfl,fun _ h=>h⟩
  exact pc hp.1 (hp.2 none hev)
 case unOp op t x=>
  cases op<;>simp only[zac] at hi<;>try (cases hi;done)
  case neg=>
   split at hi<;>try (cases hi;done)
   simp only[zac] at hi
   obtain⟨g,hg,rfl⟩:=hi
   exact pc rfl hev
  obtain⟨g,hg,rfl⟩:=hi
  exact pc rfl hev
 case convert s t x=>
  split at hi<;>try (cases hi;done)
  ·split at hi<;>try (cases hi;done)
   ·simp only[zac] at hi
    obtain⟨g,hg,rfl⟩:=hi
    exact pc rfl hev
   ·simp only[zac] at hi
    obtain⟨g,hg,rfl⟩:=hi
    exact pc rfl hev
  ·rename_i hs
   split at hi<;>try (cases hi;done)
   ·simp only[zac] at hi
    obtain⟨g,hg,rfl⟩:=hi
    exact pc rfl hev
   ·rename_i ht
    split at hi<;>try (cases hi;done)
    rename_i he8
    simp only[zab,zac] at hi
    obtain⟨_,_,g,hg,rfl⟩:=hi
    simp only[qag] at hev
    split at hev<;>try (cases hev;done)
    rename_i b hb
    simp only[zaa,zad] at hev
    obtain⟨rfl,rfl⟩:=hev
    exact⟨rfl,rfl,rfl,fun _=>rfl,qpJ h s t x hop hs ht he8 hg (by simpa[Ins.args] using hr) hb⟩
  ·rename_i hs
   split at hi<;>try (cases hi;done)
   rename_i ht
   split at hi<;>try (cases hi;done)
   rename_i he8
   simp only[zac] at hi
   obtain⟨g,hg,rfl⟩:=hi
   simp only[qag,zac,zad] at hev
   obtain⟨v',hev,rfl,rfl⟩:=hev
   unfold qq4 at hev
   split at hev<;>try (cases hev;done)
   rename_i hns
   simp only[zab] at hev
   obtain⟨⟨n,cs⟩,hsrc,hev⟩:=hev
   simp only at hev
   obtain⟨hl,hev⟩:=qac hev
   simp only[zac] at hev
   obtain⟨b,hb,rfl⟩:=hev
   exact⟨rfl,rfl,rfl,fun _=>rfl,qpG h s t x hop hs ht he8 hg (by simpa[Ins.args] using hr) (fun b e=>hns b e) hsrc (beq_iff.1 hl) hb⟩
 case makeFunc fn x y=>
  cases fn<;>simp only[zab,zac] at hi<;>try (cases hi;done)
  obtain⟨gx,hx,gy,hy,rfl⟩:=hi
  exact pc rfl hev
 case makeInterface t x=>
  split at hi<;>try (cases hi;done)
  simp only[zac] at hi
  obtain⟨g,hg,rfl⟩:=hi
  exact pc rfl hev
 case typeAssert x t u ok=>
  split at hi<;>try (cases hi;done)
  simp only[zab] at hi
  obtain⟨inf,hinf,hi⟩:=hi
  split at hi<;>try (cases hi;done)
  simp only[zab,zac] at hi
  obtain⟨zv,hzv,g,hg,rfl⟩:=hi
  exact pc rfl hev
 case makeSlice t x y=>
  obtain⟨e',he,inf,hinf,hi⟩:=hi
  split at hi
  rotate_left
  ·obtain⟨hb,hi⟩:=qac hi
   simp only[zab,zac] at hi
   obtain⟨z,hz,gx,hgx,gy,hgy,rfl⟩:=hi
   simp only[zae] at hb
   simp only[qag,zab] at hev
   obtain⟨m,hm,k,hk,hev⟩:=hev
   obtain⟨hc,hev⟩:=qac hev
   simp only[zaa,zad] at hev
   obtain⟨rfl,rfl⟩:=hev
   simp only[zae] at hc
   exact⟨rfl,rfl,rfl,fun _=>rfl,qpx h t _ y hop (qaP he) hinf (blt_iff.1 hb.1) (blt_iff.1 hb.2) hz hgx hgy (by simpa[Ins.args] using hr) hm hk (ble_iff.1 hc.1) (ble_iff.1 hc.2.1) hc.2.2⟩
  obtain⟨hb,hi⟩:=qac hi
  simp only[zac] at hi
  obtain⟨g,hg,rfl⟩:=hi
  simp only[zae] at hb
  simp only[qag,zab] at hev
  obtain⟨m,hm,hev⟩:=hev
  obtain⟨hle,hev⟩:=qac hev
  simp only[zaa,zad] at hev
  obtain⟨rfl,rfl⟩:=hev
  exact⟨rfl,rfl,rfl,fun _=>rfl,qnG h t y hop (qaP he) hinf (blt_iff.1 hb.2.2.1) (blt_iff.1 hb.2.2.2) hb.1 hg (by simpa[Ins.args] using hr) hm (ble_iff.1 hle)⟩
 case slice t x lo hi' mx=>
  obtain⟨hmx,hk⟩:=qaG hi
  clear hi
  split at hk<;>try (cases hk;done)
  ·simp only[zab,zac] at hk
   obtain⟨sz,hsz,g,hg,gl,hl,gh,hh,rfl⟩:=hk
   exact pc rfl hev
  ·simp only[zab,zac] at hk
   obtain⟨g,hg,gl,hl,gh,hh,rfl⟩:=hk
   exact pc rfl hev
 case fieldAddr t x j=>obtain⟨fs,hfs,fd,hfd,n,hn,g,hg,rfl⟩:=hi;exact pc rfl hev
 case indexAddr t x y=>
  split at hi
  ·rename_i n e' hu
   simp only[zab] at hi
   obtain⟨sz,hsz,hi⟩:=hi
   split at hi
   ·rename_i gv
    obtain⟨_,hi⟩:=qaG hi
    simp only[zac] at hi
    obtain⟨gy,hy,rfl⟩:=hi
    simp only[qag,zab] at hev
    obtain⟨m,hm,hev⟩:=hev
    obtain⟨hlt,hev⟩:=qac hev
    split at hev<;>try (cases hev;done)
    rename_i cs hE
    simp only[zac,zad] at hev
    obtain⟨ps,hps,rfl,rfl⟩:=hev
    exact⟨rfl,rfl,rfl,fun _=>rfl,qpF h t gv y hop hu hsz hy (by simpa[Ins.args] using hr) hm (blt_iff.1 hlt) hE hps⟩
   simp only[zab,zac] at hi
   obtain⟨gx,hx,gy,hy,rfl⟩:=hi
   exact pc rfl hev
  ·simp only[zab,zac] at hi
   obtain⟨e',he,sz,hsz,gx,hx,gy,hy,rfl⟩:=hi
   exact pc rfl hev
 case field t x j=>obtain⟨fs,hfs,fd,hfd,n,hn,g,hg,rfl⟩:=hi;exact pc rfl hev
 case index t x y=>
  split at hi<;>try (cases hi;done)
  ·simp only[zab,zac] at hi
   obtain⟨gx,hx,gy,hy,rfl⟩:=hi
   exact pc rfl hev
  ·simp only[zab,zac] at hi
   obtain⟨n,hn,gx,hx,gy,hy,rfl⟩:=hi
   exact pc rfl hev
 case extract x j=>obtain⟨g,hg,rfl⟩:=hi;exact pc rfl hev
 case makeMap t r=>
  cases r with
  |some r=>simp only[reduceCtorEq] at hi
  |none=>
  simp only[] at hi
  split at hi<;>try (cases hi;done)
  rcases qdt hi with⟨_,rfl⟩|⟨hd,d,_,⟨_,rfl⟩|⟨_,_,rfl⟩⟩
  ·simp only[qag,zaa,zad] at hev
   obtain⟨rfl,rfl⟩:=hev
   exact⟨rfl,rfl,rfl,fun _=>rfl,qlG h t hop⟩
  ·have:=(hna hd).2.2;cases this
  ·exact absurd rfl ((hna hd).2.1 true d)
 case range t x=>
  obtain⟨_,hi⟩:=qaG hi
  split at hi<;>try (cases hi;done)
  rename_i ht
  simp only[zac] at hi
  obtain⟨g,hg,rfl⟩:=hi
  simp only[qag] at hev
  split at hev<;>try (cases hev;done)
  rename_i q hq
  split at hev<;>try (cases hev;done)
  rename_i es hm
  simp only[zaa,zad] at hev
  obtain⟨rfl,rfl⟩:=hev
  exact⟨rfl,rfl,rfl,fun _=>rfl,qpB h t x hop ht hg (by simpa[Ins.args] using hr) hq hm⟩
 case next x b=>
  cases b with
  |true=>simp only[reduceCtorEq] at hi
  |false=>
  obtain⟨_,hi⟩:=qaG hi
  simp only[zac] at hi
  obtain⟨g,hg,rfl⟩:=hi
  simp only[qag] at hev
  split at hev<;>try (cases hev;done)
  rename_i q hq
  split at hev<;>try (cases hev;done)
  rename_i m since last seen hm
  split at hev<;>try (cases hev;done)
  rename_i es hes
  obtain⟨hc,hev⟩:=qac hev
  obtain⟨k1,k2⟩:=qpD h x hop hg (by simpa[Ins.args] using hr) hq hm hes hc
  split at hev<;>try (cases hev;done)
  ·rename_i qjb
   simp only[zaa,zad] at hev
   obtain⟨rfl,rfl⟩:=hev
   exact⟨rfl,rfl,rfl,fun _=>rfl,k1 qjb⟩
  ·rename_i i k y hone
   obtain⟨hlt,hev⟩:=qac hev
   simp only[zac,zad] at hev
   obtain⟨hp,qaI,rfl,rfl⟩:=hev
   exact⟨rfl,rfl,rfl,fun _=>rfl,k2 i k y hp hone (blt_iff.1 hlt) qaI⟩
 case entry x=>
  obtain⟨_,hi⟩:=qaG hi
  simp only[zac] at hi
  obtain⟨g,hg,rfl⟩:=hi
  simp only[qag] at hev
  split at hev<;>try (cases hev;done)
  rename_i q hq
  split at hev<;>try (cases hev;done)
  rename_i m since last seen hm
  split at hev<;>try (cases hev;done)
  rename_i es hes
  obtain⟨hc,hev⟩:=qac hev
  simp only[zab,zac] at hev
  obtain⟨i,hi2,⟨k,y⟩,hy,hev⟩:=hev
  simp only[zad] at hev
  obtain⟨rfl,rfl⟩:=hev
  exact⟨rfl,rfl,rfl,fun _=>rfl,qpE h x hop hg (by simpa[Ins.args] using hr) hq hm hes (beq_iff.1 hc) hi2 hy⟩
 case insert t x y z=>
  split at hi<;>try (cases hi;done)
  rename_i ht
  simp only[zab,zac] at hi
  obtain⟨⟨kd,ks⟩,hkd,gx,hx,gy,hy,gz,hz,rfl⟩:=hi
  have hlt:=qiy hna
  rw[hlt] at hev hr
  simp only[cond_false] at hev hr
  simp only[qag,zab] at hev
  obtain⟨k,hk,hev⟩:=hev
  split at hev<;>try (cases hev;done)
  rename_i hq
  split at hev<;>try (cases hev;done)
  rename_i hm
  obtain⟨hc,hev⟩:=qac hev
  simp only[zae] at hc
  simp only[zab,zac,zad] at hev
  obtain⟨es',hes,hp,qaI,rfl,rfl⟩:=hev
  exact⟨rfl,rfl,rfl,fun _=>rfl,qgT h t x y z (.inl hop) ht hkd hx hy hz (by simpa[Ins.args] using hr) hk hq hm hc.1 hc.2 hes qaI⟩
 case mapUpdate t x y z=>
  split at hi<;>try (cases hi;done)
  rename_i ht
  simp only[zab,zac] at hi
  obtain⟨⟨kd,ks⟩,hkd,gx,hx,gy,hy,gz,hz,rfl⟩:=hi
  have hlt:=qiy hna
  rw[hlt] at hev hr
  simp only[cond_false] at hev hr
  simp only[qag,zab] at hev
  obtain⟨k,hk,hev⟩:=hev
  split at hev<;>try (cases hev;done)
  rename_i hq
  split at hev<;>try (cases hev;done)
  rename_i hm
  obtain⟨hc,hev⟩:=qac hev
  simp only[zae] at hc
  simp only[zab,zac,zad] at hev
  obtain⟨es',hes,hp,qaI,rfl,rfl⟩:=hev
  exact⟨rfl,rfl,rfl,fun _=>rfl,qgT h t x y z (.inr hop) ht hkd hx hy hz (by simpa[Ins.args] using hr) hk hq hm hc.1 hc.2 hes qaI⟩
 case lookup t x y ok=>
  split at hi<;>try (cases hi;done)
  rename_i ht
  simp only[zab] at hi
  obtain⟨⟨kd,ks⟩,hkd,inf,hinf,hi⟩:=hi
  split at hi<;>try (cases hi;done)
  rename_i z hz
  simp only[zab,zac] at hi
  obtain⟨zv,hzv,gx,hx,gy,hy,rfl⟩:=hi
  simp only[qag,zab] at hev
  obtain⟨k,hk,es,hm,hev⟩:=hev
  obtain⟨hik,hev⟩:=qac hev
  simp only[zac] at hev
  obtain⟨r,hf,hev⟩:=hev
  have:=qnL h t x y ok hop ht hkd hinf hz hzv hx hy (by simpa[Ins.args] using hr) hk hm hik hf
  cases r with
  |none=>
   simp only[zad] at hev
   obtain⟨rfl,rfl⟩:=hev
   exact⟨rfl,rfl,rfl,fun _=>rfl,this.eff h⟩
  |some r=>
   simp only[zad] at hev
   obtain⟨rfl,rfl⟩:=hev
   exact⟨rfl,rfl,rfl,fun _=>rfl,this.eff h⟩
 case mapEntry t x y=>
  split at hi<;>try (cases hi;done)
  rename_i ht
  simp only[zab] at hi
  obtain⟨⟨kd,ks⟩,hkd,inf,hinf,hi⟩:=hi
  split at hi<;>try (cases hi;done)
  rename_i z hz
  simp only[zab,zac] at hi
  obtain⟨zv,hzv,gx,hx,gy,hy,rfl⟩:=hi
  simp only[qag,zab] at hev
  obtain⟨k,hk,hev⟩:=hev
  split at hev<;>try (cases hev;done)
  rename_i hq
  split at hev<;>try (cases hev;done)
  rename_i hm
  obtain⟨hc,hev⟩:=qac hev
  simp only[zae] at hc
  simp only[zab] at hev
  obtain⟨r,hf,hev⟩:=hev
  have:=qnM h t x y hop ht hkd hinf hz hzv hx hy (by simpa[Ins.args] using hr) hk hq hm hc.1 hc.2 hf
  cases r with
  |none=>
   simp only[zac,zad] at hev
   obtain⟨hp,qaI,rfl,rfl⟩:=hev
   exact⟨rfl,rfl,rfl,fun _=>rfl,this hp qaI⟩
  |some r=>
   simp only[zac,zad] at hev
   obtain⟨hp,qaI,rfl,rfl⟩:=hev
   exact⟨rfl,rfl,rfl,fun _=>rfl,this hp qaI⟩
 case entryStore t x y z=>
  obtain⟨gx,hx,gy,hy,gz,hz,rfl⟩:=hi
  simp only[qag,zab] at hev
  obtain⟨j,hj,hev⟩:=hev
  split at hev<;>try (cases hev;done)
  rename_i hq
  split at hev<;>try (cases hev;done)
  rename_i hm
  obtain⟨hc,hev⟩:=qac hev
  simp only[zab,zac,zad] at hev
  obtain⟨p,hp0,hp,qaI,rfl,rfl⟩:=hev
  exact⟨rfl,rfl,rfl,fun _=>rfl,qnN h t x y z hop hx hy hz (by simpa[Ins.args] using hr) hj hq hm hc hp0 qaI⟩
 case call cl=>
  split at hi
  ·rename_i f hc
   simp only[zac] at hi
   obtain⟨gs,hgs,hi⟩:=hi
   have key:∀{r:zA} {s':ASt},i.args=gs->e.call f (gs.map (Arg.ev c.f)) c.s=some (r,s')->NextP P (qa8 P e.E U pd G w c.l s' r) ((execOp a.eval o).run P w):=by
    intro r s' hia hcall
    have hargs:=qdK hgs fun t ht=>hr t (by rw[hia];exact ht)
    rw[qfG cl hop hc]
    have e1:a.eval (.func f)=.func (.func f) #[] #[]:=rfl
    rw[e1]
    have:=se.call hcall (vs:=cl.args.map a.eval) h (by rw[Array.toList_map];exact hargs)
    simpa[Deferred.ofValue,invoke] using this
   split at hi
   ·subst hi
    simp only[qag] at hev
    obtain⟨hpu,hev⟩:=qac hev
    simp only[zac,zad] at hev
    obtain⟨⟨r,s'⟩,hcall,rfl,rfl⟩:=hev
    have e1:=se.pure hpu hcall
    subst e1
    exact⟨rfl,rfl,rfl,fun _=>rfl,key rfl hcall⟩
   subst hi
   simp only[qag,zac,zad] at hev
   obtain⟨⟨r,s'⟩,hcall,rfl,rfl⟩:=hev
   exact⟨rfl,rfl,rfl,fun _=>rfl,key rfl hcall⟩
  ·rename_i rc m hc
   simp only[zab,zac] at hi
   obtain⟨gx,hgx,gs,hgs,rfl⟩:=hi
   have hargs:=qdK hgs fun t ht=>hr t (by simp only[Ins.args,List.flatMap_cons,zaA];exact .inr ht)
   have hrec:=qar hgx fun t ht=>hr t (by simp only[Ins.args,List.flatMap_cons,zaA];exact .inl ht)
   have he:execOp a.eval o=(do let d <-resolve a.eval cl o.type;invoke d.target d.args):=qeB cl hop
   have fin:∀{t fn:Nat} {x r:zA} {u:Value} {s':ASt},qap (qjS P m) t=some fn->a.eval rc=.iface t u->VR G w x u->e.call fn (x::gs.map (Arg.ev c.f)) c.s=some (r,s')->NextP P (qa8 P e.E U pd G w c.l s' r) ((execOp a.eval o).run P w):=by
    intro t fn x r u s' hm hev' hx hcall
    have h1:=se.call hcall (vs:= #[u]++cl.args.map a.eval) h (by rw[Array.toList_append,Array.toList_map];exact hargs.cons hx)
    rw[<-qdR (w:=w) (qcJ (qls P m) _ _ _ hm) u (cl.args.map a.eval)] at h1
    rw[he]
    unfold resolve
    rw[hc]
    have e2:(#[Value.iface t u]++cl.args.map a.eval).extract 1 (#[Value.iface t u]++cl.args.map a.eval).size=cl.args.map a.eval:=by
     apply Array.ext
     ·simp
     ·intro i h1 h2
      rw[Array.getElem_extract,Array.getElem_append_right (by simp)]
      congr 1
      simp
    have e3:(#[Value.iface t u]++cl.args.map a.eval)[0]? =some (Value.iface t u):=by
     rw[Array.getElem?_append_left (by simp)]
     rfl
    simp only[hev',Sem.run_bind,Sem.run_pure,Result.andThen_ok,invoke,e3,e2]
    exact h1
   simp only[qag] at hev
   split at hev<;>try (cases hev;done)
   ·rename_i t v1 hx
    simp only[zab,zac,zad] at hev
    obtain⟨fn,hm,⟨r,s'⟩,hcall,rfl,rfl⟩:=hev
    rw[hx] at hrec
    generalize hu:a.eval rc=uu at hrec
    cases hrec with|iface _ _ u hh=>
    exact⟨rfl,rfl,rfl,fun _=>rfl,fin hm hu hh hcall⟩
   ·rename_i t v1 hx
    simp only[zab,zac,zad] at hev
    obtain⟨fn,hm,⟨r,s'⟩,hcall,rfl,rfl⟩:=hev
    rw[hx] at hrec
    generalize hu:a.eval rc=uu at hrec
    cases hrec with|p _ _ hh=>
    cases hh with|iface _ _ u hh=>
    exact⟨rfl,rfl,rfl,fun _=>rfl,fin hm hu (.p _ _ hh) hcall⟩
  ·rename_i t hc
   simp only[zac] at hi
   obtain⟨gs,hgs,rfl⟩:=hi
   simp only[qag,zac,zad] at hev
   obtain⟨⟨r,s'⟩,hcall,rfl,rfl⟩:=hev
   refine⟨rfl,rfl,rfl,fun _=>rfl,?_⟩
   have hargs:=qdK hgs fun t ht=>hr t (by simp only[Ins.args,List.flatMap_cons,zaA];exact .inr ht)
   rw[qfG cl hop hc]
   exact se.callv hcall h (qar (x:=.tmp t) (g:=.t t) rfl fun q hq=>hr q (by simp only[Ins.args,List.flatMap_cons,zaA];exact .inl hq)) (by rw[Array.toList_map];exact hargs)
  ·rename_i hc
   split at hi<;>try (cases hi;done)
   rename_i ox oy hxs
   split at hi<;>try (cases hi;done)
   rename_i t1 t2 hts
   simp only[zab] at hi
   obtain⟨e',he,inf,hinf,hi⟩:=hi
   obtain⟨hb,hi⟩:=qac hi
   simp only[zae] at hb
   have happ:∀{gx gy:Arg},qaw ox=some gx->qaw oy=some gy->((∃e',P.underlying t2=some (.slice e'))\/P.underlying t2=some .string)->i=.apph inf.size inf.bytes gx gy->c'.f=c.f/\c'.h=c.h/\c'.rd=c.rd/\(∀j,c'.l.has j=c.l.has j)/\NextP P (qa8 P e.E U pd G w c'.l c'.s v) ((execOp a.eval o).run P w):=by
    intro gx gy hx hy hu e1
    subst e1
    simp only[qag,zab] at hev
    obtain⟨⟨m,new⟩,hnew,hev⟩:=hev
    simp only at hev
    obtain⟨hc2,hev⟩:=qac hev
    simp only[zae] at hc2
    simp only[zac,zad] at hev
    obtain⟨⟨v',s'⟩,hap,rfl,rfl⟩:=hev
    exact⟨rfl,rfl,rfl,fun _=>rfl,qnI h cl hop hc hxs hts (qaP he) hu hinf (blt_iff.1 hb.1) (blt_iff.1 hb.2.1) hb.2.2 hx hy (by simpa[Ins.args] using hr) hnew (beq_iff.1 hc2.1) hc2.2 hap⟩
   split at hi<;>try (cases hi;done)
   ·rename_i hu
    simp only[zab] at hi
    obtain⟨gx,hx,gy,hy,hi⟩:=hi
    split at hi
    ·simp only[zaa] at hi
     exact happ hx hy (.inl ⟨_,hu⟩) hi.symm
    obtain⟨_,hi⟩:=qac hi
    simp only[zaa] at hi
    subst hi
    simp only[qag,zab] at hev
    obtain⟨⟨m,new⟩,hnew,hev⟩:=hev
    simp only at hev
    split at hev<;>try (cases hev;done)
    rename_i n cs tk hsv
    obtain⟨hle,hev⟩:=qac hev
    simp only[zae] at hle
    obtain⟨k1,k2,k3⟩:=qpw h cl hop hc hxs hts (qaP he) hu hinf (blt_iff.1 hb.1) (blt_iff.1 hb.2.1) hb.2.2 hx hy (by simpa[Ins.args] using hr) hnew hsv (ble_iff.1 hle.1) (beq_iff.1 hle.2)
    cases hm:Nat.beq m 0 with
    |true=>
     rw[hm] at hev
     simp only[cond_true,zaa,zad] at hev
     obtain⟨rfl,rfl⟩:=hev
     exact⟨rfl,rfl,rfl,fun _=>rfl,k1 (beq_iff.1 hm)⟩
    |false=>
     rw[hm] at hev
     have hm0:m≠0:=fun e=>by rw[qaA e] at hm;cases hm
     simp only[cond_false] at hev
     split at hev
     ·obtain⟨hcl,hev⟩:=qac hev
      simp only[zaa,zad] at hev
      obtain⟨rfl,rfl⟩:=hev
      exact⟨rfl,rfl,rfl,fun _=>rfl,k2 hm0 rfl (beq_iff.1 hcl)⟩
     ·split at hev<;>try (cases hev;done)
      rename_i t1 _ kk zz hto
      obtain⟨hkz,hev⟩:=qac hev
      simp only[zae] at hkz
      simp only[zac,zad] at hev
      obtain⟨ts,hts',rfl,rfl⟩:=hev
      have e1:=beq_iff.1 hkz.1
      have e2:=beq_iff.1 hkz.2
      subst e1;subst e2
      exact⟨rfl,rfl,rfl,fun _=>rfl,k3 hm0 _ ts rfl hto hts'⟩
   ·rename_i hu
    simp only[zab,zac] at hi
    obtain⟨_,_,z,hz,gx,hx,gy,hy,rfl⟩:=hi
    simp only[qag,zab] at hev
    obtain⟨m,hm,hev⟩:=hev
    split at hev<;>try (cases hev;done)
    rename_i hgx
    obtain⟨hcnd,hev⟩:=qac hev
    simp only[zae] at hcnd
    simp only[zaa,zad] at hev
    obtain⟨rfl,rfl⟩:=hev
    exact⟨rfl,rfl,rfl,fun _=>rfl,qnP h cl hop hc hxs hts (qaP he) hu hinf (blt_iff.1 hb.1) (blt_iff.1 hb.2.1) hz hcnd.2.2 hx hy (by simpa[Ins.args] using hr) hm hgx (blt_iff.1 hcnd.1) (ble_iff.1 hcnd.2.1)⟩
   ·rename_i hu
    simp only[zab,zac] at hi
    obtain⟨_,_,gx,hx,gy,hy,hi⟩:=hi
    exact happ hx hy (.inr hu) hi.symm
  ·rename_i hc
   split at hi<;>try (cases hi;done)
   rename_i hxs
   split at hi<;>try (cases hi;done)
   rename_i hts
   split at hi<;>try (cases hi;done)
   ·simp only[zac] at hi
    obtain⟨g,hg,rfl⟩:=hi
    exact pc rfl hev
   ·simp only[zac] at hi
    obtain⟨g,hg,rfl⟩:=hi
    exact pc rfl hev
   ·rename_i ht
    simp only[zac] at hi
    obtain⟨g,hg,rfl⟩:=hi
    simp only[qag,zac,zad] at hev
    obtain⟨es,hm,rfl,rfl⟩:=hev
    exact⟨rfl,rfl,rfl,fun _=>rfl,(qnK h cl hop hc hxs hts ht hg (by simpa[Ins.args] using hr) hm).eff h⟩
  ·split at hi<;>try (cases hi;done)
   split at hi<;>try (cases hi;done)
   simp only[zab,zac] at hi
   obtain⟨_,_,g,hg,rfl⟩:=hi
   exact pc rfl hev
  ·rename_i hc
   split at hi<;>try (cases hi;done)
   rename_i hxs
   split at hi<;>try (cases hi;done)
   rename_i hts
   simp only[zab] at hi
   obtain⟨e',he,inf,hinf,hi⟩:=hi
   obtain⟨_,hi⟩:=qac hi
   simp only[zab,zac] at hi
   obtain⟨gx,hx,gy,hy,rfl⟩:=hi
   simp only[qag,zab] at hev
   obtain⟨⟨m,new⟩,hnew,hev⟩:=hev
   simp only at hev
   obtain⟨hc2,hev⟩:=qac hev
   simp only[zae] at hc2
   split at hev<;>try (cases hev;done)
   rename_i q off n cap z op hgx
   obtain⟨hzz,hev2⟩:=qac hev
   clear hev
   have hev:=hev2
   clear hev2
   have hzz:=beq_iff.1 hzz
   subst hzz
   split at hev<;>try (cases hev;done)
   rename_i old hold
   simp only[zab,zac,zad] at hev
   obtain⟨cs,hov,hp,hst,rfl,rfl⟩:=hev
   exact⟨rfl,rfl,rfl,fun _=>rfl,qpH h cl hop hc hxs hts (qaP he) hinf hx hy (by simpa[Ins.args] using hr) hnew (beq_iff.1 hc2.1) hc2.2 hgx hold hov hst⟩
  ·rename_i hc
   split at hi<;>try (cases hi;done)
   rename_i hxs
   split at hi<;>try (cases hi;done)
   rename_i hts
   simp only[zab,zac] at hi
   obtain⟨e',he,inf,hinf,zc,hzc,gx,hx,rfl⟩:=hi
   simp only[qag] at hev
   split at hev<;>try (cases hev;done)
   ·rename_i q off n cap z op hgx
    obtain⟨hzz,hev2⟩:=qac hev
    clear hev
    have hev:=hev2
    clear hev2
    simp only[zae] at hzz
    have hz1:=beq_iff.1 hzz.1
    subst hz1
    split at hev<;>try (cases hev;done)
    rename_i old hold
    simp only[zab,zac,zad] at hev
    obtain⟨cs,hov,hp,hst,rfl,rfl⟩:=hev
    exact⟨rfl,rfl,rfl,fun _=>rfl,qpI h cl hop hc hxs hts (qaP he) hinf hzc hzz.2 hx (by simpa[Ins.args] using hr) hgx hold hov hst⟩
   ·rename_i hgx
    simp only[zaa,zad] at hev
    obtain⟨rfl,rfl⟩:=hev
    exact⟨rfl,rfl,rfl,fun _=>rfl,qnO h cl hop hc hxs hts (qaP he) hx (by simpa[Ins.args] using hr) hgx⟩
  ·split at hi<;>try (cases hi;done)
   simp only[zab,zac] at hi
   obtain⟨gx,hx,gy,hy,rfl⟩:=hi
   exact pc rfl hev
  ·split at hi<;>try (cases hi;done)
   simp only[zab,zac] at hi
   obtain⟨gx,hx,gy,hy,rfl⟩:=hi
   exact pc rfl hev
  ·cases hi
end Go.AI
namespace Go.AI
variable {P:Program} {E:Rom} {G:Gh} {w:World} {a:Act} {lof:Nat->Option Nat} {nt base:Nat} {U0:Nat->Option (List zA)}
def Marks (base:Nat)(G:Gh)(w:World):List Deferred->Prop
 |[]=>True
 |d::ds=>(∃r,d.target=.collected r/\base<=r/\G.own r=.misc/\w.heap[r]? =some (.deferred (some []))/\∀d'∈ds,d'.target≠.collected r)/\Marks base G w ds
theorem Marks.ext {G':Gh}{w':World}(x:Ext G w G' w'):∀{ds:List Deferred},Marks base G w ds->Marks base G' w' ds
 |[],_=>trivial
 |d::ds,⟨⟨r,h1,h2,h3,h4,h5⟩,h⟩=>by
  obtain⟨h6,h7⟩:=x.still r (zag.1 h4).1 (by rw[h3];trivial)
  exact⟨⟨r,h1,h2,h7.trans h3,h6.trans h4,h5⟩,h.ext x⟩
def FW (ro:Option Nat):Fence:={Fence.wide with round:=ro}
structure CR (P:Program)(E:Rom)(U0:Nat->Option (List zA))(lof:Nat->Option Nat)(nt base:Nat)(c:Cfg)(G:Gh)(w:World)(a:Act):Prop where
 fr:FR G w c.f a.tmps
 sz:a.tmps.size=nt
 mr:MR P E U0 (fun _=>none) c.l c.s G w
 lh:∀t j,lof t=some j->c.l.has j=true
 df:Marks base G w a.defers
 bs:base<=w.heap.size
theorem FR.put {G:Gh}{w:World}{f:Tr zA}{tmps:Array Value}(h:FR G w f tmps){d:Nat}(hd:d<tmps.size){v:zA}{u:Value}(hv:VR G w v u):FR G w (f.set d v) (tmps.setIfInBounds d u):=by
 refine⟨fun t=>?_,fun t ht=>by rw[Tr.has_set];exact h.2 t (by simpa using ht)⟩
 rw[Tr.get_set _ _ _ _ _ (h.2 d hd)]
 have hg:(tmps.setIfInBounds d u).getD t undef=if d=t then u else tmps.getD t undef:=by
  rw[zao,zao,Array.getElem?_setIfInBounds]
  by_cases e:d=t
  ·subst e;simp[hd]
  ·simp[e]
 rw[hg]
 by_cases e:d=t
 ·rw[if_pos e,if_pos e];exact hv
 ·rw[if_neg e,if_neg e];exact h.1 t
theorem qee (a:Act)(d:Nat)(v:Value):(a.put (some d) v).tmps=a.tmps.setIfInBounds d v:=rfl
theorem qdS (a:Act)(d:Option Tmp)(v:Value):(a.put d v).defers=a.defers:=by cases d<;>rfl
theorem FR.dst {f:Tr zA}(h:FR G w f a.tmps){d:Option Tmp}(hd:∀t,d=some t->t<a.tmps.size){v:zA}{u:Value}(hv:VR G w v u)(c:Cfg)(hc:c.f=f):FR G w (c.put d v).f (a.put d u).tmps:=by
 subst hc
 cases d with
 |none=>exact h
 |some t=>exact h.put (hd t rfl) hv
theorem qf8 (a:Act)(d:Option Tmp)(v:Value):(a.put d v).tmps.size=a.tmps.size:=by cases d<;>simp[Act.put]
theorem Cfg.put_l (c:Cfg)(d:Option Nat)(v:zA):(c.put d v).l=c.l:=by cases d<;>rfl
theorem Cfg.put_s (c:Cfg)(d:Option Nat)(v:zA):(c.put d v).s=c.s:=by cases d<;>rfl
theorem Cfg.put_h (c:Cfg)(d:Option Nat)(v:zA):(c.put d v).h=c.h:=by cases d<;>rfl
theorem Cfg.put_rd (c:Cfg)(d:Option Nat)(v:zA):(c.put d v).rd=c.rd:=by cases d<;>rfl
theorem FR.reads {f:Tr zA}(h:FR G w f a.tmps)(ts:List Nat):qan G w f a ts:=fun t _=>h.1 t
theorem qeN {ops:Array Oper}{o:Oper}{c:COp}{dr:Bool}{f:Tr zA}(hc:cOp P lof dr nt ops o=some c){b:Bool}(hw:wanted f c.guard=some b)(hr:∀t b,c.guard=some (t,b)->VR G w (f.get qaf t) (a.tmps.getD t undef)):
  Region.wanted o (yielded ops a.tmps)=b:=by
 simp only[cOp,zab] at hc
 obtain⟨g,hg,hc⟩:=hc
 obtain⟨_,hc⟩:=qac hc
 simp only[zac] at hc
 obtain⟨i,_,rfl⟩:=hc
 simp only at hw hr
 unfold Region.wanted
 split at hg
 ·rename_i e
  simp only[zaa] at hg
  subst hg
  simp only[wanted,zaa] at hw
  subst hw
  rw[e]
 ·rename_i j want e
  simp only[zac] at hg
  obtain⟨t,ht,rfl⟩:=hg
  have hv:=hr t want rfl
  rw[e]
  simp only[wanted] at hw
  have key:yielded ops a.tmps j=match a.tmps[t]? with|some (.bool b)=>some b|_=>none:=by
   unfold yielded
   rw[ht]
   rfl
  simp only[key]
  rw[zao] at hv
  split at hw
  ·rename_i x hx
   rw[hx] at hv
   have:=hv.bool_inv
   cases hq:a.tmps[t]? with
   |none=>rw[hq] at this;cases this
   |some u=>
    rw[hq] at this
    simp only[Option.getD_some] at this
    subst this
    simp only[zaa] at hw
    subst hw
    cases x<;>cases want<;>rfl
  ·cases hw
  ·rename_i hn hj
   simp only[zaa] at hw
   subst hw
   cases hq:a.tmps[t]? with
   |none=>simp
   |some u=>
    rw[hq] at hv
    simp only[Option.getD_some] at hv
    cases u with
    |bool x=>
     exfalso
     generalize f.get qaf t=av at hv hn hj
     cases hv with
     |p c v hp=>cases hp;exact hn _ rfl
     |junk=>exact hj rfl
    |_=>simp
theorem qc3 {ops:Array Oper}{o:Oper}{c:COp}{dr:Bool}(hc:cOp P lof dr nt ops o=some c):qhz P lof dr o=some c.op/\c.dst=o.dst/\∀t,o.dst=some t->t<nt:=by
 simp only[cOp,zab] at hc
 obtain⟨g,hg,hc⟩:=hc
 obtain⟨hd,hc⟩:=qac hc
 simp only[zac] at hc
 obtain⟨i,hi,rfl⟩:=hc
 refine⟨hi,rfl,fun t ht=>?_⟩
 rw[ht] at hd
 exact blt_iff.1 hd
theorem qgY {ro:Option Nat}{o:Oper}{Pst:Value->World->Prop}{r:Result Next}(h:NextP P Pst r){next:Act->World->Prop}{Q:Exit->Act->World->Prop}(k:∀v w',Pst v w'->next (a.put o.dst v) w'):o.uponIn (FW ro) 0 P a next Q r:=by
 cases r with
 |halt x w=>exact h.elim
 |ok n w=>
  cases n with
  |value v=>exact k _ _ h
  |skip=>exact k _ _ h
  |enter f args=>
   refine⟨(fun e=>by cases e),?_⟩
   exact CallsIn.mono (F:=Fence.wide) h fun e w' ⟨v,he,hv⟩=>by subst he;exact k _ _ hv
  |round l f tmps as_ b=>
   refine⟨(fun e=>by cases e),?_⟩
   exact RoundIn.mono (F:=Fence.wide) h fun e w' ⟨v,he,hv⟩=>by subst he;exact k _ _ hv
  |_=>exact h.elim
theorem qkh {o:Oper}{i:Ins}{dr:Bool}(h:qhz P lof dr o=some i):∀c,o.op≠.defer c:=by
 intro c e
 simp only[qhz,e] at h
 cases h
theorem qbg {ro:Option Nat}{o:Oper}{i:Ins}{dr:Bool}(hi:qhz P lof dr o=some i){Pst:Value->World->Prop}(h:NextP P Pst ((execOp a.eval o).run P w)){next:Act->World->Prop}{Q:Exit->Act->World->Prop}(k:∀v w',Pst v w'->next (a.put o.dst v) w'):
  o.wpIn (FW ro) 0 P a w next Q:=by
 refine⟨fun _ _=>trivial,?_⟩
 rw[Oper.semAt_eq _ _ _ (qkh hi)]
 exact qgY h k
theorem qpK {ro:Option Nat}{e:Env}(se:SoundEnv P e){ops:Array Oper}{o:Oper}{co:COp}{c c':Cfg}(hc:cOp P lof false nt ops o=some co)(cr:CR P e.E U0 lof nt base c G w a)(hev:qht e c co=some c'){K:Act->World->Prop}{Q:Exit->Act->World->Prop}
  (k:∀G' a' w',Ext G w G' w'->CR P e.E U0 lof nt base c' G' w' a'->c'.rd=c.rd->K a' w'):if Region.wanted o (yielded ops a.tmps) then o.wpIn (FW ro) 0 P a w K Q else(∀f,o.about P w a.eval=some f->(FW ro).fn f)/\K (a.put o.dst undef) w:=by
 obtain⟨hi,hdst,hd⟩:=qc3 hc
 simp only[qht,zab] at hev
 obtain⟨b,hb,hev⟩:=hev
 rw[qeN hc hb (fun t b _=>cr.fr.1 t)]
 cases b with
 |false=>
  simp only[cond_false,zaa] at hev
  subst hev
  refine⟨fun _ _=>trivial,k G _ _ (Ext.refl G w) ⟨?_,by rw[qf8];exact cr.sz,by rw[Cfg.put_l,Cfg.put_s];exact cr.mr,by rw[Cfg.put_l];exact cr.lh,by rw[qdS];exact cr.df,cr.bs⟩ (Cfg.put_rd _ _ _)⟩
  rw[hdst]
  exact cr.fr.dst (fun t ht=>by rw[cr.sz];exact hd t ht) .undef c rfl
 |true=>
  simp only[cond_true,zac] at hev
  obtain⟨⟨v,c2⟩,hev,rfl⟩:=hev
  rw[if_pos rfl]
  obtain⟨h1,h2,h3,h4,h5⟩:=qkg se cr.mr hi (fun e=>by cases e) cr.lh (fun _ _=>rfl) (cr.fr.reads _) hev
  refine qbg hi h5 fun u w' ⟨G',x,m,hv⟩=>k G' _ _ x ⟨?_,by rw[qf8];exact cr.sz,by simp only[Cfg.put_l,Cfg.put_s];exact m,by simp only[Cfg.put_l];exact fun t j hj=>by rw[h4];exact cr.lh t j hj,by rw[qdS];exact cr.df.ext x,zaR cr.bs x.size⟩ (by rw[Cfg.put_rd];exact h3)
  simp only[hdst]
  exact(cr.fr.ext x).dst (fun t ht=>by rw[cr.sz];exact hd t ht) hv c2 h1
theorem qki {ro:Option Nat}{e:Env}(se:SoundEnv P e){ops:Array Oper}{Q:Exit->Act->World->Prop}:∀(l:List Oper) (k:Nat) {cs:List COp} {c c':Cfg} {G:Gh} {a:Act} {w:World},(∀i:Nat,l[i]? =ops[k+i]?)->qjT P lof false nt ops l=some cs->CR P e.E U0 lof nt base c G w a->qdn e cs c=some c'->
  (∀G' a' w',Ext G w G' w'->CR P e.E U0 lof nt base c' G' w' a'->c'.rd=c.rd->Q .normal a' w')->wpOpsIn (FW ro) 0 P ops Q (List.range' k l.length) a w
 |[],k,cs,c,c',G,a,w,_,hc,cr,hev,hq=>by
  simp only[qjT,zaa] at hc
  subst hc
  simp only[qdn,zaa] at hev
  subst hev
  exact hq G a w (Ext.refl G w) cr rfl
 |o::l,k,cs,c,c',G,a,w,hl,hc,cr,hev,hq=>by
  simp only[qjT,zab,zac] at hc
  obtain⟨co,hco,cs',hcs,rfl⟩:=hc
  simp only[qdn,zab] at hev
  obtain⟨c1,hev1,hev2⟩:=hev
  have ho:ops[k]? =some o:=(hl 0).symm
  rw[zaO,List.range'_succ]
  simp only[wpOpsIn,ho]
  refine qpK se hco cr hev1 fun G1 a1 w1 x1 cr1 hrd=>?_
  refine qki se l (k+1) (fun i=>?_) hcs cr1 hev2 fun G2 a2 w2 x2 cr2 hrd2=>hq G2 a2 w2 (x1.trans x2) cr2 (hrd2.trans hrd)
  have:=hl (i+1)
  rw[show k+(i+1)=k+1+i by omega] at this
  rw[<-this]
  rfl
theorem qnQ {ro:Option Nat}{e:Env}(se:SoundEnv P e){id:Nat}{ops:Array Oper}{Q:Exit->Act->World->Prop}{cs:List COp}{c c':Cfg}(hc:qjT P lof false nt ops ops.toList=some cs)(cr:CR P e.E U0 lof nt base c G w a)(hev:qdn e cs c=some c')
  (hq:∀G' a' w',Ext G w G' w'->CR P e.E U0 lof nt base c' G' w' a'->c'.rd=c.rd->Q .normal a' w'):(Code.region id ops false).wpIn (FW ro) 0 P Q a w:=by
 refine wpIn_region ?_
 have:=qki (ro:=ro) se ops.toList 0 (cs:=cs) (fun i=>by simp) hc cr hev hq
 rw[zay] at this
 rw[List.range_eq_range']
 exact this
end Go.AI
namespace Go.AI
theorem qcK:∀(l:List (List Nat)) (acc:List Nat),∃t,qbS l acc=acc++t/\t.length=l.length
 |[],acc=>⟨[],by simp[qbS],rfl⟩
 |es::r,acc=>by
  obtain⟨t,h1,h2⟩:=qcK r (acc++[es.foldl (fun s e=>s|||(2^e|||acc.getD e 0)) 0])
  exact⟨_::t,by rw[qbS,h1,List.append_assoc];rfl,by simp[h2]⟩
theorem qiz:∀(l:List (List Nat)) (acc:List Nat) (k:Nat) (es:List Nat),l[k]? =some es->(∀e∈es,e<acc.length+k)->
  (qbS l acc).getD (acc.length+k) 0=es.foldl (fun s e=>s|||(2^e|||(qbS l acc).getD e 0)) 0
 |es'::r,acc,0,es,h,hb=>by
  simp only[zak,zaa] at h
  subst h
  rw[qbS]
  obtain⟨t,h1,h2⟩:=qcK r (acc++[es'.foldl (fun s e=>s|||(2^e|||acc.getD e 0)) 0])
  rw[h1]
  have e1:∀e,e∈es'->(acc++[es'.foldl (fun s e=>s|||(2^e|||acc.getD e 0)) 0]++t).getD e 0=acc.getD e 0:=fun e he=>by
   have:=hb e he
   rw[List.append_assoc]
   simp only[List.getD_eq_getElem?_getD]
   rw[zau (by omega)]
  have e2:(acc++[es'.foldl (fun s e=>s|||(2^e|||acc.getD e 0)) 0]++t).getD (acc.length+0) 0=es'.foldl (fun s e=>s|||(2^e|||acc.getD e 0)) 0:=by
   rw[List.append_assoc]
   simp only[List.getD_eq_getElem?_getD]
   rw[zat (by omega)]
   simp
  rw[e2]
  generalize acc++[es'.foldl (fun s e=>s|||(2^e|||acc.getD e 0)) 0]++t=M at e1
  clear e2 h1
  have:∀(xs:List Nat) (z:Nat),(∀e∈xs,M.getD e 0=acc.getD e 0)->xs.foldl (fun s e=>s|||(2^e|||acc.getD e 0)) z=xs.foldl (fun s e=>s|||(2^e|||M.getD e 0)) z:=by
   intro xs
   induction xs with
   |nil=>intros;rfl
   |cons x xs ih=>
    intro z hx
    simp only[List.foldl_cons]
    rw[hx x (zaz),ih _ fun e he=>hx e (zaE _ he)]
  exact this es' 0 e1
 |es'::r,acc,k+1,es,h,hb=>by
  rw[qbS]
  have:=qiz r (acc++[es'.foldl (fun s e=>s|||(2^e|||acc.getD e 0)) 0]) k es (by simpa using h) (fun e he=>by have:=hb e he;simp;omega)
  simp only[zan,zaO,List.length_nil] at this
  rw[show acc.length+(k+1)=acc.length+(0+1)+k by omega]
  exact this
theorem qiA (M:List Nat):∀(es:List Nat) (z i:Nat),(es.foldl (fun s e=>s|||(2^e|||M.getD e 0)) z).testBit i=(z.testBit i||es.any fun e=>decide (e=i)||(M.getD e 0).testBit i)
 |[],z,i=>by simp
 |e::es,z,i=>by
  simp only[List.foldl_cons,List.any_cons]
  rw[qiA M es]
  simp only[Nat.testBit_or,Nat.testBit_two_pow,Bool.or_assoc]
theorem qgZ {ess:List (List Nat)}{k:Nat}{es:List Nat}(h:ess[k]? =some es)(hb:∀e∈es,e<k)(i:Nat):qa2 (qbS ess []) k i=true↔∃e∈es,e=i\/qa2 (qbS ess []) e i=true:=by
 unfold qa2
 have:=qiz ess [] k es h (fun e he=>by simpa using hb e he)
 simp only[List.length_nil,zaL] at this
 rw[this,qiA]
 simp only[Nat.zero_testBit,Bool.false_or,List.any_eq_true,zaG,decide_eq_true_eq]
theorem qlK {ess:List (List Nat)}(hb:∀(k:Nat) es,ess[k]? =some es->∀e∈es,e<k):∀k i,qa2 (qbS ess []) k i=true->i<k:=by
 intro k
 induction k using Nat.strongRecOn with
 |_ k ih=>
  intro i h
  cases hk:ess[k]? with
  |none=>
   unfold qa2 at h
   obtain⟨t,h1,h2⟩:=qcK ess []
   have:ess.length<=k:=List.getElem?_eq_none_iff.1 hk
   rw[h1] at h
   simp only[List.nil_append,List.getD_eq_getElem?_getD] at h
   rw[List.getElem?_eq_none (by omega)] at h
   simp at h
  |some es=>
   obtain⟨e,he,h⟩:=(qgZ hk (hb k es hk) i).1 h
   have:=hb k es hk e he
   rcases h with rfl|h
   ·exact this
   ·have:=ih e this i h;omega
theorem qf9 (e:Env):∀(l:List COp) (c:Cfg) (T:List Cfg),qbb e l c=some T->T.length=l.length+1/\T[0]? =some c/\
  (∀(i:Nat) co,l[i]? =some co->∃x y,T[i]? =some x/\T[i+1]? =some y/\qht e x co=some y)/\∀d,T[l.length]? =some (qbq d T)
 |[],c,T,h=>by
  simp only[qbb,zaa] at h
  subst h
  exact⟨rfl,rfl,fun i co h=>by simp at h,fun d=>rfl⟩
 |o::l,c,T,h=>by
  simp only[qbb,zab,zac] at h
  obtain⟨c',hc,T',hT,rfl⟩:=h
  obtain⟨h1,h2,h3,h4⟩:=qf9 e l c' T' hT
  refine⟨by simp[h1],rfl,fun i co hi=>?_,fun d=>?_⟩
  ·cases i with
   |zero=>
    simp only[zak,zaa] at hi
    subst hi
    exact⟨c,c',rfl,by simpa using h2,hc⟩
   |succ i=>
    obtain⟨x,y,h5,h6,h7⟩:=h3 i co (by simpa using hi)
    exact⟨x,y,by simpa using h5,by simpa using h6,h7⟩
  ·simp only[zaO,List.getElem?_cons_succ,qbq]
   exact h4 c
section
variable {e:Env} {x y:Cfg} {i:Ins} {v:zA}
theorem qfH (hp:qaX i=true):qag e x i=(qah x.f i).map fun v=>(v,x):=by
 cases i<;>first|rfl|cases hp
theorem qdb (hp:i.light=true)(hev:qag e x i=some (v,y)):y=x:=by
 by_cases h:qaX i=true
 ·rw[qfH h] at hev
  simp only[zac,zad] at hev
  obtain⟨_,_,_,rfl⟩:=hev
  rfl
 ·cases i<;>try (exact absurd rfl h)
  all_goals try (cases hp;done)
  case b2s=>
   simp only[qag,zac,zad] at hev
   obtain⟨_,_,_,rfl⟩:=hev
   rfl
  case lmap=>
   simp only[qag,zaa,zad] at hev
   exact hev.2.symm
  case lins kd ks m k v=>
   simp only[qag,zab] at hev
   obtain⟨_,_,hev⟩:=hev
   obtain⟨_,hev⟩:=qac hev
   simp only[zaa,zad] at hev
   exact hev.2.symm
  ·simp only[qag,zaa,zad] at hev
   exact hev.2.symm
  ·simp only[qag,zac,zad] at hev
   obtain⟨_,_,_,rfl⟩:=hev
   rfl
  ·simp only[qag,zab,zac,zad] at hev
   obtain⟨_,_,_,_,_,rfl⟩:=hev
   rfl
  ·simp only[qag] at hev
   obtain⟨_,hev⟩:=qac hev
   simp only[zac,zad] at hev
   obtain⟨_,_,_,rfl⟩:=hev
   rfl
  ·simp only[qag,zab] at hev
   obtain⟨_,_,_,_,hev⟩:=hev
   obtain⟨_,hev⟩:=qac hev
   simp only[zac] at hev
   obtain⟨r,_,hev⟩:=hev
   cases r<;>(simp only[zad] at hev;obtain⟨_,rfl⟩:=hev;rfl)
  ·simp only[qag,zac,zad] at hev
   obtain⟨_,_,_,rfl⟩:=hev
   rfl
theorem qcs {α:Type}{d:α}:∀{t:Tr α} {i:Nat},t.has i=false->t.get d i=d
 |.nil,_,_=>rfl
 |.node v l r,i,h=>by
  unfold Tr.has at h
  unfold Tr.get
  cases h1:Nat.beq i 0 with
  |true=>rw[h1] at h;cases h
  |false=>
   rw[h1] at h
   cases h2:Nat.beq (i%2) 1 with
   |true=>rw[h2] at h;exact qcs (t:=l) h
   |false=>rw[h2] at h;exact qcs (t:=r) h
structure Like (x y:Cfg):Prop where
 h:y.h=x.h
 rd:y.rd=x.rd
 gen:∀j,(y.l.get (0,[]) j).1=(x.l.get (0,[]) j).1
 has:∀j,y.l.has j=x.l.has j
theorem Like.refl (x:Cfg):Like x x:=⟨rfl,rfl,fun _=>rfl,fun _=>rfl⟩
theorem Like.trans {x y z:Cfg}(h:Like x y)(k:Like y z):Like x z:=⟨k.h.trans h.h,k.rd.trans h.rd,fun j=>(k.gen j).trans (h.gen j),fun j=>(k.has j).trans (h.has j)⟩
theorem qg0 {a:zA}{cs:List zA}(hs:qbr x a cs=some y):y.f=x.f/\Like x y:=by
 unfold qbr at hs
 split at hs<;>try (cases hs;done)
 ·rename_i i g off
  generalize hli:x.l.get (0,[]) i=p at hs
  obtain⟨g',old⟩:=p
  simp only at hs
  obtain⟨_,hs⟩:=qac hs
  simp only[zac] at hs
  obtain⟨new,_,rfl⟩:=hs
  refine⟨rfl,rfl,rfl,fun j=>?_,fun j=>Tr.has_set _ _ _ _⟩
  simp only
  by_cases e:i=j
  ·subst e
   cases hh:x.l.has i with
   |true=>rw[Tr.get_set_eq _ _ _ _ hh,hli]
   |false=>rw[qcs (by rw[Tr.has_set];exact hh),qcs hh]
  ·rw[Tr.get_set_ne _ _ _ _ _ e]
 ·split at hs<;>try (cases hs;done)
  obtain⟨_,hs⟩:=qac hs
  simp only[zab,zac] at hs
  obtain⟨_,_,_,_,rfl⟩:=hs
  exact⟨rfl,rfl,rfl,fun _=>rfl,fun _=>rfl⟩
theorem qeO (hp:i.heavy=true)(hev:qag e x i=some (v,y)):y.f=x.f/\Like x y:=by
 have same:∀{s:ASt},({x with s:=s}:Cfg).f=x.f/\Like x {x with s:=s}:=⟨rfl,rfl,rfl,fun _=>rfl,fun _=>rfl⟩
 cases i<;>try (cases hp;done)
 case store=>
  simp only[qag,zab,zac,zad] at hev
  obtain⟨_,_,z,hs,_,rfl⟩:=hev
  exact qg0 hs
 case hbox=>
  simp only[qag,zab] at hev
  obtain⟨cs,_,hev⟩:=hev
  obtain⟨_,hev⟩:=qac hev
  simp only[zaa,zad] at hev
  obtain⟨_,rfl⟩:=hev
  exact same
 case mkh=>
  simp only[qag,zab] at hev
  obtain⟨_,_,_,_,hev⟩:=hev
  obtain⟨_,hev⟩:=qac hev
  simp only[zaa,zad] at hev
  obtain⟨_,rfl⟩:=hev
  exact same
 case mkl=>
  simp only[qag,zab] at hev
  obtain⟨cs,_,hev⟩:=hev
  obtain⟨_,hev⟩:=qac hev
  simp only[zaa,zad] at hev
  obtain⟨_,rfl⟩:=hev
  exact same
 case call=>
  simp only[qag,zac,zad] at hev
  obtain⟨⟨r,s⟩,_,_,rfl⟩:=hev
  exact same
 case callv=>
  simp only[qag,zac,zad] at hev
  obtain⟨⟨r,s⟩,_,_,rfl⟩:=hev
  exact same
 case app=>
  simp only[qag,zab] at hev
  obtain⟨⟨m,new⟩,_,hev⟩:=hev
  simp only at hev
  split at hev<;>try (cases hev;done)
  obtain⟨_,hev⟩:=qac hev
  revert hev
  cases Nat.beq m 0 with
  |true=>
   intro hev
   simp only[cond_true,zaa,zad] at hev
   obtain⟨_,rfl⟩:=hev
   exact⟨rfl,.refl _⟩
  |false=>
   intro hev
   simp only[cond_false] at hev
   split at hev
   ·obtain⟨_,hev⟩:=qac hev
    simp only[zaa,zad] at hev
    obtain⟨_,rfl⟩:=hev
    exact same
   ·split at hev<;>try (cases hev;done)
    obtain⟨_,hev⟩:=qac hev
    simp only[zac,zad] at hev
    obtain⟨_,_,_,rfl⟩:=hev
    exact same
 case apph=>
  simp only[qag,zab] at hev
  obtain⟨⟨m,new⟩,_,hev⟩:=hev
  obtain⟨_,hev⟩:=qac hev
  simp only[zac,zad] at hev
  obtain⟨_,_,_,rfl⟩:=hev
  exact same
 case inv=>
  simp only[qag] at hev
  split at hev<;>try (cases hev;done)
  ·simp only[zab,zac,zad] at hev
   obtain⟨_,_,⟨r,s⟩,_,_,rfl⟩:=hev
   exact same
  ·simp only[zab,zac,zad] at hev
   obtain⟨_,_,⟨r,s⟩,_,_,rfl⟩:=hev
   exact same
 case s2b=>
  simp only[qag] at hev
  split at hev<;>try (cases hev;done)
  simp only[zaa,zad] at hev
  obtain⟨_,rfl⟩:=hev
  exact same
 case cpy=>
  simp only[qag,zab] at hev
  obtain⟨⟨m,new⟩,_,hev⟩:=hev
  obtain⟨_,hev⟩:=qac hev
  split at hev<;>try (cases hev;done)
  obtain⟨_,hev⟩:=qac hev
  split at hev<;>try (cases hev;done)
  simp only[zab,zac,zad] at hev
  obtain⟨_,_,_,_,_,rfl⟩:=hev
  exact same
 case clr=>
  simp only[qag] at hev
  split at hev<;>try (cases hev;done)
  ·obtain⟨_,hev⟩:=qac hev
   split at hev<;>try (cases hev;done)
   simp only[zab,zac,zad] at hev
   obtain⟨_,_,_,_,_,rfl⟩:=hev
   exact same
  ·simp only[zaa,zad] at hev
   obtain⟨_,rfl⟩:=hev
   exact same
 case appz=>
  simp only[qag,zab] at hev
  obtain⟨_,_,hev⟩:=hev
  split at hev<;>try (cases hev;done)
  obtain⟨_,hev⟩:=qac hev
  simp only[zaa,zad] at hev
  obtain⟨_,rfl⟩:=hev
  exact same
 case insert=>
  simp only[qag,zab] at hev
  obtain⟨_,_,hev⟩:=hev
  split at hev<;>try (cases hev;done)
  split at hev<;>try (cases hev;done)
  obtain⟨_,hev⟩:=qac hev
  simp only[zab,zac,zad] at hev
  obtain⟨_,_,_,_,_,rfl⟩:=hev
  exact same
 case ment=>
  simp only[qag,zab] at hev
  obtain⟨_,_,hev⟩:=hev
  split at hev<;>try (cases hev;done)
  split at hev<;>try (cases hev;done)
  obtain⟨_,hev⟩:=qac hev
  simp only[zab] at hev
  obtain⟨r,_,hev⟩:=hev
  cases r<;>(simp only[zac,zad] at hev;obtain⟨_,_,_,rfl⟩:=hev;exact same)
 case mest=>
  simp only[qag,zab] at hev
  obtain⟨_,_,hev⟩:=hev
  split at hev<;>try (cases hev;done)
  split at hev<;>try (cases hev;done)
  obtain⟨_,hev⟩:=qac hev
  simp only[zab,zac,zad] at hev
  obtain⟨_,_,_,_,_,rfl⟩:=hev
  exact same
theorem qdz {co:COp}(hev:qht e x co=some y):∃b,wanted x.f co.guard=some b/\(b=true->∃v z,qag e x co.op=some (v,z)/\y=z.put co.dst v)/\(b=false->y=x.put co.dst qaf):=by
 simp only[qht,zab] at hev
 obtain⟨b,hb,hev⟩:=hev
 refine⟨b,hb,fun h=>?_,fun h=>?_⟩
 ·subst h
  simp only[cond_true,zac] at hev
  obtain⟨⟨v,z⟩,h1,h2⟩:=hev
  exact⟨v,z,h1,h2.symm⟩
 ·subst h
  simp only[cond_false,zaa] at hev
  exact hev.symm
theorem Like.put (h:Like x y)(d:Option Nat)(v:zA):Like x (y.put d v):=⟨by rw[Cfg.put_h];exact h.h,by rw[Cfg.put_rd];exact h.rd,fun j=>by rw[Cfg.put_l];exact h.gen j,fun j=>by rw[Cfg.put_l];exact h.has j⟩
theorem Cfg.put_f_ne (x:Cfg)(d:Option Nat)(v:zA)(t:Nat)(h:d≠some t):(x.put d v).f.get qaf t=x.f.get qaf t:=by
 cases d with
 |none=>rfl
 |some q=>exact Tr.get_set_ne _ _ _ _ _ (fun e=>h (by rw[e]))
theorem Cfg.put_f_has (x:Cfg)(d:Option Nat)(v:zA)(t:Nat):(x.put d v).f.has t=x.f.has t:=by
 cases d with
 |none=>rfl
 |some q=>exact Tr.has_set _ _ _ _
theorem qcj {co:COp}(hk:co.op.heavy=true\/co.op.light=true)(hev:qht e x co=some y):
  Like x y/\(∀t,co.dst≠some t->y.f.get qaf t=x.f.get qaf t)/\(∀t,y.f.has t=x.f.has t)/\(co.op.heavy=false->y.l=x.l/\y.s=x.s):=by
 obtain⟨b,hb,h1,h2⟩:=qdz hev
 cases b with
 |false=>
  have:=h2 rfl
  subst this
  exact⟨(Like.refl x).put _ _,fun t ht=>Cfg.put_f_ne _ _ _ _ ht,fun t=>Cfg.put_f_has _ _ _ _,fun _=>⟨Cfg.put_l _ _ _,Cfg.put_s _ _ _⟩⟩
 |true=>
  obtain⟨v,z,h3,rfl⟩:=h1 rfl
  rcases hk with hk|hk
  ·obtain⟨h4,h5⟩:=qeO hk h3
   exact⟨h5.put _ _,fun t ht=>by rw[Cfg.put_f_ne _ _ _ _ ht,h4],fun t=>by rw[Cfg.put_f_has,h4],fun e=>by rw[hk] at e;cases e⟩
  ·have:=qdb hk h3
   subst this
   exact⟨(Like.refl z).put _ _,fun t ht=>Cfg.put_f_ne _ _ _ _ ht,fun t=>Cfg.put_f_has _ _ _ _,fun _=>⟨Cfg.put_l _ _ _,Cfg.put_s _ _ _⟩⟩
end
mutual
theorem qga:∀(x y:zP),qbE x y=true->x=y
 |.int k a,y,h=>by
  cases y with
  |int k' b=>
   simp only[qbE,zae] at h
   rw[qcb,qbV] at h
   rw[of_decide_eq_true h.1,of_decide_eq_true h.2]
  |_=>simp[qbE] at h
 |.bool a,y,h=>by
  cases y with
  |bool b=>cases a<;>cases b<;>first|rfl|(simp[qbE] at h)
  |_=>simp[qbE] at h
 |.str a,y,h=>by
  cases y with
  |str b=>
   simp only[qbE] at h
   rw[qdo] at h
   rw[of_decide_eq_true h]
  |_=>simp[qbE] at h
 |.sl n cs,y,h=>by
  cases y with
  |sl m ds=>
   simp only[qbE,zae] at h
   rw[beq_iff.1 h.1,qbc cs ds h.2]
  |_=>simp[qbE] at h
 |.nilp,y,h=>by cases y<;>first|rfl|(simp[qbE] at h)
 |.nilFunc,y,h=>by cases y<;>first|rfl|(simp[qbE] at h)
 |.nilMap,y,h=>by cases y<;>first|rfl|(simp[qbE] at h)
 |.nilSl,y,h=>by cases y<;>first|rfl|(simp[qbE] at h)
 |.emSl,y,h=>by cases y<;>first|rfl|(simp[qbE] at h)
 |.nilIface,y,h=>by cases y<;>first|rfl|(simp[qbE] at h)
 |.nil0,y,h=>by cases y<;>first|rfl|(simp[qbE] at h)
 |.iface t a,y,h=>by
  cases y with
  |iface u b=>
   simp only[qbE,zae] at h
   rw[beq_iff.1 h.1,qga a b h.2]
  |_=>simp[qbE] at h
 |.func f a b,y,h=>by
  cases y with
  |func g c d=>
   simp only[qbE,zae] at h
   rw[beq_iff.1 h.1,qbc a c h.2.1,qbc b d h.2.2]
  |_=>simp[qbE] at h
 |.agg cs,y,h=>by
  cases y with
  |agg ds=>
   simp only[qbE] at h
   rw[qbc cs ds h]
  |_=>simp[qbE] at h
theorem qbc:∀(x y:List zP),qb4 x y=true->x=y
 |[],ys,h=>by cases ys with
  |nil=>rfl
  |cons=>simp[qb4] at h
 |x::xs,ys,h=>by
  cases ys with
  |nil=>simp[qb4] at h
  |cons y ys=>
   simp only[qb4,zae] at h
   rw[qga x y h.1,qbc xs ys h.2]
end
theorem qkj {a b:Tk}(h:qmV a b=true):a=b:=by
 cases a<;>cases b<;>first|rfl|(cases h;done)|(rw[beq_iff.1 h])
theorem qdc {α:Type}{f:α->α->Bool}(hf:∀a b,f a b=true->a=b):∀{a b:List α},qlq f a b=true->a=b
 |[],[],_=>rfl
 |x::xs,y::ys,h=>by
  simp only[qlq,zae] at h
  rw[hf _ _ h.1,qdc hf h.2]
 |[],_::_,h=>by cases h
 |_::_,[],h=>by cases h
theorem qiB (a b:zA)(h:qlp a b=true):a=b:=by
 unfold qlp at h
 split at h
 ·rw[qga _ _ h]
 ·simp only[zae] at h
  rw[beq_iff.1 h.1,qbc _ _ h.2.1,qkj h.2.2]
 ·simp only[zae] at h
  rw[beq_iff.1 h.1,beq_iff.1 h.2]
 ·simp only[zae] at h
  rw[beq_iff.1 h.1,beq_iff.1 h.2.1,beq_iff.1 h.2.2]
 ·simp only[zae] at h
  rw[qbc _ _ h.1,beq_iff.1 h.2]
 ·rw[beq_iff.1 h]
 ·rw[beq_iff.1 h]
 ·simp only[zae] at h
  obtain⟨h1,h2,h3,h4,h5,h6⟩:=h
  rw[beq_iff.1 h1,beq_iff.1 h2,beq_iff.1 h3,beq_iff.1 h4,beq_iff.1 h5]
  congr 1
  revert h6
  rename_i p p'
  cases p<;>cases p'<;>simp
 ·cases h
theorem qiC:∀(k:Nat) (a b:zA),qfM k a b=true->a=b
 |0,a,b,h=>qiB a b h
 |k+1,a,b,h=>by
  have ih:=qiC k
  unfold qfM at h
  split at h
  ·simp only[zae] at h
   rw[beq_iff.1 h.1,qdc ih h.2]
  ·simp only[zae] at h
   rw[beq_iff.1 h.1,qdc ih h.2]
  ·simp only[zae] at h
   rw[beq_iff.1 h.1,qdc ih h.2.1,qdc ih h.2.2]
  ·simp only[zae] at h
   rw[beq_iff.1 h.1,ih _ _ h.2]
  ·rw[qdc ih h]
  ·exact qiB _ _ h
theorem qiD (a b:zA)(h:qns a b=true):a=b:=qiC 8 a b h
theorem qlL (a b:zA)(h:qnt a b=true):a=b:=by
 unfold qnt at h
 split at h
 ·rw[qdc qiD h]
 ·exact qiD _ _ h
theorem qkk {a b:Option zA}(h:qcg a b=true):a=b:=by
 unfold qcg at h
 split at h
 ·rw[qlL _ _ h]
 ·cases h
end Go.AI
namespace Go.AI
variable {P:Program}
section
variable {E:Rom} {U pd:Nat->Option (List zA)} {l:Tr (Nat×List zA)} {s:ASt} {G G0:Gh} {w w0 w':World} {r:Nat}
theorem qcW (sw:Swap r w w')(hr:G.own r=.misc):∀(ad:Addr) v,w.cell? ad=some v->G.S ad.block ad.off->w'.cell? ad=some v/\G.S ad.block ad.off:=by
 intro ad v hc hs
 refine⟨?_,hs⟩
 have:ad.block≠r:=fun e'=>by
  unfold Gh.S at hs
  rw[e',hr] at hs
  exact hs
 unfold World.cell? at hc⊢
 rw[sw.same _ this]
 exact hc
theorem PR.quiet (sw:Swap r w w')(hr:G.own r=.misc){c:zP}{v:Value}(h:PR G.S w c v):PR G.S w' c v:=h.mono (qcW sw hr)
theorem Right.quiet (sw:Swap r w w')(hr:G.own r=.misc){n:Nat}{cs:List zP}{t:Nat}{a:Option Addr}{cap:Nat}(h:Right G w n cs t a cap):Right G w' n cs t a cap:=by
 refine⟨h.1,fun b m sz hb=>?_⟩
 obtain⟨h1,h2⟩:=h.2 b m sz hb
 refine⟨h1,fun e'=>?_⟩
 obtain⟨h3,h4,h5,c,E,h6,h7⟩:=h2 e'
 exact⟨h3,h4,h5,c,E,by rw[sw.same b (fun e'=>by rw[e',hr] at hb;cases hb)];exact h6,h7⟩
theorem VR.quiet (sw:Swap r w w')(hr:G.own r=.misc){c:zA}{v:Value}(h:VR G w c v):VR G w' c v:=by
 induction h with
 |p c v hp=>exact .p c v (hp.quiet sw hr)
 |full n cs a hp=>exact .full n cs a (hp.quiet sw hr)
 |own n cs t a cap hp q=>exact .own n cs t a cap (hp.quiet sw hr) (q.quiet sw hr)
 |lptr i g off b hb=>exact .lptr i g off b hb
 |ptr l off b hb=>exact .ptr l off b hb
 |elem cs i ad he=>
  refine .elem cs i ad fun j c hc=>?_
  obtain⟨v,h1,h2,h3,h4⟩:=he j c hc
  exact⟨v,(qcW sw hr (ad.add j) v h1 (by rw[qaQ,qbl];exact h2)).1,h2,h3.quiet sw hr,h4⟩
 |row n cs a cap vs hn hl h1 hc _ ih=>exact .row n cs a cap vs hn hl h1 (fun i v hv=>⟨(qcW sw hr (a.add i) v (hc i v hv).1 (by rw[qaQ,qbl];exact(hc i v hv).2)).1,(hc i v hv).2⟩) ih
 |rel cs i a vs hl h1 hc _ ih=>exact .rel cs i a vs hl h1 (fun i v hv=>⟨(qcW sw hr (a.add i) v (hc i v hv).1 (by rw[qaQ,qbl];exact(hc i v hv).2)).1,(hc i v hv).2⟩) ih
 |func f fs cps vs us hl hm _ _ ih ik=>exact .func f fs cps vs us hl hm ih ik
 |yield l b hb=>exact .yield l b hb
 |map l b hb=>exact .map l b hb
 |hs l off n cap sz op b cap' hb hn hc he hz=>
  obtain⟨c,E,fr,h1,h2⟩:=hz
  obtain⟨c',fr',h3,h4⟩:=sw.wideAll b c E fr h1
  exact .hs l off n cap sz op b cap' hb hn hc he ⟨c',E,fr',h3,by omega⟩
 |iface t c v _ ih=>exact .iface t c v ih
 |agg cs vs hl h1 _ ih=>exact .agg cs vs hl h1 ih
 |tuple cs vs hl _ ih=>exact .tuple cs vs hl ih
 |sym b ls n h hn=>exact .sym b ls n h hn
 |junk v=>exact .junk v
theorem BR.quiet (sw:Swap r w w')(hr:G.own r=.misc){b:Nat}(hb:b≠r){cs:List zA}(h:BR G w b cs):BR G w' b cs:=by
 obtain⟨c,E,h1,h2,h3,h4⟩:=h
 exact⟨c,E,by rw[sw.same b hb];exact h1,h2,h3,fun j a v ha hv=>(h4 j a v ha hv).quiet sw hr⟩
theorem OR.quiet (sw:Swap r w w')(hr:G.own r=.misc){b:Nat}(hb:b≠r)(hq:G.own b≠.misc){o:zH}(h:OR P G w b o):OR P G w' b o:=by
 cases o with
 |bld T e bs=>exact h.move (sw.same b hb) fun g hg he=>⟨sw.same g (fun e'=>hq (by rw[<-he,e',hr])),he⟩
 |bldf T e bs=>exact BldFR.move (sw.same b hb) (fun g hg he=>⟨sw.same g (fun e'=>hq (by rw[<-he,e',hr])),he⟩) h
 |cells cs=>exact⟨h.1.quiet sw hr hb,h.2⟩
 |map es=>
  obtain⟨⟨ents,h1,h2,h3⟩,h4⟩:=h
  exact⟨⟨ents,by rw[sw.same b hb];exact h1,h2,fun j k y e ha hv=>⟨(h3 j k y e ha hv).1.quiet sw hr,(h3 j k y e ha hv).2.1.quiet sw hr,(h3 j k y e ha hv).2.2⟩⟩,h4⟩
 |umap es=>
  obtain⟨⟨es',hp,hk,ents,h1,h2,h3⟩,h4⟩:=h
  exact⟨⟨es',hp,hk,ents,by rw[sw.same b hb];exact h1,h2,fun j k y e ha hv=>⟨(h3 j k y e ha hv).1.quiet sw hr,(h3 j k y e ha hv).2.1.quiet sw hr,(h3 j k y e ha hv).2.2⟩⟩,h4⟩
 |loop st pend f l ps a c=>
  obtain⟨q,h1,h2⟩:=h
  exact⟨q,by rw[sw.same b hb];exact h1,⟨h2.st_,h2.pend_,⟨fun t=>(h2.f_.1 t).quiet sw hr,h2.f_.2⟩,h2.aw,h2.ps_,h2.psl,h2.l_,h2.code⟩⟩
 |gone=>
  obtain⟨q,h1⟩:=h
  exact⟨q,by rw[sw.same b hb];exact h1⟩
 |iter m since last seen=>
  obtain⟨bm,h1,h2⟩:=h
  exact⟨bm,by rw[sw.same b hb];exact h1,h2.quiet sw hr⟩
theorem MR.quiet (h:MR P E U pd l s G w)(sw:Swap r w w')(hr:G.own r=.misc):MR P E U pd l s G w':=by
 have hne:∀y q,G.own y=q->q≠.misc->y≠r:=fun y q h1 h2 e'=>h2 (by rw[<-h1,e',hr])
 refine⟨fun b hb=>by rw[sw.size];exact h.own b hb,h.bOf,h.lo_,h.un,h.pdz,h.nt,fun i g cs hl hg hp=>?_,h.lam,fun k o hk=>?_,fun k o hk=>?_,h.tok.step (fun _ _ _ _ h=>h) (fun _ _ _ _ h=>h) (fun y _ _ _ ho=>sw.same y (hne y _ ho (by simp)))⟩
 ·obtain⟨b,h1,h2,h3⟩:=h.loc i g cs hl hg hp
  exact⟨b,h1,h2,h3.quiet sw hr (hne b _ h2 (by simp))⟩
 ·obtain⟨h1,h2⟩:=h.heap k o hk
  exact⟨h1,h2.imp id fun⟨b,h3,h4,h5⟩=>⟨b,h3,h4,h5.quiet sw hr (hne b _ h4 (by simp)) (by rw[h4];simp)⟩⟩
 ·obtain⟨h12,hph⟩:=h.ro k o hk
  refine⟨fun hlo=>?_,fun hhi=>?_⟩
  ·obtain⟨h1,h2⟩:=h12 hlo
   exact⟨h1,h2.imp id fun⟨b,j,h3,h4,h5⟩=>⟨b,j,h3,h4,h5.quiet sw hr (hne b _ h4 (by simp)) (by rw[h4];simp)⟩⟩
  ·obtain⟨j,h4,h5⟩:=hph hhi
   exact⟨j,h4,h5.go (sw.same _ (hne _ _ h4 (by simp))) fun a v _ h=>h.quiet sw hr⟩
theorem Ext.quiet (x:Ext G0 w0 G w)(sw:Swap r w w')(hr:w0.heap.size<=r):Ext G0 w0 G w' where
 size:=by rw[sw.size];exact x.size
 os:=sw.os.trans x.os
 tape:=sw.tape.trans x.tape
 output:=sw.output.trans x.output
 still:=fun b hb hs=>by
  obtain⟨h1,h2⟩:=x.still b hb hs
  exact⟨(sw.same b (by omega)).trans h1,h2⟩
 tok:=fun b t n sz hb ho=>by
  obtain⟨h1,h2⟩:=x.tok b t n sz hb ho
  refine⟨fun o v hlt hc=>?_,h2⟩
  have:=h1 o v hlt hc
  unfold World.cell? at this⊢
  rw[sw.same b (by omega)]
  exact this
 shape:=fun b t n sz c E' ho hc hx=>by
  obtain⟨c',h1,h2⟩:=x.shape b t n sz c E' ho hc hx
  have:=(zag.1 hc).1
  exact⟨c',by rw[sw.same b (by omega)];exact h1,h2⟩
 wide:=fun b c E' fr hc=>by
  obtain⟨c',fr',h1,h2⟩:=x.wide b c E' fr hc
  have:=(zag.1 hc).1
  exact⟨c',fr',by rw[sw.same b (by omega)];exact h1,h2⟩
 loc:=x.loc
 lcl:=x.lcl
 bOf:=x.bOf
 lam:=x.lam
 nt:=x.nt
 lo_:=x.lo_
 low:=x.low
 old:=x.old
theorem Marks.quiet {base:Nat}(sw:Swap r w w')(hr:w.heap[r]?≠some (.deferred (some []))):∀{ds:List Deferred},Marks base G w ds->Marks base G w' ds
 |[],_=>trivial
 |d::ds,⟨⟨q,h1,h2,h3,h4,h5⟩,h⟩=>⟨⟨q,h1,h2,h3,(sw.same q (fun e=>hr (by rw[<-e];exact h4))).trans h4,h5⟩,h.quiet sw hr⟩
def Gh.addM (G:Gh)(b:Nat):Gh:={G with own:=upd G.own b .misc}
theorem MR.miscNew (h:MR P E U pd l s G w)(o:Obj):Ext G w (G.addM w.heap.size) (w.alloc o)/\MR P E U pd l s (G.addM w.heap.size) (w.alloc o):=by
 have hf:=h.free (zaf w.heap.size)
 have k0:=Keep.alloc w o
 have x0:Ext G w (G.addM w.heap.size) (w.alloc o):=Ext.new k0 (zaf _) (fun y hy=>qak _ _ _ hy) hf (fun _ _ h=>h) (fun _ _ _ h=>h) (zaf _) rfl (fun _ _=>rfl) (fun t n sz h=>by simp[Gh.addM,qas] at h)
 have hne:∀y r,G.own y=r->r≠.free->y≠w.heap.size:=fun y r h1 h2 e=>h2 (by rw[<-h1,e,hf])
 have st:Step G w (G.addM w.heap.size) (w.alloc o) (fun y=>y=w.heap.size):=⟨x0,fun y hy hn=>⟨k0.same y hy,qak _ _ _ hn⟩⟩
 refine⟨x0,fun y hy=>?_,h.bOf,h.lo_,h.un,h.pdz,h.nt,h.loc.step st (fun y q r ho=>hne y _ ho (by simp)),h.lam,h.heap.step st (fun y q ho=>hne y _ ho (by simp)) (fun _ _ _ h=>h),h.ro.step st (fun y q ho=>hne y _ ho (by simp)),
  h.tok.step (fun y t n sz ho=>by simp only[Gh.addM];rw[qak _ _ _ (hne y _ ho (by simp))];exact ho) (fun y t n sz ho=>?_) (fun y _ _ _ ho=>k0.same y (h.own y (by rw[ho];simp)))⟩
 ·by_cases e':y=w.heap.size
  ·subst e';simp
  ·simp only[Gh.addM] at hy
   rw[qak _ _ _ e'] at hy
   exact zas (h.own y hy) k0.size
 ·have hy:y≠w.heap.size:=fun e'=>by subst e';simp[Gh.addM,qas] at ho
  simp only[Gh.addM] at ho
  rw[qak _ _ _ hy] at ho
  exact ho
section
variable {b q:Nat} (hb:G.own b=.misc) (hq:G.bOf q=none)
include hb hq
theorem qnR (y o:Nat):(G.addH b q).S y o↔G.S y o:=by
 have _u:=hq
 unfold Gh.S Gh.addH
 by_cases e:y=b
 ·subst e
  simp only[qas,hb]
  exact Iff.rfl
 ·simp only
  rw[qak _ _ _ e]
theorem qcL {y t m sz:Nat}:(G.addH b q).own y=.tok t m sz↔G.own y=.tok t m sz:=by
 have _u:=hq
 unfold Gh.addH
 by_cases e:y=b
 ·subst e
  simp only[qas,hb]
  constructor<;>intro h<;>cases h
 ·simp only
  rw[qak _ _ _ e]
theorem qct:Moves G (G.addH b q) w:=
 ⟨fun y o h=>(qnR hb hq y o).2 h,fun l y hl=>by
  unfold Gh.addH
  simp only
  rw[qak _ _ _ (fun e=>by subst e;rw[hq] at hl;cases hl)]
  exact hl,fun n cs t a cap h=>⟨h.1,fun y m sz hy=>h.2 y m sz ((qcL hb hq).1 hy)⟩⟩
theorem VR.adopt {c:zA}{v:Value}(h:VR G w c v):VR (G.addH b q) w c v:=by
 have M:Moves G (G.addH b q) w:=qct hb hq
 induction h with
 |p c v hp=>exact .p c v (M.pr hp)
 |full n cs a hp=>exact .full n cs a (M.pr hp)
 |own n cs t a cap hp r=>exact .own n cs t a cap (M.pr hp) (M.R _ _ _ _ _ r)
 |lptr i g off b hb=>exact .lptr i g off b hb
 |ptr l off b hb=>exact .ptr l off b (M.bOf _ _ hb)
 |elem cs i ad he=>
  refine .elem cs i ad fun j c hc=>?_
  obtain⟨v,h1,h2,h3,h4⟩:=he j c hc
  exact⟨v,h1,M.S _ _ h2,M.pr h3,h4⟩
 |row n cs a cap vs hn hl h1 hc _ ih=>exact .row n cs a cap vs hn hl h1 (fun i v hv=>⟨(hc i v hv).1,M.S _ _ (hc i v hv).2⟩) ih
 |rel cs i a vs hl h1 hc _ ih=>exact .rel cs i a vs hl h1 (fun i v hv=>⟨(hc i v hv).1,M.S _ _ (hc i v hv).2⟩) ih
 |func f fs cps vs us hl hm _ _ ih ik=>exact .func f fs cps vs us hl hm ih ik
 |yield l b hb=>exact .yield l b (M.bOf _ _ hb)
 |map l b hb=>exact .map l b (M.bOf _ _ hb)
 |hs l off n cap sz op b cap' hb hn hc he hz=>exact .hs l off n cap sz op b cap' (M.bOf _ _ hb) hn hc he hz
 |iface t c v _ ih=>exact .iface t c v ih
 |agg cs vs hl h1 _ ih=>exact .agg cs vs hl h1 ih
 |tuple cs vs hl _ ih=>exact .tuple cs vs hl ih
 |sym b ls n h hn=>exact .sym b ls n h hn
 |junk v=>exact .junk v
theorem qa4 {y:Nat}(h:y≠b):(G.addH b q).own y=G.own y:=by
 have _u:=hb
 have _v:=hq
 exact qak _ _ _ h
theorem MR.adopt (h:MR P E U pd l s G w){zs:List zA}(hu:U q=some zs){o:zH}{hp:Heap}(hs:qaI s.heap q o=some hp)(hor:OR P (G.addH b q) w b o):MR P E (upd U q none) pd l {s with heap:=hp} (G.addH b q) w:=by
 have M:Moves G (G.addH b q) w:=qct hb hq
 have hne:∀y r,G.own y=r->r≠.misc->y≠b:=fun y r h1 h2 e=>h2 (by rw[<-h1,e,hb])
 have qaI:=qa3 hs
 have hor':∀{y k:Nat} {r:Own} {o':zH},G.own y=r->r≠.misc->OR P G w y o'->OR P (G.addH b q) w y o':=fun {y k r o'} ho hr hx=>M.or (fun g hg=>by
  have hy:=hne y _ ho hr
  rw[qa4 hb hq hy]
  by_cases e:g=b
  ·subst e;rw[hb,ho] at hg;exact absurd hg.symm hr
  ·rw[qa4 hb hq e,hg]) hx
 refine⟨fun y hy=>?_,fun k y hk=>?_,h.lo_,fun k z hk=>?_,h.pdz,h.nt,fun i g cs hl hg hpd=>?_,h.lam,fun k o' hk=>?_,fun k o' hk=>?_,h.tok.step (fun y t n sz ho=>(qcL hb hq).2 ho) (fun y t n sz ho=>(qcL hb hq).1 ho) (fun _ _ _ _ _=>rfl)⟩
 ·by_cases e:y=b
  ·subst e;exact h.own y (by rw[hb];simp)
  ·rw[qa4 hb hq e] at hy;exact h.own y hy
 ·by_cases e:k=q
  ·subst e;exact(h.heap _ _ (h.un _ _ hu).2.1).1
  ·have hk':G.bOf k=some y:=by
    unfold Gh.addH at hk
    simp only at hk
    rw[qak _ _ _ e] at hk
    exact hk
   exact h.bOf k y hk'
 ·have e:k≠q:=fun e=>by subst e;rw[qas] at hk;cases hk
  rw[qak _ _ _ e] at hk
  obtain⟨h1,h2,h3⟩:=h.un k z hk
  refine⟨?_,?_,h3⟩
  ·show upd G.bOf q (some b) k=none
   rw[qak _ _ _ e];exact h1
  ·show qaD hp k=_
   rw[qaI,if_neg e];exact h2
 ·obtain⟨y,h1,h2,h3⟩:=h.loc i g cs hl hg hpd
  have hy:=hne y _ h2 (by simp)
  refine⟨y,h1,(qa4 hb hq hy).trans h2,?_⟩
  obtain⟨c,T,h4,h5,h6,h7⟩:=h3
  exact⟨c,T,h4,h5,h6,fun j a v ha hv=>(h7 j a v ha hv).adopt hb hq⟩
 ·have hk':qaD hp k=some o':=hk
  rw[qaI] at hk'
  by_cases e:k=q
  ·subst e
   rw[if_pos rfl] at hk'
   cases hk'
   exact⟨(h.heap _ _ (h.un _ _ hu).2.1).1,.inr ⟨b,qas _ _ _,qas _ _ _,hor⟩⟩
  ·rw[if_neg e] at hk'
   obtain⟨h1,h2⟩:=h.heap k o' hk'
   refine⟨h1,h2.imp (fun h3=>(qak _ _ _ e).trans h3) fun⟨y,h3,h4,h5⟩=>⟨y,(qak _ _ _ e).trans h3,(qa4 hb hq (hne y _ h4 (by simp))).trans h4,hor' (k:=k) h4 (by simp) h5⟩⟩
 ·obtain⟨h1,h2⟩:=h.ro k o' hk
  refine⟨fun hlo=>?_,fun hhi=>?_⟩
  ·obtain⟨h3,h4⟩:=h1 hlo
   have e:k≠q:=fun e=>by
    have:=(h.un q zs hu).2.2
    omega
   exact⟨h3,h4.imp (fun h5=>(qak _ _ _ e).trans h5) fun⟨y,j,h5,h6,h7⟩=>⟨y,j,(qak _ _ _ e).trans h5,(qa4 hb hq (hne y _ h6 (by simp))).trans h6,hor' (k:=k) h6 (by simp) h7⟩⟩
  ·obtain⟨j,h3,h4⟩:=h2 hhi
   exact⟨j,(qa4 hb hq (hne _ _ h3 (by simp))).trans h3,h4.go rfl fun a v ha hx=>M.at1 hx ha⟩
theorem Ext.adopt (x:Ext G0 w0 G w)(hr:w0.heap.size<=b)(hlo:G.lo<=q):Ext G0 w0 (G.addH b q) w where
 size:=x.size
 os:=x.os
 tape:=x.tape
 output:=x.output
 still:=fun y hy hs=>by
  obtain⟨h1,h2⟩:=x.still y hy hs
  exact⟨h1,(qa4 hb hq (by omega)).trans h2⟩
 tok:=fun y t n sz hy ho=>by
  obtain⟨h1,h2⟩:=x.tok y t n sz hy ho
  rw[qa4 hb hq (by omega)]
  exact⟨h1,h2⟩
 shape:=fun y t n sz c E' ho hc ⟨n',hx⟩=>x.shape y t n sz c E' ho hc ⟨n',(qcL hb hq).1 hx⟩
 wide:=x.wide
 loc:=fun y l hy=>by
  by_cases e:y=b
  ·exact⟨q,by rw[e];exact qas _ _ _⟩
  ·rw[qa4 hb hq e];exact x.loc y l hy
 lcl:=fun y i g hy=>by
  have h1:=x.lcl y i g hy
  rw[qa4 hb hq (fun e=>by rw[e,hb] at h1;cases h1)]
  exact h1
 bOf:=fun l y hl=>(qct (w:=w) hb hq).bOf _ _ (x.bOf l y hl)
 lam:=x.lam
 nt:=x.nt
 lo_:=x.lo_
 low:=fun k hk=>by
  have:k≠q:=fun e=>by
   have:=x.lo_
   omega
  exact(qak _ _ _ this).trans (x.low k hk)
 old:=fun y t m sz hy ht=>x.old y t m sz ((qcL hb hq).1 hy) ht
theorem Marks.adopt {base:Nat}(hn:w.heap[b]?≠some (.deferred (some []))):∀{ds:List Deferred},Marks base G w ds->Marks base (G.addH b q) w ds
 |[],_=>trivial
 |d::ds,⟨⟨r,h1,h2,h3,h4,h5⟩,h⟩=>⟨⟨r,h1,h2,(qa4 hb hq (fun e=>hn (by rw[<-e];exact h4))).trans h3,h4,h5⟩,h.adopt hn⟩
end
end
end Go.AI
namespace Go.AI
variable {P:Program} {e:Env} {lof:Nat->Option Nat} {nt base:Nat} {ops:Array Oper} {cs:List COp} {ms:List Nat} {tr:Nat->Cfg} {G0:Gh} {w0:World} {U0:Nat->Option (List zA)}
def Al (lof:Nat->Option Nat)(o:Oper)(t:Op):Prop:=o.op=t/\qo9 lof o=true
def AL (P:Program)(lof:Nat->Option Nat)(ops:Array Oper)(cs:List COp)(i q:Nat)(z:List zA):Prop:=∃o co t,ops[i]? =some o/\cs[i]? =some co/\co.op=.alloced q/\Al lof o t/\opZ P t=some z
def HL (P:Program)(lof:Nat->Option Nat)(ops:Array Oper)(cs:List COp)(h:List (Nat×Nat))(i q:Nat)(z:List zA):Prop:=∃o co t d,ops[i]? =some o/\cs[i]? =some co/\(∃m,co.op=.halloced m d)/\qap h d=some q/\Al lof o t/\opZ P t=some z
structure Drawn (P:Program)(e:Env)(lof:Nat->Option Nat)(nt:Nat)(ops:Array Oper)(cs:List COp)(ms:List Nat)(tr:Nat->Cfg):Prop where
 len:cs.length=ops.size
 cop:∀(i:Nat) o co,ops[i]? =some o->cs[i]? =some co->cOp P lof true nt ops o=some co
 step:∀(i:Nat) co,cs[i]? =some co->qht e (tr i) co=some (tr (i+1))
 kind:∀(i:Nat) co,cs[i]? =some co->co.op.heavy=true\/co.op.light=true
 pair:∀(i j:Nat) a b,i<j->cs[i]? =some a->cs[j]? =some b->qd0 ms i a j b=true
 wlt:∀k i,qa2 ms k i=true->i<k
 al1:∀i j q z z',AL P lof ops cs i q z->AL P lof ops cs j q z'->i=j
 hl1:∀i j q z z',HL P lof ops cs (tr 0).h i q z->HL P lof ops cs (tr 0).h j q z'->i=j
 hl2:∀(i:Nat) co m d,cs[i]? =some co->co.op=.halloced m d->∃q,qap (tr 0).h d=some q
 pre:∀(i:Nat) o co,ops[i]? =some o->cs[i]? =some co->qgG co.op=true->∃t,Al lof o t
 grd:∀(i:Nat) co,cs[i]? =some co->qgG co.op=true->co.guard=none
 chk:∀(i j:Nat) co b,cs[i]? =some co->qbH co.op=true->wanted (tr i).f co.guard=some true->cs[j]? =some b->b.op.heavy=true->qa2 ms j i=false->qa2 ms i j=false->
  rdv e (tr i).f co.op (tr (j+1)).l (tr (j+1)).s=rdv e (tr i).f co.op (tr j).l (tr j).s
 lh:∀t j,lof t=some j->(tr 0).l.has j=true
 has0:∀t,t<nt->(tr 0).f.has t=true
section
variable (D:Drawn P e lof nt ops cs ms tr)
include D
theorem Drawn.like (i:Nat)(h:i<=cs.length):Like (tr 0) (tr i):=by
 induction i with
 |zero=>exact .refl _
 |succ i ih=>
  have hi:cs[i]? =some (cs[i]'(by omega)):=zai (by omega)
  exact(ih (by omega)).trans (qcj (D.kind i _ hi) (D.step i _ hi)).1
theorem Drawn.has (i:Nat)(h:i<=cs.length)(t:Nat)(ht:t<nt):(tr i).f.has t=true:=by
 induction i with
 |zero=>exact D.has0 t ht
 |succ i ih=>
  have hi:cs[i]? =some (cs[i]'(by omega)):=zai (by omega)
  rw[(qcj (D.kind i _ hi) (D.step i _ hi)).2.2.1]
  exact ih (by omega)
theorem Drawn.frame {i k t:Nat}(hik:i<=k)(hk:k<=cs.length)(hn:∀(j:Nat) b,i<=j->j<k->cs[j]? =some b->b.dst≠some t):(tr k).f.get qaf t=(tr i).f.get qaf t:=by
 induction k with
 |zero=>rw[show i=0 by omega]
 |succ k ih=>
  by_cases e:i=k+1
  ·rw[e]
  ·have hi:cs[k]? =some (cs[k]'(by omega)):=zai (by omega)
   rw[(qcj (D.kind k _ hi) (D.step k _ hi)).2.1 t (hn k _ (by omega) (by omega) hi)]
   exact ih (by omega) (by omega) fun j b h1 h2=>hn j b h1 (by omega)
theorem Drawn.mem {i k:Nat}(hik:i<=k)(hk:k<=cs.length)(hn:∀(j:Nat) b,i<=j->j<k->cs[j]? =some b->b.op.heavy=false):(tr k).l=(tr i).l/\(tr k).s=(tr i).s:=by
 induction k with
 |zero=>rw[show i=0 by omega];exact⟨rfl,rfl⟩
 |succ k ih=>
  by_cases e:i=k+1
  ·rw[e];exact⟨rfl,rfl⟩
  ·have hi:cs[k]? =some (cs[k]'(by omega)):=zai (by omega)
   obtain⟨h1,h2⟩:=(qcj (D.kind k _ hi) (D.step k _ hi)).2.2.2 (hn k _ (by omega) (by omega) hi)
   obtain⟨h3,h4⟩:=ih (by omega) (by omega) fun j b h1 h2=>hn j b h1 (by omega)
   exact⟨h1.trans h3,h2.trans h4⟩
theorem Drawn.read {f:Tr zA}{op:Ins}{i k:Nat}(hik:i<=k)(hk:k<=cs.length)(hn:∀(j:Nat) b,i<=j->j<k->cs[j]? =some b->b.op.heavy=true->rdv e f op (tr (j+1)).l (tr (j+1)).s=rdv e f op (tr j).l (tr j).s):
  rdv e f op (tr k).l (tr k).s=rdv e f op (tr i).l (tr i).s:=by
 induction k with
 |zero=>rw[show i=0 by omega]
 |succ k ih=>
  by_cases e:i=k+1
  ·rw[e]
  ·have hi:cs[k]? =some (cs[k]'(by omega)):=zai (by omega)
   rw[<-ih (by omega) (by omega) fun j b h1 h2=>hn j b h1 (by omega)]
   cases hh:(cs[k]'(by omega)).op.heavy with
   |true=>exact hn k _ (by omega) (by omega) hi hh
   |false=>
    obtain⟨h1,h2⟩:=(qcj (D.kind k _ hi) (D.step k _ hi)).2.2.2 hh
    rw[h1,h2]
end
structure Inv (P:Program)(e:Env)(lof:Nat->Option Nat)(U0:Nat->Option (List zA))(nt base:Nat)(ops:Array Oper)(cs:List COp)(tr:Nat->Cfg)(G0:Gh)(w0:World)(S:Nat->Prop)(U pd:Nat->Option (List zA))(m:Nat)(G:Gh)(a:Act)(w:World):Prop where
 ext:Ext G0 w0 G w
 mr:MR P e.E U pd (tr m).l (tr m).s G w
 mle:m<=cs.length
 heavy:∀(j:Nat) b,cs[j]? =some b->b.op.heavy=true->(S j↔j<m)
 tmp:∀t,∃v,VR G w v (a.tmps.getD t undef)/\((∃(i:Nat) (co:COp),S i/\cs[i]? =some co/\co.dst=some t/\v=(tr (i+1)).f.get qaf t/\∀(j:Nat) b,S j->i<j->cs[j]? =some b->b.dst≠some t)\/
  ((∀(j:Nat) b,S j->cs[j]? =some b->b.dst≠some t)/\v=(tr 0).f.get qaf t))
 sz:a.tmps.size=nt
 df:Marks base G w a.defers
 pd_:∀q z,pd q=some z↔∃i,¬S i/\AL P lof ops cs i q z
 u_:∀q z,U q=some z↔U0 q=some z\/∃i,¬S i/\HL P lof ops cs (tr 0).h i q z
 u0:∀d q,qap (tr 0).h d=some q->U0 q=none
section
variable (D:Drawn P e lof nt ops cs ms tr) {S:Nat->Prop} {U pd:Nat->Option (List zA)} {m:Nat} {G:Gh} {a:Act} {w:World} (I:Inv P e lof U0 nt base ops cs tr G0 w0 S U pd m G a w)
include D I
theorem Inv.reads {i:Nat}{co:COp}(hi:cs[i]? =some co)(hS:¬S i)(hcl:∀k j,S k->qa2 ms k j=true->S j)(hrd:∀k,qa2 ms i k=true->S k){t:Nat}(ht:t∈co.reads):VR G w ((tr i).f.get qaf t) (a.tmps.getD t undef):=by
 have hil:i<cs.length:=(zah.1 hi).1
 obtain⟨v,hv,hcase⟩:=I.tmp t
 have hwr:∀(j:Nat) b,cs[j]? =some b->b.dst=some t->j<i->S j:=by
  intro j b hj hd hji
  have:=D.pair j i b co hji hj hi
  unfold qd0 at this
  simp only[zaG,zae,zaj] at this
  rcases this with h|⟨_,h,_⟩
  ·exact hrd j h
  ·have:=h t (by unfold qbT;rw[hd];exact List.mem_singleton.2 rfl)
   simp only[zaC,List.contains_eq_mem,decide_eq_false_iff_not] at this
   exact absurd ht this.1
 have hbe:∀(j:Nat) b,cs[j]? =some b->b.dst=some t->i<j->¬S j:=by
  intro j b hj hd hij hSj
  have:=D.pair i j co b hij hi hj
  unfold qd0 at this
  simp only[zaG,zae,zaj] at this
  rcases this with h|⟨_,_,h⟩
  ·exact hS (hcl j i hSj h)
  ·have:=h t (by unfold qbT;rw[hd];exact List.mem_singleton.2 rfl)
   simp only[zaC,List.contains_eq_mem,decide_eq_false_iff_not] at this
   exact absurd ht this
 rcases hcase with⟨k,b,hSk,hk,hd,rfl,hlast⟩|⟨hno,rfl⟩
 ·have hki:k<i:=by
   rcases Nat.lt_trichotomy k i with h|h|h
   ·exact h
   ·subst h;exact absurd hSk hS
   ·exact absurd hSk (hbe k b hk hd h)
  rw[D.frame (i:=k+1) (k:=i) hki (by omega) fun j b' h1 h2 hj hd'=>hlast j b' (hwr j b' hj hd' h2) (by omega) hj hd']
  exact hv
 ·rw[D.frame (i:=0) (k:=i) (by omega) (by omega) fun j b' h1 h2 hj hd'=>hno j b' (hwr j b' hj hd' h2) hj hd']
  exact hv
theorem Inv.next {i:Nat}{co:COp}(hi:cs[i]? =some co)(hS:¬S i)(hcl:∀k j,S k->qa2 ms k j=true->S j){m':Nat}(hm':m'<=cs.length)(hheavy:∀(j:Nat) b,cs[j]? =some b->b.op.heavy=true->((S j\/j=i)↔j<m')){U' pd':Nat->Option (List zA)}
  (hpd:∀q z,pd' q=some z↔∃k,¬(S k\/k=i)/\AL P lof ops cs k q z)(hu:∀q z,U' q=some z↔U0 q=some z\/∃k,¬(S k\/k=i)/\HL P lof ops cs (tr 0).h k q z)
  {G':Gh}{w':World}(x:Ext G w G' w')(mr:MR P e.E U' pd' (tr m').l (tr m').s G' w'){v:zA}{u:Value}(hv:VR G' w' v u)(hd:∀t,co.dst=some t->t<nt/\v=(tr (i+1)).f.get qaf t):
  Inv P e lof U0 nt base ops cs tr G0 w0 (fun j=>S j\/j=i) U' pd' m' G' (a.put co.dst u) w':=by
 have hbe:∀(j:Nat) b t,cs[j]? =some b->b.dst=some t->co.dst=some t->i<j->¬S j:=by
  intro j b t hj hd hco hij hSj
  have:=D.pair i j co b hij hi hj
  unfold qd0 at this
  simp only[zaG,zae,zaj] at this
  rcases this with h|⟨_,h,_⟩
  ·exact hS (hcl j i hSj h)
  ·have:=(h t (by unfold qbT;rw[hco];exact List.mem_singleton.2 rfl)).2
   unfold qbT at this
   rw[hd] at this
   simp at this
 refine⟨I.ext.trans x,mr,hm',hheavy,fun t=>?_,by rw[qf8];exact I.sz,by rw[qdS];exact I.df.ext x,hpd,hu,I.u0⟩
 by_cases e:co.dst=some t
 ·obtain⟨htn,hvt⟩:=hd t e
  refine⟨v,?_,.inl ⟨i,co,.inr rfl,hi,e,hvt,fun j b hj hij hb=>?_⟩⟩
  ·rw[e]
   have:(a.put (some t) u).tmps.getD t undef=u:=by
    rw[qee,zao,Array.getElem?_setIfInBounds]
    simp[I.sz,htn]
   rw[this]
   exact hv
  ·intro hd'
   rcases hj with hj|hj
   ·exact hbe j b t hb hd' e hij hj
   ·omega
 ·obtain⟨v',hv',hc⟩:=I.tmp t
  refine⟨v',?_,?_⟩
  ·have:(a.put co.dst u).tmps.getD t undef=a.tmps.getD t undef:=by
    cases hco:co.dst with
    |none=>rfl
    |some d=>
     rw[qee,zao,Array.getElem?_setIfInBounds,zao]
     rw[if_neg (fun e'=>e (by rw[hco,e']))]
   rw[this]
   exact hv'.ext x
  ·rcases hc with⟨k,b,hSk,hk,hd',hvv,hlast⟩|⟨hno,hvv⟩
   ·refine .inl ⟨k,b,.inl hSk,hk,hd',hvv,fun j b' hj hkj hb'=>?_⟩
    rcases hj with hj|hj
    ·exact hlast j b' hj hkj hb'
    ·subst hj
     rw[hi] at hb'
     cases hb'
     exact e
   ·refine .inr ⟨fun j b hj hb=>?_,hvv⟩
    rcases hj with hj|hj
    ·exact hno j b hj hb
    ·subst hj
     rw[hi] at hb
     cases hb
     exact e
theorem Inv.place {i:Nat}{co:COp}(hi:cs[i]? =some co)(hh:co.op.heavy=true)(hS:¬S i)(hcl:∀k j,S k->qa2 ms k j=true->S j)(hrd:∀k,qa2 ms i k=true->S k):
  (tr i).l=(tr m).l/\(tr i).s=(tr m).s/\∀(j:Nat) b,cs[j]? =some b->b.op.heavy=true->((S j\/j=i)↔j<i+1):=by
 have hil:i<cs.length:=(zah.1 hi).1
 have hbefore:∀(j:Nat) b,cs[j]? =some b->b.op.heavy=true->j<i->S j:=by
  intro j b hj hb hji
  have:=D.pair j i b co hji hj hi
  unfold qd0 at this
  simp only[zaG,zae,hb,hh] at this
  rcases this with h|⟨h,_⟩
  ·exact hrd j h
  ·simp at h
 have hafter:∀(j:Nat) b,cs[j]? =some b->b.op.heavy=true->i<j->¬S j:=by
  intro j b hj hb hij hSj
  have:=D.pair i j co b hij hi hj
  unfold qd0 at this
  simp only[zaG,zae,hb,hh] at this
  rcases this with h|⟨h,_⟩
  ·exact hS (hcl j i hSj h)
  ·simp at h
 have hmi:m<=i:=by
  rcases Nat.lt_or_ge i m with h|h
  ·exact absurd ((I.heavy i co hi hh).2 h) hS
  ·exact h
 obtain⟨h1,h2⟩:=D.mem hmi (by omega) fun j b hj1 hj2 hb=>by
  cases hbh:b.op.heavy with
  |false=>rfl
  |true=>
   have:=(I.heavy j b hb hbh).1 (hbefore j b hb hbh hj2)
   omega
 refine⟨h1,h2,fun j b hj hb=>⟨fun h=>?_,fun h=>?_⟩⟩
 ·rcases h with h|h
  ·rcases Nat.lt_trichotomy j i with h'|h'|h'
   ·omega
   ·omega
   ·exact absurd h (hafter j b hj hb h')
  ·omega
 ·rcases Nat.lt_or_ge j i with h'|h'
  ·exact .inl (hbefore j b hj hb h')
  ·exact .inr (by omega)
theorem Inv.light {i:Nat}{co:COp}(hi:cs[i]? =some co)(hh:co.op.heavy=false):∀(j:Nat) b,cs[j]? =some b->b.op.heavy=true->((S j\/j=i)↔j<m):=by
 have _:=D
 intro j b hj hb
 have:j≠i:=fun e=>by subst e;rw[hi] at hj;cases hj;rw[hh] at hb;cases hb
 rw[<-I.heavy j b hj hb]
 exact⟨fun h=>h.resolve_right this,.inl⟩
theorem Inv.pd_same {i:Nat}{co:COp}(hi:cs[i]? =some co)(hn:(∀q,co.op≠.alloced q)/\∀m d,co.op≠.halloced m d):
  (∀q z,pd q=some z↔∃k,¬(S k\/k=i)/\AL P lof ops cs k q z)/\(∀q z,U q=some z↔U0 q=some z\/∃k,¬(S k\/k=i)/\HL P lof ops cs (tr 0).h k q z):=by
 have _:=D
 constructor
 ·intro q z
  rw[I.pd_]
  constructor
  ·rintro ⟨k,h1,h2⟩
   refine⟨k,fun h=>h.elim h1 fun e=>?_,h2⟩
   obtain⟨o,co',t,_,h3,h4,_⟩:=h2
   subst e
   rw[hi] at h3
   cases h3
   exact hn.1 q h4
  ·rintro ⟨k,h1,h2⟩
   exact⟨k,fun h=>h1 (.inl h),h2⟩
 ·intro q z
  rw[I.u_]
  constructor
  ·rintro (h|⟨k,h1,h2⟩)
   ·exact .inl h
   refine .inr ⟨k,fun h=>h.elim h1 fun e=>?_,h2⟩
   obtain⟨o,co',t,d,_,h3,⟨m,h4⟩,_⟩:=h2
   subst e
   rw[hi] at h3
   cases h3
   exact hn.2 m d h4
  ·rintro (h|⟨k,h1,h2⟩)
   ·exact .inl h
   exact .inr ⟨k,fun h=>h1 (.inl h),h2⟩
end
end Go.AI
namespace Go.AI
variable {P:Program} {e:Env} {lof:Nat->Option Nat} {nt base:Nat} {ops:Array Oper} {cs:List COp} {ms:List Nat} {tr:Nat->Cfg} {G0:Gh} {w0:World} {U0:Nat->Option (List zA)}
theorem qbZ {o:Oper}{t:Op}{i:Ins}(h:qhz P lof true o=some i)(hop:Al lof o t):∃z d,opZ P t=some z/\o.dst=some d/\((∃q,i=.alloced q/\lof d=some q/\∃ty,t=.alloc ty)\/(∃m,i=.halloced m d/\lof d=none/\((m=false/\∃ty,t=.alloc ty)\/(m=true/\∃ty,t=.makeMap ty none)))):=by
 obtain⟨rfl,ha⟩:=hop
 unfold qo9 at ha
 cases hop:o.op<;>rw[hop] at ha<;>try (cases ha;done)
 case alloc ty=>
  simp only[qhz,hop] at h
  split at h
  ·simp only[cond_true] at h
   cases h
  simp only[zab,zac] at h
  obtain⟨d,hd,z,hz,h⟩:=h
  split at h
  ·rename_i j hj
   exact⟨z,d,hz,hd,.inl ⟨j,h.symm,hj,ty,rfl⟩⟩
  ·rename_i hj
   exact⟨z,d,hz,hd,.inr ⟨false,h.symm,hj,.inl ⟨rfl,ty,rfl⟩⟩⟩
 case makeMap ty r=>
  cases r with
  |some r=>cases ha
  |none=>
  simp only[qhz,hop] at h
  split at h<;>try (cases h;done)
  rcases qdt h with⟨e,_⟩|⟨_,d,hd,⟨hl,_⟩|⟨_,hj,rfl⟩⟩
  ·cases e
  ·rw[hd] at ha
   simp only[hl] at ha
   cases ha
  ·exact⟨_,d,rfl,hd,.inr ⟨true,rfl,hj,.inr ⟨rfl,ty,rfl⟩⟩⟩
theorem qg1 {i:Ins}:qgG i=false->(∀q,i≠.alloced q)/\∀m d,i≠.halloced m d:=by
 intro h
 exact⟨fun q e=>(by subst e;cases h),fun _ q e=>(by subst e;cases h)⟩
section
variable (D:Drawn P e lof nt ops cs ms tr) {S:Nat->Prop} {U pd:Nat->Option (List zA)} {m:Nat} {G:Gh} {a:Act} {w:World} (I:Inv P e lof U0 nt base ops cs tr G0 w0 S U pd m G a w)
include D I
theorem Inv.reading {i:Nat}{co:COp}(hi:cs[i]? =some co)(hl:qbH co.op=true)(hw:wanted (tr i).f co.guard=some true)(hS:¬S i)(hcl:∀k j,S k->qa2 ms k j=true->S j)(hrd:∀k,qa2 ms i k=true->S k):
  rdv e (tr i).f co.op (tr m).l (tr m).s=rdv e (tr i).f co.op (tr i).l (tr i).s:=by
 have hil:i<cs.length:=(zah.1 hi).1
 have fls:∀k j,qa2 ms k j≠true->qa2 ms k j=false:=fun k j h=>by cases e:qa2 ms k j<;>simp_all
 rcases Nat.le_total m i with hmi|hmi
 ·symm
  refine D.read hmi (by omega) fun j b h1 h2 hj hb=>D.chk i j co b hi hl hw hj hb (fls _ _ fun h=>?_) (fls _ _ fun h=>?_)
  ·have:=D.wlt _ _ h;omega
  ·have:=(I.heavy j b hj hb).1 (hrd j h);omega
 ·refine D.read hmi I.mle fun j b h1 h2 hj hb=>D.chk i j co b hi hl hw hj hb (fls _ _ fun h=>?_) (fls _ _ fun h=>?_)
  ·exact hS (hcl j i ((I.heavy j b hj hb).2 h2) h)
  ·have:=D.wlt _ _ h;omega
theorem qkl {ro:Option Nat}(se:SoundEnv P e){i:Nat}{o:Oper}{co:COp}(ho:ops[i]? =some o)(hi:cs[i]? =some co)(hS:¬S i)(hcl:∀k j,S k->qa2 ms k j=true->S j)(hrd:∀k,qa2 ms i k=true->S k){K:Act->World->Prop}{Q:Exit->Act->World->Prop}
  (hlate:qa5 co.op=false)(k:∀U' pd' m' G' u w',Ext G w G' w'->Inv P e lof U0 nt base ops cs tr G0 w0 (fun j=>S j\/j=i) U' pd' m' G' (a.put o.dst u) w'->K (a.put o.dst u) w'):
  if Region.wanted o (yielded ops a.tmps) then o.wpIn (FW ro) 0 P a w K Q else(∀f,o.about P w a.eval=some f->(FW ro).fn f)/\K (a.put o.dst undef) w:=by
 have hil:i<cs.length:=(zah.1 hi).1
 have hco:=D.cop i o co ho hi
 obtain⟨hins,hdst,hdn⟩:=qc3 hco
 have hrds:=fun {t} (ht:t∈co.reads)=>I.reads D hi hS hcl hrd ht
 obtain⟨b,hb,hT,hF⟩:=qdz (D.step i co hi)
 rw[qeN hco hb (fun t b' hg=>hrds (by unfold COp.reads;rw[hg];simp))]
 have hputf:∀(z:Cfg) (v:zA),z.f=(tr i).f->∀t,co.dst=some t->t<nt/\v=(z.put co.dst v).f.get qaf t:=by
  intro z v hz t ht
  have htn:=hdn t (by rw[<-hdst];exact ht)
  refine⟨htn,?_⟩
  rw[ht]
  exact(Tr.get_set_eq _ _ _ _ (by rw[hz];exact D.has i (by omega) t htn)).symm
 have hmem:∃m',m'<=cs.length/\(∀(j:Nat) b,cs[j]? =some b->b.op.heavy=true->((S j\/j=i)↔j<m'))/\(co.op.heavy=true->m'=i+1/\(tr m).l=(tr i).l/\(tr m).s=(tr i).s)/\(co.op.heavy=false->m'=m):=by
  cases hh:co.op.heavy with
  |true=>
   obtain⟨h1,h2,h3⟩:=I.place D hi hh hS hcl hrd
   exact⟨i+1,by omega,h3,fun _=>⟨rfl,h1.symm,h2.symm⟩,fun e=>by cases e⟩
  |false=>exact⟨m,I.mle,I.light D hi hh,(fun e=>by cases e),fun _=>rfl⟩
 obtain⟨m',hm',hheavy,hmh,hml⟩:=hmem
 cases b with
 |false=>
  rw[if_neg (by simp)]
  have hnp:qgG co.op=false:=by
   cases hq:qgG co.op with
   |false=>rfl
   |true=>
    rw[D.grd i co hi hq] at hb
    cases hb
  obtain⟨hpd,hu⟩:=I.pd_same D hi (qg1 hnp)
  have hstep:=hF rfl
  refine⟨fun _ _=>trivial,k U pd m' G _ w (Ext.refl G w) ?_⟩
  have hls:(tr m').l=(tr m).l/\(tr m').s=(tr m).s:=by
   cases hh:co.op.heavy with
   |true=>
    obtain⟨e1,e2,e3⟩:=hmh hh
    rw[e1,hstep,Cfg.put_l,Cfg.put_s]
    exact⟨e2.symm,e3.symm⟩
   |false=>rw[hml hh];exact⟨rfl,rfl⟩
  rw[<-hdst]
  exact I.next D hi hS hcl hm' hheavy hpd hu (Ext.refl G w) (by rw[hls.1,hls.2];exact I.mr) .undef (fun t ht=>by rw[hstep];exact hputf (tr i) qaf rfl t ht)
 |true=>
  rw[if_pos rfl]
  obtain⟨v,z,hev,hstep⟩:=hT rfl
  have hR:qan G w (tr i).f a (co.op.args.flatMap Arg.tmps):=fun t ht=>hrds (by unfold COp.reads;exact List.mem_append_right _ ht)
  have hlike:=D.like i (by omega)
  have hlm:=D.like m I.mle
  cases hq:qgG co.op with
  |false=>
   have hnp:=qg1 hq
   obtain⟨hpd,hu⟩:=I.pd_same D hi hnp
   cases hh:co.op.heavy with
   |true=>
    obtain⟨e1,e2,e3⟩:=hmh hh
    obtain⟨hzf,_⟩:=qeO hh hev
    obtain⟨k1,k2,k3,k4,k5⟩:=qkg (c:=tr i) (c':=z) se (by rw[<-e2,<-e3];exact I.mr) hins (fun _=>⟨hnp.1,hnp.2,hlate⟩) (fun t j hj=>by rw[hlike.has];exact D.lh t j hj) (fun e=>by cases e) hR hev
    refine qbg hins k5 fun u w' ⟨G',x,mr,hv⟩=>k U pd m' G' _ w' x ?_
    rw[<-hdst]
    exact I.next D hi hS hcl hm' hheavy hpd hu x (by rw[e1,hstep,Cfg.put_l,Cfg.put_s];exact mr) hv (fun t ht=>by rw[hstep];exact hputf z v hzf t ht)
   |false=>
    have hlight:=(D.kind i co hi).resolve_left (by rw[hh];simp)
    have hz:=qdb hlight hev
    have em:=hml hh
    have k5:NextP P (qa8 P e.E U pd G w (tr m).l (tr m).s v) ((execOp a.eval o).run P w):=by
     cases hpu:qaX co.op with
     |true=>
      rw[qfH hpu] at hev
      simp only[zac,zad] at hev
      obtain⟨v',hv',rfl,_⟩:=hev
      exact(qj3 hins hpu (I.mr.free (zaf _)) hR hv').eff I.mr
     |false=>
      have hread:qbH co.op=true:=by
       generalize co.op=q at hpu hlight hq hlate
       cases q<;>first|rfl|(cases hpu;done)|(cases hlight;done)|(cases hlate;done)|cases hq
      have h1:=I.reading D hi hread hb hS hcl hrd
      have hevi:qag e ⟨(tr i).f,(tr i).l,[],none,(tr i).s⟩ co.op=some (v,⟨(tr i).f,(tr i).l,[],none,(tr i).s⟩):=by
       generalize co.op=q at hread hev
       cases q<;>try (cases hread;done)
       case b2s=>
        simp only[qag,zac,zad] at hev⊢
        obtain⟨v',hv',rfl,_⟩:=hev
        exact⟨_,hv',rfl,trivial⟩
       ·simp only[qag,zab,zac,zad] at hev⊢
        obtain⟨cs',hcs,v',hv',rfl,_⟩:=hev
        exact⟨cs',hcs,v',hv',rfl,trivial⟩
       ·simp only[qag] at hev⊢
        obtain⟨hp,hev⟩:=qac hev
        simp only[zac,zad] at hev
        obtain⟨r,hr,rfl,_⟩:=hev
        rw[hp,hr]
        rfl
       ·simp only[qag,zab] at hev⊢
        obtain⟨k,hk,es,hes,hev⟩:=hev
        obtain⟨hik,hev⟩:=qac hev
        simp only[zac] at hev
        obtain⟨r,hr,hev⟩:=hev
        refine⟨k,hk,es,hes,?_⟩
        rw[hik,hr]
        cases r<;>(simp only[zad] at hev;obtain⟨rfl,_⟩:=hev;rfl)
       ·simp only[qag,zac,zad] at hev⊢
        obtain⟨es,hes,rfl,_⟩:=hev
        exact⟨es,hes,rfl,trivial⟩
      have h2:rdv e (tr i).f co.op (tr m).l (tr m).s=some v:=by
       rw[h1]
       unfold rdv
       rw[hevi]
       rfl
      unfold rdv at h2
      simp only[zac] at h2
      obtain⟨⟨v',c'⟩,h3,rfl⟩:=h2
      have h4:=qdb hlight h3
      subst h4
      exact(qkg (c:=⟨(tr i).f,(tr m).l,[],none,(tr m).s⟩) se I.mr hins (fun _=>⟨hnp.1,hnp.2,hlate⟩) (fun t j hj=>by rw[hlm.has];exact D.lh t j hj) (fun e=>by cases e) hR h3).2.2.2.2
    refine qbg hins k5 fun u w' ⟨G',x,mr,hv⟩=>k U pd m' G' _ w' x ?_
    rw[<-hdst]
    exact I.next D hi hS hcl hm' hheavy hpd hu x (by rw[em];exact mr) hv (fun t ht=>by rw[hstep,hz];exact hputf (tr i) v rfl t ht)
  |true=>
   obtain⟨t,hop⟩:=D.pre i o co ho hi hq
   obtain⟨zz,d,hzz,hd,hcase⟩:=qbZ hins hop
   have hh:co.op.heavy=false:=by
    rcases hcase with⟨q,e,_⟩|⟨mm,e,_⟩<;>rw[e]<;>rfl
   have em:=hml hh
   rcases hcase with⟨q,eq,hq',ty,rfl⟩|⟨mm,eq,hq',hty⟩
   ·have hal:AL P lof ops cs i q zz:=⟨o,co,_,ho,hi,eq,hop,hzz⟩
    have hpdq:pd q=some zz:=(I.pd_ q zz).2 ⟨i,hS,hal⟩
    have k5:=qji (a:=a) (o:=o) I.mr ty hop.1 hzz hpdq
    rw[eq] at hev
    simp only[qag,zaa,zad] at hev
    obtain⟨rfl,rfl⟩:=hev
    refine qbg hins k5 fun u w' ⟨G',x,mr,hv⟩=>k U (upd pd q none) m' G' _ w' x ?_
    rw[<-hdst]
    have hgen:((tr m).l.get (0,[]) q).1=((tr i).l.get (0,[]) q).1:=(hlm.gen q).trans (hlike.gen q).symm
    rw[hgen] at hv
    refine I.next D hi hS hcl hm' hheavy (fun q' z'=>?_) ?_ x (by rw[em];exact mr) hv (fun t ht=>by rw[hstep];exact hputf _ _ rfl t ht)
    ·by_cases e':q'=q
     ·subst e'
      rw[qas]
      constructor
      ·intro e';cases e'
      ·rintro ⟨k,h1,h2⟩
       exact absurd (.inr (D.al1 k i q' z' zz h2 hal)) h1
     ·rw[qak _ _ _ e',I.pd_]
      constructor
      ·rintro ⟨k,h1,h2⟩
       refine⟨k,fun h=>h.elim h1 fun ek=>?_,h2⟩
       subst ek
       obtain⟨_,co',_,_,h3,h4,_⟩:=h2
       rw[hi] at h3
       cases h3
       rw[eq] at h4
       injection h4 with h4
       exact e' h4.symm
      ·rintro ⟨k,h1,h2⟩
       exact⟨k,fun h=>h1 (.inl h),h2⟩
    ·intro q' z'
     rw[I.u_]
     constructor
     ·rintro (h|⟨k,h1,h2⟩)
      ·exact .inl h
      refine .inr ⟨k,fun h=>h.elim h1 fun ek=>?_,h2⟩
      subst ek
      obtain⟨_,co',_,_,_,h3,⟨_,h4⟩,_⟩:=h2
      rw[hi] at h3
      cases h3
      rw[eq] at h4
      cases h4
     ·rintro (h|⟨k,h1,h2⟩)
      ·exact .inl h
      exact .inr ⟨k,fun h=>h1 (.inl h),h2⟩
   ·obtain⟨q,hqd⟩:=D.hl2 i co mm d hi eq
    have hhl:HL P lof ops cs (tr 0).h i q zz:=⟨o,co,t,d,ho,hi,⟨mm,eq⟩,hqd,hop,hzz⟩
    have huq:U q=some zz:=(I.u_ q zz).2 (.inr ⟨i,hS,hhl⟩)
    have hu0:=I.u0 d q hqd
    have k5:NextP P (qa8 P e.E (upd U q none) pd G w (tr m).l (tr m).s (cond mm (.map q) (.ptr q 0))) ((execOp a.eval o).run P w):=by
     rcases hty with⟨rfl,ty,rfl⟩|⟨rfl,ty,rfl⟩
     ·exact qhD (a:=a) (o:=o) I.mr ty hop.1 hzz huq
     ·cases hzz
      exact qjj (a:=a) (o:=o) I.mr ty hop.1 huq
    rw[eq] at hev
    simp only[qag,zac,zad] at hev
    rw[hlike.h,hqd] at hev
    obtain⟨q',e1,rfl,rfl⟩:=hev
    injection e1 with e1
    subst e1
    refine qbg hins k5 fun u w' ⟨G',x,mr,hv⟩=>k (upd U q none) pd m' G' _ w' x ?_
    rw[<-hdst]
    refine I.next D hi hS hcl hm' hheavy ?_ (fun q' z'=>?_) x (by rw[em];exact mr) hv (fun t ht=>by rw[hstep];exact hputf _ _ rfl t ht)
    ·intro q' z'
     rw[I.pd_]
     constructor
     ·rintro ⟨k,h1,h2⟩
      refine⟨k,fun h=>h.elim h1 fun ek=>?_,h2⟩
      subst ek
      obtain⟨_,co',_,_,h3,h4,_⟩:=h2
      rw[hi] at h3
      cases h3
      rw[eq] at h4
      cases h4
     ·rintro ⟨k,h1,h2⟩
      exact⟨k,fun h=>h1 (.inl h),h2⟩
    ·by_cases e':q'=q
     ·subst e'
      rw[qas]
      constructor
      ·intro e';cases e'
      ·rintro (h|⟨k,h1,h2⟩)
       ·rw[hu0] at h;cases h
       exact absurd (.inr (D.hl1 k i q' z' zz h2 hhl)) h1
     ·rw[qak _ _ _ e',I.u_]
      constructor
      ·rintro (h|⟨k,h1,h2⟩)
       ·exact .inl h
       refine .inr ⟨k,fun h=>h.elim h1 fun ek=>?_,h2⟩
       subst ek
       obtain⟨_,co',_,d',_,h3,⟨_,h4⟩,h5,_⟩:=h2
       rw[hi] at h3
       cases h3
       rw[eq] at h4
       injection h4 with _ h4
       subst h4
       rw[hqd] at h5
       injection h5 with h5
       exact e' h5.symm
      ·rintro (h|⟨k,h1,h2⟩)
       ·exact .inl h
       exact .inr ⟨k,fun h=>h1 (.inl h),h2⟩
end
end Go.AI
namespace Go.AI
variable {P:Program} {E:Rom} {lof:Nat->Option Nat} {U pd:Nat->Option (List zA)} {l:Tr (Nat×List zA)} {s:ASt} {G:Gh} {w:World}
def qg2 {α:Type}:List (Nat×α)->Prop
 |[]=>True
 |(d,_)::r=>qap r d=none/\qg2 r
theorem qkm {α:Type}{l:List (Nat×α)}{k:Nat}{v:α}(h:qap l k=some v):(l.map (·.1)).contains k=true:=by
 rw[List.contains_iff_mem]
 exact zaS.2 ⟨_,qew h,rfl⟩
theorem qeP {α:Type}{l:List (Nat×α)}{k:Nat}(h:(l.map (·.1)).contains k=false):qap l k=none:=by
 cases e:qap l k with
 |none=>rfl
 |some v=>rw[qkm e] at h;cases h
structure PreOK (P:Program)(lof:Nat->Option Nat)(l:List Oper)(A B:List (Nat×List zA)):Prop where
 al:∀(i:Nat) o t,l[i]? =some o->Al lof o t->o.guard=none/\∃d z,o.dst=some d/\opZ P t=some z/\((∃q,lof d=some q/\qap A q=some z)\/(lof d=none/\qap B d=some z))
 a:∀q z,qap A q=some z->∃(i:Nat) (o:Oper) (t:Op) (d:Nat),l[i]? =some o/\Al lof o t/\o.dst=some d/\lof d=some q/\opZ P t=some z
 b:∀d z,qap B d=some z->∃(i:Nat) (o:Oper) (t:Op),l[i]? =some o/\Al lof o t/\o.dst=some d/\lof d=none/\opZ P t=some z
 ua:∀(i j:Nat) o o' t t' d d' q,l[i]? =some o->l[j]? =some o'->Al lof o t->Al lof o' t'->o.dst=some d->o'.dst=some d'->lof d=some q->lof d'=some q->i=j
 ub:∀(i j:Nat) o o' t t' d,l[i]? =some o->l[j]? =some o'->Al lof o t->Al lof o' t'->o.dst=some d->o'.dst=some d->lof d=none->i=j
 na:qg2 A
 nb:qg2 B
theorem qgb:∀(l:List Oper) (A B:List (Nat×List zA)),qjd P lof l=some (A,B)->PreOK P lof l A B
 |[],A,B,h=>by
  simp only[qjd,zaa,zad] at h
  obtain⟨rfl,rfl⟩:=h
  exact⟨fun i o t h=>(by simp at h),fun q z h=>(by cases h),fun q z h=>(by cases h),fun i j o o' t t' d d' q h=>(by simp at h),fun i j o o' t t' d h=>(by simp at h),trivial,trivial⟩
 |o::r,A,B,h=>by
  simp only[qjd,zab] at h
  obtain⟨⟨A',B'⟩,hr,h⟩:=h
  have K:=qgb r A' B' hr
  by_cases hal:∃t,Al lof o t
  ·obtain⟨t,hop⟩:=hal
   rw[hop.1,hop.2,cond_true] at h
   simp only[zab] at h
   obtain⟨d,hd,h⟩:=h
   obtain⟨hg,h⟩:=qaG h
   simp only[zab] at h
   obtain⟨z,hz,h⟩:=h
   have hgn:o.guard=none:=by cases e:o.guard with
    |none=>rfl
    |some g=>rw[e] at hg;cases hg
   split at h
   ·rename_i q hq
    obtain⟨hc,h⟩:=qaG h
    simp only[zaa,zad] at h
    obtain⟨rfl,rfl⟩:=h
    have hnk:=qeP hc
    have hother:∀(j:Nat) o' t' d',r[j]? =some o'->Al lof o' t'->o'.dst=some d'->lof d'=some q->False:=by
     intro j o' t' d' hj hop' hd' hl'
     obtain⟨_,d2,z2,e1,_,e3⟩:=K.al j o' t' hj hop'
     rw[hd'] at e1
     cases e1
     rcases e3 with⟨q2,e4,e5⟩|⟨e4,_⟩
     ·rw[hl'] at e4;cases e4;rw[hnk] at e5;cases e5
     ·rw[hl'] at e4;cases e4
    refine⟨fun i o' t' hi hop'=>?_,fun q' z' hq'=>?_,fun d' z' hd'=>?_,fun i j o1 o2 t1 t2 d1 d2 q' h1 h2 h3 h4 h5 h6 h7 h8=>?_,fun i j o1 o2 t1 t2 d1 h1 h2 h3 h4 h5 h6 h7=>?_,⟨hnk,K.na⟩,K.nb⟩
    ·cases i with
     |zero=>
      simp only[zak,zaa] at hi
      subst hi
      obtain rfl:=hop.1.symm.trans hop'.1
      exact⟨hgn,d,z,hd,hz,.inl ⟨q,hq,by rw[qaj,if_pos rfl]⟩⟩
     |succ i=>
      obtain⟨k1,d',z',k2,k3,k4⟩:=K.al i o' t' (by simpa using hi) hop'
      refine⟨k1,d',z',k2,k3,k4.imp (fun⟨q',k5,k6⟩=>⟨q',k5,?_⟩) id⟩
      rw[qaj,if_neg (fun e=>by subst e;rw[hnk] at k6;cases k6)]
      exact k6
    ·rw[qaj] at hq'
     split at hq'
     ·rename_i e
      subst e
      cases hq'
      exact⟨0,o,t,d,rfl,hop,hd,hq,hz⟩
     ·obtain⟨i,o',t',d',k1,k2⟩:=K.a q' z' hq'
      exact⟨i+1,o',t',d',by simpa using k1,k2⟩
    ·obtain⟨i,o',t',k1,k2⟩:=K.b d' z' hd'
     exact⟨i+1,o',t',by simpa using k1,k2⟩
    ·cases i with
     |zero=>
      cases j with
      |zero=>rfl
      |succ j=>
       simp only[zak,zaa] at h1
       subst h1
       rw[hd] at h5
       cases h5
       rw[hq] at h7
       cases h7
       exact(hother j o2 t2 d2 (by simpa using h2) h4 h6 h8).elim
     |succ i=>
      cases j with
      |zero=>
       simp only[zak,zaa] at h2
       subst h2
       rw[hd] at h6
       cases h6
       rw[hq] at h8
       cases h8
       exact(hother i o1 t1 d1 (by simpa using h1) h3 h5 h7).elim
      |succ j=>rw[K.ua i j o1 o2 t1 t2 d1 d2 q' (by simpa using h1) (by simpa using h2) h3 h4 h5 h6 h7 h8]
    ·cases i with
     |zero=>
      simp only[zak,zaa] at h1
      subst h1
      rw[hd] at h5
      cases h5
      rw[hq] at h7
      cases h7
     |succ i=>
      cases j with
      |zero=>
       simp only[zak,zaa] at h2
       subst h2
       rw[hd] at h6
       cases h6
       rw[hq] at h7
       cases h7
      |succ j=>rw[K.ub i j o1 o2 t1 t2 d1 (by simpa using h1) (by simpa using h2) h3 h4 h5 h6 h7]
   ·rename_i hq
    obtain⟨hc,h⟩:=qaG h
    simp only[zaa,zad] at h
    obtain⟨rfl,rfl⟩:=h
    have hnk:=qeP hc
    have hother:∀(j:Nat) o' t',r[j]? =some o'->Al lof o' t'->o'.dst=some d->False:=by
     intro j o' t' hj hop' hd'
     obtain⟨_,d2,z2,e1,_,e3⟩:=K.al j o' t' hj hop'
     rw[hd'] at e1
     cases e1
     rcases e3 with⟨q2,e4,e5⟩|⟨_,e4⟩
     ·rw[hq] at e4;cases e4
     ·rw[hnk] at e4;cases e4
    refine⟨fun i o' t' hi hop'=>?_,fun q' z' hq'=>?_,fun d' z' hd'=>?_,fun i j o1 o2 t1 t2 d1 d2 q' h1 h2 h3 h4 h5 h6 h7 h8=>?_,fun i j o1 o2 t1 t2 d1 h1 h2 h3 h4 h5 h6 h7=>?_,K.na,⟨hnk,K.nb⟩⟩
    ·cases i with
     |zero=>
      simp only[zak,zaa] at hi
      subst hi
      obtain rfl:=hop.1.symm.trans hop'.1
      exact⟨hgn,d,z,hd,hz,.inr ⟨hq,by rw[qaj,if_pos rfl]⟩⟩
     |succ i=>
      obtain⟨k1,d',z',k2,k3,k4⟩:=K.al i o' t' (by simpa using hi) hop'
      refine⟨k1,d',z',k2,k3,k4.imp id fun⟨k5,k6⟩=>⟨k5,?_⟩⟩
      rw[qaj,if_neg (fun e=>by subst e;rw[hnk] at k6;cases k6)]
      exact k6
    ·obtain⟨i,o',t',d',k1,k2⟩:=K.a q' z' hq'
     exact⟨i+1,o',t',d',by simpa using k1,k2⟩
    ·rw[qaj] at hd'
     split at hd'
     ·rename_i e
      subst e
      cases hd'
      exact⟨0,o,t,rfl,hop,hd,hq,hz⟩
     ·obtain⟨i,o',t',k1,k2⟩:=K.b d' z' hd'
      exact⟨i+1,o',t',by simpa using k1,k2⟩
    ·cases i with
     |zero=>
      simp only[zak,zaa] at h1
      subst h1
      rw[hd] at h5
      cases h5
      rw[hq] at h7
      cases h7
     |succ i=>
      cases j with
      |zero=>
       simp only[zak,zaa] at h2
       subst h2
       rw[hd] at h6
       cases h6
       rw[hq] at h8
       cases h8
      |succ j=>rw[K.ua i j o1 o2 t1 t2 d1 d2 q' (by simpa using h1) (by simpa using h2) h3 h4 h5 h6 h7 h8]
    ·cases i with
     |zero=>
      cases j with
      |zero=>rfl
      |succ j=>
       simp only[zak,zaa] at h1
       subst h1
       rw[hd] at h5
       cases h5
       exact(hother j o2 t2 (by simpa using h2) h4 h6).elim
     |succ i=>
      cases j with
      |zero=>
       simp only[zak,zaa] at h2
       subst h2
       rw[hd] at h6
       cases h6
       exact(hother i o1 t1 (by simpa using h1) h3 h5).elim
      |succ j=>rw[K.ub i j o1 o2 t1 t2 d1 (by simpa using h1) (by simpa using h2) h3 h4 h5 h6 h7]
  ·have h':(A',B')=(A,B):=by
    cases e:qo9 lof o with
    |true=>exact absurd ⟨_,rfl,e⟩ hal
    |false=>rw[e] at h;simpa using h
   simp only[zad] at h'
   obtain⟨rfl,rfl⟩:=h'
   have sc:∀{i:Nat} {o':Oper} {t':Op},(o::r)[i]? =some o'->Al lof o' t'->∃k,i=k+1/\r[k]? =some o':=by
    intro i o' t' hi hop'
    cases i with
    |zero=>
     simp only[zak,zaa] at hi
     subst hi
     exact absurd ⟨t',hop'⟩ hal
    |succ i=>exact⟨i,rfl,by simpa using hi⟩
   refine⟨fun i o' t' hi hop'=>?_,fun q' z' hq'=>?_,fun d' z' hd'=>?_,fun i j o1 o2 t1 t2 d1 d2 q' h1 h2 h3 h4 h5 h6 h7 h8=>?_,fun i j o1 o2 t1 t2 d1 h1 h2 h3 h4 h5 h6 h7=>?_,K.na,K.nb⟩
   ·obtain⟨k,rfl,hk⟩:=sc hi hop'
    exact K.al k o' t' hk hop'
   ·obtain⟨i,o',t',d',k1,k2⟩:=K.a q' z' hq'
    exact⟨i+1,o',t',d',by simpa using k1,k2⟩
   ·obtain⟨i,o',t',k1,k2⟩:=K.b d' z' hd'
    exact⟨i+1,o',t',by simpa using k1,k2⟩
   ·obtain⟨k,rfl,hk⟩:=sc h1 h3
    obtain⟨k',rfl,hk'⟩:=sc h2 h4
    rw[K.ua k k' o1 o2 t1 t2 d1 d2 q' hk hk' h3 h4 h5 h6 h7 h8]
   ·obtain⟨k,rfl,hk⟩:=sc h1 h3
    obtain⟨k',rfl,hk'⟩:=sc h2 h4
    rw[K.ub k k' o1 o2 t1 t2 d1 hk hk' h3 h4 h5 h6 h7]
theorem MR.lay (h:MR P E U pd l s G w){i:Nat}(hp:pd i=none)(hh:l.has i=true)(zs:List zA):MR P E U (upd pd i (some zs)) (l.set i ((l.get (0,[]) i).1+1,zs)) s G w:=by
 refine⟨h.own,h.bOf,h.lo_,h.un,fun j z hj=>?_,h.nt,fun j g cs hj hg hpj=>?_,fun j g b hb=>?_,h.heap,h.ro,h.tok⟩
 ·rw[Tr.get_set _ _ _ _ _ hh]
  by_cases e:j=i
  ·subst e
   rw[qas] at hj
   cases hj
   rw[if_pos rfl]
   exact⟨rfl,by simp⟩
  ·rw[qak _ _ _ e] at hj
   rw[if_neg (fun e'=>e e'.symm)]
   exact h.pdz j z hj
 ·by_cases e:j=i
  ·subst e;rw[qas] at hpj;cases hpj
  ·rw[qak _ _ _ e] at hpj
   rw[Tr.get_set_ne _ _ _ _ _ (fun e'=>e e'.symm)] at hj
   exact h.loc j g cs hj hg hpj
 ·obtain⟨h1,h2,h3⟩:=h.lam j g b hb
  by_cases e:j=i
  ·subst e
   rw[Tr.get_set_eq _ _ _ _ hh]
   exact⟨h1,by simp only;omega,fun _=>by simp only;omega⟩
  ·rw[Tr.get_set_ne _ _ _ _ _ (fun e'=>e e'.symm),qak _ _ _ e]
   exact⟨h1,h2,h3⟩
theorem MR.preL:∀(A:List (Nat×List zA)) {pd:Nat->Option (List zA)} {l:Tr (Nat×List zA)},MR P E U pd l s G w->qg2 A->(∀q z,qap A q=some z->pd q=none/\l.has q=true)->
  MR P E U (fun q=>match qap A q with|some z=>some z|none=>pd q) (preL l A) s G w/\(∀j,(preL l A).has j=l.has j)
 |[],pd,l,h,_,_=>⟨h,fun _=>rfl⟩
 |(i,zs)::r,pd,l,h,hn,hp=>by
  obtain⟨h1,h2⟩:=hp i zs (by rw[qaj,if_pos rfl])
  have k:=h.lay h1 h2 zs
  obtain⟨k1,k2⟩:=MR.preL r k hn.2 (fun q z hq=>by
   have e:q≠i:=fun e=>by subst e;rw[hn.1] at hq;cases hq
   obtain⟨h3,h4⟩:=hp q z (by rw[qaj,if_neg (fun e'=>e e'.symm)];exact hq)
   exact⟨by rw[qak _ _ _ e];exact h3,by rw[Tr.has_set];exact h4⟩)
  refine⟨?_,fun j=>?_⟩
  ·have:(fun q=>match qap ((i,zs)::r) q with|some z=>some z|none=>pd q)=(fun q=>match qap r q with|some z=>some z|none=>upd pd i (some zs) q):=by
    funext q
    rw[qaj]
    by_cases e:i=q
    ·subst e
     rw[if_pos rfl,hn.1]
     simp[qas]
    ·rw[if_neg e]
     cases qap r q with
     |some z=>rfl
     |none=>simp only;rw[qak _ _ _ (fun e'=>e e'.symm)]
   rw[this]
   exact k1
  ·show(Go.AI.preL (l.set i ((l.get (0,[]) i).1+1,zs)) r).has j=_
   rw[k2,Tr.has_set]
theorem MR.layH (h:MR P E U pd l s G w)(zs:List zA):MR P E (upd U s.next (some zs)) pd l (qav s (qfi zs)) G w:=by
 refine⟨h.own,fun k b hb=>Nat.lt_succ_of_lt (h.bOf k b hb),Nat.le_succ_of_le h.lo_,fun k z hk=>?_,h.pdz,h.nt,h.loc,h.lam,fun k o hk=>?_,h.ro,h.tok⟩
 ·show G.bOf k=none∧qaD (qhs s.heap s.next (some (qfi zs))) k=_∧_
  rw[qbw]
  by_cases e:k=s.next
  ·subst e
   rw[qas] at hk
   cases hk
   exact⟨h.bOf_next,by rw[if_pos rfl],h.lo_⟩
  ·rw[qak _ _ _ e] at hk
   rw[if_neg (fun e'=>e e'.symm)]
   exact h.un k z hk
 ·have hk':qaD (qhs s.heap s.next (some (qfi zs))) k=some o:=hk
  rw[qbw] at hk'
  split at hk'
  ·rename_i e
   subst e
   exact⟨Nat.lt_succ_self _,.inl h.bOf_next⟩
  ·obtain⟨h1,h2⟩:=h.heap k o hk'
   exact⟨Nat.lt_succ_of_lt h1,h2⟩
theorem MR.preH:∀(B:List (Nat×List zA)) {U:Nat->Option (List zA)} {s:ASt},MR P E U pd l s G w->qg2 B->∃U',MR P E U' pd l (preH s B).1 G w/\
  (∀q z,U' q=some z↔U q=some z\/∃d,qap (preH s B).2 d=some q/\qap B d=some z)/\(∀d z,qap B d=some z->∃q,qap (preH s B).2 d=some q)/\(∀d q,qap (preH s B).2 d=some q->s.next<=q)/\
  (∀d d' q,qap (preH s B).2 d=some q->qap (preH s B).2 d'=some q->d=d')
 |[],U,s,h,_=>⟨U,h,fun q z=>⟨.inl,fun h=>h.elim id fun⟨d,h1,_⟩=>(by cases h1)⟩,fun d z h=>(by cases h),fun d q h=>(by cases h),fun d d' q h=>(by cases h)⟩
 |(d0,zs)::r,U,s,h,hn=>by
  obtain⟨U',k1,k2,k3,k4,k5⟩:=MR.preH r (h.layH zs) hn.2
  have e1:(Go.AI.preH s ((d0,zs)::r)).1=(Go.AI.preH (qav s (qfi zs)) r).1:=rfl
  have e2:(Go.AI.preH s ((d0,zs)::r)).2=(d0,s.next)::(Go.AI.preH (qav s (qfi zs)) r).2:=rfl
  have hlt:∀d q,qap (Go.AI.preH (qav s (qfi zs)) r).2 d=some q->s.next<q:=fun d q hq=>k4 d q hq
  have hUn:∀z,U s.next=some z->False:=fun z hz=>by
   have:=(h.heap _ _ (h.un _ _ hz).2.1).1
   omega
  refine⟨U',by rw[e1];exact k1,fun q z=>?_,fun d z hd=>?_,fun d q hq=>?_,fun d d' q hq hq'=>?_⟩
  ·rw[k2,e2]
   constructor
   ·rintro (hq|⟨d,h1,h2⟩)
    ·by_cases e:q=s.next
     ·subst e
      rw[qas] at hq
      cases hq
      exact .inr ⟨d0,by rw[qaj,if_pos rfl],by rw[qaj,if_pos rfl]⟩
     ·rw[qak _ _ _ e] at hq
      exact .inl hq
    ·have e:d0≠d:=fun e=>by subst e;rw[hn.1] at h2;cases h2
     exact .inr ⟨d,by rw[qaj,if_neg e];exact h1,by rw[qaj,if_neg e];exact h2⟩
   ·rintro (hq|⟨d,h1,h2⟩)
    ·have e:q≠s.next:=fun e=>by subst e;exact hUn z hq
     exact .inl (by rw[qak _ _ _ e];exact hq)
    ·rw[qaj] at h1 h2
     by_cases e:d0=d
     ·rw[if_pos e] at h1 h2
      cases h1;cases h2
      exact .inl (qas _ _ _)
     ·rw[if_neg e] at h1 h2
      exact .inr ⟨d,h1,h2⟩
  ·rw[e2]
   rw[qaj] at hd⊢
   by_cases e:d0=d
   ·rw[if_pos e];exact⟨_,rfl⟩
   ·rw[if_neg e] at hd⊢
    exact k3 d z hd
  ·rw[e2,qaj] at hq
   split at hq
   ·cases hq;exact zaf _
   ·have:=hlt d q hq;omega
  ·rw[e2,qaj] at hq hq'
   split at hq<;>split at hq'
   ·rename_i e e';rw[<-e,<-e']
   ·cases hq;have:=hlt _ _ hq';omega
   ·cases hq';have:=hlt _ _ hq;omega
   ·exact k5 d d' q hq hq'
end Go.AI
namespace Go.AI
variable {P:Program} {e:Env} {lof:Nat->Option Nat} {nt base:Nat} {ops:Array Oper}
theorem qef {dr:Bool}:∀(l:List Oper) (cs:List COp),qjT P lof dr nt ops l=some cs->cs.length=l.length/\∀(i:Nat) o co,l[i]? =some o->cs[i]? =some co->cOp P lof dr nt ops o=some co
 |[],cs,h=>by
  simp only[qjT,zaa] at h
  subst h
  exact⟨rfl,fun i o co h=>by simp at h⟩
 |o::r,cs,h=>by
  simp only[qjT,zab,zac] at h
  obtain⟨c,hc,cs',hcs,rfl⟩:=h
  obtain⟨h1,h2⟩:=qef r cs' hcs
  refine⟨by simp[h1],fun i o' co hi hj=>?_⟩
  cases i with
  |zero=>
   simp only[zak,zaa] at hi hj
   subst hi;subst hj
   exact hc
  |succ i=>exact h2 i o' co (by simpa using hi) (by simpa using hj)
theorem qbM {α:Type}{l:List α}{i:Nat}{x:α}(h:l[i]? =some x):(i,x)∈qhu l:=by
 have hi:i<l.length:=(zah.1 h).1
 unfold qhu
 refine List.mem_iff_getElem?.2 ⟨i,?_⟩
 rw[List.getElem?_zip_eq_some]
 exact⟨by simp[hi],h⟩
theorem qkn {f g:Tr zA}{x:Arg}(h:∀t,t∈x.tmps->f.get qaf t=g.get qaf t):x.ev f=x.ev g:=by
 cases x with
 |c v=>rfl
 |t n=>exact h n (List.mem_singleton.2 rfl)
theorem qcu (f:Tr zA)(n:Option Nat)(a:Arg)(l:Tr (Nat×List zA))(s:ASt):rdv e f (.load n a) l s=(qax e.E l s (a.ev f) (cnt n)).bind (zA.ofCells n):=by
 unfold rdv
 simp only[qag]
 cases qax e.E l s (a.ev f) (cnt n) with
 |none=>rfl
 |some cs=>
  simp only[zap,Option.map_map]
  cases zA.ofCells n cs<;>rfl
theorem qko {f g:Tr zA}{op:Ins}(hr:qbH op=true)(h:∀t,t∈op.args.flatMap Arg.tmps->f.get qaf t=g.get qaf t){l:Tr (Nat×List zA)}{s:ASt}:rdv e f op l s=rdv e g op l s:=by
 have ha:∀x,x∈op.args->x.ev f=x.ev g:=fun x hx=>qkn fun t ht=>h t (List.mem_flatMap.2 ⟨x,hx,ht⟩)
 cases op<;>try (cases hr;done)
 case b2s=>
  simp only[Ins.args,zaI,List.not_mem_nil,or_false] at ha
  simp only[rdv,qag,ha _ rfl,Option.map_map]
  rfl
 ·simp only[Ins.args,zaI,List.not_mem_nil,or_false] at ha
  rw[qcu,qcu,ha _ rfl]
 ·rename_i k xs
  have:xs.map (Arg.ev f)=xs.map (Arg.ev g):=List.map_congr_left fun x hx=>ha x hx
  simp only[rdv,qag,this]
  cases e.pure k with
  |true=>simp only[cond_true,Option.map_map];rfl
  |false=>rfl
 ·simp only[Ins.args,zaI,List.not_mem_nil,or_false] at ha
  rename_i kd ks z ok m k
  simp only[rdv,qag,ha m (.inl rfl),ha k (.inr rfl),Option.map_bind]
  congr 1
  funext kk
  simp only[Function.comp,Option.map_bind]
  congr 1
  funext es
  simp only[Function.comp]
  cases qc6 kd ks kk with
  |true=>
   simp only[cond_true,Option.map_map]
   congr 1
   funext r
   cases r<;>rfl
  |false=>rfl
 ·simp only[Ins.args,zaI,List.not_mem_nil,or_false] at ha
  simp only[rdv,qag,ha _ rfl,Option.map_map]
  rfl
theorem qpL (se:SoundEnv P e){cs:List COp}{ms:List Nat}{T:List Cfg}{c0 last:Cfg}(hstep:∀(i:Nat) co,cs[i]? =some co->∃x y,T[i]? =some x/\T[i+1]? =some y/\qht e x co=some y)(hkind:∀(i:Nat) co,cs[i]? =some co->co.op.heavy=true\/co.op.light=true)
  (hall:(qgF ms (qhu cs)).all (qfh e T last)=true)(hst:(qgF ms (qhu cs)).all (qfQ (qhu cs))=true)(hlast:(T[cs.length]?).getD c0=last)
  {i j:Nat}{co b:COp}(hi:cs[i]? =some co)(hl:qbH co.op=true)(hj:cs[j]? =some b)(hb:b.op.heavy=true)(hw1:qa2 ms j i=false)(hw2:qa2 ms i j=false):
  rdv e ((T[i]?).getD c0).f co.op ((T[j+1]?).getD c0).l ((T[j+1]?).getD c0).s=rdv e ((T[i]?).getD c0).f co.op ((T[j]?).getD c0).l ((T[j]?).getD c0).s:=by
 have hjs:(j,b.op.kind)∈(qhu cs).filterMap (fun(j,b)=>if b.op.heavy&&!(qa2 ms j i)&&!(qa2 ms i j) then some (j,b.op.kind) else none):=
  List.mem_filterMap.2 ⟨(j,b),qbM hj,by simp[hb,hw1,hw2]⟩
 obtain⟨k,hk,hkat,hka,hkj⟩:∃k:Chk,k∈qgF ms (qhu cs)/\k.at_=i/\k.op=co.op/\(j,b.op.kind)∈k.js:=by
  generalize hjs':(qhu cs).filterMap (fun(j,b)=>if b.op.heavy&&!(qa2 ms j i)&&!(qa2 ms i j) then some (j,b.op.kind) else none)=js at hjs
  cases js with
  |nil=>cases hjs
  |cons y ys=>
   refine⟨{at_:=i,op:=co.op,js:=y::ys},List.mem_filterMap.2 ⟨(i,co),qbM hi,?_⟩,rfl,rfl,hjs⟩
   simp only[hl,cond_true,hjs']
 subst hkat
 rw[<-hka] at hl⊢
 have hok:=zaj.1 hall k hk
 have hsy:=zaj.1 hst k hk
 have hT:T.length>=cs.length+1\/cs.length=0:=by
  rcases Nat.eq_zero_or_pos cs.length with h|h
  ·exact .inr h
  ·obtain⟨x,y,_,h2,_⟩:=hstep (cs.length-1) _ (zai (by omega))
   have:=(zah.1 h2).1
   exact .inl (by omega)
 have hil:k.at_<cs.length:=(zah.1 hi).1
 have hjl:j<cs.length:=(zah.1 hj).1
 have hargs:∀t,t∈k.op.args.flatMap Arg.tmps->last.f.get qaf t=((T[k.at_]?).getD c0).f.get qaf t:=by
  intro t ht
  rw[<-hlast]
  have key:∀q,k.at_<=q->q<=cs.length->((T[q]?).getD c0).f.get qaf t=((T[k.at_]?).getD c0).f.get qaf t:=by
   intro q
   induction q with
   |zero=>intro h1 _;rw[show k.at_=0 by omega]
   |succ q ih=>
    intro h1 h2
    by_cases h:k.at_=q+1
    ·rw[h]
    ·have hq:cs[q]? =some (cs[q]'(by omega)):=zai (by omega)
     obtain⟨x,y,h3,h4,h5⟩:=hstep q _ hq
     rw[<-ih (by omega) (by omega),h3,h4]
     refine(qcj (hkind q _ hq) h5).2.1 t fun hd=>?_
     have:=zaj.1 hsy (q,cs[q]'(by omega)) (qbM hq)
     simp only[zaG,zaC,zaj] at this
     rcases this with h|h
     ·have:Nat.ble k.at_ q=true:=ble_iff.2 (by omega)
      rw[this] at h;cases h
     ·have:=h t (by unfold qbT;rw[hd];exact List.mem_singleton.2 rfl)
      simp only[List.contains_eq_mem,decide_eq_false_iff_not] at this
      exact this ht
  exact key cs.length (by omega) (zaf _)
 have hfr:∀l s,rdv e ((T[k.at_]?).getD c0).f k.op l s=rdv e last.f k.op l s:=fun l s=>(qko hl hargs).symm
 rw[hfr,hfr]
 obtain⟨x,y,h3,h4,h5⟩:=hstep j b hj
 rw[h3,h4]
 simp only[Option.getD_some]
 have hl3:qdh T j=some x:=by rw[qbs];exact h3
 have hl4:qdh T (j+1)=some y:=by rw[qbs];exact h4
 have hat:qgB e T last.f k.op j=true->rdv e last.f k.op y.l y.s=rdv e last.f k.op x.l x.s:=by
  intro h
  unfold qgB at h
  rw[hl3,hl4] at h
  exact(qkk h).symm
 obtain⟨bb,_,hT1,hF1⟩:=qdz h5
 unfold qfh at hok
 split at hok
 ·rename_i hav
  have:=zaj.1 hok _ hkj
  simp only[zaG] at this
  rcases this with h|h
  ·have hkd:=blt_iff.1 h
   have hsame:y.l=x.l:=by
    cases bb with
    |false=>rw[hF1 rfl,Cfg.put_l]
    |true=>
     obtain⟨v,z,hev,rfl⟩:=hT1 rfl
     rw[Cfg.put_l]
     generalize hop:b.op=op at hkd hev
     cases op<;>first|(exfalso;exact Nat.not_lt_zero _ hkd;done)|(exfalso;exact absurd hkd (Nat.not_lt_of_le (Nat.zero_le _));done)|(exfalso;exact absurd hkd (Nat.lt_irrefl 1);done)|skip
     ·simp only[qag,zac,zad] at hev
      obtain⟨_,_,_,rfl⟩:=hev
      rfl
     ·simp only[qag,zac,zad] at hev
      obtain⟨_,_,_,rfl⟩:=hev
      rfl
   generalize k.op=op at hav
   unfold qjN at hav
   split at hav
   ·split at hav<;>try (cases hav;done)
    rename_i ha
    simp only[qcu,ha,qax,hsame]
   ·cases hav
  ·exact hat h
 ·rename_i hav
  generalize k.op=op at hav
  unfold qjN at hav
  split at hav
  ·split at hav<;>try (cases hav;done)
   ·rename_i ha
    simp only[qcu,ha,qax]
   ·rename_i ha
    simp only[qcu,ha,qax]
   ·rename_i ha
    simp only[qcu,ha,qax]
  ·cases hav
 ·have:=zaj.1 hok _ hkj
  simp only[zaG,zae] at this
  rcases this with⟨h,hpu,hld⟩|h
  ·have hkd:=blt_iff.1 h
   have hsame:y.s=x.s:=by
    cases bb with
    |false=>rw[hF1 rfl,Cfg.put_s]
    |true=>
     obtain⟨v,z,hev,rfl⟩:=hT1 rfl
     rw[Cfg.put_s]
     generalize hop:b.op=op at hkd hev hpu
     cases op<;>first|(exfalso;exact Nat.not_lt_zero _ hkd;done)|(exfalso;exact absurd hkd (Nat.not_lt_of_le (Nat.zero_le _));done)|(exfalso;exact absurd hkd (Nat.lt_irrefl 1);done)|skip
     simp only[qag,zac,zad] at hev
     obtain⟨⟨r,s'⟩,hcall,_,rfl⟩:=hev
     exact se.pure (by simpa[Ins.kind] using hpu) hcall
   generalize k.op=op at hld
   split at hld
   ·split at hld
    ·rename_i ha
     simp only[qcu,ha,qax,hsame]
    ·cases hld
   ·cases hld
  ·exact hat h
end Go.AI
namespace Go.AI
variable {P:Program} {e:Env} {lof:Nat->Option Nat} {nt base:Nat} {ops:Array Oper} {U0:Nat->Option (List zA)}
theorem qdT {A B:List (Nat×List zA)}{cs:List COp}{chk:List Chk}(h:qhA P lof nt ops=some (.regd A B cs chk)):
  qjT P lof true nt ops ops.toList=some cs/\qjd P lof ops.toList=some (A,B)/\chk=qgF (qbS (ops.toList.map qaW) []) (qhu cs)/\qev ops.toList=true/\qjU (qbS (ops.toList.map qaW) []) (qhu cs)=true/\
  cs.all (fun o=>o.op.heavy||o.op.light)=true/\(ops.toList.zip cs).all (fun(o,c)=>qif lof o c.op)=true/\chk.all (qfQ (qhu cs))=true:=by
 simp only[qhA,zab] at h
 obtain⟨l,hl,⟨a,b⟩,hab,h⟩:=h
 obtain⟨hc,h⟩:=qac h
 simp only[zaa,CC.regd.injEq] at h
 obtain⟨rfl,rfl,rfl,rfl⟩:=h
 simp only[zae] at hc
 exact⟨hl,hab,rfl,hc.1,hc.2.1,hc.2.2.1,hc.2.2.2.1,hc.2.2.2.2⟩
theorem qlM (se:SoundEnv P e){A B:List (Nat×List zA)}{cs:List COp}{chk:List Chk}(hc:qhA P lof nt ops=some (.regd A B cs chk)){c0:Cfg}{s0:ASt}(hh:c0.h=(preH s0 B).2)
  (hinj:∀d d' q,qap c0.h d=some q->qap c0.h d'=some q->d=d')(hex:∀d z,qap B d=some z->∃q,qap c0.h d=some q){T:List Cfg}(hT:qbb e cs c0=some T)(hchk:chk.all (qfh e T (qbq c0 T))=true)
  (hlh:∀t j,lof t=some j->c0.l.has j=true)(hhas:∀t,t<nt->c0.f.has t=true):
  Drawn P e lof nt ops cs (qbS (ops.toList.map qaW) []) (fun i=>(T[i]?).getD c0)/\PreOK P lof ops.toList A B/\(T[cs.length]?).getD c0=qbq c0 T/\(T[0]?).getD c0=c0:=by
 obtain⟨h1,h2,h3,h4,h5,h6,h7,h8⟩:=qdT hc
 obtain⟨k1',k2⟩:=qef _ _ h1
 have k1:cs.length=ops.size:=by rw[k1',zay]
 obtain⟨t1,t2,t3,t4⟩:=qf9 e cs c0 T hT
 have K:=qgb _ _ _ h2
 have hk:∀(i:Nat) co,cs[i]? =some co->co.op.heavy=true\/co.op.light=true:=fun i co hi=>by
  have:=zaj.1 h6 co (zaw hi)
  simpa using this
 have hlast:(T[cs.length]?).getD c0=qbq c0 T:=by rw[t4 c0];rfl
 have h0:(T[0]?).getD c0=c0:=by rw[t2];rfl
 have hsame:∀(i:Nat) o co,ops[i]? =some o->cs[i]? =some co->qif lof o co.op=true:=fun i o co hi hj=>by
  have:(o,co)∈ops.toList.zip cs:=List.mem_iff_getElem?.2 ⟨i,List.getElem?_zip_eq_some.2 ⟨by rw[zal];exact hi,hj⟩⟩
  exact zaj.1 h7 _ this
 have hpre:∀(i:Nat) o co,ops[i]? =some o->cs[i]? =some co->qgG co.op=true->∃t,Al lof o t:=fun i o co hi hj hp=>by
  have:=hsame i o co hi hj
  simp only[qif,zaG,zaC,hp] at this
  have:=this.resolve_left (by simp)
  exact⟨_,rfl,this⟩
 have hal:∀{i q z},AL P lof ops cs i q z->∃(o:Oper) (t:Op) (d:Nat),ops.toList[i]? =some o/\Al lof o t/\o.dst=some d/\lof d=some q:=by
  rintro i q z ⟨o,co,t,ho,hco,hq,hop,_⟩
  obtain⟨hins,_⟩:=qc3 (k2 i o co (by rw[zal];exact ho) hco)
  obtain⟨z',d,_,hd,hcase⟩:=qbZ hins hop
  rcases hcase with⟨q',e1,e2,_⟩|⟨_,e1,_⟩
  ·rw[hq] at e1
   cases e1
   exact⟨o,t,d,by rw[zal];exact ho,hop,hd,e2⟩
  ·rw[hq] at e1;cases e1
 have hhl:∀{i d:Nat} {co:COp},(∃(o:Oper) (t:Op),ops[i]? =some o/\cs[i]? =some co/\(∃m,co.op=.halloced m d)/\Al lof o t)->∃(o:Oper) (t:Op),ops.toList[i]? =some o/\Al lof o t/\o.dst=some d/\lof d=none:=by
  rintro i d co ⟨o,t,ho,hco,⟨m,hq⟩,hop⟩
  obtain⟨hins,_⟩:=qc3 (k2 i o co (by rw[zal];exact ho) hco)
  obtain⟨z',d',_,hd,hcase⟩:=qbZ hins hop
  rcases hcase with⟨q',e1,e2,_⟩|⟨_,e1,e2,_⟩
  ·rw[hq] at e1;cases e1
  ·rw[hq] at e1
   cases e1
   exact⟨o,t,by rw[zal];exact ho,hop,hd,e2⟩
 have hof:∀(i:Nat) co,cs[i]? =some co->∃o,ops[i]? =some o:=fun i co hi=>⟨_,zam (by have:=(zah.1 hi).1;omega)⟩
 refine⟨⟨k1,fun i o co hi hj=>k2 i o co (by rw[zal];exact hi) hj,fun i co hi=>?_,hk,fun i j a b hij hi hj=>?_,fun k i hw=>?_,fun i j q z z' hi hj=>?_,fun i j q z z' hi hj=>?_,fun i co m d hi hd=>?_,hpre,fun i co hi hp=>?_,
  fun i j co b hi hl hw hj hb hw1 hw2=>qpL se t3 hk (by rw[<-h3];exact hchk) (by rw[<-h3];exact h8) hlast hi hl hj hb hw1 hw2,by simp only[h0];exact hlh,by simp only[h0];exact hhas⟩,K,hlast,h0⟩
 ·obtain⟨x,y,q1,q2,q3⟩:=t3 i co hi
  simp only[q1,q2,Option.getD_some]
  exact q3
 ·have:=zaj.1 (zaj.1 h5 (i,a) (qbM hi)) (j,b) (qbM hj)
  simp only[blt_iff.2 hij,Bool.not_true,Bool.false_or] at this
  exact this
 ·refine qlK (fun k es hes e' he'=>?_) k i hw
  simp only[zav,zac] at hes
  obtain⟨o,ho,rfl⟩:=hes
  have:=zaj.1 (zaj.1 h4 (k,o) (qbM ho)) e' he'
  exact blt_iff.1 this
 ·obtain⟨o,t,d,a1,a2,a3,a4⟩:=hal hi
  obtain⟨o',t',d',b1,b2,b3,b4⟩:=hal hj
  exact K.ua i j o o' t t' d d' q a1 b1 a2 b2 a3 b3 a4 b4
 ·obtain⟨o,co,t,d,ho,hco,hq,hqd,hop,_⟩:=hi
  obtain⟨o',co',t',d',ho',hco',hq',hqd',hop',_⟩:=hj
  simp only[h0] at hqd hqd'
  have:=hinj d d' q hqd hqd'
  subst this
  obtain⟨o1,t1,a1,a2,a3,a4⟩:=hhl ⟨o,t,ho,hco,hq,hop⟩
  obtain⟨o2,t2,b1,b2,b3,b4⟩:=hhl ⟨o',t',ho',hco',hq',hop'⟩
  exact K.ub i j o1 o2 t1 t2 d a1 b1 a2 b2 a3 b3 a4
 ·obtain⟨o,ho⟩:=hof i co hi
  obtain⟨t,hop⟩:=hpre i o co ho hi (by rw[hd];rfl)
  obtain⟨o',t',a1,a2,a3,a4⟩:=hhl ⟨o,t,ho,hi,⟨m,hd⟩,hop⟩
  obtain⟨_,d',z,b1,b2,b3⟩:=K.al i o' t' a1 a2
  rw[a3] at b1
  cases b1
  simp only[h0]
  rcases b3 with⟨q,e1,_⟩|⟨_,e1⟩
  ·rw[a4] at e1;cases e1
  ·exact hex d z e1
 ·obtain⟨o,ho⟩:=hof i co hi
  obtain⟨t,hop⟩:=hpre i o co ho hi hp
  obtain⟨hg,_⟩:=K.al i o t (by rw[zal];exact ho) hop
  have hco:=k2 i o co (by rw[zal];exact ho) hi
  simp only[cOp,hg,zap] at hco
  obtain⟨_,hco⟩:=qac hco
  simp only[zac] at hco
  obtain⟨_,_,rfl⟩:=hco
  rfl
theorem qlN {ro:Option Nat}{cs:List COp}{tr:Nat->Cfg}{G0:Gh}{w0:World}(D:Drawn P e lof nt ops cs (qbS (ops.toList.map qaW) []) tr)(hback:qev ops.toList=true){Q:Exit->Act->World->Prop}
  {T:(Nat->Prop)->Gh->Act->World->Prop}
  (hstep:∀(S:Nat→Prop) U pd m G a w i o co,ops[i]? =some o→cs[i]? =some co→¬S i→(∀k j,S k→qa2 (qbS (ops.toList.map qaW) []) k j=true→S j)→(∀k,qa2 (qbS (ops.toList.map qaW) []) i k=true→S k)→Inv P e lof U0 nt base ops cs tr G0 w0 S U pd m G a w→T S G a w→
   ∀{K:Act->World->Prop},(∀U' pd' m' G' a' w',Inv P e lof U0 nt base ops cs tr G0 w0 (fun j=>S j\/j=i) U' pd' m' G' a' w'->T (fun j=>S j\/j=i) G' a' w'->K a' w')->
   if Region.wanted o (yielded ops a.tmps) then o.wpIn (FW ro) 0 P a w K Q else(∀f,o.about P w a.eval=some f->(FW ro).fn f)/\K (a.put o.dst undef) w)
  (hq:∀(S:Nat->Prop) U pd m G a w,(∀i,i<ops.size->S i)->Inv P e lof U0 nt base ops cs tr G0 w0 S U pd m G a w->T S G a w->Q .normal a w):
  ∀(fuel:Nat) (listed:Array Bool) U pd m G a w,listed.size=ops.size->(List.range ops.size).countP (fun i=>!listed.getD i false)<=fuel->(∀k j,listed.getD k false=true->qa2 (qbS (ops.toList.map qaW) []) k j=true->listed.getD j false=true)->
   Inv P e lof U0 nt base ops cs tr G0 w0 (fun i=>listed.getD i false=true) U pd m G a w->T (fun i=>listed.getD i false=true) G a w->wpAnyIn (FW ro) 0 P .any ops Q fuel listed a w:=by
 have hb:∀(k:Nat) es,(ops.toList.map qaW)[k]? =some es->∀e'∈es,e'<k:=by
  intro k es hes e' he'
  simp only[zav,zac] at hes
  obtain⟨o,ho,rfl⟩:=hes
  exact blt_iff.1 (zaj.1 (zaj.1 hback (k,o) (qbM ho)) e' he')
 have hready:∀(listed:Array Bool) i,listed.size=ops.size->(i∈Region.ready .any ops listed↔∃o,ops[i]? =some o/\listed.getD i false=false/\∀e'∈qaW o,listed.getD e' false=true):=by
  intro listed i hsz
  unfold Region.ready
  rw[List.mem_filter,List.mem_range]
  constructor
  ·rintro ⟨hi,h⟩
   have hoi:ops[i]? =some (ops[i]'hi):=zam hi
   simp only[zae,zaC,hoi,zaq,Option.getD_some,Array.all_eq_true_iff_forall_mem] at h
   refine⟨ops[i],hoi,?_,fun e' he'=>?_⟩
   ·rw[zao,zam (by omega)] at h⊢
    exact h.1
   ·unfold qaW at he'
    obtain⟨x,hx,rfl⟩:=zaS.1 he'
    obtain⟨h1,h2⟩:=List.mem_filter.1 hx
    have:=h.2 x (by simpa using h1)
    simp only[zaG,zaC] at this
    exact this.resolve_left (by rw[h2];simp)
  ·rintro ⟨o,ho,hl,he⟩
   have hi:i<ops.size:=(zag.1 ho).1
   refine⟨hi,?_⟩
   simp only[zae,zaC,ho,zaq,Option.getD_some,Array.all_eq_true_iff_forall_mem]
   refine⟨?_,fun x hx=>?_⟩
   ·rw[zao,zam (by omega)] at hl⊢
    exact hl
   ·cases hbx:Region.binds .any x with
    |false=>rfl
    |true=>
     simp only[Bool.not_true,Bool.false_or]
     exact he x.on (by unfold qaW;exact zaS.2 ⟨x,List.mem_filter.2 ⟨by simpa using hx,hbx⟩,rfl⟩)
 have hdone:∀(listed:Array Bool),listed.size=ops.size->Region.ready .any ops listed=[]->∀i,i<ops.size->listed.getD i false=true:=by
  intro listed hsz hr i
  induction i using Nat.strongRecOn with
  |_ i ih=>
   intro hi
   cases hl:listed.getD i false with
   |true=>rfl
   |false=>
    have hoi:ops[i]? =some (ops[i]'hi):=zam hi
    have:i∈Region.ready .any ops listed:=(hready listed i hsz).2 ⟨_,hoi,hl,fun e' he'=>by
     have:=hb i (qaW ops[i]) (by simp[hoi]) e' he'
     exact ih e' this (by omega)⟩
    rw[hr] at this
    cases this
 intro fuel
 induction fuel with
 |zero=>
  intro listed U pd m G a w hsz hcnt hcl I IT
  have hall:∀i,i<ops.size->listed.getD i false=true:=by
   intro i hi
   have:=List.countP_eq_zero.1 (Nat.le_zero.1 hcnt) i (List.mem_range.2 hi)
   simpa using this
  refine⟨?_,hq _ U pd m G a w hall I IT⟩
  apply List.eq_nil_iff_forall_not_mem.2
  intro i hi
  obtain⟨o,ho,hl,_⟩:=(hready listed i hsz).1 hi
  rw[hall i (zag.1 ho).1] at hl
  cases hl
 |succ fuel ih=>
  intro listed U pd m G a w hsz hcnt hcl I IT
  refine⟨fun hr=>hq _ U pd m G a w (hdone listed hsz hr) I IT,fun i hi=>?_⟩
  obtain⟨o,ho,hl,he⟩:=(hready listed i hsz).1 hi
  have hio:i<ops.size:=(zag.1 ho).1
  have hlen:=D.len
  have hci:cs[i]? =some (cs[i]'(by omega)):=zai (by omega)
  have hoi:(ops.toList.map qaW)[i]? =some (qaW o):=by simp[ho]
  have hrd:∀k,qa2 (qbS (ops.toList.map qaW) []) i k=true->listed.getD k false=true:=by
   intro k hw
   obtain⟨e',he',h⟩:=(qgZ hoi (hb i _ hoi) k).1 hw
   rcases h with rfl|h
   ·exact he e' he'
   ·exact hcl e' k (he e' he') h
  unfold wpOpIn
  simp only[ho]
  have qaD:∀j,(listed.setIfInBounds i true).getD j false=if j=i then true else listed.getD j false:=by
   intro j
   rw[zao,zao,Array.getElem?_setIfInBounds]
   by_cases e1:i=j
   ·subst e1;simp[hsz,hio]
   ·rw[if_neg e1,if_neg (fun e2=>e1 e2.symm)]
  refine hstep _ U pd m G a w i o _ ho hci (by simp[hl]) hcl hrd I IT fun U' pd' m' G' a' w' I' IT'=>?_
  have hSe:(fun j=>(listed.setIfInBounds i true).getD j false=true)=(fun j=>listed.getD j false=true\/j=i):=by
   funext j
   rw[qaD]
   by_cases e1:j=i
   ·simp[e1]
   ·simp[e1]
  refine ih (listed.setIfInBounds i true) U' pd' m' G' a' w' (by simpa using hsz) ?_ (fun k j hk hw=>?_) (by rw[hSe];exact I') (by rw[hSe];exact IT')
  ·have hlt:(List.range ops.size).countP (fun j=>!(listed.setIfInBounds i true).getD j false)<(List.range ops.size).countP (fun j=>!listed.getD j false):=by
    have key:∀(l:List Nat),i∈l->l.countP (fun j=>!(listed.setIfInBounds i true).getD j false)<l.countP (fun j=>!listed.getD j false):=by
     intro l
     induction l with
     |nil=>intro h;cases h
     |cons x l ihl=>
      intro h
      have hle:∀l:List Nat,l.countP (fun j=>!(listed.setIfInBounds i true).getD j false)<=l.countP (fun j=>!listed.getD j false):=fun l=>
       List.countP_mono_left fun j _ h=>by
        rw[qaD] at h
        split at h
        ·cases h
        ·exact h
      rw[List.countP_cons,List.countP_cons]
      by_cases hx:x=i
      ·subst hx
       rw[qaD,if_pos rfl,hl]
       have:=hle l
       simp only[Bool.not_true,zaB,if_false,Bool.not_false,if_true]
       omega
      ·have:=ihl ((zaI.1 h).resolve_left (fun e=>hx e.symm))
       rw[qaD,if_neg hx]
       omega
    exact key _ (List.mem_range.2 hio)
   omega
  ·rw[qaD] at hk⊢
   split
   ·rfl
   ·split at hk
    ·rename_i e1
     subst e1
     exact hrd j hw
    ·exact hcl k j hk hw
end Go.AI
