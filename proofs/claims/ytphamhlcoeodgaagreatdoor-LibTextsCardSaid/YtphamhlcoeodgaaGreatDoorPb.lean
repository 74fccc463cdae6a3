/- An interpreter for the code of the model, proved sound. No condition. -/
import Derived.Test.YtphamhlcoeodgaaGreatDoorPa
import Derived.MapKept
import Derived.Laws.IdiomRangeMap
import Derived.Laws.BytesString
import Derived.Laws.IdiomStrings
import Derived.LoopNIn
set_option linter.unusedVariables false
set_option linter.unusedSimpArgs false
open Array renaming getElem?_eq_some_iff→zag,getElem?_eq_getElem→zam,getElem?_toList→zan,getD_eq_getD_getElem?→zap,length_toList→zax
open Bool renaming and_eq_true→zae,false_eq_true→zaA,or_eq_true→zaE,not_eq_true'→zaH
open List renaming getElem?_eq_some_iff→zah,getElem?_eq_getElem→zai,all_eq_true→zaj,getElem?_cons_zero→zak,length_append→zal,replicate→zaq,getElem?_append_right→zas,getElem?_append_left→zat,length_eq_zero_iff→zav,getElem?_map→zaw,mem_append→zay,getElem?_take→zaz,map_cons→zaC,mem_of_getElem?→zaF,length_take→zaJ,mem_cons→zaO
open Nat renaming le_refl→zaf,lt_of_lt_of_le→zau,mul_le_mul_right→zaB,zero_add→zaI,add_mul→zaL,le_trans→zaN
open Option renaming map_eq_some_iff→zab,bind_eq_some_iff→zac,map_some→zao,bind_some→zar
open Option.some renaming injEq→zaa
open Prod.mk renaming injEq→zad
namespace Go.AI
variable {P:Program} {E:Rom} {U pd:Nat->Option (List zA)} {l:Tr (Nat×List zA)} {s:ASt} {G:Gh} {w w':World} {f:Tr zA} {a:Act} {o:Oper} {v:zA}
theorem PR.vals {S:Nat->Nat->Prop}{n:Nat}{cs:List zP}{ad:Option Addr}{cap:Nat}(h:PR S w (.sl n cs) (.slice ad n cap)):
  ∃vs:List Value,n<=cap/\(n=0↔cs=[])/\Rows (PR S w) cs vs.toArray/\∀(i:Nat) v,vs[i]? =some v->∃x,ad=some x/\w.cell? (x.add i)=some v:=by
 cases h with
 |sl _ _ _ _ vs hn hl hz h1 hc h=>
  exact⟨vs,hn,hz,⟨by simpa using hl,by simpa using h1,fun i c v hc hv=>h i c v hc (by simpa using hv)⟩,fun i v hv=>by
   obtain⟨x,e,h2,_⟩:=hc i v hv
   exact⟨x,e,h2⟩⟩
theorem qdc {sz n cap:Nat}{ad:Option Addr}{vs:List Value}(hl:vs.length=n*sz)(h0:n=0↔vs=[])(hc:∀(i:Nat) v,vs[i]? =some v->∃x,ad=some x/\w.cell? (x.add i)=some v):
  (Builtin.firstCells sz n (.slice ad n cap)).run P w=.ok vs.toArray w:=by
 cases ad with
 |none=>
  cases vs with
  |nil=>
   have:=h0.2 rfl
   subst this
   exact run_firstCells_none w sz 0 0 cap
  |cons v vs=>obtain⟨_,e,_⟩:=hc 0 v rfl;cases e
 |some x=>exact run_firstCells_some w sz n x n cap vs hl (fun j u hu=>by
   obtain⟨x',e,h⟩:=hc j u hu
   cases e
   exact h)
theorem qqa {sz n cap:Nat}{tx e':TypeId}(hk:P.underlying tx=some (.slice e')){ad:Option Addr}{vs:List Value}(hl:vs.length=n*sz)(h0:n=0↔vs=[])(hc:∀(i:Nat) v,vs[i]? =some v->∃x,ad=some x/\w.cell? (x.add i)=some v)
  (h1:∀u∈vs,u.oneCell'=true):Src P sz tx (.slice ad n cap) n vs w:=
 ⟨.inl ⟨e',hk⟩,fun _=>rfl,qdc hl h0 hc,qdc hl h0 (fun i v hv=>by simpa using hc i v hv),hl,h1⟩
theorem qee {t tx ty e e':TypeId}{i:TypeInfo}(ht:P.underlying t=some (.slice e))(hk:P.underlying tx=some (.slice e'))(hi:P.info? e=some i){b n cap m:Nat}{c:Array Value}{E0:TypeId}(hb:w.heap[b]? =some (.cells c E0 (0,0)))
  {x:Value}{news:List Value}(hs:Src P i.size tx x m news w)(hroom:n+m<=cap)(hfit:n*i.size+news.length<=c.size):
  (Builtin.append_ #[t,tx] ty #[.slice (some ⟨b,0,none⟩) n cap,x]).run P w=
   .ok (.slice (some ⟨b,0,none⟩) (n+m) cap) (w.setRow b (c.toList.take (n*i.size)++news++c.toList.drop (n*i.size+news.length)).toArray):=by
 have hst:=run_storeCells_at P b (n*i.size) E0 news 0 c w hb (by simpa using hfit) hs.one
 simp only[Nat.add_zero] at hst
 simp[Builtin.append_,run_underlying ht,run_underlying hk,sizeOf,typeInfo,hi,hs.len,hroom,hs.cells,Addr.add_lit,hst]
theorem Rows.pext {G':Gh}(x:Ext G w G' w'){cs:List zP}{c:Array Value}(h:Rows (PR G.S w) cs c):Rows (PR G'.S w') cs c:=⟨h.1,h.2.1,fun i a v ha hv=>(h.2.2 i a v ha hv).ext x⟩
theorem Rows.append {α:Type}{R:α->Value->Prop}{xs ys:List α}{us vs:List Value}(h:Rows R xs us.toArray)(k:Rows R ys vs.toArray):Rows R (xs++ys) (us++vs).toArray:=by
 have hl:xs.length=us.length:=by simpa using h.1
 refine⟨by have:=k.1;simp at this⊢;omega,fun v hv=>?_,fun i c v hc hv=>?_⟩
 ·simp only[List.mem_toArray,zay] at hv
  rcases hv with hv|hv
  ·exact h.2.1 v (by simpa using hv)
  ·exact k.2.1 v (by simpa using hv)
 ·rw[List.getElem?_toArray] at hv
  by_cases hi:i<xs.length
  ·rw[zat hi] at hc
   rw[zat (by omega)] at hv
   exact h.2.2 i c v hc (by simpa using hv)
  ·rw[zas (by omega)] at hc
   rw[zas (by omega)] at hv
   exact k.2.2 (i-xs.length) c v hc (by rw[List.getElem?_toArray,hl];exact hv)
theorem PR.head {S:Nat->Nat->Prop}{b n cap:Nat}{cs:List zP}{vs:List Value}{c:Array Value}{E0:TypeId}(hb:w.heap[b]? =some (.cells c E0 (0,0)))(hr:Rows (PR S w) cs vs.toArray)(hz:n=0↔cs=[])(hn:n<=cap)
  (hc:∀i,i<vs.length->c[i]? =vs[i]?)(hS:∀i,i<vs.length->S b i):PR S w (.sl n cs) (.slice (some ⟨b,0,none⟩) n cap):=by
 refine .sl n cs _ cap vs hn (by simpa using hr.1) hz (fun u hu=>hr.2.1 u (by simpa using hu)) (fun i u hu=>?_) (fun i c u hc hu=>hr.2.2 i c u hc (by simpa using hu))
 have hi:i<vs.length:=(zah.1 hu).1
 refine⟨_,rfl,?_,?_⟩
 ·rw[qbZ]
  unfold World.cell?
  simp only[hb,Option.isSome_none,zaA,if_false]
  simp only[zaI]
  rw[hc i hi]
  exact hu
 ·simpa using hS i hi
theorem qol {G:Gh}{b t n sz i:Nat}(h:G.own b=.tok t n sz)(hi:i<n*sz):G.S b i:=by unfold Gh.S;rw[h];exact hi
theorem qef {e:TypeId}{i:TypeInfo}(hi:P.info? e=some i)(h:(zeroCells P e).isSome=true):∃z,i.zero=some z/\z.cells.size=i.size:=by
 obtain⟨cs,hcs⟩:=Option.isSome_iff_exists.1 h
 obtain⟨i',z,n,hi',hz,hn,hl,hr,_⟩:=qaC (P:=P) ⟨fun _=> .free,fun _=>none,fun _ _=>none,0,0⟩ default hcs
 rw[hi] at hi'
 cases hi'
 obtain⟨_,i'',_,hi'',hsz,_⟩:=qcj hn
 rw[hi] at hi''
 cases hi''
 exact⟨z,hz,by rw[<-hr.1,hl,hsz]⟩
theorem qqb (h:MR P E U pd l s G w)(c:Call)(hop:o.op=.call c)(hc:c.callee=.builtin .append){x y:Operand}(hxs:c.args.toList=[x,y]){t u e e':TypeId}(hts:c.argTypes.toList=[t,u])(ht:P.underlying t=some (.slice e))(hu:P.underlying u=some (.slice e'))
  {i:TypeInfo}(hi:P.info? e=some i)(hsz:0<i.size)(hby:0<i.bytes)(hzc:(zeroCells P e).isSome=true){gx gy:Arg}(hx:qax x=some gx)(hy:qax y=some gy)(hr:qan G w f a (gx.tmps++gy.tmps))
  {m n:Nat}{cs new:List zP}{tk:Tk}(hnew:qcm (gy.ev f)=some (m,new))(hsv:gx.ev f=.sl n cs tk)(hle:(n+m)*i.bytes<=140737488355328)(hnl:new.length=m*i.size):
  (m=0->NextP P (qba P E U pd G w l s (.sl n cs tk)) ((execOp a.eval o).run P w))/\
  (m≠0->tk=.full->cs.length=n*i.size->NextP P (qba P E U pd G w l {s with ntok:=s.ntok+1,toks:=(s.ntok,n+m,i.size)::s.toks} (.sl (n+m) (cs++new) (.own s.ntok))) ((execOp a.eval o).run P w))/\
  (m≠0->∀t ts,tk=.own t->qap s.toks t=some (n,i.size)->qbO s.toks t (n+m,i.size)=some ts->NextP P (qba P E U pd G w l {s with toks:=ts} (.sl (n+m) (cs++new) (.own t))) ((execOp a.eval o).run P w)):=by
 have h1:=qat hx fun t ht=>hr t (by simp[ht])
 have h2:=qat hy fun t ht=>hr t (by simp[ht])
 have he:execOp a.eval o=(do pure (.value (<-Builtin.append_ #[t,u] o.type #[a.eval x,a.eval y]))):=by
  rw[qaI c hop .append hc,qeQ hxs,qeQ hts];simp[builtin]
 obtain⟨ad,cap,ey,hpy⟩:=qcr hnew h2
 obtain⟨news,_,hnz,hrn,hcn⟩:=hpy.vals
 have hnl':news.length=m*i.size:=by have:=hrn.1;simp at this;omega
 have hm0:m=0↔news=[]:=by
  constructor
  ·intro e;rw[e,Nat.zero_mul] at hnl';exact zav.1 hnl'
  ·intro e
   rw[e] at hnl'
   rcases Nat.eq_zero_or_pos m with e1|e1
   ·exact e1
   ·have:=Nat.mul_pos e1 hsz
    simp at hnl'
    omega
 have hsrc:Src P i.size u (.slice ad m cap) m news w:=qqa hu hnl' hm0 hcn (fun u hu=>hrn.2.1 u (by simpa using hu))
 obtain⟨z,hz,hzs⟩:=qef hi hzc
 have h63:((n+m:Nat):Int)<=9223372036854775807:=by
  have:n+m<=(n+m)*i.bytes:=Nat.le_mul_of_pos_right _ hby
  omega
 have hrow:qcm (gx.ev f)=some (n,cs):=by rw[hsv];rfl
 obtain⟨bd,bc,ex,hpx⟩:=qcr hrow h1
 obtain⟨olds,hnc,hoz,hro,hco⟩:=hpx.vals
 have hol:olds.length=cs.length:=by have:=hro.1;simp at this;omega
 refine⟨fun em=>?_,fun em etk ecs=>?_,fun em t1 ts etk ets qaM=>?_⟩
 ·subst em
  have:news=[]:=hm0.1 rfl
  subst this
  refine qaK (u:=a.eval x) (w':=w) he ?_ ⟨G,Ext.refl G w,h,by rw[<-hsv];exact h1⟩
  rw[ex,ey]
  exact run_append_nothing w t u o.type e i ht hi bd n bc hnc _ hsrc
 ·
  subst etk
  rw[hsv] at h1
  have hbc:bc=n:=by
   rw[ex] at h1
   cases h1
   rfl
  subst hbc
  have hfo:(Builtin.firstCells i.size bc (.slice bd bc bc)).run P w.drew=.ok olds.toArray w.drew:=qdc (by omega) (by
   constructor
   ·intro e0;rw[hoz] at e0;rw[e0] at hol;exact zav.1 (by simpa using hol)
   ·intro e0;rw[hoz];rw[e0] at hol;exact zav.1 (by simpa using hol.symm)) (fun j v hv=>by simpa using hco j v hv)
  have hrun:=run_append_grow_src w t u o.type e i z ht hi hz bd bc bc olds hfo (.slice ad m cap) m news hsrc (by omega) h63 (growslice_fits (by omega) hle)
  generalize hcap':grownCap w (bc+m) bc e=cap' at hrun
  have hge:bc+m<=cap':=by rw[<-hcap'];exact grownCap_ge w _ _ _
  have k:Keep w (w.drew.alloc (.cells ((olds++news).toArray++Builtin.zeroCells z.cells (cap'-(bc+m))) e)):=(Keep.drew w).trans (Keep.alloc _ _)
  have hheap:=heap_alloc_new w.drew (.cells ((olds++news).toArray++Builtin.zeroCells z.cells (cap'-(bc+m))) e)
  have hdsz:w.drew.heap.size=w.heap.size:=rfl
  rw[hdsz] at hheap
  have hcsz:((olds++news).toArray++Builtin.zeroCells z.cells (cap'-(bc+m))).size=cap'*i.size:=by
   rw[Array.size_append,size_zeroCells,hzs]
   simp only[List.size_toArray,zal,hol,ecs,hnl',<-zaL]
   congr 1
   omega
  have hlt:w.heap.size<(w.drew.alloc (.cells ((olds++news).toArray++Builtin.zeroCells z.cells (cap'-(bc+m))) e)).heap.size:=by simp
  obtain⟨x1,m1⟩:=h.addT k (n:=bc+m) (sz:=i.size) (zaf _) hlt hsz hheap (by rw[hcsz];exact zaB _ hge)
  have hown:(G.addT w.heap.size s.ntok (bc+m) i.size).own w.heap.size=.tok s.ntok (bc+m) i.size:=by simp[Gh.addT,qav]
  refine qaK he (by rw[ex,ey];exact hrun) ⟨_,x1,m1,.own _ _ _ _ _ ?_ ?_⟩
  ·refine PR.head hheap ((hro.append hrn).pext x1) ?_ hge (fun j hj=>?_) (fun j hj=>qol hown (by simp only[zal,hol,ecs,hnl',←zaL] at hj;exact hj))
   ·have:new≠[]:=fun e0=>em (hnz.2 e0)
    simp[em,this]
   ·rw[Array.getElem?_append_left (by simpa using hj)];simp
  ·refine⟨by show s.ntok<G.nt+1;rw[h.nt];exact Nat.lt_succ_self _,fun b q p hb=>?_⟩
   have hb':b=w.heap.size:=m1.tok.2.2 b w.heap.size _ _ _ _ _ hb hown
   subst hb'
   rw[hown] at hb
   injection hb with e1 e2 e3
   subst e2;subst e3
   exact⟨zaf _,fun _=>⟨rfl,by simp only[zal,ecs,hnl,zaL],hsz,_,_,hheap,hcsz⟩⟩
 ·
  subst etk
  rw[hsv,ex] at h1
  obtain⟨hr1,hr2⟩:Right G w n cs t1 bd bc:=by cases h1;assumption
  obtain⟨_,b,hb⟩:=h.tok.1 t1 n i.size ets
  obtain⟨_,hr3⟩:=hr2 b n i.size hb
  obtain⟨ebd,ecs,_,c0,E0,hheap0,hc0⟩:=hr3 rfl
  subst ebd
  have hfo0:n=0↔olds=[]:=by
   constructor
   ·intro e0;rw[hoz] at e0;rw[e0] at hol;exact zav.1 (by simpa using hol)
   ·intro e0;rw[hoz];rw[e0] at hol;exact zav.1 (by simpa using hol.symm)
  have hne:new≠[]:=fun e0=>em (hnz.2 e0)
  by_cases hroom:n+m<=bc
  ·have hfit:n*i.size+news.length≤c0.size:=by rw[hnl',hc0,←zaL];exact zaB _ hroom
   have hrun:=qee (ty:=o.type) ht hu hi hheap0 hsrc hroom hfit
   have hheap1:=setRow_heap w b c0 (c0.toList.take (n*i.size)++news++c0.toList.drop (n*i.size+news.length)).toArray E0 (0,0) hheap0
   have qaH:=qcT c0 news (n*i.size) hfit
   have hsize:=qaW c0 news (n*i.size) hfit
   obtain⟨x1,m1⟩:=h.setT (n':=n+m) (Swap.setRow w b _ (fun c1 E1 f1 h1=>by rw[hheap0] at h1;injection h1 with h1;injection h1 with h1 _ _;rw[<-h1];exact hsize)) hb (Nat.le_add_right _ _) hheap0 hheap1 hsize (by rw[hc0];exact zaB _ hroom) (fun j hj=>by rw[qaH,if_pos hj]) qaM
   have hown:(G.setT b t1 (n+m) i.size).own b=.tok t1 (n+m) i.size:=by simp[Gh.setT,qav]
   refine qaK he (by rw[ex,ey];exact hrun) ⟨_,x1,m1,.own _ _ _ _ _ ?_ ?_⟩
   ·refine PR.head hheap1 ((hro.append hrn).pext x1) (by simp[em,hne]) hroom (fun j hj=>?_) (fun j hj=>qol hown (by simp only[zal,hol,ecs,hnl',←zaL] at hj;exact hj))
    rw[qaH]
    simp only[zal] at hj
    by_cases c1:j<n*i.size
    ·rw[if_pos c1,zat (by omega)]
     have hj':j<olds.length:=by omega
     obtain⟨x',e1,e2⟩:=hco j _ (zai hj')
     cases e1
     rw[qbZ] at e2
     unfold World.cell? at e2
     simp only[hheap0,Option.isSome_none,zaA,if_false,zaI] at e2
     rw[e2,zai hj']
    ·rw[if_neg c1,if_pos (by omega),zas (by omega)]
     congr 1
     omega
   ·refine⟨by show t1<G.nt;exact hr1,fun b' q p hb'=>?_⟩
    have hbb:b'=b:=m1.tok.2.2 b' b _ _ _ _ _ hb' hown
    subst hbb
    rw[hown] at hb'
    injection hb' with e1 e2 e3
    subst e2;subst e3
    exact⟨zaf _,fun _=>⟨rfl,by simp only[zal,ecs,hnl,zaL],hsz,_,_,hheap1,by rw[hsize,hc0]⟩⟩
  ·have hfo:(Builtin.firstCells i.size n (.slice (some ⟨b,0,none⟩) n bc)).run P w.drew=.ok olds.toArray w.drew:=by
    refine run_firstCells_some w.drew i.size n ⟨b,0,none⟩ n bc olds (by omega) (fun j v hv=>?_)
    obtain⟨x',e1,e2⟩:=hco j v hv
    cases e1
    simpa using e2
   have hrun:=run_append_grow_src w t u o.type e i z ht hi hz (some ⟨b,0,none⟩) n bc olds hfo (.slice ad m cap) m news hsrc (by omega) h63 (growslice_fits (by omega) hle)
   generalize hcap':grownCap w (n+m) bc e=cap' at hrun
   have hge:n+m<=cap':=by rw[<-hcap'];exact grownCap_ge w _ _ _
   have k:Keep w (w.drew.alloc (.cells ((olds++news).toArray++Builtin.zeroCells z.cells (cap'-(n+m))) e)):=(Keep.drew w).trans (Keep.alloc _ _)
   have hheap:=heap_alloc_new w.drew (.cells ((olds++news).toArray++Builtin.zeroCells z.cells (cap'-(n+m))) e)
   have hdsz:w.drew.heap.size=w.heap.size:=rfl
   rw[hdsz] at hheap
   have hcsz:((olds++news).toArray++Builtin.zeroCells z.cells (cap'-(n+m))).size=cap'*i.size:=by
    rw[Array.size_append,size_zeroCells,hzs]
    simp only[List.size_toArray,zal,hol,ecs,hnl',<-zaL]
    congr 1
    omega
   have hlt:w.heap.size<(w.drew.alloc (.cells ((olds++news).toArray++Builtin.zeroCells z.cells (cap'-(n+m))) e)).heap.size:=by simp
   obtain⟨x1,m1⟩:=h.movT k (n':=n+m) (nb:=w.heap.size) hb (by omega) (zaf _) hlt hheap (by rw[hcsz];exact zaB _ hge) qaM
   have hown:(G.movT b w.heap.size t1 (n+m) i.size).own w.heap.size=.tok t1 (n+m) i.size:=by simp[Gh.movT,qav]
   refine qaK he (by rw[ex,ey];exact hrun) ⟨_,x1,m1,.own _ _ _ _ _ ?_ ?_⟩
   ·refine PR.head hheap ((hro.append hrn).pext x1) (by simp[em,hne]) hge (fun j hj=>?_) (fun j hj=>qol hown (by simp only[zal,hol,ecs,hnl',←zaL] at hj;exact hj))
    rw[Array.getElem?_append_left (by simpa using hj)];simp
   ·refine⟨by show t1<G.nt;exact hr1,fun b' q p hb'=>?_⟩
    have hbb:b'=w.heap.size:=m1.tok.2.2 b' w.heap.size _ _ _ _ _ hb' hown
    subst hbb
    rw[hown] at hb'
    injection hb' with e1 e2 e3
    subst e2;subst e3
    exact⟨zaf _,fun _=>⟨rfl,by simp only[zal,ecs,hnl,zaL],hsz,_,_,hheap,hcsz⟩⟩
theorem qom (h:MR P E U pd l s G w)(t:TypeId)(x:Operand)(hop:o.op=.makeSlice t (.const (.int .i64 0)) x){e:TypeId}(ht:P.underlying t=some (.slice e)){i:TypeInfo}(hi:P.info? e=some i)(hsz:0<i.size)(hby:0<i.bytes)(hzc:(zeroCells P e).isSome=true)
  {g:Arg}(hg:qax x=some g)(hr:qan G w f a g.tmps){m:Nat}(hm:qbe (g.ev f)=some m)(hle:m*i.bytes<=140737488355328):
  NextP P (qba P E U pd G w l {s with ntok:=s.ntok+1,toks:=(s.ntok,0,i.size)::s.toks} (.sl 0 [] (.own s.ntok))) ((execOp a.eval o).run P w):=by
 obtain⟨k,ek⟩:=qbh hm (qat hg hr)
 obtain⟨z,hz,hzs⟩:=qef hi hzc
 have hmb:m<=m*i.bytes:=Nat.le_mul_of_pos_right _ hby
 have hrun:=run_make (P:=P) w t e i z ht hi hz .i64 k 0 (m:Int) (Int.le_refl _) (by omega) (by
  have:((m*i.bytes:Nat):Int)<=140737488355328:=by omega
  rw[Int.natCast_mul,Int.mul_comm] at this
  omega) (by omega)
 have hheap:=heap_alloc_new w (.cells (madeCells z.cells ((m:Int).toNat*i.size)) e)
 obtain⟨x1,m1⟩:=h.addT (Keep.alloc w (.cells (madeCells z.cells ((m:Int).toNat*i.size)) e)) (n:=0) (sz:=i.size) (zaf _) (qa7 w _) hsz hheap (by simp)
 have hown:(G.addT w.heap.size s.ntok 0 i.size).own w.heap.size=.tok s.ntok 0 i.size:=by simp[Gh.addT,qav]
 refine qaK (qcN t _ x hop) (by rw[ek];exact hrun) ⟨_,x1,m1,.own _ _ _ _ _ (PR.nil_row _ _) ?_⟩
 refine⟨by show s.ntok<G.nt+1;rw[h.nt];exact Nat.lt_succ_self _,fun b q p hb=>?_⟩
 have hb':b=w.heap.size:=m1.tok.2.2 b w.heap.size _ _ _ _ _ hb hown
 subst hb'
 rw[hown] at hb
 injection hb with e1 e2 e3
 subst e2;subst e3
 exact⟨zaf _,fun _=>⟨rfl,by simp,hsz,_,_,hheap,by rw[size_madeCells]⟩⟩
theorem qbU {z:List zA}(hz:z.all qaG=true)(n:Nat):(zaq n z).flatten.all qaG=true:=by
 rw[zaj]
 intro x hx
 obtain⟨l,hl,hx⟩:=List.mem_flatten.1 hx
 rw[List.eq_of_mem_replicate hl] at hx
 exact zaj.1 hz x hx
theorem qqc (h:MR P E U pd l s G w)(t:TypeId)(x y:Operand)(hop:o.op=.makeSlice t x y){e:TypeId}(ht:P.underlying t=some (.slice e)){i:TypeInfo}(hi:P.info? e=some i)(hsz:0<i.size)(hby:0<i.bytes){zs:List zA}(hzc:zeroCells P e=some zs)
  {gx gy:Arg}(hgx:qax x=some gx)(hgy:qax y=some gy)(hr:qan G w f a (gx.tmps++gy.tmps)){m k:Nat}(hm:qbe (gx.ev f)=some m)(hk:qbe (gy.ev f)=some k)(hmk:m<=k)(hle:k*i.bytes<=140737488355328)(ha:zs.all qaG=true):
  NextP P (qba P E U pd G w l (qaw s (.cells (zaq k zs).flatten)) (.hs s.next 0 m k i.size false)) ((execOp a.eval o).run P w):=by
 obtain⟨q1,e1⟩:=qbh hm (qat hgx fun t ht=>hr t (by simp[ht]))
 obtain⟨q2,e2⟩:=qbh hk (qat hgy fun t ht=>hr t (by simp[ht]))
 obtain⟨i',z,n,hi',hz,hn,hlen,hrows,_⟩:=qaC G w hzc
 rw[hi] at hi'
 cases hi'
 obtain⟨_,i2,_,hi2,hs2,_⟩:=qcj hn
 rw[hi] at hi2
 cases hi2
 have hzs:z.cells.size=i.size:=by rw[<-hrows.1,hlen,hs2]
 have hkb:k<=k*i.bytes:=Nat.le_mul_of_pos_right _ hby
 have hrun:=run_make (P:=P) w t e i z ht hi hz q1 q2 (m:Int) (k:Int) (by omega) (by omega) (by
  have:((k*i.bytes:Nat):Int)<=140737488355328:=by omega
  rw[Int.natCast_mul,Int.mul_comm] at this
  omega) (by omega)
 have hr1:=qaR hrows k
 rw[hzs] at hr1
 have e3:madeCells z.cells (k*i.size)=(Array.range (k*i.size)).map (z.cells[·%i.size]!):=by unfold madeCells;rw[hzs]
 rw[<-e3] at hr1
 have ha1:=qbU ha k
 have x1:=h.ext_addH (Keep.alloc w (.cells (madeCells z.cells (k*i.size)) e)) (b:=w.heap.size) (q:=s.next) (zaf _) h.bOf_next h.lo_
 have m1:=h.addH (Keep.alloc w (.cells (madeCells z.cells (k*i.size)) e)) (zaf _) (qa7 w _) (o:=.cells (zaq k zs).flatten) ⟨BR.of_rows (heap_alloc_new w _) (hr1.ext x1),ha1⟩
 refine qaK (qcN t x y hop) (by rw[e1,e2];exact hrun) ⟨_,x1,m1,.hs _ _ _ _ _ _ w.heap.size k (by simp[Gh.addH,qav]) hmk (zaf _) (fun _=>rfl) ⟨_,e,_,heap_alloc_new w _,?_⟩⟩
 rw[size_madeCells]
 omega
theorem qqd (h:MR P E U pd l s G w)(t:TypeId)(len:Nat)(ps:Array (Nat×Operand))(hop:o.op=.buildSlice t len ps){e:TypeId}(ht:qbH P t=some e){sz:Nat}(hs:qcK P e=some sz){n:Option Nat}(hn:shp P e=some n)
  {z:List zA}(hz:zeroCells P e=some z)(hle:len*sz<=100000){gs:List (Nat×Option Nat×Arg)}(hg:qbs (fun i=>some (i*sz,n)) ps.toList=some gs)
  (hr:qan G w f a (gs.flatMap fun p=>p.2.2.tmps)){cs:List zA}(hf:qbv (zaq len z).flatten f gs=some cs)(ha:cs.all qaG=true):
  NextP P (qba P E U pd G w l (qaw s (.cells cs)) (.hs s.next 0 len len sz false)) ((execOp a.eval o).run P w):=by
 obtain⟨i,zv,n',hi,hiz,hsh,hlen,hrows,_⟩:=qaC G w hz
 obtain⟨hs0,i',hi',his⟩:=qbD hs
 obtain⟨_,i'',_,hi'',hsz,_⟩:=qcj hn
 rw[hi] at hi' hi''
 cases hi';cases hi''
 rw[hn] at hsh
 cases hsh
 have hu:=qaO ht
 have hzc:zv.cells.size=sz:=by rw[<-hrows.1,hlen,<-hsz,his]
 have hr0:=qaR hrows len
 rw[hzc] at hr0
 obtain⟨cells',h1,h2⟩:=qda (w:=w) (f:=f) (a:=a) (place':=fun i=>some (i*sz,sz)) (fun i off n h=>by
  simp only[zaa,zad] at h⊢
  obtain⟨rfl,rfl⟩:=h
  exact⟨rfl,by omega⟩) hg hf hr hr0
 have hsmall:¬len*i.size>2^24:=by rw[his];omega
 have hsize:cells'.size=len*sz:=by
  have e1:=h2.1
  rw[qgf hf] at e1
  have e2:=hr0.1
  rw[Array.size_map,Array.size_range] at e2
  rw[<-e1,e2]
 have x1:=h.ext_addH (Keep.alloc w (.cells cells' e)) (b:=w.heap.size) (q:=s.next) (zaf _) h.bOf_next h.lo_
 have m1:=h.addH (Keep.alloc w (.cells cells' e)) (zaf _) (qa7 w _) (o:=.cells cs) ⟨BR.of_rows (heap_alloc_new w _) (h2.ext x1),ha⟩
 refine qaK (qbJ t len ps hop) (qbK w t e len _ cells' i zv hu hi hiz hsmall ?_) ⟨_,x1,m1,.hs _ _ _ _ _ _ w.heap.size len (by simp[Gh.addH,qav]) (zaf _) (zaf _) (fun _=>rfl) ⟨_,e,_,heap_alloc_new w _,by omega⟩⟩
 rw[his,hzc,Array.toList_map]
 exact h1
end Go.AI
namespace Go.AI
variable {P:Program} {E:Rom} {U pd:Nat->Option (List zA)} {l:Tr (Nat×List zA)} {s:ASt} {G:Gh} {w w':World} {f:Tr zA} {a:Act} {o:Oper} {v:zA}
theorem qe5 (h:MR P E U pd l s G w){q b:Nat}{cs0:List zA}(hb:G.bOf q=some b)(hc0:qbS E s q=some cs0):BR G w b cs0:=by
 unfold qbS at hc0
 split at hc0
 ·rename_i ds he
  simp only[zaa] at hc0
  subst hc0
  rcases(h.heap q _ he).2 with e|⟨b',h1,h2,h3⟩
  ·rw[hb] at e;cases e
  ·rw[hb] at h1;cases h1;exact h3.1
 ·cases hc0
 ·split at hc0<;>try (cases hc0;done)
  rename_i ds he
  simp only[zaa] at hc0
  subst hc0
  obtain⟨hqlo,he⟩:=qea he
  rcases((h.ro q _ he).1 hqlo).2 with e|⟨b',j,h1,h2,h3⟩
  ·rw[hb] at e;cases e
  ·rw[hb] at h1;cases h1;exact h3.1
theorem MR.delH (h:MR P E U pd l s G w){q b:Nat}(hb:G.bOf q=some b):MR P E U pd l {s with heap:=qfW s.heap q none} G w:=by
 refine⟨h.own,h.bOf,h.lo_,fun k zs hk=>?_,h.pdz,h.nt,h.loc,h.lam,fun k p hk=>?_,h.ro,h.tok⟩
 ·obtain⟨h1,h2,h3⟩:=h.un k zs hk
  refine⟨h1,?_,h3⟩
  show qaH (qfW s.heap q none) k=_
  rw[qa6,if_neg (fun e=>by subst e;rw[hb] at h1;cases h1)]
  exact h2
 ·have hk':qaH (qfW s.heap q none) k=some p:=hk
  rw[qa6] at hk'
  split at hk'
  ·cases hk'
  ·exact h.heap k p hk'
theorem MR.ext_mvH (h:MR P E U pd l s G w){b q:Nat}(sw:Swap b w w')(ho:G.own b=.loc q):Ext G w (G.addH b s.next) w' where
 size:=by rw[sw.size];exact zaf _
 os:=sw.os
 tape:=sw.tape
 output:=sw.output
 still:=fun y _ hs=>by
  have e:y≠b:=fun e=>by subst e;rw[ho] at hs;exact hs
  exact⟨sw.same y e,qar _ _ _ e⟩
 tok:=fun y t n sz _ h1=>by
  have e:y≠b:=fun e=>by subst e;rw[ho] at h1;cases h1
  refine⟨fun i u _ hu=>?_,.inr ⟨n,zaf _,by simp only[Gh.addH];rw[qar _ _ _ e];exact h1⟩⟩
  unfold World.cell? at hu⊢
  rw[sw.same y e]
  exact hu
 shape:=fun y t n sz c E h1 h2 _=>by
  have e:y≠b:=fun e=>by subst e;rw[ho] at h1;cases h1
  exact⟨c,by rw[sw.same y e];exact h2,rfl⟩
 wide:=sw.wideAll
 loc:=fun y q1 h1=>by
  by_cases e:y=b
  ·subst e;exact⟨s.next,by simp[Gh.addH,qav]⟩
  ·exact⟨q1,by simp only[Gh.addH];rw[qar _ _ _ e];exact h1⟩
 lcl:=fun y i g h1=>by
  have e:y≠b:=fun e=>by subst e;rw[ho] at h1;cases h1
  simp only[Gh.addH];rw[qar _ _ _ e];exact h1
 bOf:=fun j x hx=>by
  simp only[Gh.addH]
  rw[qar _ _ _ (fun e=>by rw[e,h.bOf_next] at hx;cases hx)]
  exact hx
 lam:=fun _ _ _ h=>h
 nt:=zaf _
 lo_:=rfl
 low:=fun j hj=>by
  simp only[Gh.addH]
  rw[qar _ _ _ (by have:=h.lo_;omega)]
 old:=fun y t m sz h1 _=>by
  have e:y≠b:=fun e=>by subst e;simp[Gh.addH,qav] at h1
  simp only[Gh.addH] at h1
  rw[qar _ _ _ e] at h1
  exact⟨y,m,h1,zaf _,fun _=>rfl⟩
theorem MR.mvH (h:MR P E U pd l s G w){b q:Nat}(sw:Swap b w w')(ho:G.own b=.loc q)(hd:qaH s.heap q=none){ob:zH}(hr:OR P (G.addH b s.next) w' b ob):MR P E U pd l (qaw s ob) (G.addH b s.next) w':=by
 have x:Step G w (G.addH b s.next) w' (fun y=>y=b):=⟨h.ext_mvH sw ho,fun y _ hn=>⟨sw.same y hn,qar _ _ _ hn⟩⟩
 have hne:∀y r,G.own y=r->r≠.loc q->y≠b:=fun y r h1 h2 e=>h2 (by rw[<-h1,e,ho])
 refine⟨fun y hy=>?_,fun j y hj=>?_,Nat.le_succ_of_le h.lo_,fun j zs hj=>?_,h.pdz,h.nt,h.loc.step x (fun y q r ho=>hne y _ ho (by simp)),h.lam,fun j p hj=>?_,h.ro.step x (fun y q ho=>hne y _ ho (by simp)),
  h.tok.step (fun y t n sz ho=>by simp only[Gh.addH];rw[qar _ _ _ (hne y _ ho (by simp))];exact ho) (fun y t n sz ho=>by
   have hy:y≠b:=fun e=>by subst e;simp[Gh.addH,qav] at ho
   simp only[Gh.addH] at ho
   rw[qar _ _ _ hy] at ho
   exact ho) (fun y _ _ _ ho=>sw.same y (hne y _ ho (by simp)))⟩
 ·rw[sw.size]
  by_cases e:y=b
  ·subst e;exact h.own y (by rw[ho];simp)
  ·simp only[Gh.addH] at hy
   rw[qar _ _ _ e] at hy
   exact h.own y hy
 ·show j<s.next+1
  simp only[Gh.addH] at hj
  by_cases e:j=s.next
  ·omega
  ·rw[qar _ _ _ e] at hj
   exact Nat.lt_succ_of_lt (h.bOf j y hj)
 ·obtain⟨h1,h2,h3⟩:=h.un j zs hj
  have hlt:=(h.heap _ _ h2).1
  have e:j≠s.next:=by omega
  refine⟨by simp only[Gh.addH];rw[qar _ _ _ e];exact h1,?_,h3⟩
  show qaH (qfW s.heap s.next (some ob)) j=_
  rw[qa6,if_neg (fun e'=>e e'.symm)]
  exact h2
 ·have hj':qaH (qfW s.heap s.next (some ob)) j=some p:=hj
  rw[qa6] at hj'
  split at hj'
  ·rename_i e
   subst e
   injection hj' with e1
   subst e1
   exact⟨Nat.lt_succ_self _,.inr ⟨b,by simp[Gh.addH,qav],by simp[Gh.addH,qav],hr⟩⟩
  ·rename_i e
   obtain⟨h1,h2⟩:=h.heap j p hj'
   refine⟨Nat.lt_succ_of_lt h1,?_⟩
   rcases h2 with h2|⟨y,h3,h4,h5⟩
   ·exact .inl (by simp only[Gh.addH];rw[qar _ _ _ (fun e'=>e e'.symm)];exact h2)
   ·have hy:y≠b:=fun e'=>by
     subst e'
     rw[ho] at h4
     injection h4 with h4
     rw[h4,hj'] at hd
     cases hd
    obtain⟨h6,h7⟩:=x.same y h5.lt hy
    have hyg:∀g,G.own g=G.own y->g≠b:=fun g he e'=>by
     rw[e',ho,h4] at he
     injection he with he
     rw[he,hj'] at hd
     cases hd
    exact .inr ⟨y,x.ext.bOf _ _ h3,h7.trans h4,h5.ext x.ext h6 fun g hg he=>⟨(x.same g hg (hyg g he)).1,by rw[(x.same g hg (hyg g he)).2,h7,he]⟩⟩
theorem qeg (s:ByteArray):VRs G w (s.data.toList.map fun x=>zA.p (.int .u8 (.ofNat x.toNat))) (byteCells s):=by
 unfold byteCells
 refine⟨by simp,fun i c v hc hv=>?_⟩
 simp only[zaw,zab] at hc hv
 obtain⟨x,hx,rfl⟩:=hc
 obtain⟨y,hy,rfl⟩:=hv
 rw[hx] at hy
 cases hy
 exact VR.int _ _
theorem qbb (s:ByteArray):qaJ s=s.size:=by unfold qaJ;rw[zax];rfl
theorem qon (h:MR P E U pd l s G w){x:zA}{u:Value}(hv:VR G w x u){sz m:Nat}{new:List zA}(hs:qjn E s sz x=some (m,new))(hl:new.length=m*sz)(hsz:0<sz){tx:TypeId}
  (hk:(∃e',P.underlying tx=some (.slice e'))\/P.underlying tx=some .string):∃news,Src P sz tx u m news w/\VRs G w new news:=by
 unfold qjn at hs
 split at hs
 ·obtain⟨hz,hs⟩:=qac hs
  simp only[zac,zab,zad] at hs
  obtain⟨cs,hcs,r,hr,rfl,rfl⟩:=hs
  cases hv with|hs _ _ _ _ _ _ b cap' hb hn hc he hz'=>
  obtain⟨us,k1,k2,k3,k4⟩:=(qe5 h hb hcs).cut hr
  exact⟨us,⟨hk,fun _=>rfl,run_firstCells_some w sz _ _ _ cap' us k1 k4,run_firstCells_some w.drew sz _ _ _ cap' us k1 (by simpa using k4),k1,k3⟩,k2⟩
 ·obtain⟨hz,hs⟩:=qac hs
  simp only[zaa,zad] at hs
  obtain⟨rfl,rfl⟩:=hs
  have e1:=hv.str_inv
  subst e1
  have e2:sz=1:=beq_iff.1 hz
  subst e2
  rw[qbb]
  exact⟨_,⟨hk,fun _=>rfl,firstCells_string _ w,firstCells_string _ w.drew,by rw[byteCells_length,Nat.mul_one],fun u hu=>by
   obtain⟨_,_,rfl⟩:=List.mem_map.1 hu
   rfl⟩,qeg _⟩
 ·simp only[zaa,zad] at hs
  obtain⟨rfl,rfl⟩:=hs
  cases hv with|p _ _ hp=>
  cases hp
  exact⟨[],⟨hk,fun _=>rfl,run_firstCells_none w sz 0 0 0,run_firstCells_none w.drew sz 0 0 0,by simp,fun _ h=>by cases h⟩,VRs.nil⟩
 ·simp only[zaa,zad] at hs
  obtain⟨rfl,rfl⟩:=hs
  cases hv with|row _ _ ad cap vs hn hll k1 hcc hvv=>
  have hlv:vs.length=_:=hll.symm.trans hl
  exact⟨vs,⟨hk,fun _=>rfl,run_firstCells_some w sz _ ad _ cap vs hlv (fun i v hv=>(hcc i v hv).1),run_firstCells_some w.drew sz _ ad _ cap vs hlv (fun i v hv=>by simpa using(hcc i v hv).1),hlv,k1⟩,hll,hvv⟩
 ·simp only[zab,zad] at hs
  obtain⟨⟨n,cs⟩,hrow,rfl,rfl⟩:=hs
  obtain⟨ad,cap,rfl,hp⟩:=qcr hrow hv
  obtain⟨vs,hn,hz,hr,hc⟩:=hp.vals
  have hlv:vs.length=n*sz:=by have:=hr.1;simp at this hl;omega
  have h0:n=0↔vs=[]:=by
   rw[hz]
   have:=hr.1
   simp at this
   constructor
   ·intro e;rw[e] at this;exact zav.1 this.symm
   ·intro e;rw[e] at this;exact zav.1 this
  refine⟨vs,⟨hk,fun _=>rfl,qdc hlv h0 hc,qdc hlv h0 (fun i v hv=>by simpa using hc i v hv),hlv,fun u hu=>hr.2.1 u (by simpa using hu)⟩,by have:=hr.1;simpa using this,fun i c v hc hv=>?_⟩
  simp only[zaw,zab] at hc
  obtain⟨c',hc',rfl⟩:=hc
  exact .p _ _ (hr.2.2 i c' v hc' (by simpa using hv))
theorem qcc {t tx ty e:TypeId}{i:TypeInfo}(ht:P.underlying t=some (.slice e))(hi:P.info? e=some i){b off n cap m:Nat}{c:Array Value}{E0:TypeId}{fr:Nat×Nat}(hb:w.heap[b]? =some (.cells c E0 fr))(hth:Thaw fr c.size)
  {x:Value}{news:List Value}(hs:Src P i.size tx x m news w)(hroom:n+m<=cap)(hfit:off+n*i.size+news.length<=c.size):
  (Builtin.append_ #[t,tx] ty #[.slice (some ⟨b,off,none⟩) n cap,x]).run P w=
   .ok (.slice (some ⟨b,off,none⟩) (n+m) cap) (w.setRow b (c.toList.take (off+n*i.size)++news++c.toList.drop (off+n*i.size+news.length)).toArray):=by
 have hst:=qbi P b (off+n*i.size) E0 fr news 0 c w hb hth (by simpa using hfit) hs.one
 simp only[Nat.add_zero] at hst
 rcases hs.kind with⟨e',hk⟩|hk<;>simp[Builtin.append_,run_underlying ht,run_underlying hk,sizeOf,typeInfo,hi,hs.len,hroom,hs.cells,Addr.add_lit,hst]
theorem BR.lay {G':Gh}{b off:Nat}{old cs new:List zA}(hb:BR G w b old)(ho:over old off cs=some new){us:List Value}(hr:VRs G w cs us)(h1:∀u∈us,u.oneCell'=true){c:Array Value}{E:TypeId}{fr:Nat×Nat}(hc:w.heap[b]? =some (.cells c E fr))
  (x:Ext G w G' (w.setRow b (c.toList.take off++us++c.toList.drop (off+us.length)).toArray)):off+us.length<=c.size/\BR G' (w.setRow b (c.toList.take off++us++c.toList.drop (off+us.length)).toArray) b new:=by
 obtain⟨c',E',⟨fr',e1,hth⟩,h2,h3,h4⟩:=hb
 rw[hc] at e1
 injection e1 with e1
 injection e1 with e1 e1' e1''
 subst e1;subst e1';subst e1''
 obtain⟨h5,_⟩:=qbt ho
 have hl:=hr.1
 have hfit:off+us.length<=c.size:=by omega
 refine⟨hfit,_,E,⟨fr,setRow_heap w b c _ E fr hc,by rw[qaW _ _ _ hfit];exact hth⟩,?_,fun u hu=>?_,fun j y u hy hu=>?_⟩
 ·rw[qaW _ _ _ hfit,qbI ho];exact h2
 ·obtain⟨j,hj⟩:=Array.getElem?_of_mem hu
  rw[qcT _ _ _ hfit] at hj
  split at hj
  ·exact h3 u (Array.mem_of_getElem? hj)
  ·split at hj
   ·exact h1 u (zaF hj)
   ·exact h3 u (Array.mem_of_getElem? hj)
 ·rw[qfm ho] at hy
  rw[qcT _ _ _ hfit] at hu
  split at hy
  ·rename_i c1;rw[if_pos c1] at hu;exact(h4 j y u hy hu).ext x
  ·rename_i c1
   rw[if_neg c1] at hu
   split at hy
   ·rename_i c2;rw[if_pos (by omega)] at hu;exact(hr.2 _ y u hy hu).ext x
   ·rename_i c2;rw[if_neg (by omega)] at hu;exact(h4 j y u hy hu).ext x
theorem BR.sub {b k:Nat}{cs:List zA}(h:BR G w b cs):BR G w b (cs.take k):=by
 obtain⟨c,E,h1,h2,h3,h4⟩:=h
 refine⟨c,E,h1,by rw[zaJ];omega,h3,fun j a v ha hv=>?_⟩
 rw[zaz] at ha
 split at ha
 ·exact h4 j a v ha hv
 ·cases ha
theorem qlP {p:zA->Bool}{xs:List zA}(h:xs.all p=true)(k:Nat):(xs.take k).all p=true:=by
 rw[zaj] at h⊢
 exact fun x hx=>h x (List.mem_of_mem_take hx)
theorem qg1 {p:zA->Bool}{xs ys:List zA}{off n:Nat}(h:xs.all p=true)(hc:cut xs off n=some ys):ys.all p=true:=by
 obtain⟨_,rfl⟩:=qb9 hc
 rw[zaj] at h⊢
 exact fun x hx=>h x (List.mem_of_mem_drop (List.mem_of_mem_take hx))
theorem qoo (h:MR P E U pd l s G w)(c:Call)(hop:o.op=.call c)(hc:c.callee=.builtin .append){x y:Operand}(hxs:c.args.toList=[x,y]){t u e:TypeId}(hts:c.argTypes.toList=[t,u])(ht:P.underlying t=some (.slice e))(hu:(∃e',P.underlying u=some (.slice e'))\/P.underlying u=some .string)
  {i:TypeInfo}(hi:P.info? e=some i)(hsz:0<i.size)(hby:0<i.bytes)(hzc:(zeroCells P e).isSome=true){gx gy:Arg}(hx:qax x=some gx)(hy:qax y=some gy)(hr:qan G w f a (gx.tmps++gy.tmps))
  {m:Nat}{new:List zA}(hnew:qjn E s i.size (gy.ev f)=some (m,new))(hnl:new.length=m*i.size)(hna:new.all qaG=true){s':ASt}(hap:qrA s i.size i.bytes (gx.ev f) m new=some (v,s')):
  NextP P (qba P E U pd G w l s' v) ((execOp a.eval o).run P w):=by
 have h1:=qat hx fun t ht=>hr t (by simp[ht])
 have h2:=qat hy fun t ht=>hr t (by simp[ht])
 have he:execOp a.eval o=(do pure (.value (<-Builtin.append_ #[t,u] o.type #[a.eval x,a.eval y]))):=by
  rw[qaI c hop .append hc,qeQ hxs,qeQ hts];simp[builtin]
 obtain⟨news,hsrc,hrel⟩:=qon h h2 hnew hnl hsz hu
 obtain⟨z,hz,hzs⟩:=qef hi hzc
 generalize hxv:a.eval x=xv at h1 he
 generalize gx.ev f=gxv at h1 hap
 unfold qrA at hap
 have grow:∀{G0:Gh} {s0:ASt} {bd:Option Addr} {n bc:Nat} {olds:List zA} {ovs:List Value},xv=.slice bd n bc->G0=G->MR P E U pd l s0 G w->bc<n+m->(n+m)*i.bytes<=140737488355328->VRs G w olds ovs->(∀u∈ovs,u.oneCell'=true)->olds.all qaG=true->
   (Builtin.firstCells i.size n (.slice bd n bc)).run P w.drew=.ok ovs.toArray w.drew->ovs.length=n*i.size->NextP P (qba P E U pd G w l (qaw s0 (.cells (olds++new))) (.hs s0.next 0 (n+m) (n+m) i.size true)) ((execOp a.eval o).run P w):=by
  intro G0 s0 bd n bc olds ovs ex eG h0 hlt hle hov ho1 hoa hfo hol
  have h63:((n+m:Nat):Int)<=9223372036854775807:=by
   have:n+m<=(n+m)*i.bytes:=Nat.le_mul_of_pos_right _ hby
   omega
  have hrun:=run_append_grow_src w t u o.type e i z ht hi hz bd n bc ovs hfo _ m news hsrc hlt h63 (growslice_fits (by omega) hle)
  generalize hcap':grownCap w (n+m) bc e=cap' at hrun
  have hge:n+m<=cap':=by rw[<-hcap'];exact grownCap_ge w _ _ _
  have k:Keep w (w.drew.alloc (.cells ((ovs++news).toArray++Builtin.zeroCells z.cells (cap'-(n+m))) e)):=(Keep.drew w).trans (Keep.alloc _ _)
  have hheap:=heap_alloc_new w.drew (.cells ((ovs++news).toArray++Builtin.zeroCells z.cells (cap'-(n+m))) e)
  have hdsz:w.drew.heap.size=w.heap.size:=rfl
  rw[hdsz] at hheap
  have hcsz:((ovs++news).toArray++Builtin.zeroCells z.cells (cap'-(n+m))).size=cap'*i.size:=by
   rw[Array.size_append,size_zeroCells,hzs]
   simp only[List.size_toArray,zal,hol,hsrc.newsLen,<-zaL]
   congr 1
   omega
  have x1:=h0.ext_addH k (b:=w.heap.size) (q:=s0.next) (zaf _) h0.bOf_next h0.lo_
  have hz1:∀u∈Builtin.zeroCells z.cells (cap'-(n+m)),u.oneCell'=true:=by
   obtain⟨zc,hzc'⟩:=Option.isSome_iff_exists.1 hzc
   obtain⟨i',z',n',hi',hz',_,_,hrows,_⟩:=qaC G w hzc'
   rw[hi] at hi'
   cases hi'
   rw[hz] at hz'
   cases hz'
   intro u hu
   unfold Builtin.zeroCells at hu
   simp only[Array.mem_map,Array.mem_range] at hu
   obtain⟨j,hj,rfl⟩:=hu
   have hpos:0<z.cells.size:=by rw[hzs];exact hsz
   have hlt:j%z.cells.size<z.cells.size:=Nat.mod_lt _ hpos
   rw[getElem!_pos z.cells _ hlt]
   exact hrows.2.1 _ (Array.getElem_mem hlt)
  have m1:=h0.addH k (zaf _) (by simp) (o:=.cells (olds++new)) ⟨⟨_,e,⟨_,hheap,Thaw.none _⟩,by rw[hcsz,zal,hov.1,hol,hnl,<-zaL];exact zaB _ hge,fun u hu=>by
   rcases Array.mem_append.1 hu with hu|hu
   ·simp only[List.mem_toArray,zay] at hu
    rcases hu with hu|hu
    ·exact ho1 u hu
    ·exact hsrc.one u hu
   ·exact hz1 u hu,fun j q v hq hv=>by
   have hj:j<(olds++new).length:=(zah.1 hq).1
   rw[zal] at hj
   rw[Array.getElem?_append_left (by simp only[List.size_toArray,zal];have:=hov.1;have:=hrel.1;omega),List.getElem?_toArray] at hv
   exact((hov.append hrel).2 j q v hq hv).ext x1⟩,by rw[List.all_append,hoa,hna];rfl⟩
  rw[ex] at he
  refine qaK he hrun ⟨_,x1,m1,.hs _ _ _ _ _ _ w.heap.size cap' (by simp[Gh.addH,qav]) (zaf _) hge (fun e=>by cases e) ⟨_,e,_,hheap,?_⟩⟩
  rw[hcsz];omega
 split at hap
 ·
  cases h1 with|p _ _ h1=>
  cases h1
  cases hm:Nat.beq m 0 with
  |true=>
   rw[hm] at hap
   simp only[cond_true,zaa,zad] at hap
   obtain⟨rfl,rfl⟩:=hap
   have hm0:m=0:=beq_iff.1 hm
   subst hm0
   have hn0:news=[]:=zav.1 (by rw[hsrc.newsLen,Nat.zero_mul])
   subst hn0
   exact qaK he (run_append_nothing w t u o.type e i ht hi none 0 0 (zaf _) _ hsrc) ⟨G,Ext.refl G w,h,.p _ _ .nil0⟩
  |false=>
   rw[hm] at hap
   simp only[cond_false] at hap
   obtain⟨hle,hap⟩:=qac hap
   simp only[zaa,zad] at hap
   obtain⟨rfl,rfl⟩:=hap
   have hm0:m≠0:=fun e=>by rw[qaB e] at hm;cases hm
   have:=grow (G0:=G) (s0:=s) (bd:=none) (n:=0) (bc:=0) (olds:=[]) (ovs:=[]) rfl rfl h (by omega) (by rw[zaI];exact ble_iff.1 hle) VRs.nil (fun _ h=>by cases h) rfl (run_firstCells_none w.drew i.size 0 0 0) (by simp)
   simpa using this
 ·rename_i q off n cap zz op
  cases h1 with|hs _ _ _ _ _ _ b cap' hb hn hcc hce hz'=>
  cases hm:Nat.beq m 0 with
  |true=>
   rw[hm] at hap
   simp only[cond_true,zaa,zad] at hap
   obtain⟨rfl,rfl⟩:=hap
   have hm0:m=0:=beq_iff.1 hm
   subst hm0
   have hn0:news=[]:=zav.1 (by rw[hsrc.newsLen,Nat.zero_mul])
   subst hn0
   exact qaK he (run_append_nothing w t u o.type e i ht hi _ n cap' (by omega) _ hsrc) ⟨G,Ext.refl G w,h,.hs _ _ _ _ _ _ b cap' hb hn hcc hce hz'⟩
  |false=>
   rw[hm] at hap
   simp only[cond_false] at hap
   have hm0:m≠0:=fun e=>by rw[qaB e] at hm;cases hm
   split at hap<;>try (cases hap;done)
   rename_i old hold
   obtain⟨hcl,hap2⟩:=qac hap
   simp only[zae] at hcl
   have ezz:zz=i.size:=beq_iff.1 hcl.1
   subst ezz
   have hle:=ble_iff.1 hcl.2
   have hbr:BR G w b old/\old.all qaG=true/\G.own b=.loc q:=by
    rcases(h.heap q _ hold).2 with e|⟨b',g1,g2,g3⟩
    ·rw[hb] at e;cases e
    ·rw[hb] at g1;cases g1;exact⟨g3.1,g3.2,g2⟩
   obtain⟨hbr,hoa,hown⟩:=hbr
   obtain⟨c0,E0,fr0,hc0,hcs⟩:=hz'
   have hth0:Thaw fr0 c0.size:=by
    obtain⟨c1,E1,⟨fr1,g1,g2⟩,_⟩:=hbr
    rw[hc0] at g1
    injection g1 with g1
    injection g1 with g1 _ g3
    rw[g1,g3]
    exact g2
   have here:n+m<=cap'->off+n*i.size+news.length<=c0.size:=fun hroom=>by
    rw[hsrc.newsLen,Nat.add_assoc,<-zaL]
    have:=zaB i.size hroom
    omega
   cases hnm:Nat.ble (n+m) cap with
   |true=>
    rw[hnm] at hap2
    simp only[cond_true,zac,zab,zad] at hap2
    obtain⟨cs,hov,hp,qaM,rfl,rfl⟩:=hap2
    have hroom:n+m<=cap':=zaN (ble_iff.1 hnm) hcc
    have sw:Swap b w (w.setRow b (c0.toList.take (off+n*i.size)++news++c0.toList.drop (off+n*i.size+news.length)).toArray):=Swap.setRow w b _ (fun c1 E1 f1 h1=>by
     rw[hc0] at h1;injection h1 with h1;injection h1 with h1 _ _;rw[<-h1];exact qaW _ _ _ (here hroom))
    have x:=Ext.chg (G:=G) sw (by rw[hown];exact fun e=>e) (by rw[hown];intros;simp)
    obtain⟨_,hbn⟩:=hbr.lay hov hrel hsrc.one hc0 x
    obtain⟨_,hmr⟩:=h.chgH sw hb hown qaM (ob:=.cells cs) ⟨hbn,qdt hov hoa hna⟩
    refine qaK he (qcc ht hi hc0 hth0 hsrc hroom (here hroom)) ⟨G,x,hmr,.hs _ _ _ _ _ _ b cap' hb (ble_iff.1 hnm) hcc hce ⟨_,E0,_,setRow_heap w b c0 _ E0 fr0 hc0,?_⟩⟩
    rw[qaW _ _ _ (here hroom)];exact hcs
   |false=>
    rw[hnm] at hap2
    have hnm':cap<n+m:=by
     rcases Nat.lt_or_ge cap (n+m) with g|g
     ·exact g
     ·rw[ble_iff.2 g] at hnm;cases hnm
    simp only[cond_false,zac] at hap2
    obtain⟨olds,hcut,hap2⟩:=hap2
    obtain⟨ovs,k1,k2,k3,k4⟩:=hbr.cut hcut
    have hfo:(Builtin.firstCells i.size n (.slice (some ⟨b,off,none⟩) n cap')).run P w.drew=.ok ovs.toArray w.drew:=run_firstCells_some w.drew i.size n ⟨b,off,none⟩ n cap' ovs k1 (by simpa using k4)
    cases op with
    |false=>
     simp only[cond_false,zaa,zad] at hap2
     obtain⟨rfl,rfl⟩:=hap2
     have e1:=hce rfl
     exact grow rfl (G0:=G) rfl h (by omega) hle k2 k3 (qg1 hoa hcut) hfo k1
    |true=>
     simp only[cond_true] at hap2
     obtain⟨hoff,hap2⟩:=qac hap2
     simp only[zaa,zad] at hap2
     obtain⟨rfl,rfl⟩:=hap2
     have e0:off=0:=beq_iff.1 hoff
     subst e0
     have hd:=h.delH hb
     by_cases hroom:n+m<=cap'
     ·have sw:Swap b w (w.setRow b (c0.toList.take (0+n*i.size)++news++c0.toList.drop (0+n*i.size+news.length)).toArray):=Swap.setRow w b _ (fun c1 E1 f1 h1=>by
       rw[hc0] at h1;injection h1 with h1;injection h1 with h1 _ _;rw[<-h1];exact qaW _ _ _ (here hroom))
      have x:=hd.ext_mvH sw hown
      have hfit:=here hroom
      have hlen:(olds++new).length=n*i.size+news.length:=by rw[zal,k2.1,k1,hrel.1]
      have hheap1:=setRow_heap w b c0 (c0.toList.take (0+n*i.size)++news++c0.toList.drop (0+n*i.size+news.length)).toArray E0 fr0 hc0
      obtain⟨c1,E1,⟨fr1,g1,g5⟩,g2,g3,g4⟩:=hbr
      rw[hc0] at g1
      injection g1 with g1
      injection g1 with g1 g1' _
      subst g1;subst g1'
      have hmr:=hd.mvH sw hown (by show qaH (qfW s.heap q none) q=none;rw[qa6,if_pos rfl]) (ob:=.cells (olds++new)) ⟨⟨_,E0,⟨fr0,hheap1,by rw[qaW _ _ _ hfit];exact hth0⟩,by rw[qaW _ _ _ hfit,hlen];omega,fun u hu=>by
       obtain⟨j,hj⟩:=Array.getElem?_of_mem hu
       rw[qcT _ _ _ hfit] at hj
       split at hj
       ·exact g3 u (Array.mem_of_getElem? hj)
       ·split at hj
        ·exact hsrc.one u (zaF hj)
        ·exact g3 u (Array.mem_of_getElem? hj),fun j y u hy hu=>by
       rw[qcT _ _ _ hfit] at hu
       by_cases c2:j<n*i.size
       ·rw[if_pos (by omega)] at hu
        rw[zat (by rw[k2.1,k1];exact c2),qfl hcut j c2] at hy
        exact(g4 _ y u hy (by rw[zaI];exact hu)).ext x
       ·have hj:j<(olds++new).length:=(zah.1 hy).1
        rw[if_neg (by omega),if_pos (by omega)] at hu
        rw[zas (by rw[k2.1,k1];omega),k2.1,k1] at hy
        exact(hrel.2 _ y u hy (by rw[zaI] at hu;exact hu)).ext x⟩,by rw[List.all_append,qg1 hoa hcut,hna];rfl⟩
      refine qaK he (qcc ht hi hc0 hth0 hsrc hroom hfit) ⟨_,x,hmr,.hs _ _ _ _ _ _ b cap' (by simp[Gh.addH,qav]) (zaf _) hroom (fun e=>by cases e) ⟨_,E0,_,hheap1,?_⟩⟩
      rw[qaW _ _ _ hfit];exact hcs
     ·exact grow rfl (G0:=G) rfl hd (by omega) hle k2 k3 (qg1 hoa hcut) hfo k1
 ·obtain⟨hm,hap⟩:=qac hap
  simp only[zaa,zad] at hap
  obtain⟨rfl,rfl⟩:=hap
  cases h1 with|row _ _ ad cap vs hn hll k1 hcc hvv=>
  have hm0:m=0:=beq_iff.1 hm
  subst hm0
  have hn0:news=[]:=zav.1 (by rw[hsrc.newsLen,Nat.zero_mul])
  subst hn0
  exact qaK he (run_append_nothing w t u o.type e i ht hi _ _ cap (by omega) _ hsrc) ⟨G,Ext.refl G w,h,.row _ _ ad cap vs hn hll k1 hcc hvv⟩
 ·cases hap
end Go.AI
namespace Go.AI
variable {P:Program} {E:Rom} {U pd:Nat->Option (List zA)} {l:Tr (Nat×List zA)} {s:ASt} {G:Gh} {w w':World} {f:Tr zA} {a:Act} {o:Oper} {v:zA}
def qnI:Nat->TypeDesc->Prop
 |0,.bool=>True
 |1,.int _=>True
 |2,.string=>True
 |_,_=>False
theorem qjQ {kt:TypeId}{kd:Nat}(h:qfi P kt=some kd)(h3:kd<3):∃d,P.underlying kt=some d/\qnI kd d:=by
 obtain⟨h0,h1,h2,_⟩:=qfq h
 rcases(by omega:kd=0\/kd=1\/kd=2) with rfl|rfl|rfl
 ·exact⟨_,h0 rfl,trivial⟩
 ·obtain⟨i,hi⟩:=h1 rfl
  exact⟨_,hi,trivial⟩
 ·exact⟨_,h2 rfl,trivial⟩
theorem qdd {kt:TypeId}{d:TypeDesc}{kd:Nat}(hd:P.underlying kt=some d)(hk:qnI kd d)(e:Bool)(n:Nat)(k:Value):(Instr.checkKey e (n+1) kt k).run P w=.ok () w:=by
 unfold Instr.checkKey
 simp only[Sem.run_bind,run_underlying hd,Result.andThen]
 match kd,d,hk with
 |0,.bool,_=>rfl
 |1,.int _,_=>rfl
 |2,.string,_=>rfl
theorem qiD {kd:Nat}{b:Bool}(h:qeN kd (.bool b)=true):kd=0:=by
 match kd,h with
 |0,h=>first|rfl|cases h
 |1,h=>first|rfl|cases h
 |2,h=>first|rfl|cases h
 |n+3,h=>cases h
theorem qjR {kd:Nat}{k:IntKind}{n:Int}(h:qeN kd (.int k n)=true):kd=1:=by
 match kd,h with
 |0,h=>first|rfl|cases h
 |1,h=>first|rfl|cases h
 |2,h=>first|rfl|cases h
 |n+3,h=>cases h
theorem qjS {kd:Nat}{b:ByteArray}(h:qeN kd (.str b)=true):kd=2:=by
 match kd,h with
 |0,h=>first|rfl|cases h
 |1,h=>first|rfl|cases h
 |2,h=>first|rfl|cases h
 |n+3,h=>cases h
theorem qhR {kd:Nat}{k:zP}(h:qeN kd k=true):kd<3:=by
 unfold qeN at h
 split at h<;>first|omega|cases h
theorem qop {S:Nat->Nat->Prop}{d:TypeDesc}{kd:Nat}{x k:zP}{xv kv:Value}{b:Bool}(hd:qnI kd d)(hx:qeN kd x=true)(h:qrM x k=some b)(h1:PR S w x xv)(h2:PR S w k kv):
  Instr.sameNow d xv kv=some b/\(b=true->kv=xv):=by
 unfold qrM at h
 split at h
 ·rename_i j m j' n
  have hk:kd=1:=qjR hx
  subst hk
  cases d<;>try (exact hd.elim;done)
  cases h1;cases h2
  rw[qcQ] at h
  by_cases e:j=j'
  ·subst e
   simp only[decide_true,cond_true,zaa] at h
   subst h
   rw[qco]
   refine⟨?_,fun e=>?_⟩
   ·simp only[Instr.sameNow,if_true]
    congr 1
   ·rw[of_decide_eq_true e]
  ·simp only[e,decide_false,cond_false] at h
   cases h
 ·rename_i m n
  have hk:kd=2:=qjS hx
  subst hk
  cases d<;>try (exact hd.elim;done)
  cases h1;cases h2
  simp only[zaa] at h
  subst h
  rw[qcp]
  refine⟨?_,fun e=>by rw[of_decide_eq_true e]⟩
  simp only[Instr.sameNow]
  congr 1
  rw[Bool.eq_iff_iff,decide_eq_true_iff]
  exact MapKept.bytes_beq m n
 ·rename_i m n
  have hk:kd=0:=qiD hx
  subst hk
  cases d<;>try (exact hd.elim;done)
  cases h1;cases h2
  simp only[zaa] at h
  subst h
  cases m<;>cases n<;>simp[Instr.sameNow]
 ·cases h
theorem qlQ {d:TypeDesc}{kd:Nat}{S:Nat->Nat->Prop}{x:zP}{xv:Value}(hd:qnI kd d)(hx:qeN kd x=true)(h1:PR S w x xv)(n:Nat):Instr.sameBits n xv xv=true:=by
 unfold qeN at hx
 split at hx<;>try (cases hx;done)
 all_goals
  cases h1
  cases n<;>simp[Instr.sameBits]
 all_goals
  have:=(MapKept.bytes_beq ‹ByteArray› _).2 rfl
  exact this
theorem qdQ {α:Type}:∀(l:List α) (n:Nat) (y:α),(qhC l n y).length=l.length
 |[],_,_=>rfl
 |x::xs,n,y=>by
  unfold qhC
  cases Nat.beq n 0 with
  |true=>rfl
  |false=>simp only[cond_false,List.length_cons,qdQ xs]
theorem qg2 {α:Type}:∀(l:List α) (n:Nat) (y:α),qhC l n y=l.set n y
 |[],_,_=>rfl
 |x::xs,n,y=>by
  unfold qhC
  cases n with
  |zero=>rfl
  |succ n=>
   have:Nat.beq (n+1) 0=false:=qaE (by omega)
   rw[this,cond_false,qg2 xs,Nat.add_sub_cancel]
   rfl
inductive KeyT (P:Program)(kt:TypeId)(kd:Nat)(ks:List Nat):Prop where
 |one (d:TypeDesc) (hd:P.underlying kt=some d) (hk:qnI kd d)
 |many (hag:qbA P kt=true) (hk:qb8 P 8 kt=some ks) (h9:kd=9)
theorem qg3 {kt:TypeId}{kd:Nat}{ks:List Nat}(h:qlD P kt=some (kd,ks)):KeyT P kt kd ks:=by
 unfold qlD at h
 split at h
 ·rename_i hag
  simp only[zab,zad] at h
  obtain⟨_,hk,rfl,rfl⟩:=h
  exact .many hag hk rfl
 ·simp only[zac] at h
  obtain⟨k,hk,h⟩:=h
  obtain⟨h3,h⟩:=qac h
  simp only[zaa,zad] at h
  obtain⟨rfl,rfl⟩:=h
  obtain⟨d,hd,hkD⟩:=qjQ hk (blt_iff.1 h3)
  exact .one d hd hkD
theorem qe6 {S:Nat->Nat->Prop}:∀{ks:List Nat} {a b:List zP} {vs us:List Value},(∀k∈ks,k<3)->qbY ks (a.map zA.p) (b.map zA.p)=some true->a.length=vs.length->b.length=us.length->(∀(i:Nat) c v,a[i]? =some c->vs[i]? =some v->PR S w c v)->
  (∀(i:Nat) c v,b[i]? =some c->us[i]? =some v->PR S w c v)->us=vs/\∀v∈vs,∀n,Instr.sameBits n v v=true
 |[],a,b,vs,us,_,h,hl,hm,_,_=>by
  cases a<;>cases b<;>simp only[List.map_nil,zaC,qbY] at h<;>try (cases h;done)
  cases vs<;>cases us<;>simp at hl hm
  exact⟨rfl,fun v hv=>by cases hv⟩
 |k::ks,a,b,vs,us,h3,h,hl,hm,ha,hb=>by
  match a,b,vs,us,hl,hm with
  |[],_,_,_,_,_=>simp only[List.map_nil,qbY] at h;cases h
  |_::_,[],_,_,_,_=>simp only[List.map_nil,zaC,qbY] at h;cases h
  |x::a,y::b,v::vs,u::us,hl,hm=>
   simp only[zaC,qbY,zac] at h
   obtain⟨c,hc,h⟩:=h
   cases c with
   |false=>simp at h
   |true=>
    simp only[cond_true] at h
    obtain⟨e1,e2⟩:=qe6 (fun k hk=>h3 k (List.mem_cons_of_mem _ hk)) h (by simpa using hl) (by simpa using hm) (fun i c v hc hv=>ha (i+1) c v (by simpa using hc) (by simpa using hv)) (fun i c v hc hv=>hb (i+1) c v (by simpa using hc) (by simpa using hv))
    have h1:=ha 0 x v rfl rfl
    have h2:=hb 0 y u rfl rfl
    have hk3:=h3 k List.mem_cons_self
    have key:u=v/\∀n,Instr.sameBits n v v=true:=by
     unfold eqK at hc
     match k,hk3 with
     |0,_=>
      simp only at hc
      split at hc<;>try (cases hc;done)
      rename_i p q ep eq
      injection ep with ep;injection eq with eq
      subst ep;subst eq
      cases h1;cases h2
      refine⟨?_,fun n=>by cases n<;>simp[Instr.sameBits]⟩
      cases p<;>cases q<;>simp at hc<;>rfl
     |1,_=>
      simp only at hc
      split at hc<;>try (cases hc;done)
      rename_i k1 p k2 q ep eq
      injection ep with ep;injection eq with eq
      subst ep;subst eq
      cases h1;cases h2
      rw[qcQ] at hc
      by_cases e:k1=k2
      ·subst e
       simp only[decide_true,cond_true,zaa] at hc
       rw[qco] at hc
       rw[of_decide_eq_true hc]
       exact⟨rfl,fun n=>by cases n<;>simp[Instr.sameBits]⟩
      ·simp only[e,decide_false,cond_false] at hc
       cases hc
     |2,_=>
      simp only at hc
      split at hc<;>try (cases hc;done)
      rename_i p q ep eq
      injection ep with ep;injection eq with eq
      subst ep;subst eq
      cases h1;cases h2
      simp only[zaa] at hc
      rw[qcp] at hc
      rw[of_decide_eq_true hc]
      exact⟨rfl,fun n=>by
       cases n<;>simp only[Instr.sameBits]
       all_goals exact(MapKept.bytes_beq _ _).2 rfl⟩
    refine⟨by rw[key.1,e1],fun z hz=>?_⟩
    rcases zaO.1 hz with rfl|hz
    ·exact key.2
    ·exact e2 z hz
theorem qhS {g:TypeId->Option (List Nat)}(hg:∀t ks,g t=some ks->∀k∈ks,k<3):∀{fs:List Field} {off:Nat} {ks:List Nat},qd5 g fs off=some ks->∀k∈ks,k<3
 |[],off,ks,h=>by
  simp only[qd5,zaa] at h
  subst h
  intro k hk;cases hk
 |f::fs,off,ks,h=>by
  simp only[qd5] at h
  obtain⟨_,h⟩:=qac h
  simp only[zac,zab] at h
  obtain⟨k1,h1,k2,h2,rfl⟩:=h
  intro k hk
  rcases zay.1 hk with hk|hk
  ·exact hg _ _ h1 k hk
  ·exact qhS hg h2 k hk
theorem qft:∀{d:Nat} {t:TypeId} {ks:List Nat},qb8 P d t=some ks->∀k∈ks,k<3
 |0,_,_,h=>by cases h
 |d+1,t,ks,h=>by
  obtain⟨i,_,_,_,hc⟩:=qbQ h
  rcases hc with⟨_,k,rfl,_,h3⟩|⟨_,⟨fs,_,_,hF⟩|⟨n,e,ke,_,hE,rfl⟩⟩
  ·intro k' hk'
   rw[List.mem_singleton.1 hk'];exact h3
  ·exact qhS (fun t ks h=>qft h) hF
  ·intro k hk
   obtain⟨l,hl,hk⟩:=List.mem_flatten.1 hk
   rw[List.eq_of_mem_replicate hl] at hk
   exact qft hE k hk
def ChD (P:Program)(w:World)(em:Bool)(dd:Nat)(t:TypeId)(ks:List Nat):Prop:=∀cs:List Value,cs.length=ks.length->(Instr.checkKey em dd t (qgZ P t cs)).run P w=.ok () w
theorem qeh {em:Bool}{g:TypeId->Option (List Nat)}{d dd:Nat}(hg:∀t ks,g t=some ks->qb8 P d t=some ks/\ChD P w em dd t ks):∀{fs:List Field} {off:Nat} {ks:List Nat} {cs:Array Value},qd5 g fs off=some ks->off+ks.length<=cs.size->
  ((forIn fs PUnit.unit fun f _=>if f.name≠ "_" then do Instr.checkKey em dd f.type (<-part f.type cs f.offset);pure (ForInStep.yield PUnit.unit) else pure (ForInStep.yield PUnit.unit)):Sem PUnit).run P w=.ok PUnit.unit w
 |[],off,ks,cs,h,hl=>by simp
 |f::fs,off,ks,cs,h,hl=>by
  simp only[qd5] at h
  obtain⟨hc,h⟩:=qac h
  simp only[zae,bne_iff_ne] at hc
  obtain⟨hname,hoff⟩:=hc
  have hoff:=beq_iff.1 hoff
  simp only[zac,zab] at h
  obtain⟨k1,h1,k2,h2,rfl⟩:=h
  rw[zal] at hl
  obtain⟨hfl,hC⟩:=hg _ _ h1
  have hpart:(part f.type cs f.offset).run P w=.ok (qgZ P f.type ((cs.toList.drop off).take k1.length)) w:=by rw[hoff];exact qct hfl (by omega) w
  have hch:=hC ((cs.toList.drop off).take k1.length) (by simp;omega)
  have ih:=qeh hg (off:=off+k1.length) (cs:=cs) h2 (by omega)
  simp only[List.forIn_cons,hname,ne_eq,not_false_eq_true,if_true,Sem.run_bind,hpart,Result.andThen_ok,hch,Sem.run_pure]
  exact ih
theorem qei {em:Bool}{d dd:Nat}{e:TypeId}{ke:List Nat}(hfl:qb8 P d e=some ke)(hC:ChD P w em dd e ke){i:TypeInfo}(hi:P.info? e=some i)(hs:i.size=ke.length){cs:Array Value}:∀(m j:Nat),(j+m)*ke.length<=cs.size->
  ((forIn (List.range' j m) PUnit.unit fun k _=>do Instr.checkKey em dd e (<-part e cs (k*(<-sizeOf e)));pure (ForInStep.yield PUnit.unit)):Sem PUnit).run P w=.ok PUnit.unit w
 |0,j,_=>by simp
 |m+1,j,hl=>by
  have h1:j*ke.length+ke.length<=cs.size:=by
   have:(j+1)*ke.length<=(j+(m+1))*ke.length:=zaB _ (by omega)
   rw[zaL,Nat.one_mul] at this
   omega
  have hsz:(sizeOf e).run P w=.ok ke.length w:=by simp[sizeOf,typeInfo,hi,hs]
  have ih:=qei hfl hC hi hs (cs:=cs) m (j+1) (by rw[show j+1+m=j+(m+1) by omega];exact hl)
  simp only[List.range'_succ,List.forIn_cons,Sem.run_bind,hsz,Result.andThen_ok,qct hfl h1 w,hC _ (show((cs.toList.drop (j*ke.length)).take ke.length).length=ke.length by simp;omega),Sem.run_pure]
  exact ih
theorem qdu (em:Bool)(D:Nat):∀(d:Nat) (t:TypeId) (ks:List Nat),qb8 P d t=some ks->ChD P w em (D+d) t ks
 |0,_,_,h=>by cases h
 |d+1,t,ks,h=>by
  intro cs hl
  obtain⟨i,hi,_,hs,hc⟩:=qbQ h
  rcases hc with⟨hf,k,rfl,hk,h3⟩|⟨hf,⟨fs,hu,hst,hfl⟩|⟨n,e,ke,hu,hke,rfl⟩⟩
  ·obtain⟨dd,hd,hkD⟩:=qjQ hk h3
   exact qdd hd hkD em (D+d) _
  ·unfold qgZ
   rw[hf]
   simp only[cond_true]
   have:=qeh (w:=w) (em:=em) (g:=qb8 P d) (d:=d) (dd:=D+d) (off:=0) (cs:=cs.toArray) (fun t ks h=>⟨h,qdu em D d t ks h⟩) hfl (by simpa using Nat.le_of_eq hl.symm)
   rw[show D+(d+1)=(D+d)+1 from rfl]
   unfold Instr.checkKey
   simp only[Sem.run_bind,run_underlying hu,Result.andThen_ok]
   rw[<-Array.forIn_toList,this]
   rfl
  ·unfold qgZ
   rw[hf]
   simp only[cond_true]
   cases d with
   |zero=>cases hke
   |succ d=>
    obtain⟨ie,hie,_,hse,_⟩:=qbQ hke
    have hlen:(zaq n ke).flatten.length=n*ke.length:=by simp[List.length_flatten,List.map_replicate,List.sum_replicate_nat]
    have:=qei (w:=w) (em:=em) hke (qdu em D (d+1) e ke hke) hie hse (cs:=cs.toArray) n 0 (by simp only[zaI,List.size_toArray];omega)
    rw[show D+(d+1+1)=(D+(d+1))+1 from rfl]
    unfold Instr.checkKey
    simp only[Sem.run_bind,run_underlying hu,Result.andThen_ok]
    simp only[Std.Legacy.Range.forIn_eq_forIn_range',Std.Legacy.Range.size,Nat.sub_zero,Nat.add_one_sub_one,Nat.div_one]
    rw[this]
    rfl
theorem qbp {kt:TypeId}{kd:Nat}{ks:List Nat}(hk:KeyT P kt kd ks){x:zP}{xv:Value}{S:Nat->Nat->Prop}(hx:PR S w x xv)(ho:qdK kd ks x=true)(e:Bool):(Instr.checkKey e 10000 kt xv).run P w=.ok () w:=by
 cases hk with
 |one d hd hkD=>exact qdd hd hkD e 9999 xv
 |many hag hks h9=>
  subst h9
  unfold qdK at ho
  split at ho
  ·rename_i a
   cases hx with|agg _ vs hl h1 hv=>
   simp only[zae] at ho
   have hlen:=beq_iff.1 ho.2
   have:=qdu (P:=P) (w:=w) e 9992 8 kt ks hks vs.toList (by simp;omega)
   unfold qgZ at this
   rw[hag] at this
   exact this
  ·rename_i hne
   exfalso
   have:=qhR ho
   omega
def qiE (w:World)(ents:List MapEntry)(es:List (zP×zA))(xv:Value)(i:Nat):Option (Nat×zA)->Option (Nat×Value)->Prop
 |none,none=>True
 |some (n,y),some (m,u)=>n=m/\∃(j:Nat) (e:MapEntry) (k:zP),n=i+j/\es[j]? =some (k,y)/\ents[j]? =some e/\u=e.val/\e.key=xv
 |_,_=>False
theorem qjT {kt:TypeId}{kd:Nat}{ks:List Nat}(hk:KeyT P kt kd ks){S:Nat->Nat->Prop}{x k:zP}{xv kv:Value}{b:Bool}(h:qpK kd ks x k=some b)(h1:PR S w x xv)(h2:PR S w k kv)(hS:S=G.S):
  (b=true->kv=xv/\Instr.sameBits 10000 xv xv=true)/\(∀d,P.underlying kt=some d->qnI kd d->Instr.sameNow d xv kv=some b)/\(qbA P kt=true->(Op.equal kt xv kv).run P w=.ok b w):=by
 subst hS
 unfold qpK at h
 split at h
 ·rename_i a
  split at h<;>try (cases h;done)
  rename_i c
  obtain⟨h9,h⟩:=qac h
  simp only[zae] at h9
  have hla:=beq_iff.1 h9.2.1
  have hlc:=beq_iff.1 h9.2.2
  have h9:=beq_iff.1 h9.1
  cases hk with
  |one d hd hkD=>subst h9;exact absurd hkD (by intro h;cases d<;>exact h.elim)
  |many hag hks _=>
   cases h1 with|agg _ ps hpl hp1 hpv=>
   cases h2 with|agg _ qs hql hq1 hqv=>
   refine⟨fun hb=>?_,fun d _ hkD=>by subst h9;cases d<;>exact hkD.elim,fun _=>?_⟩
   ·subst hb
    obtain⟨e1,e2⟩:=qe6 (w:=w) (S:=G.S) (vs:=ps.toList) (us:=qs.toList) (qft hks) h (by simpa using hpl) (by simpa using hql) (fun i c v hc hv=>hpv i c v hc (by simpa using hv)) (fun i c v hc hv=>hqv i c v hc (by simpa using hv))
    have e3:qs=ps:=Array.toList_inj.1 e1
    subst e3
    refine⟨rfl,?_⟩
    simp only[Instr.sameBits,beq_self_eq_true,Bool.true_and,zaj]
    rintro ⟨x,y⟩ hz
    obtain⟨j,hj⟩:=List.getElem?_of_mem hz
    rw[List.getElem?_zip_eq_some] at hj
    have:x=y:=by have:=hj.1.symm.trans hj.2;injection this
    subst this
    exact e2 x (zaF hj.1) _
   ·have up:∀{a:List zP} {ps:Array Value},a.length=ps.size→(∀(i:Nat) c v,a[i]? =some c→ps[i]? =some v→PR G.S w c v)→VRs G w (a.map zA.p) ps.toList:=by
     intro a ps hl hv
     refine⟨by simp[hl],fun i c v hc hv'=>?_⟩
     simp only[zaw,zab] at hc
     obtain⟨z,hz,rfl⟩:=hc
     exact .p _ _ (hv i z v hz (by simpa using hv'))
    have:=qfr (P:=P) (G:=G) (w:=w) 9992 8 kt ks hks _ _ b ps.toList qs.toList h (up hpl hpv) (up hql hqv) (by simpa using hla) (by simpa using hlc)
    unfold qgZ at this
    rw[hag] at this
    exact this
 ·obtain⟨hik,h⟩:=qac h
  cases hk with
  |one d hd hkD=>
   obtain⟨h3,h4⟩:=qop hkD hik h h1 h2
   refine⟨fun hb=>⟨h4 hb,qlQ hkD hik h1 10000⟩,fun d' hd' hkD'=>?_,fun hag=>?_⟩
   ·rw[hd] at hd';injection hd' with e;subst e;exact h3
   ·exfalso
    unfold qbA at hag
    rw[hd] at hag
    simp only at hag
    revert hkD
    unfold qnI
    split<;>simp_all [qci]
  |many hag hks h9=>subst h9;have:=qhR hik;omega
theorem qjU {kt:TypeId}{kd:Nat}{ks:List Nat}(hk:KeyT P kt kd ks){x:zP}{xv:Value}(h1:PR G.S w x xv):
  ∀{es:List (zP×zA)} {ents:List MapEntry} {r:Option (Nat×zA)} (i:Nat),es.length=ents.length->(∀(j:Nat) k y e,es[j]? =some (k,y)->ents[j]? =some e->PR G.S w k e.key)->findKey kd ks x es i=some r->
   ∃r',qiE w ents es xv i r r'/\(∀d,P.underlying kt=some d->qnI kd d->Instr.findNow d xv ents i=some r')/\(qbA P kt=true->(Instr.findAsking kt xv ents i).run P w=.ok r' w)
 |[],[],r,i,_,_,h=>by
  simp only[findKey,zaa] at h
  subst h
  exact⟨none,trivial,fun d _ _=>rfl,fun _=>rfl⟩
 |(k,y)::es,e::ents,r,i,hl,hp,h=>by
  simp only[findKey,zac] at h
  obtain⟨b,hb,h⟩:=h
  obtain⟨q1,q2,q3⟩:=qjT hk hb h1 (hp 0 _ _ _ rfl rfl) rfl
  cases b with
  |true=>
   simp only[cond_true,zaa] at h
   subst h
   refine⟨some (i,e.val),⟨rfl,0,e,k,rfl,rfl,rfl,rfl,(q1 rfl).1⟩,fun d hd hkD=>?_,fun hu=>?_⟩
   ·simp[Instr.findNow,q2 d hd hkD]
   ·simp[Instr.findAsking,q3 hu]
  |false=>
   simp only[cond_false] at h
   obtain⟨r',h3,h4,h5⟩:=qjU hk h1 (i+1) (by simpa using hl) (fun j k y e h3 h4=>hp (j+1) k y e (by simpa using h3) (by simpa using h4)) h
   refine⟨r',?_,fun d hd hkD=>?_,fun hu=>?_⟩
   ·revert h3
    unfold qiE
    split
    ·exact id
    ·rintro ⟨h6,j,e',k',h7,h8,h9,h10⟩
     exact⟨h6,j+1,e',k',by omega,by simpa using h8,by simpa using h9,h10⟩
    ·exact id
   ·simp[Instr.findNow,q2 d hd hkD,h4 d hd hkD]
   ·simp[Instr.findAsking,q3 hu,h5 hu]
theorem qfu {kd:Nat}{ks:List Nat}{x k:zP}{y y':zA}:∀{es:List (zP×zA)} {i j:Nat},findKey kd ks x es i=some (some (i+j,y))->es[j]? =some (k,y')->qpK kd ks x k=some true
 |[],i,j,h,hj=>by simp at hj
 |(k0,y0)::es,i,j,h,hj=>by
  simp only[findKey,zac] at h
  obtain⟨b,hb,h⟩:=h
  cases b with
  |true=>
   simp only[cond_true,zaa,zad] at h
   have:j=0:=by omega
   subst this
   simp only[zak,zaa,zad] at hj
   rw[<-hj.1];exact hb
  |false=>
   simp only[cond_false] at h
   cases j with
   |zero=>exact absurd h (by
     have:∀{es:List (zP×zA)} {i m:Nat} {y:zA},findKey kd ks x es i=some (some (m,y))->i<=m:=by
      intro es
      induction es with
      |nil=>intro i m y h;simp[findKey] at h
      |cons p es ih=>
       intro i m y h
       simp only[findKey,zac] at h
       obtain⟨b,_,h⟩:=h
       cases b with
       |true=>simp only[cond_true,zaa,zad] at h;omega
       |false=>simp only[cond_false] at h;have:=ih h;omega
     intro h'
     have:=this h'
     omega)
   |succ j=>
    exact qfu (i:=i+1) (j:=j) (by rw[h];congr 3;omega) (by simpa using hj)
theorem qlR {es:List (zP×zA)}(h:es.all (fun p=>qaV p.2)=true){j:Nat}{k:zP}{y:zA}(hj:es[j]? =some (k,y)):qaV y=true:=zaj.1 h (k,y) (zaF hj)
theorem qdR {kt:TypeId}{kd:Nat}{ks:List Nat}(hk:KeyT P kt kd ks){x:zP}{xv:Value}(h1:PR G.S w x xv){es:List (zP×zA)}{ents:Array MapEntry}{r:Option (Nat×zA)}(hl:es.length=ents.size)
  (hp:∀(j:Nat) k y e,es[j]? =some (k,y)->ents[j]? =some e->PR G.S w k e.key)(h:findKey kd ks x es 0=some r):∃r',qiE w ents.toList es xv 0 r r'/\(Instr.findKey kt xv ents.toList).run P w=.ok r' w:=by
 obtain⟨r',h2,h3,h4⟩:=qjU hk h1 (ents:=ents.toList) 0 (by simpa using hl) (fun j k y e h5 h6=>hp j k y e h5 (by simpa using h6)) h
 refine⟨r',h2,?_⟩
 cases hk with
 |one d hd hkD=>exact MapKept.run_findKey hd (h3 d hd hkD)
 |many hag hks h9=>
  obtain⟨_,_,⟨u,hu⟩,_⟩:=qbQ (d:=7) hks
  have hua:qci u=true:=by unfold qbA at hag;rw[hu] at hag;exact hag
  unfold Instr.findKey
  simp only[Sem.run_bind,run_underlying hu,Result.andThen_ok]
  cases he:ents.toList with
  |nil=>
   have e2:=h4 hag
   rw[he] at e2
   simp only[Instr.findAsking,Sem.run_pure,Result.ok.injEq] at e2
   simp only[Instr.findNow,Sem.run_pure,e2.1]
  |cons e l=>
   have:Instr.findNow u xv (e::l) 0=none:=by
    cases u<;>first|(cases hua;done)|simp[Instr.findNow,Instr.sameNow]
   rw[this]
   rw[he] at h4
   exact h4 hag
theorem qlS (h:MR P E U pd l s G w)(t:TypeId)(hop:o.op=.makeMap t none):NextP P (qba P E U pd G w l (qaw s (.map [])) (.map s.next)) ((execOp a.eval o).run P w):=by
 have x:=h.ext_addH (Keep.alloc w (.map #[] 0)) (b:=w.heap.size) (q:=s.next) (zaf _) h.bOf_next h.lo_
 refine qaK (u:=.map (some w.heap.size)) (w':=w.alloc (.map #[] 0)) (qga t none hop) (by simp[Instr.makeMap]) ⟨_,x,h.addH (Keep.alloc w (.map #[] 0)) (zaf _) (qa7 w _) (o:=.map []) ?_,.map _ _ (by simp[Gh.addH,qav])⟩
 exact⟨⟨#[],heap_alloc_new w _,rfl,fun j k x e h1=>by simp at h1⟩,rfl⟩
theorem Swap.setObj {w:World}{b:Nat}{o0:Obj}(hb:w.heap[b]? =some o0)(ob:Obj)(h0:qob o0:=by exact trivial):Swap b w {w with heap:=w.heap.setIfInBounds b ob}:=⟨by simp,rfl,rfl,rfl,fun y hy=>by simp[Ne.symm hy],
 fun c0 E fr h=>by rw[hb] at h;injection h with h;subst h;exact h0.elim⟩
theorem qnJ (h:MR P E U pd l s G w){x:zA}{v:Value}(hv:VR G w x v){es:List (zP×zA)}(hm:qf1 E s x=some es):
  (v=.map none/\es=[])\/∃b ents,v=.map (some b)/\w.heap[b]? =some (.map ents ents.size)/\es.length=ents.size/\(∀(j:Nat) k x e,es[j]? =some (k,x)->ents[j]? =some e->PR G.S w k e.key/\VR G w x e.val/\e.born=j):=by
 unfold qf1 at hm
 split at hm
 ·rename_i q
  cases hv with|map _ b hb=>
  split at hm
  ·rename_i ds he
   simp only[zaa] at hm
   subst hm
   rcases(h.heap q _ he).2 with e|⟨b',h1,h2,⟨ents,h3,h4,h5⟩,_⟩
   ·rw[hb] at e;cases e
   ·rw[hb] at h1;cases h1;exact .inr ⟨b,ents,rfl,h3,h4,h5⟩
  ·cases hm
  ·split at hm<;>try (cases hm;done)
   rename_i ds he
   simp only[zaa] at hm
   subst hm
   obtain⟨hqlo,he⟩:=qea he
   rcases((h.ro q _ he).1 hqlo).2 with e|⟨b',j,h1,h2,⟨ents,h3,h4,h5⟩,_⟩
   ·rw[hb] at e;cases e
   ·rw[hb] at h1;cases h1;exact .inr ⟨b,ents,rfl,h3,h4,h5⟩
 ·simp only[zaa] at hm
  subst hm
  cases hv with|p _ _ hv=>
  cases hv
  exact .inl ⟨rfl,rfl⟩
 ·cases hm
theorem qoq (h:MR P E U pd l s G w)(c:Call)(hop:o.op=.call c)(hc:c.callee=.builtin .len){x:Operand}(hxs:c.args.toList=[x]){t kt et:TypeId}(hts:c.argTypes.toList=[t])(ht:P.underlying t=some (.map kt et)){g:Arg}(hg:qax x=some g)
  (hr:qan G w f a g.tmps){es:List (zP×zA)}(hm:qf1 E s (g.ev f)=some es):PureOK P G w o a (.p (.int .i64 (.ofNat es.length))):=by
 have h1:=qat hg hr
 have he:execOp a.eval o=(do pure (.value (<-Builtin.len_ #[t] o.type #[a.eval x]))):=by
  rw[qaI c hop .len hc,qdL hxs,qdL hts];simp[builtin]
 rcases qnJ h h1 hm with⟨e,rfl⟩|⟨b,ents,e,h2,h3,_⟩
 ·exact qau he (u:=goInt 0) (by rw[e];simp[Builtin.len_,run_underlying ht]) (Keep.refl w) (.int _ _)
 ·exact qau he (u:=goInt ents.size) (by rw[e];simp[Builtin.len_,run_underlying ht,MapKept.run_getObj_map h2]) (Keep.refl w) (by rw[h3];exact .int _ _)
theorem qor (h:MR P E U pd l s G w)(t:TypeId)(x y:Operand)(ok:Bool)(hop:o.op=.lookup t x y ok){kt et:TypeId}(ht:P.underlying t=some (.map kt et)){kd:Nat}{ks:List Nat}(hkt:qlD P kt=some (kd,ks)){i:TypeInfo}(hi:P.info? et=some i){z:Value}(hz:i.zero=some z){zv:zA}(hzv:qlw z=some zv)
  {gx gy:Arg}(hx:qax x=some gx)(hy:qax y=some gy)(hr:qan G w f a (gx.tmps++gy.tmps)){k:zP}(hk:zA.pureW (gy.ev f)=some k){es:List (zP×zA)}(hm:qf1 E s (gx.ev f)=some es)(hik:qdK kd ks k=true){r:Option (Nat×zA)}(hf:findKey kd ks k es 0=some r):
  PureOK P G w o a (match r with
   |some (_,x)=>cond ok (.tuple [x,.p (.bool true)]) x
   |none=>cond ok (.tuple [zv,.p (.bool false)]) zv):=by
 have h1:=qat hx fun t ht=>hr t (by simp[ht])
 have hp:=qc7 hk (qat hy fun t ht=>hr t (by simp[ht]))
 have hK:=qg3 hkt
 have pair:∀{x:zA} {u:Value} {b:Bool},VR G w x u->VR G w (cond ok (.tuple [x,.p (.bool b)]) x) (if ok then .tuple #[u,.bool b] else u):=by
  intro x u b hu
  cases ok with
  |false=>exact hu
  |true=>exact qc9 hu (.bool b)
 rcases qnJ h h1 hm with⟨e,rfl⟩|⟨b,ents,e,h2,h3,h4⟩
 ·simp only[findKey,zaa] at hf
  subst hf
  obtain⟨r',h5,h6⟩:=qdR hK hp (es:=[]) (ents:= #[]) rfl (fun j k y e h=>by simp at h) (r:=none) rfl
  have:r'=none:=by cases r' with|none=>rfl|some q=>exact h5.elim
  subst this
  refine qau (qcS t x y ok hop) (u:=if ok then .tuple #[z,.bool false] else z) ?_ (Keep.refl w) (pair (qcs hzv))
  rw[e]
  simp[Instr.lookup,run_underlying ht,qbp hK hp hik,h6,zeroValue,typeInfo,hi,hz]
 ·obtain⟨r',h5,h6⟩:=qdR hK hp h3 (fun j k y e h7 h8=>(h4 j k y e h7 h8).1) hf
  have hg:=MapKept.run_getObj_map (P:=P) h2
  unfold qiE at h5
  split at h5
  ·refine qau (qcS t x y ok hop) (u:=if ok then .tuple #[z,.bool false] else z) ?_ (Keep.refl w) (pair (qcs hzv))
   rw[e]
   simp[Instr.lookup,run_underlying ht,hg,qbp hK hp hik,h6,zeroValue,typeInfo,hi,hz]
  ·obtain⟨_,j,e',k',h7,h8,h9,rfl,_⟩:=h5
   refine qau (qcS t x y ok hop) (u:=if ok then .tuple #[e'.val,.bool true] else e'.val) ?_ (Keep.refl w) (pair (h4 j _ _ e' h8 (by simpa using h9)).2.1)
   rw[e]
   simp[Instr.lookup,run_underlying ht,hg,qbp hK hp hik,h6]
  ·exact h5.elim
theorem qhT {xv:Value}(h:Instr.sameBits 10000 xv xv=true):(Instr.keyThatStays xv xv).run P w=.ok xv w:=by simp[Instr.keyThatStays,h]
def EntsR (G:Gh)(w:World)(es:List (zP×zA))(ents:Array MapEntry):Prop:=∀(j:Nat) k x e,es[j]? =some (k,x)->ents[j]? =some e->PR G.S w k e.key/\VR G w x e.val/\e.born=j
theorem EntsR.push {es:List (zP×zA)}{ents:Array MapEntry}(h:EntsR G w es ents)(hl:es.length=ents.size){k:zP}{x:zA}{kv xv:Value}(hk:PR G.S w k kv)(hx:VR G w x xv):EntsR G w (es++[(k,x)]) (ents.push {key:=kv,val:=xv,born:=ents.size}):=by
 intro j k' y e hj he
 rw[Array.getElem?_push] at he
 by_cases c:j<es.length
 ·rw[zat c] at hj
  rw[if_neg (by omega)] at he
  exact h j k' y e hj he
 ·by_cases c':j=ents.size
  ·rw[if_pos c'] at he
   simp only[zaa] at he
   subst he
   rw[zas (by omega),show j-es.length=0 by omega] at hj
   simp only[zak,zaa,zad] at hj
   obtain⟨rfl,rfl⟩:=hj
   exact⟨hk,hx,c'.symm⟩
  ·rw[if_neg c',Array.getElem?_eq_none (by omega)] at he
   cases he
theorem EntsR.modify {es:List (zP×zA)}{ents:Array MapEntry}(h:EntsR G w es ents)(hl:es.length=ents.size){j:Nat}{e0:MapEntry}(he0:ents[j]? =some e0){k:zP}{x:zA}{g:MapEntry->MapEntry}(hk:PR G.S w k (g e0).key)(hx:VR G w x (g e0).val)(hb:(g e0).born=e0.born):
  EntsR G w (qhC es j (k,x)) (ents.modify j g):=by
 intro j' k' y e hj he
 have hjl:j<ents.size:=(zag.1 he0).1
 rw[qg2] at hj
 rw[Array.getElem?_modify] at he
 by_cases c:j=j'
 ·subst c
  rw[List.getElem?_set_self (by omega)] at hj
  rw[if_pos rfl,he0] at he
  simp only[zaa,zad,zao] at hj he
  obtain⟨rfl,rfl⟩:=hj
  subst he
  obtain⟨k0,h0⟩:∃p,es[j]? =some p:=⟨_,zai (by omega)⟩
  exact⟨hk,hx,by rw[hb];exact(h j _ _ e0 h0 he0).2.2⟩
 ·rw[List.getElem?_set_ne c] at hj
  rw[if_neg c] at he
  exact h j' k' y e hj he
theorem qhU {es:List (zP×zA)}(h:es.all (fun p=>qaV p.2)=true){k:zP}{x:zA}(hx:qaV x=true):(es++[(k,x)]).all (fun p=>qaV p.2)=true:=by
 rw[List.all_append,h];simp[hx]
theorem qfv {es:List (zP×zA)}(h:es.all (fun p=>qaV p.2)=true){j:Nat}{k:zP}{x:zA}(hx:qaV x=true):(qhC es j (k,x)).all (fun p=>qaV p.2)=true:=by
 rw[qg2,zaj]
 rw[zaj] at h
 intro p hp
 rcases List.mem_or_eq_of_mem_set hp with hp|hp
 ·exact h p hp
 ·rw[hp];exact hx
theorem MR.setMap (h:MR P E U pd l s G w){q b:Nat}(hb:G.bOf q=some b)(hown:G.own b=.loc q){ents0:Array MapEntry}{c0:Nat}(hheap:w.heap[b]? =some (.map ents0 c0)){es:List (zP×zA)}{ents:Array MapEntry}{hp:Heap}(hs:qaM s.heap q (.map es)=some hp)(hl:es.length=ents.size)
  (hr:EntsR G w es ents)(ha:es.all (fun p=>qaV p.2)=true):Ext G w G {w with heap:=w.heap.setIfInBounds b (.map ents ents.size)}/\MR P E U pd l {s with heap:=hp} G {w with heap:=w.heap.setIfInBounds b (.map ents ents.size)}:=by
 have x:=Ext.chg (G:=G) (Swap.setObj hheap (.map ents ents.size)) (by rw[hown];exact fun e=>e) (by rw[hown];intros;simp)
 exact⟨x,(h.chgH (Swap.setObj hheap (.map ents ents.size)) hb hown hs ⟨⟨ents,(MapKept.heap_set hheap).1,hl,fun j k y e h4 h5=>⟨(hr j k y e h4 h5).1.ext x,(hr j k y e h4 h5).2.1.ext x,(hr j k y e h4 h5).2.2⟩⟩,ha⟩).2⟩
theorem qdv (h:MR P E U pd l s G w){q:Nat}{v:Value}(hv:VR G w (.map q) v){es:List (zP×zA)}(hm:qaH s.heap q=some (.map es)):
  ∃b ents,v=.map (some b)/\G.bOf q=some b/\G.own b=.loc q/\w.heap[b]? =some (.map ents ents.size)/\es.length=ents.size/\EntsR G w es ents/\es.all (fun p=>qaV p.2)=true:=by
 cases hv with|map _ b hb=>
 rcases(h.heap q _ hm).2 with e|⟨b',h1,h2,⟨ents,h3,h4,h5⟩,h6⟩
 ·rw[hb] at e;cases e
 ·rw[hb] at h1;cases h1;exact⟨b,ents,rfl,hb,h2,h3,h4,h5,h6⟩
theorem qgj (h:MR P E U pd l s G w)(t:TypeId)(x y z:Operand)(hop:o.op=.insert t x y z\/o.op=.mapUpdate t x y z){kt et:TypeId}(ht:P.underlying t=some (.map kt et)){kd:Nat}{ks:List Nat}(hkt:qlD P kt=some (kd,ks))
  {gx gy gz:Arg}(hx:qax x=some gx)(hy:qax y=some gy)(hz:qax z=some gz)(hr:qan G w f a (gx.tmps++(gy.tmps++gz.tmps))){q:Nat}{k:zP}(hk:zA.pureW (gy.ev f)=some k)(hq:gx.ev f=.map q){es es':List (zP×zA)}(hm:qaH s.heap q=some (.map es))
  (hik:qdK kd ks k=true)(hv:qaV (gz.ev f)=true)(hf:qhD kd ks es k (gz.ev f)=some es'){hp:Heap}(qaM:qaM s.heap q (.map es')=some hp):
  NextP P (qba P E U pd G w l {s with heap:=hp} qag) ((execOp a.eval o).run P w):=by
 have h1:=qat hx fun t ht=>hr t (by simp[ht])
 have hp1:=qc7 hk (qat hy fun t ht=>hr t (by simp[ht]))
 have h3:=qat hz fun t ht=>hr t (by simp[ht])
 have hK:=qg3 hkt
 rw[hq] at h1
 obtain⟨b,ents,e1,hb,hown,hheap,hl,hrel,ha⟩:=qdv h h1 hm
 have hg:=MapKept.run_getObj_map (P:=P) hheap
 have hso:=fun ob=>MapKept.run_setObj_map (P:=P) ob hheap
 have he:execOp a.eval o=(do Instr.mapUpdate t (a.eval x) (a.eval y) (a.eval z);pure .skip):=by
  rcases hop with hop|hop
  ·exact qgY t x y z hop
  ·exact qeP t x y z hop
 simp only[qhD,zab] at hf
 obtain⟨r,hf,rfl⟩:=hf
 obtain⟨r',h5,h6⟩:=qdR hK hp1 hl (fun j k y e h7 h8=>(hrel j k y e h7 h8).1) hf
 unfold qiE at h5
 split at h5
 ·obtain⟨x',hmr⟩:=h.setMap (c0:=ents.size) (ents:=ents.push {key:=a.eval y,val:=a.eval z,born:=ents.size}) hb hown hheap qaM (by simp[hl]) (hrel.push hl hp1 h3) (qhU ha hv)
  refine qdb he ?_ ⟨G,x',hmr,.undef⟩
  rw[e1]
  simp[Instr.mapUpdate,run_underlying ht,hg,qbp hK hp1 hik,h6,hso]
 ·rename_i n y' m u
  obtain⟨rfl,j,e',k',rfl,h8,h9,rfl,h10⟩:=h5
  rw[zaI] at h6 qaM
  have h9':ents[j]? =some e':=by simpa using h9
  obtain⟨_,hsb⟩:a.eval y=a.eval y/\Instr.sameBits 10000 (a.eval y) (a.eval y)=true:=by
   refine⟨rfl,?_⟩
   have hpe:∃k0,PR G.S w k0 e'.key/\qpK kd ks k k0=some true:=by
    refine⟨k',(hrel j k' y' e' h8 h9').1,?_⟩
    exact qfu hf h8
   obtain⟨k0,hk0,hpe⟩:=hpe
   exact((qjT hK hpe hp1 hk0 rfl).1 rfl).2
  obtain⟨x',hmr⟩:=h.setMap (c0:=ents.size) (ents:=ents.modify j fun e=>{e with key:=a.eval y,val:=a.eval z}) hb hown hheap qaM (by simp[hl,qdQ]) (hrel.modify hl h9' hp1 h3 rfl) (qfv ha hv)
  refine qdb he ?_ ⟨G,x',hmr,.undef⟩
  rw[e1]
  have hkk:((ents[j]?).map (·.key)).getD (a.eval y)=a.eval y:=by rw[h9'];simp[h10]
  have hkeep:(Instr.keyThatStays (((ents[j]?).map (·.key)).getD (a.eval y)) (a.eval y)).run P w=.ok (a.eval y) w:=by rw[hkk];exact qhT hsb
  simp only[Instr.mapUpdate,Sem.run_bind,run_underlying ht,Result.andThen_ok,hg,qbp hK hp1 hik,h6,hkeep,hso,Array.size_modify]
 ·exact h5.elim
theorem qos (h:MR P E U pd l s G w)(t:TypeId)(x y:Operand)(hop:o.op=.mapEntry t x y){kt et:TypeId}(ht:P.underlying t=some (.map kt et)){kd:Nat}{ks:List Nat}(hkt:qlD P kt=some (kd,ks)){i:TypeInfo}(hi:P.info? et=some i){z:Value}(hz:i.zero=some z){zv:zA}(hzv:qlw z=some zv)
  {gx gy:Arg}(hx:qax x=some gx)(hy:qax y=some gy)(hr:qan G w f a (gx.tmps++gy.tmps)){q:Nat}{k:zP}(hk:zA.pureW (gy.ev f)=some k)(hq:gx.ev f=.map q){es:List (zP×zA)}(hm:qaH s.heap q=some (.map es))
  (hik:qdK kd ks k=true)(hv:qaV zv=true){r:Option (Nat×zA)}(hf:findKey kd ks k es 0=some r):
  match r with
  |some (j,y)=>∀hp,qaM s.heap q (.map (qhC es j (k,y)))=some hp->NextP P (qba P E U pd G w l {s with heap:=hp} (.tuple [y,.p (.int .i64 (.ofNat j))])) ((execOp a.eval o).run P w)
  |none=>∀hp,qaM s.heap q (.map (es++[(k,zv)]))=some hp->NextP P (qba P E U pd G w l {s with heap:=hp} (.tuple [zv,.p (.int .i64 (.ofNat es.length))])) ((execOp a.eval o).run P w):=by
 have h1:=qat hx fun t ht=>hr t (by simp[ht])
 have hp1:=qc7 hk (qat hy fun t ht=>hr t (by simp[ht]))
 have hK:=qg3 hkt
 rw[hq] at h1
 obtain⟨b,ents,e1,hb,hown,hheap,hl,hrel,ha⟩:=qdv h h1 hm
 have hg:=MapKept.run_getObj_map (P:=P) hheap
 have hso:=fun ob=>MapKept.run_setObj_map (P:=P) ob hheap
 have he:=qfp (ρ:=a.eval) t x y hop
 obtain⟨r',h5,h6⟩:=qdR hK hp1 hl (fun j k y e h7 h8=>(hrel j k y e h7 h8).1) hf
 unfold qiE at h5
 split at h5
 ·intro hp qaM
  obtain⟨x',hmr⟩:=h.setMap (c0:=ents.size) (ents:=ents.push {key:=a.eval y,val:=z,born:=ents.size}) hb hown hheap qaM (by simp[hl]) (hrel.push hl hp1 (qcs hzv)) (qhU ha hv)
  refine qaK he (u:=.tuple #[z,goInt ents.size]) ?_ ⟨G,x',hmr,qc9 ((qcs hzv).ext x') (by rw[hl];exact .int _ _)⟩
  rw[e1]
  simp[Instr.mapEntry,run_underlying ht,hg,qbp hK hp1 hik,h6,hso,zeroValue,typeInfo,hi,hz]
 ·rename_i n y' m u
  obtain⟨rfl,j,e',k',rfl,h8,h9,rfl,h10⟩:=h5
  intro hp qaM
  have qaM:=qaM
  rw[zaI] at h6
  rw[zaI] at qaM
  have e0:0+j=j:=zaI j
  rw[e0]
  have h9':ents[j]? =some e':=by simpa using h9
  obtain⟨g1,g2,g3⟩:=hrel j k' y' e' h8 h9'
  have hsb:Instr.sameBits 10000 (a.eval y) (a.eval y)=true:=by
   have hpe:qpK kd ks k k'=some true:=by
    exact qfu hf h8
   exact((qjT hK hpe hp1 g1 rfl).1 rfl).2
  obtain⟨x',hmr⟩:=h.setMap (c0:=ents.size) (ents:=ents.modify j fun e=>{e with key:=a.eval y}) hb hown hheap qaM (by simp[hl,qdQ]) (hrel.modify hl h9' hp1 g2 rfl) (qfv ha (qlR ha h8))
  refine qaK he (u:=.tuple #[e'.val,goInt e'.born]) ?_ ⟨G,x',hmr,qc9 (g2.ext x') (by rw[g3];exact .int _ _)⟩
  rw[e1]
  have hkk:((ents[j]?).map (·.key)).getD (a.eval y)=a.eval y:=by rw[h9'];simp[h10]
  have hkeep:(Instr.keyThatStays (((ents[j]?).map (·.key)).getD (a.eval y)) (a.eval y)).run P w=.ok (a.eval y) w:=by rw[hkk];exact qhT hsb
  have hbo:((ents[j]?).map (fun x:MapEntry=>(x.born:Int))).getD 0=(e'.born:Int):=by rw[h9'];rfl
  simp only[Instr.mapEntry,Sem.run_bind,run_underlying ht,Result.andThen_ok,hg,qbp hK hp1 hik,h6,hkeep,hso,Array.size_modify,Sem.run_pure,hbo]
 ·exact h5.elim
theorem qot (h:MR P E U pd l s G w)(t:TypeId)(x y z:Operand)(hop:o.op=.entryStore t x y z)
  {gx gy gz:Arg}(hx:qax x=some gx)(hy:qax y=some gy)(hz:qax z=some gz)(hr:qan G w f a (gx.tmps++(gy.tmps++gz.tmps))){q j:Nat}(hj:qbe (gy.ev f)=some j)(hq:gx.ev f=.map q){es:List (zP×zA)}(hm:qaH s.heap q=some (.map es))
  (hv:qaV (gz.ev f)=true){p:zP×zA}(hp0:qc0 es j=some p){hp:Heap}(qaM:qaM s.heap q (.map (qhC es j (p.1,gz.ev f)))=some hp):
  NextP P (qba P E U pd G w l {s with heap:=hp} qag) ((execOp a.eval o).run P w):=by
 have h1:=qat hx fun t ht=>hr t (by simp[ht])
 obtain⟨kk,ek⟩:=qbh hj (qat hy fun t ht=>hr t (by simp[ht]))
 have h3:=qat hz fun t ht=>hr t (by simp[ht])
 rw[hq] at h1
 obtain⟨b,ents,e1,hb,hown,hheap,hl,hrel,ha⟩:=qdv h h1 hm
 have hg:=MapKept.run_getObj_map (P:=P) hheap
 have hso:=fun ob=>MapKept.run_setObj_map (P:=P) ob hheap
 have he:=qec (ρ:=a.eval) t x y z hop
 rw[qbn] at hp0
 have hjl:j<es.length:=(zah.1 hp0).1
 have he0:ents[j]? =some (ents[j]'(by omega)):=zam (by omega)
 obtain⟨g1,g2,g3⟩:=hrel j p.1 p.2 _ hp0 he0
 have hborn:∀i (hi:i<ents.size),(ents[i]).born=i:=fun i hi=>(hrel i (es[i]'(by omega)).1 (es[i]'(by omega)).2 _ (zai (by omega)) (zam hi)).2.2
 have hfi:ents.findIdx? (fun e=>(e.born:Int)==(j:Int))=some j:=by
  rw[Array.findIdx?_eq_some_iff_getElem]
  refine⟨by omega,by simp[hborn],fun i hi=>?_⟩
  have:=hborn i (by omega)
  simp only[this,beq_iff_eq]
  omega
 obtain⟨x',hmr⟩:=h.setMap (c0:=ents.size) (ents:=ents.modify j fun e=>{e with val:=a.eval z}) hb hown hheap qaM (by simp[hl,qdQ]) (hrel.modify hl he0 g1 h3 rfl) (qfv ha hv)
 refine qdb he ?_ ⟨G,x',hmr,.undef⟩
 rw[e1,ek]
 simp[Instr.entryStore,hg,hfi,hso,asInt,asIntOf]
end Go.AI
namespace Go.AI
section
variable {G G':Gh} {w:World}
structure Moves (G G':Gh)(w:World):Prop where
 S:∀b o,G.S b o->G'.S b o
 bOf:∀l b,G.bOf l=some b->G'.bOf l=some b
 R:∀n cs t a cap,Right G w n cs t a cap->Right G' w n cs t a cap
theorem Moves.pr (h:Moves G G' w){c:zP}{v:Value}(k:PR G.S w c v):PR G'.S w c v:=k.mono fun _ _ hc hs=>⟨hc,h.S _ _ hs⟩
theorem Moves.atQ (h:Moves G G' w){c:zA}{v:Value}(k:VR G w c v)(ha:qn4 c=true):VR G' w c v:=by
 cases k with
 |p c v hp=>exact .p _ _ (h.pr hp)
 |full n cs a hp=>exact .full _ _ _ (h.pr hp)
 |own n cs t a cap hp r=>exact .own _ _ _ _ _ (h.pr hp) (h.R _ _ _ _ _ r)
 |ptr l off b hb=>exact .ptr _ _ _ (h.bOf _ _ hb)
 |elem cs i ad he=>
  refine .elem _ _ _ fun j c hc=>?_
  obtain⟨v,h1,h2,h3,h4⟩:=he j c hc
  exact⟨v,h1,h.S _ _ h2,h.pr h3,h4⟩
 |yield l b hb=>exact .yield _ _ (h.bOf _ _ hb)
 |map l b hb=>exact .map _ _ (h.bOf _ _ hb)
 |hs l off n cap sz op b cap' hb hn hc he hz=>exact .hs _ _ _ _ _ _ _ _ (h.bOf _ _ hb) hn hc he hz
 |sym b ls n h hn=>exact .sym b ls n h hn
 |_=>cases ha
theorem qaS {α:Type}{p:α->Bool}{xs:List α}(h:xs.all p=true){i:Nat}{x:α}(hx:xs[i]? =some x):p x=true:=zaj.1 h x (zaF hx)
theorem Moves.atN (h:Moves G G' w):∀(n:Nat) {c:zA} {v:Value},VR G w c v->qdI n c=true->VR G' w c v
 |0,c,v,k,ha=>h.atQ k ha
 |n+1,c,v,k,ha=>by
  cases c with
  |row m cs=>
   cases k with
   |row _ _ a cap vs hn hl h1 hc hv=>exact .row _ _ _ _ vs hn hl h1 (fun i v hv=>⟨(hc i v hv).1,h.S _ _ (hc i v hv).2⟩) fun i c v hc hv'=>h.atN n (hv i c v hc hv') (qaS (p:=qdI n) ha hc)
  |rel cs i=>
   cases k with
   |rel _ _ a vs hl h1 hc hv=>exact .rel _ _ _ vs hl h1 (fun i v hv=>⟨(hc i v hv).1,h.S _ _ (hc i v hv).2⟩) fun i c v hc hv'=>h.atN n (hv i c v hc hv') (qaS (p:=qdI n) ha hc)
  |func f xs ys=>
   simp only[qdI,zae] at ha
   cases k with
   |func _ _ _ vs us hl hm hx hy=>exact .func _ _ _ _ _ hl hm (fun i c v hc hv=>h.atN n (hx i c v hc hv) (qaS ha.1 hc)) (fun i c v hc hv=>h.atN n (hy i c v hc hv) (qaS ha.2 hc))
  |iface t d=>
   cases k with
   |iface _ _ u hu=>exact .iface _ _ _ (h.atN n hu ha)
  |agg cs=>
   cases k with
   |agg _ vs hl h1 hv=>exact .agg _ _ hl h1 fun i c v hc hv'=>h.atN n (hv i c v hc hv') (qaS (p:=qdI n) ha hc)
  |_=>exact h.atQ k ha
theorem Moves.atF (h:Moves G G' w){c:zA}{v:Value}(k:VR G w c v)(ha:qjr c=true):VR G' w c v:=h.atN 8 k ha
theorem Moves.at0 (h:Moves G G' w){c:zA}{v:Value}(k:VR G w c v)(ha:qjs c=true):VR G' w c v:=by
 cases c with
 |iface t d=>
  cases k with
  |iface _ _ u hu=>exact .iface _ _ _ (h.atF hu ha)
 |_=>exact h.atF k ha
theorem Moves.atX (h:Moves G G' w){c:zA}{v:Value}(k:VR G w c v)(ha:qn5 c=true):VR G' w c v:=by
 cases c with
 |agg cs=>
  cases k with
  |agg _ vs hl h1 hv=>exact .agg _ _ hl h1 fun i c v hc hv'=>h.at0 (hv i c v hc hv') (qaS (p:=qjs) ha hc)
 |_=>exact h.at0 k ha
theorem Moves.at1 (h:Moves G G' w){c:zA}{v:Value}(k:VR G w c v)(ha:qaG c=true):VR G' w c v:=by
 cases c with
 |func f xs ys=>
  simp only[qaG,zae] at ha
  cases k with
  |func _ _ _ vs us hl hm hx hy=>exact .func _ _ _ _ _ hl hm (fun i c v hc hv=>h.atX (hx i c v hc hv) (qaS ha.1 hc)) (fun i c v hc hv=>h.atX (hy i c v hc hv) (qaS ha.2 hc))
 |_=>exact h.at0 k ha
theorem Moves.atC (h:Moves G G' w){c:zA}{v:Value}(k:VR G w c v)(ha:qaV c=true):VR G' w c v:=by
 cases c with
 |agg cs=>
  cases k with
  |agg _ vs hl h1 hv=>exact .agg _ _ hl h1 fun i c v hc hv'=>h.at1 (hv i c v hc hv') (qaS (p:=qaG) ha hc)
 |_=>exact h.at1 k ha
theorem Moves.at (h:Moves G G' w){c:zA}{v:Value}(k:VR G w c v)(ha:qjt c=true):VR G' w c v:=by
 cases c with
 |tuple cs=>
  cases k with
  |tuple _ vs hl hv=>exact .tuple _ _ hl fun i c v hc hv'=>h.atC (hv i c v hc hv') (qaS (p:=qaV) ha hc)
 |_=>exact h.atC k ha
theorem Moves.br (h:Moves G G' w){b:Nat}{cs:List zA}(k:BR G w b cs)(ha:cs.all qaG=true):BR G' w b cs:=by
 obtain⟨c,E,h1,h2,h3,h4⟩:=k
 exact⟨c,E,h1,h2,h3,fun j a v hj hv=>h.at1 (h4 j a v hj hv) (qaS ha hj)⟩
theorem Moves.or (h:Moves G G' w){P:Program}{b:Nat}{o:zH}(ho:∀g,G.own g=G.own b->G'.own g=G'.own b)(k:OR P G w b o):OR P G' w b o:=by
 cases o with
 |bld T e bs=>exact k.move rfl fun g _ he=>⟨rfl,ho g he⟩
 |cells cs=>exact⟨h.br k.1 k.2,k.2⟩
 |map es=>
  obtain⟨⟨ents,h1,h2,h3⟩,h4⟩:=k
  exact⟨⟨ents,h1,h2,fun j k x e hj he=>⟨h.pr (h3 j k x e hj he).1,h.atC (h3 j k x e hj he).2.1 (qaS (p:=fun p:zP×zA=>qaV p.2) h4 hj),(h3 j k x e hj he).2.2⟩⟩,h4⟩
 |loop st pend f l ps a c=>
  obtain⟨r,h1,h2⟩:=k
  exact⟨r,h1,⟨h2.st_,h2.pend_,⟨fun t=>by
   rcases h2.aw t with e|e
   ·exact h.at (h2.f_.1 t) e
   ·rw[e];exact .junk _,h2.f_.2⟩,h2.aw,h2.ps_,h2.psl,h2.l_,h2.code⟩⟩
 |gone=>exact k
 |iter m since last seen=>
  obtain⟨bm,h1,h2⟩:=k
  exact⟨bm,h1,h.atC h2 rfl⟩
theorem qgk {c:zA}{v:Value}(h:VR G w c v):VR G w (qfY c) v:=by
 cases h with
 |full n cs a hp=>exact .p _ _ hp
 |own n cs t a cap hp r=>exact .p _ _ hp
 |p c v h=>exact .p _ _ h
 |lptr i g off b h=>exact .lptr _ _ _ _ h
 |ptr l off b h=>exact .ptr _ _ _ h
 |elem cs i ad h=>exact .elem _ _ _ h
 |row n cs a cap vs hn hl h1 hc h=>exact .row _ _ _ _ vs hn hl h1 hc h
 |rel cs i a vs hl h1 hc h=>exact .rel _ _ _ vs hl h1 hc h
 |func f fs cps vs us hl hm h k=>exact .func _ _ _ _ _ hl hm h k
 |yield l b h=>exact .yield _ _ h
 |map l b h=>exact .map _ _ h
 |hs l off n cap sz op b cap' hb hn hc he hz=>exact .hs _ _ _ _ _ _ _ _ hb hn hc he hz
 |iface t c v h=>exact .iface _ _ _ h
 |agg cs vs hl h1 h=>exact .agg _ _ hl h1 h
 |tuple cs vs hl h=>exact .tuple _ _ hl h
 |sym b ls n h hn=>exact .sym b ls n h hn
 |junk v=>exact .junk _
theorem qgl {c:zA}{v:Value}(h:VR G w c v):VR G w (qju c) v:=by
 cases c with
 |agg cs=>
  cases h with
  |agg _ vs hl h1 hv=>
   refine .agg _ _ (by simpa using hl) h1 fun i c v hc hv'=>?_
   simp only[zaw,zab] at hc
   obtain⟨d,hd,rfl⟩:=hc
   exact qgk (hv i d v hd hv')
 |_=>exact qgk h
theorem qfw {c:zA}{v:Value}(h:VR G w c v):VR G w (qbT c) v:=by
 cases c with
 |tuple cs=>
  cases h with
  |tuple _ vs hl hv=>
   refine .tuple _ _ (by simpa using hl) fun i c v hc hv'=>?_
   simp only[zaw,zab] at hc
   obtain⟨d,hd,rfl⟩:=hc
   exact qgl (hv i d v hd hv')
 |_=>exact qgl h
theorem qgm (c:zA)(h:qaG c=true):qaG (qfY c)=true:=by cases c<;>first|exact h|rfl
theorem qg4 (c:zA)(h:qaV c=true):qaV (qbT c)=true:=by
 cases c with
 |agg cs=>
  show((cs.map qfY).all qaG)=true
  rw[zaj]
  intro x hx
  obtain⟨y,hy,rfl⟩:=List.mem_map.1 hx
  exact qgm y (zaj.1 h y hy)
 |tuple cs=>cases h
 |_=>first|exact h|rfl
end
def Gh.sub (G:Gh):Gh:={G with own:=fun b=>match G.own b with|.lcl _ _=> .ro 0|r=>r,lam:=fun _ _=>none}
def Gh.back (G G1:Gh):Gh:={G1 with own:=fun b=>match G.own b with|.lcl i g=> .lcl i g|_=>(match G1.own b with|.lcl _ _=> .free|r=>r),lam:=G.lam}
section
variable {P:Program} {E:Rom} {U pd pd1:Nat->Option (List zA)} {l l1:Tr (Nat×List zA)} {s s':ASt} {G G1:Gh} {w w':World}
theorem qej {b:Nat}{r:Own}(h:G.sub.own b=r)(hr:r≠.ro 0):G.own b=r:=by
 unfold Gh.sub at h
 simp only at h
 split at h
 ·exact absurd h.symm hr
 ·exact h
theorem qbj {b:Nat}{r:Own}(h:G.own b=r)(hr:∀i g,r≠.lcl i g):G.sub.own b=r:=by
 unfold Gh.sub
 simp only
 split
 ·rename_i i g e
  exact absurd (h.symm.trans e) (hr i g)
 ·exact h
theorem qjV {b i g:Nat}(h:G.own b=.lcl i g):G.sub.own b=.ro 0:=by unfold Gh.sub;simp only[h]
theorem moves_sub:Moves G G.sub w:=by
 refine⟨fun b o h=>?_,fun _ _ h=>h,fun n cs t a cap h=>⟨h.1,fun b m sz hb=>h.2 b m sz (qej hb (by simp))⟩⟩
 unfold Gh.S at h⊢
 cases e:G.own b with
 |lcl i g=>rw[e] at h;exact h.elim
 |_=>rw[qbj e (by simp)];rw[e] at h;exact h
theorem MR.sub (h:MR P E U pd l s G w){l0:Tr (Nat×List zA)}(h0:∀i,l0.get (0,[]) i=(0,[])):MR P E U (fun _=>none) l0 s G.sub w:=by
 refine⟨fun b hb=>?_,h.bOf,h.lo_,h.un,fun _ _ e=>(by cases e),h.nt,fun i g cs hl hg _=>?_,fun i g b hb=>(by cases hb),fun k o hk=>?_,fun k o hk=>?_,?_,?_,?_⟩
 ·refine h.own b fun e=>hb ?_
  exact qbj e (by simp)
 ·rw[h0] at hl
  injection hl with e
  exact absurd e.symm hg
 ·obtain⟨h1,h2⟩:=h.heap k o hk
  exact⟨h1,h2.imp id fun⟨b,h3,h4,h5⟩=>⟨b,h3,qbj h4 (by simp),moves_sub.or (fun g he=>by rw[qbj (he.trans h4) (by simp),qbj h4 (by simp)]) h5⟩⟩
 ·obtain⟨h12,hph⟩:=h.ro k o hk
  refine⟨fun hlo=>?_,fun hhi=>?_⟩
  ·obtain⟨h1,h2⟩:=h12 hlo
   exact⟨h1,h2.imp id fun⟨b,j,h3,h4,h5⟩=>⟨b,j,h3,qbj h4 (by simp),moves_sub.or (fun g he=>by rw[qbj (he.trans h4) (by simp),qbj h4 (by simp)]) h5⟩⟩
  ·obtain⟨j,h4,h5⟩:=hph hhi
   exact⟨j,qbj h4 (by simp),h5.go rfl fun a v ha h=>moves_sub.at1 h ha⟩
 ·intro t n sz ht
  obtain⟨h1,b,h2⟩:=h.tok.1 t n sz ht
  exact⟨h1,b,qbj h2 (by simp)⟩
 ·intro b t n sz hb
  exact h.tok.2.1 b t n sz (qej hb (by simp))
 ·intro b b' t n n' sz sz' h1 h2
  exact h.tok.2.2 b b' t n n' sz sz' (qej h1 (by simp)) (qej h2 (by simp))
theorem qfx {b i g:Nat}(h:G.own b=.lcl i g):(G.back G1).own b=.lcl i g:=by unfold Gh.back;simp only[h]
theorem qbk {b:Nat}{r:Own}(h:∀i g,G.own b≠.lcl i g)(h1:G1.own b=r)(hr:∀i g,r≠.lcl i g):(G.back G1).own b=r:=by
 have key:(match G1.own b with|.lcl _ _=>Own.free|r=>r)=r:=by
  rw[h1]
  cases r<;>first|rfl|exact absurd rfl (hr _ _)
 unfold Gh.back
 cases e:G.own b with
 |lcl i g=>exact absurd e (h i g)
 |_=>simp only[e];exact key
theorem qcE {b:Nat}{r:Own}(h:(G.back G1).own b=r)(hr:r≠.free)(hr':∀i g,r≠.lcl i g):G1.own b=r/\∀i g,G.own b≠.lcl i g:=by
 by_cases e:∃i g,G.own b=.lcl i g
 ·obtain⟨i,g,e⟩:=e
  rw[qfx e] at h
  exact absurd h.symm (hr' i g)
 ·have hne:∀i g,G.own b≠.lcl i g:=fun i g e'=>e ⟨i,g,e'⟩
  refine⟨?_,hne⟩
  cases e1:G1.own b with
  |lcl i g=>
   have:(G.back G1).own b=.free:=by
    unfold Gh.back
    cases e:G.own b with
    |lcl i g=>exact absurd e (hne i g)
    |_=>simp only[e,e1]
   rw[this] at h
   exact absurd h.symm hr
  |_=>rw[qbk hne e1 (by simp)] at h;exact h
theorem qek (x:Ext G.sub w G1 w')(h:MR P E U pd l s G w){b i g:Nat}(hb:G.own b=.lcl i g):w'.heap[b]? =w.heap[b]?/\G1.own b=.ro 0:=by
 obtain⟨h1,h2⟩:=x.still b (h.own b (by rw[hb];simp)) (by rw[qjV hb];trivial)
 exact⟨h1,h2.trans (qjV hb)⟩
theorem qe7 (h:MR P E U pd l s G w)(x:Ext G.sub w G1 w'):Moves G1 (G.back G1) w':=by
 refine⟨fun b o hs=>?_,fun _ _ h=>h,fun n cs t a cap hr=>⟨hr.1,fun b m sz hb=>hr.2 b m sz (qcE hb (by simp) (by simp)).1⟩⟩
 unfold Gh.S at hs⊢
 cases e:G.own b with
 |lcl i g=>
  rw[(qek x h e).2] at hs
  exact absurd hs (Nat.not_lt_zero _)
 |_=>
  cases e1:G1.own b with
  |lcl i g=>rw[e1] at hs;exact hs.elim
  |_=>rw[qbk (by rw[e];intros;simp) e1 (by simp)];rw[e1] at hs;exact hs
theorem qhV (_h:MR P E U pd l s G w)(x:Ext G.sub w G1 w'):Ext G w (G.back G1) w' where
 size:=x.size
 os:=x.os
 tape:=x.tape
 output:=x.output
 still:=fun b hb hs=>by
  have hne:∀i g,G.own b≠.lcl i g:=fun i g e=>by rw[e] at hs;exact hs
  have e:=qbj (G:=G) (b:=b) rfl hne
  obtain⟨h1,h2⟩:=x.still b hb (by rw[e];exact hs)
  exact⟨h1,qbk hne (h2.trans e) hne⟩
 tok:=fun b t n sz hb ho=>by
  have hne:∀i g,G.own b≠.lcl i g:=fun i g e=>by rw[e] at ho;cases ho
  obtain⟨h1,h2⟩:=x.tok b t n sz hb (qbj ho (by simp))
  exact⟨h1,h2.imp (fun e=>qbk hne e (by simp)) fun⟨n',h3,h4⟩=>⟨n',h3,qbk hne h4 (by simp)⟩⟩
 shape:=fun b t n sz c E' ho hc ⟨n',hn⟩=>x.shape b t n sz c E' (qbj ho (by simp)) hc ⟨n',(qcE hn (by simp) (by simp)).1⟩
 wide:=x.wide
 loc:=fun b q ho=>by
  obtain⟨q',h1⟩:=x.loc b q (qbj ho (by simp))
  exact⟨q',qbk (by rw[ho];intros;simp) h1 (by simp)⟩
 lcl:=fun b i g ho=>qfx ho
 bOf:=x.bOf
 lam:=fun _ _ _ h=>h
 nt:=x.nt
 lo_:=x.lo_
 low:=x.low
 old:=fun b t m sz hb ht=>by
  obtain⟨b0,m0,h1,h2⟩:=x.old b t m sz (qcE hb (by simp) (by simp)).1 ht
  exact⟨b0,m0,qej h1 (by simp),h2⟩
theorem MR.back (h:MR P E U pd l s G w)(x:Ext G.sub w G1 w')(k:MR P E U pd1 l1 s' G1 w'):MR P E U pd l s' (G.back G1) w':=by
 have hx:=qhV h x
 have hm:=qe7 h x
 have hne:∀b r,G1.own b=r->r≠.ro 0->∀i g,G.own b≠.lcl i g:=fun b r h1 h2 i g e=>h2 (by rw[<-h1];exact(qek x h e).2)
 refine⟨fun b hb=>?_,k.bOf,k.lo_,k.un,h.pdz,k.nt,fun i g cs hl hg hp=>?_,h.lam,fun q o hq=>?_,fun q o hq=>?_,?_,?_,?_⟩
 ·by_cases e:G1.own b=.free
  ·by_cases e':∃i g,G.own b=.lcl i g
   ·obtain⟨i,g,e'⟩:=e'
    exact zau (h.own b (by rw[e'];simp)) x.size
   ·exact absurd (qbk (fun i g e2=>e' ⟨i,g,e2⟩) e (by simp)) hb
  ·exact k.own b e
 ·obtain⟨b,h1,h2,h3⟩:=h.loc i g cs hl hg hp
  exact⟨b,h1,qfx h2,h3.ext hx (qek x h h2).1⟩
 ·obtain⟨h1,h2⟩:=k.heap q o hq
  exact⟨h1,h2.imp id fun⟨b,h3,h4,h5⟩=>⟨b,h3,qbk (hne b _ h4 (by simp)) h4 (by simp),hm.or (fun g he=>by rw[qbk (hne g _ (he.trans h4) (by simp)) (he.trans h4) (by simp),qbk (hne b _ h4 (by simp)) h4 (by simp)]) h5⟩⟩
 ·obtain⟨h12,hph⟩:=h.ro q o hq
  refine⟨fun hlo=>?_,fun hhi=>?_⟩
  rotate_left
  ·obtain⟨j,h4,h5⟩:=hph hhi
   obtain⟨h6,h7⟩:=hx.still _ (h.own _ (by rw[h4];simp)) (by rw[h4];trivial)
   exact⟨j,h7.trans h4,h5.go h6 fun a v _ h=>h.ext hx⟩
  obtain⟨h1,h2⟩:=h12 hlo
  refine⟨by rw[show(G.back G1).lo=G.lo from x.lo_];exact h1,?_⟩
  rcases h2 with e|⟨b,j,h3,h4,h5⟩
  ·exact .inl ((x.low q h1).trans e)
  ·obtain⟨h6,h7⟩:=hx.still b (h.own b (by rw[h4];simp)) (by rw[h4];trivial)
   exact .inr ⟨b,j,x.bOf _ _ h3,h7.trans h4,h5.ext hx h6 fun g hg he=>by
    obtain⟨h8,h9⟩:=hx.still g hg (by rw[he,h4];trivial)
    exact⟨h8,by rw[h9,h7,he]⟩⟩
 ·intro t n sz ht
  obtain⟨h1,b,h2⟩:=k.tok.1 t n sz ht
  exact⟨h1,b,qbk (hne b _ h2 (by simp)) h2 (by simp)⟩
 ·intro b t n sz hb
  exact k.tok.2.1 b t n sz (qcE hb (by simp) (by simp)).1
 ·intro b b' t n n' sz sz' h1 h2
  exact k.tok.2.2 b b' t n n' sz sz' (qcE h1 (by simp) (by simp)).1 (qcE h2 (by simp) (by simp)).1
end
end Go.AI
namespace Go.AI
section
variable {P:Program} {E:Rom} {U pd U1 pd1:Nat->Option (List zA)} {l l1:Tr (Nat×List zA)} {s s':ASt} {G G1:Gh} {w w':World}
def Gh.fix (G:Gh)(lo:Nat):Gh:=
 {own:=fun b=>match G.own b with|.lcl _ _=> .ro 0|.loc _=> .ro 0|.tok _ n sz=> .ro (n*sz)|r=>r,bOf:=G.bOf,lam:=fun _ _=>none,nt:=G.nt,lo:=lo}
theorem qbL (G:Gh)(lo b:Nat):((G.fix lo).own b).still:=by
 unfold Gh.fix
 simp only
 split
 all_goals first
  |trivial
  |(cases e:G.own b<;>first|trivial|(exfalso;simp_all))
theorem qqe (G:Gh)(lo b o:Nat):(G.fix lo).S b o↔G.S b o:=by
 unfold Gh.S Gh.fix
 simp only
 cases e:G.own b<;>simp[Own.S]
theorem qcU {G:Gh}{lo b t n sz:Nat}(h:(G.fix lo).own b=.tok t n sz):False:=by
 have:=qbL G lo b
 rw[h] at this
 exact this
theorem qg5 {G:Gh}{lo b:Nat}{r:Own}(h:(G.fix lo).own b=r)(hr:r≠.free):G.own b≠.free:=fun e=>hr (by rw[<-h];unfold Gh.fix;simp only[e])
theorem qde (lo:Nat):Moves G (G.fix lo) w:=⟨fun b o h=>(qqe G lo b o).2 h,fun _ _ h=>h,fun _ _ _ _ _ h=>⟨h.1,fun _ _ _ hb=>(qcU hb).elim⟩⟩
theorem MR.fix (h:MR P E U pd l s G w){l0:Tr (Nat×List zA)}(h0:∀i,l0.get (0,[]) i=(0,[])):
  MR P (qlv s.heap E) (fun _=>none) (fun _=>none) l0 {s with heap:=qiv,toks:=[]} (G.fix s.next) w:=by
 refine⟨fun b hb=>h.own b (qg5 rfl hb),h.bOf,zaf _,fun _ _ e=>(by cases e),fun _ _ e=>(by cases e),h.nt,fun i g cs hl hg _=>?_,fun i g b hb=>(by cases hb),fun k o hk=>(by rw[qdN] at hk;cases hk),fun k o hk=>?_,fun t n sz ht=>(by cases ht),
  fun b t n sz hb=>(qcU hb).elim,fun b b' t n n' sz sz' hb _=>(qcU hb).elim⟩
 ·rw[h0] at hl
  injection hl with e
  exact absurd e.symm hg
 ·unfold qlv at hk
  cases hb:Nat.blt k PB with
  |false=>
   rw[hb] at hk
   have hge:PB<=k:=by
    rcases Nat.lt_or_ge k PB with e|e
    ·rw[blt_iff.2 e] at hb;cases hb
    ·exact e
   refine⟨fun e=>by omega,fun _=>?_⟩
   obtain⟨j,h4,h5⟩:=(h.ro k o hk).2 hge
   exact⟨j,by unfold Gh.fix;simp only[h4],h5.go rfl fun a v ha h=>(qde _).at1 h ha⟩
  |true=>
  have hlt:=blt_iff.1 hb
  rw[hb] at hk
  simp only[cond_true] at hk
  refine⟨fun _=>?_,fun e=>by omega⟩
  split at hk
  ·rename_i v hv
   injection hk with e
   subst e
   obtain⟨h1,h2⟩:=h.heap k v hv
   exact⟨h1,h2.imp id fun⟨b,h3,h4,h5⟩=>⟨b,0,h3,by unfold Gh.fix;simp only[h4],(qde _).or (fun g he=>by unfold Gh.fix;simp only[he]) h5⟩⟩
  ·obtain⟨h1,h2⟩:=(h.ro k o hk).1 hlt
   exact⟨zau h1 h.lo_,h2.imp id fun⟨b,j,h3,h4,h5⟩=>⟨b,j,h3,by unfold Gh.fix;simp only[h4],(qde _).or (fun g he=>by unfold Gh.fix;simp only[he]) h5⟩⟩
theorem qdS {lo:Nat}(x:Ext (G.fix lo) w G1 w'):Keep w w':=⟨x.size,x.os,x.tape,x.output,fun b hb=>(x.still b hb (qbL G lo b)).1⟩
structure MovesP (lo:Nat)(G G':Gh)(w:World):Prop where
 S:∀b o,G.S b o->G'.S b o
 bOf:∀l b,l<lo->G.bOf l=some b->G'.bOf l=some b
section
variable {lo:Nat} {G G':Gh} {w:World}
theorem MovesP.pr (h:MovesP lo G G' w){c:zP}{v:Value}(k:PR G.S w c v):PR G'.S w c v:=k.mono fun _ _ hc hs=>⟨hc,h.S _ _ hs⟩
theorem MovesP.atF (h:MovesP lo G G' w){c:zA}{v:Value}(k:VR G w c v)(ha:qn7 lo c=true):VR G' w c v:=by
 cases k with
 |p c v hp=>exact .p _ _ (h.pr hp)
 |ptr l off b hb=>exact .ptr _ _ _ (h.bOf _ _ (blt_iff.1 ha) hb)
 |map l b hb=>exact .map _ _ (h.bOf _ _ (blt_iff.1 ha) hb)
 |hs l off n cap sz op b cap' hb hn hc he hz=>exact .hs _ _ _ _ _ _ _ _ (h.bOf _ _ (blt_iff.1 ha) hb) hn hc he hz
 |_=>cases ha
theorem MovesP.at0 (h:MovesP lo G G' w){c:zA}{v:Value}(k:VR G w c v)(ha:qfZ lo c=true):VR G' w c v:=by
 cases c with
 |iface t d=>
  cases k with
  |iface _ _ u hu=>exact .iface _ _ _ (h.atF hu ha)
 |_=>exact h.atF k ha
theorem MovesP.atX (h:MovesP lo G G' w){c:zA}{v:Value}(k:VR G w c v)(ha:qjv lo c=true):VR G' w c v:=by
 cases c with
 |agg cs=>
  cases k with
  |agg _ vs hl h1 hv=>exact .agg _ _ hl h1 fun i c v hc hv'=>h.at0 (hv i c v hc hv') (qaS (p:=qfZ lo) ha hc)
 |_=>exact h.at0 k ha
theorem MovesP.at1 (h:MovesP lo G G' w){c:zA}{v:Value}(k:VR G w c v)(ha:qf0 lo c=true):VR G' w c v:=by
 cases c with
 |func f xs ys=>
  simp only[qf0,zae] at ha
  cases k with
  |func _ _ _ vs us hl hm hx hy=>exact .func _ _ _ _ _ hl hm (fun i c v hc hv=>h.atX (hx i c v hc hv) (qaS ha.1 hc)) (fun i c v hc hv=>h.atX (hy i c v hc hv) (qaS ha.2 hc))
 |_=>exact h.at0 k ha
theorem MovesP.atC (h:MovesP lo G G' w){c:zA}{v:Value}(k:VR G w c v)(ha:qhB lo c=true):VR G' w c v:=by
 cases c with
 |agg cs=>
  cases k with
  |agg _ vs hl h1 hv=>exact .agg _ _ hl h1 fun i c v hc hv'=>h.at1 (hv i c v hc hv') (qaS (p:=qf0 lo) ha hc)
 |_=>exact h.at1 k ha
theorem MovesP.at (h:MovesP lo G G' w){c:zA}{v:Value}(k:VR G w c v)(ha:plain lo c=true):VR G' w c v:=by
 cases c with
 |tuple cs=>
  cases k with
  |tuple _ vs hl hv=>exact .tuple _ _ hl fun i c v hc hv'=>h.atC (hv i c v hc hv') (qaS (p:=qhB lo) ha hc)
 |_=>exact h.atC k ha
end
theorem qg6 (h:MR P E U pd l s G w)(x:Ext (G.fix s.next) w G1 w'):MovesP s.next G1 G w':=by
 refine⟨fun b o hs=>?_,fun q b hq hb=>?_⟩
 ·by_cases e:b<w.heap.size
  ·refine(qqe G s.next b o).1 ?_
   have:=(x.still b e (qbL G _ b)).2
   unfold Gh.S at hs⊢
   rw[<-this]
   exact hs
  ·unfold Gh.S
   rw[h.free (by omega)]
   trivial
 ·rw[x.low q hq] at hb
  exact hb
theorem qjW (h:MR P E U pd l s G w)(x:Ext (G.fix s.next) w G1 w'){v:zA}{u:Value}(hv:VR G1 w' v u)(hp:plain s.next v=true):qba P E U pd G w l s v u w':=
 ⟨G,(qdS x).ext G,h.keep (qdS x),(qg6 h x).at hv hp⟩
theorem qfy (h:MR P E U pd l s G w)(x:Ext G.sub w G1 w')(k:MR P E U pd1 l1 s' G1 w'){v:zA}{u:Value}(hv:VR G1 w' v u)(hp:qjt v=true):qba P E U pd G w l s' v u w':=
 ⟨G.back G1,qhV h x,h.back x k,(qe7 h x).at hv hp⟩
end
end Go.AI
namespace Go.AI
variable {P:Program} {E:Rom} {U pd:Nat->Option (List zA)} {l:Tr (Nat×List zA)} {s:ASt} {G:Gh} {w w':World} {f:Tr zA} {a:Act} {o:Oper} {v:zA}
theorem qou (l:List Nat)(i:Nat):l.any (Nat.beq i)=l.toArray.contains i:=by
 rw[List.contains_toArray]
 induction l with
 |nil=>rfl
 |cons x r ih=>
  rw[List.any_cons,List.contains_cons,ih]
  congr 1
  rw[Bool.eq_iff_iff,beq_iff,beq_iff_eq]
theorem qjX (seen:List Nat):∀(es:List (zP×zA)) (L:List MapEntry) (n:Nat),es.length=L.length->(∀(j:Nat) e,L[j]? =some e->e.born=n+j)->
  (qd1 seen es n).length=(L.filter fun e=>!seen.toArray.contains e.born).length/\∀(m i:Nat) k v,(qd1 seen es n)[m]? =some (i,k,v)->∃e,(L.filter fun e=>!seen.toArray.contains e.born)[m]? =some e/\e.born=i/\n<=i/\es[i-n]? =some (k,v)/\L[i-n]? =some e
 |[],[],n,_,_=>⟨rfl,fun m i k v h=>by simp[qd1] at h⟩
 |(k,v)::es,e::L,n,hl,hb=>by
  have h0:e.born=n:=by simpa using hb 0 e rfl
  obtain⟨h1,h2⟩:=qjX seen es L (n+1) (by simpa using hl) fun j e' he=>by rw[hb (j+1) e' (by simpa using he)];omega
  simp only[qd1,List.filter_cons,h0,qou]
  have up:∀(m i:Nat) k' v',(qd1 seen es (n+1))[m]? =some (i,k',v')->∃e',(L.filter fun e=>!seen.toArray.contains e.born)[m]? =some e'/\e'.born=i/\n<=i/\((k,v)::es)[i-n]? =some (k',v')/\(e::L)[i-n]? =some e':=by
   intro m i k' v' hm
   obtain⟨e',g1,g2,g3,g4,g5⟩:=h2 m i k' v' hm
   have e1:i-n=(i-(n+1))+1:=by omega
   exact⟨e',g1,g2,by omega,by rw[e1];simpa using g4,by rw[e1];simpa using g5⟩
  cases hc:seen.toArray.contains n with
  |true=>
   simp only[cond_true,Bool.not_true,zaA,if_false]
   exact⟨h1,up⟩
  |false=>
   simp only[cond_false,Bool.not_false,if_true]
   refine⟨by simp[h1],fun m i k' v' hm=>?_⟩
   cases m with
   |zero=>
    simp only[zak,zaa,zad] at hm
    obtain⟨rfl,rfl,rfl⟩:=hm
    exact⟨e,rfl,h0,zaf _,by simp,by simp⟩
   |succ m=>
    obtain⟨e',g1,g2⟩:=up m i k' v' (by simpa using hm)
    exact⟨e',by simpa using g1,g2⟩
 |[],_::_,_,h,_=>by simp at h
 |_::_,[],_,h,_=>by simp at h
theorem qqf (h:MR P E U pd l s G w)(t:TypeId)(x:Operand)(hop:o.op=.range t x){kt et:TypeId}(ht:P.underlying t=some (.map kt et)){g:Arg}(hg:qax x=some g)(hr:qan G w f a g.tmps){q:Nat}(hq:g.ev f=.map q)
  {es:List (zP×zA)}(hm:qaH s.heap q=some (.map es)):NextP P (qba P E U pd G w l (qaw s (.iter q es.length es.length [])) (.ptr s.next 0)) ((execOp a.eval o).run P w):=by
 have h1:=qat hg hr
 rw[hq] at h1
 obtain⟨b,ents,e1,hb,hown,hheap,hl,hrel,ha⟩:=qdv h h1 hm
 have kp:=Keep.alloc w (.mapIter (some b) ents.size #[] ents.size)
 have x':=h.ext_addH kp (b:=w.heap.size) (q:=s.next) (zaf _) h.bOf_next h.lo_
 refine qaK (u:=.pointer (some ⟨w.heap.size,0,none⟩)) (w':=w.alloc (.mapIter (some b) ents.size #[] ents.size)) (qiA t x hop) ?_
  ⟨_,x',h.addH kp (zaf _) (qa7 w _) (o:=.iter q es.length es.length []) ⟨b,?_,?_⟩,.ptr _ _ _ (by simp[Gh.addH,qav])⟩
 ·rw[e1]
  exact run_range_map w t kt et b ents ents.size ht hheap
 ·rw[hl];exact heap_alloc_new w _
 ·rw[e1] at h1
  exact h1.ext x'
theorem qhW (h:MR P E U pd l s G w){q:Nat}{v:Value}(hv:VR G w (.ptr q 0) v){m since last:Nat}{seen:List Nat}(hm:qaH s.heap q=some (.iter m since last seen)):
  ∃b bm,v=.pointer (some ⟨b,0,none⟩)/\G.bOf q=some b/\G.own b=.loc q/\w.heap[b]? =some (.mapIter (some bm) since seen.toArray last)/\VR G w (.map m) (.map (some bm)):=by
 cases hv with|ptr _ _ b hb=>
 rcases(h.heap q _ hm).2 with e|⟨b',h1,h2,bm,h3,h4⟩
 ·rw[hb] at e;cases e
 ·rw[hb] at h1;cases h1;exact⟨b,bm,rfl,hb,h2,h3,h4⟩
theorem qel {b:Nat}{m:Option Nat}{n k:Nat}{c:Array Nat}(h:w.heap[b]? =some (.mapIter m n c k)):(getObj b).run P w=.ok (.mapIter m n c k) w:=by
 simp[getObj,Sem.run,h]
theorem qg7 {b:Nat}{m:Option Nat}{n k:Nat}{c:Array Nat}(h:w.heap[b]? =some (.mapIter m n c k))(y:Obj):(setObj b y).run P w=.ok () {w with heap:=w.heap.setIfInBounds b y}:=by
 simp[setObj,Sem.run,h]
theorem qiF {seen:List Nat}{last:Nat}{ents:Array MapEntry}(hb:∀(j:Nat) e,ents[j]? =some e->e.born=j)(hc:(seen.isEmpty||Nat.blt 0 last)=true):
  (!seen.toArray.isEmpty&&!ents.isEmpty&&ents.all (fun x=>decide (x.born>=last)))=false:=by
 rw[zaE] at hc
 rcases hc with hc|hc
 ·have:seen=[]:=List.isEmpty_iff.1 hc
  subst this
  rfl
 ·have hl:=blt_iff.1 hc
  cases he:ents.isEmpty with
  |true=>simp
  |false=>
   have hs:0<ents.size:=by
    rcases Nat.eq_zero_or_pos ents.size with h0|h0
    ·simp[Array.isEmpty,h0] at he
    ·exact h0
   have hall:ents.all (fun x=>decide (x.born>=last))=false:=by
    rw[Bool.eq_false_iff]
    intro h
    rw[Array.all_eq_true_iff_forall_mem] at h
    have:=h _ (Array.getElem_mem hs)
    rw[hb 0 _ (zam hs)] at this
    simp at this
    omega
   simp[hall]
theorem qqg {x y z:zA}{a b c:Value}(h1:VR G w x a)(h2:VR G w y b)(h3:VR G w z c):VR G w (.tuple [x,y,z]) (.tuple #[a,b,c]):=by
 refine .tuple _ _ rfl fun i p q hp hq=>?_
 match i with
 |0=>cases hp;cases hq;exact h1
 |1=>cases hp;cases hq;exact h2
 |2=>cases hp;cases hq;exact h3
 |i+3=>simp at hp
theorem qqh (h:MR P E U pd l s G w)(x:Operand)(hop:o.op=.next x false){g:Arg}(hg:qax x=some g)(hr:qan G w f a g.tmps){q:Nat}(hq:g.ev f=.ptr q 0)
  {m since last:Nat}{seen:List Nat}(hm:qaH s.heap q=some (.iter m since last seen)){es:List (zP×zA)}(hes:qaH s.heap m=some (.map es))(hc:(seen.isEmpty||Nat.blt 0 last)=true):
  (qd1 seen es 0=[]->NextP P (qba P E U pd G w l s (.tuple [.p (.bool false)])) ((execOp a.eval o).run P w))/\
  ∀i k y hp,qd1 seen es 0=[(i,k,y)]->i<since->qaM s.heap q (.iter m since es.length (seen++[i]))=some hp->NextP P (qba P E U pd G w l {s with heap:=hp} (.tuple [.p (.bool true),k.whole,y])) ((execOp a.eval o).run P w):=by
 have h1:=qat hg hr
 rw[hq] at h1
 obtain⟨b,bm,e1,hb,hown,hheap,hmv⟩:=qhW h h1 hm
 obtain⟨bm',ents,e2,hbm,hownm,hmh,hl,hrel,ha⟩:=qdv h hmv hes
 cases e2
 have hborn:∀(j:Nat) e,ents[j]? =some e->e.born=j:=fun j e he=>by
  have hj:j<es.length:=by rw[hl];exact(zag.1 he).1
  exact(hrel j _ _ e (zai hj) he).2.2
 obtain⟨hlen,hent⟩:=qjX seen es ents.toList 0 (by simpa using hl) fun j e he=>by rw[hborn j e (by simpa using he)];omega
 have hg:=qel (P:=P) hheap
 have hgm:=MapKept.run_getObj_map (P:=P) hmh
 have htest:=qiF hborn hc
 have hfilt:(ents.filter fun e=>!seen.toArray.contains e.born).toList=ents.toList.filter fun e=>!seen.toArray.contains e.born:=Array.toList_filter ..
 refine⟨fun qiv=>?_,fun i k y hp hone hi qaM=>?_⟩
 ·have hz:(ents.filter fun e=>!seen.toArray.contains e.born)= #[]:=by
   apply Array.toList_inj.1
   rw[hfilt]
   rw[qiv] at hlen
   exact List.eq_nil_of_length_eq_zero hlen.symm
  refine qaK (u:=.tuple #[.bool false]) (w':=w) (qgb x false hop) ?_ ⟨G,Ext.refl G w,h,.tuple _ _ rfl fun i p q hp hq=>?_⟩
  ·rw[e1]
   simp only[Instr.next,Sem.run_bind,hg,hgm,Result.andThen,htest,hz,zaA,if_false]
   simp[choose,Sem.run,Question.forced]
  ·match i with
   |0=>cases hp;cases hq;exact .p _ _ (.bool _)
   |i+1=>simp at hp
 ·obtain⟨e,g1,g2,_,g4,g5⟩:=hent 0 i k y (by rw[hone];rfl)
  have hf1:(ents.filter fun e=>!seen.toArray.contains e.born)= #[e]:=by
   apply Array.toList_inj.1
   rw[hfilt]
   rw[hone] at hlen
   match hL:ents.toList.filter fun e=>!seen.toArray.contains e.born with
   |[]=>rw[hL] at hlen;simp at hlen
   |[e']=>
    rw[hL] at g1
    simp only[zak,zaa] at g1
    rw[hL,g1]
   |_::_::_=>rw[hL] at hlen;simp at hlen
  have hold:e.born<since:=by rw[g2];exact hi
  have hrun:(Instr.next (.pointer (some ⟨b,0,none⟩)) false o.type).run P w=.ok (.tuple #[.bool true,e.key,e.val]) {w with heap:=w.heap.setIfInBounds b (.mapIter (some bm) since (seen.toArray.push e.born) ents.size)}:=by
   simp only[Instr.next,Sem.run_bind,hg,hgm,Result.andThen,htest,hf1,zaA,if_false]
   have h3:(#[e]:Array MapEntry).filter (fun x=>decide (x.born<since))= #[e]:=by simp[hold]
   have h4:(#[e]:Array MapEntry).filter (fun x=>decide (x.born>=since))= #[]:=by simp;omega
   simp only[h3,h4]
   simp[choose,Sem.run,Question.forced,qg7 hheap]
  obtain⟨p1,p2,_⟩:=hrel i k y e (by simpa using g4) (by simpa using g5)
  have sw:=Swap.setObj hheap (.mapIter (some bm) since (seen.toArray.push e.born) ents.size)
  have x':=Ext.chg (G:=G) sw (by rw[hown];exact fun e=>e) (by rw[hown];intros;simp)
  have hmr:=(h.chgH sw hb hown qaM ⟨bm,by
   rw[(MapKept.heap_set hheap).1,hl,g2]
   simp,hmv.ext x'⟩).2
  refine qaK (w':=_) (qgb x false hop) (by rw[e1];exact hrun) ⟨G,x',hmr,qqg (.p _ _ (.bool _)) ((qc8 p1).ext x') (p2.ext x')⟩
theorem qqi (h:MR P E U pd l s G w)(x:Operand)(hop:o.op=.entry x){g:Arg}(hg:qax x=some g)(hr:qan G w f a g.tmps){q:Nat}(hq:g.ev f=.ptr q 0)
  {m since last:Nat}{seen:List Nat}(hm:qaH s.heap q=some (.iter m since last seen)){es:List (zP×zA)}(hes:qaH s.heap m=some (.map es))(hlast:es.length=last){i:Nat}(hi:seen.getLast? =some i){k:zP}{y:zA}(hy:qc0 es i=some (k,y)):
  NextP P (qba P E U pd G w l s (.tuple [k.whole,y])) ((execOp a.eval o).run P w):=by
 have h1:=qat hg hr
 rw[hq] at h1
 obtain⟨b,bm,e1,hb,hown,hheap,hmv⟩:=qhW h h1 hm
 obtain⟨bm',ents,e2,hbm,hownm,hmh,hl,hrel,ha⟩:=qdv h hmv hes
 cases e2
 have hborn:∀(j:Nat) e,ents[j]? =some e->e.born=j:=fun j e he=>by
  have hj:j<es.length:=by rw[hl];exact(zag.1 he).1
  exact(hrel j _ _ e (zai hj) he).2.2
 rw[qbn] at hy
 have hj:i<ents.size:=by rw[<-hl];exact(zah.1 hy).1
 obtain⟨p1,p2,p3⟩:=hrel i k y ents[i] hy (zam hj)
 have hback:seen.toArray.back? =some i:=by simpa using hi
 have hfind:ents.find? (fun x=>x.born==i)=some ents[i]:=by
  rw[Array.find?_eq_some_iff_getElem]
  exact⟨by simp[p3],i,hj,rfl,fun j hj2=>by
   have:=hborn j _ (zam (by omega))
   simp[this];omega⟩
 refine qaK (u:=.tuple #[ents[i].key,ents[i].val]) (w':=w) (qiB x hop) ?_ ⟨G,Ext.refl G w,h,qc9 (qc8 p1) p2⟩
 rw[e1]
 simp only[Instr.entry,Sem.run_bind,qel hheap,MapKept.run_getObj_map hmh,Result.andThen,hback,hfind]
 rw[<-hlast,hl]
 simp
theorem qqj (h:MR P E U pd l s G w)(t:TypeId)(gv:Nat)(y:Operand)(hop:o.op=.indexAddr t (.global gv) y){n:Nat}{e:TypeId}(ht:P.underlying t=some (.array n e)){sz:Nat}(hs:qcK P e=some sz){gy:Arg}(hy:qax y=some gy)
  (hr:qan G w f a gy.tmps){m:Nat}(hm:qbe (gy.ev f)=some m)(hlt:m<n){cs:List zA}(hE:E (PB+gv)=some (.cells cs)){ps:List zP}(hps:qcJ cs=some ps):
  NextP P (qba P E U pd G w l s (.elem ps (m*sz))) ((execOp a.eval o).run P w):=by
 have h2:=qat hy hr
 obtain⟨hs0,i,hi,his⟩:=qbD hs
 obtain⟨k,ek⟩:=qbh hm h2
 obtain⟨j,hown,cs',ecs,hjl,_,c,T,fr,h1,h3,h5⟩:=(h.ro _ _ hE).2 (Nat.le_add_right _ _)
 simp only[zH.cells.injEq] at ecs
 subst ecs
 rw[Nat.add_sub_cancel_left] at h1 hown
 obtain⟨hl,hpure⟩:=qcC hps
 refine qaK (u:=.pointer (some ((⟨gv,0,none⟩:Addr).add (m*sz)))) (w':=w) (qaN t (.global gv) y hop) ?_ ⟨G,Ext.refl G w,h,.elem _ _ _ fun q cq hq=>?_⟩
 ·show(Instr.indexAt t (.pointer (some ⟨gv,0,none⟩)) (a.eval y)).run P w=_
  rw[ek]
  simp[Instr.indexAt,run_underlying ht,Instr.sureAddr,asIntOf,hlt,qaz hi,his]
 ·have hlen:m*sz+q<cs.length:=by rw[←hl];exact(zah.1 hq).1
  have hcs:m*sz+q<c.size:=by omega
  have hv:=h5 (m*sz+q) _ c[m*sz+q] (zai hlen) (zam hcs)
  obtain⟨hp1,hp2⟩:=qcB (hpure _ _ cq (zai hlen) hq) hv
  rw[qbB]
  refine⟨c[m*sz+q],?_,?_,hp1,hp2⟩
  ·rw[qbZ]
   simp[World.cell?,h1,hcs]
  ·show(G.own _).S _
   rw[qbZ]
   simp only[zaI]
   rw[hown]
   exact(by omega:m*sz+q<j)
end Go.AI
namespace Go.AI
variable {P:Program} {E:Rom} {U pd:Nat->Option (List zA)} {l:Tr (Nat×List zA)} {s:ASt} {G:Gh} {w w':World} {f:Tr zA} {a:Act} {o:Oper} {v:zA}
theorem qbV {P:Program}(w:World)(sz m k:Nat)(ad:Addr)(n c:Nat)(vs:List Value)(hl:vs.length=m*sz)(hc:∀(i:Nat) u,vs[i]? =some u->w.cell? (ad.add i)=some u)(hk:k<=m):
  (Builtin.firstCells sz k (.slice (some ad) n c)).run P w=.ok (vs.take (k*sz)).toArray w:=by
 refine run_firstCells_some w sz k ad n c (vs.take (k*sz)) ?_ fun i u hu=>?_
 ·rw[zaJ,hl]
  exact Nat.min_eq_left (zaB _ hk)
 ·rw[zaz] at hu
  split at hu
  ·exact hc i u hu
  ·cases hu
theorem qeR (w:World)(b:ByteArray)(k:Nat)(hk:k<=b.size):(Builtin.firstCells 1 k (.string b)).run P w=.ok ((byteCells b).take (k*1)).toArray w:=by
 simp only[Builtin.firstCells,Sem.run_pure,Nat.mul_one]
 congr 1
 apply Array.toList_inj.1
 unfold byteCells
 rw[<-List.map_take]
 rw[qdE b 0 k (Nat.zero_le _) hk]
 simp
theorem qjY (h:MR P E U pd l s G w){x:zA}{u:Value}(hv:VR G w x u){sz m:Nat}{new:List zA}(hs:qjn E s sz x=some (m,new))(hl:new.length=m*sz):
  ∃news,(∀w':World,(Builtin.lenOf u).run P w'=.ok m w')/\(∀k,k<=m->(Builtin.firstCells sz k u).run P w=.ok (news.take (k*sz)).toArray w)/\news.length=m*sz/\(∀u∈news,u.oneCell'=true)/\VRs G w new news:=by
 unfold qjn at hs
 split at hs
 ·obtain⟨hz,hs⟩:=qac hs
  simp only[zac,zab,zad] at hs
  obtain⟨cs,hcs,r,hr,rfl,rfl⟩:=hs
  cases hv with|hs _ _ _ _ _ _ b cap' hb hn hc he hz'=>
  obtain⟨us,k1,k2,k3,k4⟩:=(qe5 h hb hcs).cut hr
  exact⟨us,fun _=>rfl,fun k hk=>qbV w sz _ k _ _ cap' us k1 k4 hk,k1,k3,k2⟩
 ·obtain⟨hz,hs⟩:=qac hs
  simp only[zaa,zad] at hs
  obtain⟨rfl,rfl⟩:=hs
  have e1:=hv.str_inv
  subst e1
  have e2:sz=1:=beq_iff.1 hz
  subst e2
  rw[qbb] at hl⊢
  exact⟨_,fun _=>rfl,fun k hk=>qeR w _ k hk,by rw[byteCells_length,Nat.mul_one],fun u hu=>by
   obtain⟨_,_,rfl⟩:=List.mem_map.1 hu
   rfl,qeg _⟩
 ·simp only[zaa,zad] at hs
  obtain⟨rfl,rfl⟩:=hs
  cases hv with|p _ _ hp=>
  cases hp
  exact⟨[],fun _=>rfl,fun k _=>by rw[List.take_nil];exact run_firstCells_none w sz k 0 0,by simp,(fun _ h=>by cases h),VRs.nil⟩
 ·simp only[zaa,zad] at hs
  obtain⟨rfl,rfl⟩:=hs
  cases hv with|row _ _ ad cap vs hn hll k1 hcc hvv=>
  have hlv:vs.length=_:=hll.symm.trans hl
  exact⟨vs,fun _=>rfl,fun k hk=>qbV w sz _ k ad _ cap vs hlv (fun i v hv=>(hcc i v hv).1) hk,hlv,k1,hll,hvv⟩
 ·simp only[zab,zad] at hs
  obtain⟨⟨n,cs⟩,hrow,rfl,rfl⟩:=hs
  obtain⟨ad,cap,rfl,hp⟩:=qcr hrow hv
  obtain⟨vs,hn,hz,hr,hc⟩:=hp.vals
  have hlv:vs.length=n*sz:=by have:=hr.1;simp at this hl;omega
  refine⟨vs,fun _=>rfl,fun k hk=>?_,hlv,fun u hu=>hr.2.1 u (by simpa using hu),by have:=hr.1;simpa using this,fun i c v hc hv=>?_⟩
  ·cases ad with
   |some x=>exact qbV w sz n k x n cap vs hlv (fun i v hv=>by
     obtain⟨y,e,h1⟩:=hc i v hv
     cases e
     exact h1) hk
   |none=>
    have:vs=[]:=by
     cases vs with
     |nil=>rfl
     |cons v vs=>
      obtain⟨y,e,_⟩:=hc 0 v rfl
      cases e
    subst this
    rw[List.take_nil]
    exact run_firstCells_none w sz k n cap
  ·simp only[zaw,zab] at hc
   obtain⟨c',hc',rfl⟩:=hc
   exact .p _ _ (hr.2.2 i c' v hc' (by simpa using hv))
theorem qgn:∀{cs:List zA} {b:List UInt8} {us:List Value},qeV cs=some b->VRs G w cs us->∃ns:List Int,us=ns.map (Value.int .u8)/\∀r:ByteArray,ns.foldl (fun r n=>r.push (UInt8.ofNat n.toNat)) r=⟨r.data++b.toArray⟩
 |[],b,us,h,hv=>by
  simp only[qeV,zaa] at h
  subst h
  have:us=[]:=zav.1 hv.1.symm
  subst this
  exact⟨[],rfl,fun r=>by simp⟩
 |c::cs,b,us,h,hv=>by
  unfold qeV at h
  split at h
  ·rename_i e;cases e
  ·rename_i n r e
   injection e with e1 e2
   subst e1;subst e2
   simp only[zab] at h
   obtain⟨b',hb',rfl⟩:=h
   match us,hv with
   |[],hv=>exact absurd hv.1 (by simp)
   |u::us,hv=>
    have h0:=hv.2 0 _ u rfl rfl
    have eu:u=.int .u8 (.ofNat n):=by
     cases h0 with|p _ _ h0=>
     cases h0
     rfl
    obtain⟨ns,e1,e2⟩:=qgn hb' (us:=us) ⟨by simpa using hv.1,fun i c v hc hv'=>hv.2 (i+1) c v hc hv'⟩
    refine⟨(.ofNat n)::ns,by rw[eu,e1];rfl,fun r=>?_⟩
    rw[List.foldl_cons,e2]
    simp[ByteArray.push]
  ·cases h
theorem qqk (h:MR P E U pd l s G w)(t u:TypeId)(x:Operand)(hop:o.op=.convert t u x){e:TypeId}(ht:P.underlying t=some (.slice e))(hu:P.underlying u=some .string)(he:P.underlying e=some (.int .u8)){g:Arg}(hg:qax x=some g)(hr:qan G w f a g.tmps)
  (hns:∀b,g.ev f≠.p (.str b)){n:Nat}{cs:List zA}(hs:qjn E s 1 (g.ev f)=some (n,cs))(hl:cs.length=n){b:List UInt8}(hb:qeV cs=some b):
  NextP P (qba P E U pd G w l s (.p (.str ⟨b.toArray⟩))) ((execOp a.eval o).run P w):=by
 have h1:=qat hg hr
 obtain⟨news,k1,k2,k3,_,k5⟩:=qjY h h1 hs (by rw[Nat.mul_one];exact hl)
 obtain⟨ns,e1,e2⟩:=qgn hb k5
 have k2:=k2 n (zaf _)
 rw[Nat.mul_one] at k3 k2
 rw[List.take_of_length_le (by omega)] at k2
 have key:(convert t u (a.eval x)).run P w=.ok (.string ⟨b.toArray⟩) w:=by
  generalize a.eval x=xv at h1 k1 k2
  generalize g.ev f=gv at h1 hns hs
  have k1:=k1 w
  cases xv with
  |slice ad m c=>
   have em:m=n:=by
    simp[Builtin.lenOf] at k1
    exact k1
   subst em
   rw[run_convert_bytes_string w t u e ad m c ht he hu]
   cases ad with
   |some ad=>
    have hlc:(loadCells ad m).run P w=.ok (ns.map (Value.int .u8)).toArray w:=by
     have:=k2
     simp only[Builtin.firstCells,Nat.mul_one] at this
     rw[this,e1]
    rw[run_bytesToString w ad m c ns hlc,e2]
    simp
   |none=>
    have hn:news=[]:=by
     simp[Builtin.firstCells] at k2
     exact k2
    have hn':ns=[]:=by
     rw[e1] at hn
     simpa using hn
    have:=e2 ByteArray.empty
    rw[hn'] at this
    simp only[List.foldl_nil] at this
    simp only[Conv.bytesToString,Sem.run_pure]
    rw[this]
    simp
  |string b'=>
   cases h1 with
   |p _ _ h1=>cases h1;exact absurd rfl (hns _)
   |sym=>cases hs
   |junk=>cases hs
  |_=>simp[Builtin.lenOf] at k1
 exact qaK (qbu t u x hop) key ⟨G,Ext.refl G w,h,.p _ _ (.str _)⟩
theorem qfz (h:MR P E U pd l s G w){q b off:Nat}{old cs new:List zA}(hb:G.bOf q=some b)(hold:qaH s.heap q=some (.cells old))(ho:over old off cs=some new)(hca:cs.all qaG=true){us:List Value}(hr:VRs G w cs us)(h1:∀u∈us,u.oneCell'=true)
  {hp:Heap}(hset':qaM s.heap q (.cells new)=some hp):
  ∃w',(∀i,(storeCells ⟨b,off,none⟩ us).run P w=.ok () w'\/i=(0:Nat))/\(storeCells ⟨b,off,none⟩ us).run P w=.ok () w'/\Ext G w G w'/\MR P E U pd l {s with heap:=hp} G w':=by
 have hbr:BR G w b old/\old.all qaG=true/\G.own b=.loc q:=by
  rcases(h.heap q _ hold).2 with e|⟨b',g1,g2,g3⟩
  ·rw[hb] at e;cases e
  ·rw[hb] at g1;cases g1;exact⟨g3.1,g3.2,g2⟩
 obtain⟨hbr,hoa,hown⟩:=hbr
 have hbr0:=hbr
 obtain⟨c0,E0,⟨fr0,hc0,hth⟩,hlen,_⟩:=hbr
 obtain⟨h5,_⟩:=qbt ho
 have hfit:off+us.length<=c0.size:=by have:=hr.1;omega
 have hst:=qbi P b off E0 fr0 us 0 c0 w hc0 hth (by simpa using hfit) h1
 simp only[Nat.add_zero] at hst
 have sw:Swap b w (w.setRow b (c0.toList.take off++us++c0.toList.drop (off+us.length)).toArray):=Swap.setRow w b _ (fun c1 E1 f1 h1=>by
  rw[hc0] at h1;injection h1 with h1;injection h1 with h1 _ _;rw[<-h1];exact qaW _ _ _ hfit)
 have x:=Ext.chg (G:=G) sw (by rw[hown];exact fun e=>e) (by rw[hown];intros;simp)
 obtain⟨_,hbn⟩:=hbr0.lay ho hr h1 hc0 x
 obtain⟨_,hmr⟩:=h.chgH sw hb hown hset' (ob:=.cells new) ⟨hbn,qdt ho hoa hca⟩
 exact⟨_,fun _=> .inl hst,hst,x,hmr⟩
theorem VRs.take {cs:List zA}{us:List Value}(h:VRs G w cs us)(k:Nat):VRs G w (cs.take k) (us.take k):=⟨by simp[h.1],fun i c v hc hv=>by
 rw[zaz] at hc hv
 split at hc
 ·rename_i hi
  rw[if_pos hi] at hv
  exact h.2 i c v hc hv
 ·cases hc⟩
theorem Rows.vrs {xs:List zA}{c:Array Value}(h:Rows (VR G w) xs c):VRs G w xs c.toList:=⟨by rw[zax];exact h.1,fun i y u hy hu=>h.2.2 i y u hy (by rw[<-zan];exact hu)⟩
theorem qql (h:MR P E U pd l s G w)(c:Call)(hop:o.op=.call c)(hc:c.callee=.builtin .copy){x y:Operand}(hxs:c.args.toList=[x,y]){t u e:TypeId}(hts:c.argTypes.toList=[t,u])(ht:P.underlying t=some (.slice e))
  {i:TypeInfo}(hi:P.info? e=some i){gx gy:Arg}(hx:qax x=some gx)(hy:qax y=some gy)(hr:qan G w f a (gx.tmps++gy.tmps))
  {m:Nat}{new:List zA}(hnew:qjn E s i.size (gy.ev f)=some (m,new))(hnl:new.length=m*i.size)(hna:new.all qaG=true){q off n cap:Nat}{op:Bool}(hgx:gx.ev f=.hs q off n cap i.size op){old cs:List zA}(hold:qaH s.heap q=some (.cells old))
  (hov:over old off (qcl new (Nat.min m n*i.size))=some cs){hp:Heap}(hst:qaM s.heap q (.cells cs)=some hp):
  NextP P (qba P E U pd G w l {s with heap:=hp} (.p (.int .i64 (.ofNat (Nat.min m n))))) ((execOp a.eval o).run P w):=by
 have h1:=qat hx fun t ht=>hr t (by simp[ht])
 have h2:=qat hy fun t ht=>hr t (by simp[ht])
 have he:execOp a.eval o=(do pure (.value (<-Builtin.copy_ #[t,u] o.type #[a.eval x,a.eval y]))):=by
  rw[qaI c hop .copy hc,qeQ hxs,qeQ hts];simp[builtin]
 obtain⟨news,k1,k2,k3,k4,k5⟩:=qjY h h2 hnew hnl
 rw[hgx] at h1
 generalize hxv:a.eval x=xv at h1 he
 cases h1 with|hs _ _ _ _ _ _ b cap' hb hn hcc hce hz'=>
 rw[qbq] at hov
 obtain⟨w',_,g2,g3,g4⟩:=qfz h hb hold hov (qlP hna _) (k5.take _) (fun u hu=>k4 u (List.mem_of_mem_take hu)) hst
 have hrun:(Builtin.copy_ #[t,u] o.type #[.slice (some ⟨b,off,none⟩) n cap',a.eval y]).run P w=.ok (.int .i64 (.ofNat (Nat.min m n))) w':=by
  have hf:=k2 (Nat.min m n) (Nat.min_le_left _ _)
  have hf':(Builtin.firstCells i.size (m.min n) (a.eval y)).run P w=.ok (List.take (m.min n*i.size) news).toArray w:=hf
  simp[Builtin.copy_,run_underlying ht,k1,qaz hi,hf',g2,goInt]
 exact qaK he hrun ⟨G,g3,g4,.int _ _⟩
theorem qqm (h:MR P E U pd l s G w)(c:Call)(hop:o.op=.call c)(hc:c.callee=.builtin .clear){x:Operand}(hxs:c.args.toList=[x]){t e:TypeId}(hts:c.argTypes.toList=[t])(ht:P.underlying t=some (.slice e))
  {i:TypeInfo}(hi:P.info? e=some i){zs:List zA}(hz:zeroCells P e=some zs)(hza:zs.all qaG=true){gx:Arg}(hx:qax x=some gx)(hr:qan G w f a gx.tmps)
  {q off n cap:Nat}{op:Bool}(hgx:gx.ev f=.hs q off n cap i.size op){old cs:List zA}(hold:qaH s.heap q=some (.cells old))
  (hov:over old off (zaq n zs).flatten=some cs){hp:Heap}(hst:qaM s.heap q (.cells cs)=some hp):
  NextP P (qba P E U pd G w l {s with heap:=hp} qag) ((execOp a.eval o).run P w):=by
 have h1:=qat hx hr
 have he:execOp a.eval o=(do pure (.value (<-Builtin.clear_ #[t] o.type #[a.eval x]))):=by
  rw[qaI c hop .clear hc,qdL hxs,qdL hts];simp[builtin]
 obtain⟨i',z,n',hi',hiz,hsh,hlen,hrows,_⟩:=qaC G w hz
 rw[hi] at hi'
 cases hi'
 rw[hgx] at h1
 generalize hxv:a.eval x=xv at h1 he
 cases h1 with|hs _ _ _ _ _ _ b cap' hb hn hcc hce hz'=>
 have hrep:=qaR hrows n
 have hvs:VRs G w (zaq n zs).flatten (Builtin.zeroCells z.cells n).toList:=hrep.vrs
 obtain⟨w',_,g2,g3,g4⟩:=qfz h hb hold hov (qbU hza n) hvs (fun u hu=>hrep.2.1 u (by simpa[Builtin.zeroCells] using hu)) hst
 have hzv:(zeroValue e).run P w=.ok z w:=by simp[zeroValue,typeInfo,hi,hiz]
 have hrun:(Builtin.clear_ #[t] o.type #[.slice (some ⟨b,off,none⟩) n cap']).run P w=.ok undef w':=by
  cases n with
  |zero=>
   have e0:(Builtin.zeroCells z.cells 0).toList=[]:=by simp[Builtin.zeroCells]
   rw[e0] at g2
   simp only[storeCells,Sem.run_pure,Result.ok.injEq,true_and] at g2
   subst g2
   simp[Builtin.clear_,run_underlying ht,undef]
  |succ k=>
   simp[Builtin.clear_,run_underlying ht,hzv,g2,undef]
 exact qaK he hrun ⟨G,g3,g4,.tuple [] #[] rfl (fun i c v h=>by simp at h)⟩
theorem qov (h:MR P E U pd l s G w)(c:Call)(hop:o.op=.call c)(hc:c.callee=.builtin .clear){x:Operand}(hxs:c.args.toList=[x]){t e:TypeId}(hts:c.argTypes.toList=[t])(ht:P.underlying t=some (.slice e))
  {gx:Arg}(hx:qax x=some gx)(hr:qan G w f a gx.tmps)(hgx:gx.ev f=.p .nil0):NextP P (qba P E U pd G w l s qag) ((execOp a.eval o).run P w):=by
 have h1:=qat hx hr
 have he:execOp a.eval o=(do pure (.value (<-Builtin.clear_ #[t] o.type #[a.eval x]))):=by
  rw[qaI c hop .clear hc,qdL hxs,qdL hts];simp[builtin]
 rw[hgx] at h1
 generalize hxv:a.eval x=xv at h1 he
 cases h1 with|p _ _ h1=>
 cases h1
 exact qaK he (u:=undef) (w':=w) (by simp[Builtin.clear_,run_underlying ht,undef]) ⟨G,Ext.refl G w,h,.tuple [] #[] rfl (fun i c v h=>by simp at h)⟩
theorem qqn (h:MR P E U pd l s G w)(t u:TypeId)(x:Operand)(hop:o.op=.convert t u x)(ht:P.underlying t=some .string){e:TypeId}(hu:P.underlying u=some (.slice e))(he:P.underlying e=some (.int .u8)){g:Arg}(hg:qax x=some g)(hr:qan G w f a g.tmps)
  {b:ByteArray}(hb:g.ev f=.p (.str b)):
  NextP P (qba P E U pd G w l (qaw s (.cells (b.data.toList.map fun x=> .p (.int .u8 (.ofNat x.toNat))))) (.hs s.next 0 (qaJ b) (qaJ b) 1 true)) ((execOp a.eval o).run P w):=by
 have h1:=qat hg hr
 rw[hb] at h1
 have ev:=h1.str_inv
 have hrun:=run_bytes_of_string (P:=P) w t u e b ht hu he
 generalize hcap':grownCap w b.size 0 e=cap' at hrun
 have hge:b.size<=cap':=by rw[<-hcap'];exact grownCap_ge w _ _ _
 have hsz:(bytesRow b cap').size=cap':=by unfold bytesRow;simp;show b.size+_=_;omega
 have k:Keep w (w.drew.alloc (.cells (bytesRow b cap') e ((bytesRow b cap').size,(bytesRow b cap').size+1))):=(Keep.drew w).trans (Keep.alloc _ _)
 have hheap:=heap_alloc_new w.drew (.cells (bytesRow b cap') e ((bytesRow b cap').size,(bytesRow b cap').size+1))
 have hdsz:w.drew.heap.size=w.heap.size:=rfl
 rw[hdsz] at hheap
 have x1:=h.ext_addH k (b:=w.heap.size) (q:=s.next) (zaf _) h.bOf_next h.lo_
 have hbl:b.data.toList.length=b.size:=by rw[zax];rfl
 have m1:=h.addH k (zaf _) (by simp) (o:=.cells (b.data.toList.map fun x=> .p (.int .u8 (.ofNat x.toNat)))) ⟨⟨_,e,⟨_,hheap,fun i hi hh=>by simp at hh;omega⟩,by rw[hsz,List.length_map,hbl];exact hge,fun u hu=>by
   unfold bytesRow at hu
   rcases Array.mem_append.1 hu with hu|hu
   ·obtain⟨y,_,rfl⟩:=Array.mem_map.1 hu
    rfl
   ·rw[(Array.mem_replicate.1 hu).2]
    rfl,fun j q v hq hv=>by
   have hj:j<b.size:=by
    have:=(zah.1 hq).1
    rw[List.length_map,hbl] at this
    exact this
   unfold bytesRow at hv
   rw[Array.getElem?_append_left (by simp;exact hj)] at hv
   refine((qeg (G:=G) (w:=w) b).2 j q v hq ?_).ext x1
   unfold byteCells
   simpa using hv⟩,by
   rw[zaj]
   intro q hq
   obtain⟨y,_,rfl⟩:=List.mem_map.1 hq
   rfl⟩
 refine qaK (qbu t u x hop) (by rw[ev];exact hrun) ⟨_,x1,m1,?_⟩
 rw[qbb]
 exact .hs _ _ _ _ _ _ w.heap.size cap' (by simp[Gh.addH,qav]) (zaf _) hge (fun e=>by cases e) ⟨_,e,_,hheap,by rw[hsz];omega⟩
theorem qow (h:MR P E U pd l s G w)(c:Call)(hop:o.op=.call c)(hc:c.callee=.builtin .append){x y:Operand}(hxs:c.args.toList=[x,y]){t u e:TypeId}(hts:c.argTypes.toList=[t,u])(ht:P.underlying t=some (.slice e)){kd:IntKind}(hu:P.underlying u=some (.int kd))
  {i:TypeInfo}(hi:P.info? e=some i)(hsz:0<i.size)(hby:0<i.bytes){zs:List zA}(hzc:zeroCells P e=some zs)(hza:zs.all qaG=true){gx gy:Arg}(hx:qax x=some gx)(hy:qax y=some gy)(hr:qan G w f a (gx.tmps++gy.tmps))
  {m:Nat}(hm:qbe (gy.ev f)=some m)(hgx:gx.ev f=.p .nil0)(hm0:0<m)(hle:m*i.bytes<=140737488355328):
  NextP P (qba P E U pd G w l (qaw s (.cells (zaq m zs).flatten)) (.hs s.next 0 m m i.size true)) ((execOp a.eval o).run P w):=by
 have h1:=qat hx fun t ht=>hr t (by simp[ht])
 have h2:=qat hy fun t ht=>hr t (by simp[ht])
 obtain⟨kk,ek⟩:=qbh hm h2
 have he:execOp a.eval o=(do pure (.value (<-Builtin.append_ #[t,u] o.type #[a.eval x,a.eval y]))):=by
  rw[qaI c hop .append hc,qeQ hxs,qeQ hts];simp[builtin]
 rw[hgx] at h1
 generalize hxv:a.eval x=xv at h1 he
 cases h1 with|p _ _ h1=>
 cases h1
 obtain⟨i',z,n',hi',hiz,hsh,hlen,hrows,_⟩:=qaC G w hzc
 rw[hi] at hi'
 cases hi'
 obtain⟨_,i2,_,hi2,hs2,_⟩:=qcj hsh
 rw[hi] at hi2
 cases hi2
 have hzs:z.cells.size=i.size:=by rw[<-hrows.1,hlen,hs2]
 have hmb:m<=m*i.bytes:=Nat.le_mul_of_pos_right _ hby
 have hwrap:IntKind.i64.wrap (m:Int)=m:=by
  exact IntWalk.i64_in _ (by omega)
 have hfit:Builtin.nextslicecap (0+m) 0*i.bytes<=281474976710656:=growslice_fits (by omega) (by rw[zaI];exact hle)
 have hrun:(Builtin.append_ #[t,u] o.type #[.slice none 0 0,.int kk m]).run P w=
   .ok (.slice (some ⟨w.heap.size,0,none⟩) m (grownCap w m 0 e)) (w.drew.alloc (.cells (Builtin.zeroCells z.cells m++Builtin.zeroCells z.cells (grownCap w m 0 e-m)) e)):=by
  have hl:IntKind.i64.wrap (m:Int)=m:=hwrap
  have h48:¬(281474976710656<(m:Int)*(i.bytes:Int)):=by
   rw[<-Int.natCast_mul];omega
  have hms:¬(m*i.size=0):=by
   have:=Nat.mul_pos hm0 hsz;omega
  have hmn:¬m<=0:=by omega
  have h63':¬(9223372036854775807<(m:Int)):=by omega
  rw[zaI] at hfit
  have h48':¬(281474976710656<Builtin.nextslicecap m 0*i.bytes):=by omega
  simp[Builtin.append_,run_underlying ht,run_underlying hu,sizeOf,typeInfo,zeroValue,hi,hiz,asInt,asIntOf,hl,h48,Nat.ne_of_gt hm0,h63',h48',Question.forced,newRow,grownCap,Builtin.firstCells]
  rw[if_neg (by omega:¬(m:Int)<0),if_neg hms]
 generalize hcap':grownCap w m 0 e=cap' at hrun
 have hge:m<=cap':=by rw[<-hcap'];exact grownCap_ge w _ _ _
 have k:Keep w (w.drew.alloc (.cells (Builtin.zeroCells z.cells m++Builtin.zeroCells z.cells (cap'-m)) e)):=(Keep.drew w).trans (Keep.alloc _ _)
 have hheap:=heap_alloc_new w.drew (.cells (Builtin.zeroCells z.cells m++Builtin.zeroCells z.cells (cap'-m)) e)
 have hdsz:w.drew.heap.size=w.heap.size:=rfl
 rw[hdsz] at hheap
 have hcsz:(Builtin.zeroCells z.cells m++Builtin.zeroCells z.cells (cap'-m)).size=cap'*i.size:=by
  rw[Array.size_append,size_zeroCells,size_zeroCells,hzs,<-zaL]
  congr 1
  omega
 have hr1:=qaR hrows m
 have hr2:=qaR hrows (cap'-m)
 have x1:=h.ext_addH k (b:=w.heap.size) (q:=s.next) (zaf _) h.bOf_next h.lo_
 have hsz1:(Builtin.zeroCells z.cells m).size=m*i.size:=by rw[size_zeroCells,hzs]
 have hl1:(zaq m zs).flatten.length=m*i.size:=by rw[hr1.1];exact hsz1
 have m1:=h.addH k (zaf _) (by simp) (o:=.cells (zaq m zs).flatten) ⟨⟨_,e,⟨_,hheap,Thaw.none _⟩,by rw[hcsz,hl1];exact zaB _ hge,fun u hu=>by
   rcases Array.mem_append.1 hu with hu|hu
   ·exact hr1.2.1 u hu
   ·exact hr2.2.1 u hu,fun j q v hq hv=>by
   have hj:j<m*i.size:=by rw[<-hl1];exact(zah.1 hq).1
   rw[Array.getElem?_append_left (by rw[hsz1];exact hj)] at hv
   exact(hr1.2.2 j q v hq hv).ext x1⟩,qbU hza m⟩
 rw[ek] at he
 refine qaK he hrun ⟨_,x1,m1,.hs _ _ _ _ _ _ w.heap.size cap' (by simp[Gh.addH,qav]) (zaf _) hge (fun e=>by cases e) ⟨_,e,_,hheap,?_⟩⟩
 rw[hcsz];omega
end Go.AI
namespace Go.AI
variable {P:Program} {E:Rom} {U pd:Nat->Option (List zA)} {l:Tr (Nat×List zA)} {s:ASt} {G:Gh} {w w':World} {f:Tr zA} {a:Act} {o:Oper} {v:zA}
theorem qcw (g:Nat->Option Nat):∀(ts:List Nat) (t f:Nat),qap (ts.filterMap fun t=>(g t).map fun f=>(t,f)) t=some f->g t=some f
 |[],t,f,h=>by cases h
 |y::ts,t,f,h=>by
  rw[List.filterMap_cons] at h
  cases hy:g y with
  |none=>rw[hy] at h;exact qcw g ts t f h
  |some z=>
   rw[hy] at h
   simp only[zao,qap] at h
   cases hb:Nat.beq y t with
   |true=>
    rw[hb] at h
    simp only[cond_true,zaa] at h
    subst h
    rw[<-beq_iff.1 hb]
    exact hy
   |false=>rw[hb] at h;exact qcw g ts t f h
theorem qdw {m:String}{t fn:Nat}(h:qlE P m t=some fn)(v:Value)(args:Array Value):(callMethod (.iface t v) m args).run P w=(callFunc fn (#[v]++args)).run P w:=by
 unfold qlE at h
 simp only[zac] at h
 obtain⟨i,hi,d,hd,mm,hm,h⟩:=h
 obtain⟨hp,h⟩:=qac h
 simp only[zac] at h
 obtain⟨⟨g,pr⟩,hf,h⟩:=h
 obtain⟨hc,h⟩:=qac h
 simp only[zaa] at h
 subst h
 have hpath:mm.path.toList=[]:=by
  have:mm.path= #[]:=by simpa using hp
  rw[this]
 have hpe:mm.path= #[]:=by simpa using hp
 have hrec:(receiverAt t (.val v) pr (if mm.path.isEmpty then some ((m.splitOn ".").getLastD m) else none)).run P w=.ok v w:=by
  unfold receiverAt
  cases pr with
  |true=>
   simp only[cond_true] at hc
   unfold qhF at hc
   split at hc<;>try (cases hc;done)
   simp[run_underlying hd,Place.get]
  |false=>
   simp only[cond_false] at hc
   cases d<;>first|(simp[run_underlying hd,Place.get];done)|(exfalso;simp[qhF] at hc;done)
 have hmeth:∀fuel,(method (fuel+1) t v m).run P w=.ok (g,v) w:=by
  intro fuel
  unfold method
  have hfol:(follow mm.path.toList t (.val v)).run P w=.ok (t,.val v) w:=by rw[hpath];rfl
  simp only[Array.isEmpty_iff,List.getLastD_eq_getLast?] at hrec
  simp[typeInfo,hi,hm,hf,hfol,hrec]
 have hn:P.types.size+Made.depth=(P.types.size+Made.depth-1)+1:=by
  have:0<Made.depth:=by decide
  omega
 have hpr:(program).run P w=.ok P w:=rfl
 simp only[callMethod,Sem.run_bind,hpr,Result.andThen_ok]
 rw[hn,hmeth]
 rfl
end Go.AI
namespace Go.AI
variable {P:Program} {E:Rom} {U pd:Nat->Option (List zA)} {l:Tr (Nat×List zA)} {s:ASt} {G:Gh} {w:World} {a:Act} {o:Oper} {v:zA} {lof:Nat->Option Nat} {dr:Bool} {i:Ins}
structure SoundEnv (P:Program)(e:Env):Prop where
 call:∀{f args s v s'},e.call f args s=some (v,s')->∀{U pd l G w} {vs:Array Value},MR P e.E U pd l s G w->VRs G w args vs.toList->NextP P (qba P e.E U pd G w l s' v) ((callFunc f vs).run P w)
 callv:∀{fv args s v s'},e.callv fv args s=some (v,s')->∀{U pd l G w u} {vs:Array Value},MR P e.E U pd l s G w->VR G w fv u->VRs G w args vs.toList->NextP P (qba P e.E U pd G w l s' v) ((do let d <-Deferred.ofValue u vs;invoke d.target d.args:Sem Next).run P w)
 callf:∀{fv args s v s'},e.callv fv args s=some (v,s')->qpL fv=true->∀{U pd l G w u} {vs:Array Value},MR P e.E U pd l s G w->VR G w fv u->VRs G w args vs.toList->
  ∃fn first cap,u=.func (.func fn) first cap/\(callFunc fn (first++vs++cap)).run P w=.ok (.enter fn (first++vs++cap)) w
 pure:∀{f args s v s'},e.pure f=true->e.call f args s=some (v,s')->s'=s
theorem qe8 (c:Call)(hop:o.op=.call c){fv:Operand}(hc:c.callee=.value fv):execOp a.eval o=(do let d <-Deferred.ofValue (a.eval fv) (c.args.map a.eval);invoke d.target d.args):=by
 rw[qeb c hop]
 unfold resolve
 rw[hc]
theorem qcF {α:Type}{d x:α}:∀{t:Tr α} {i:Nat},t.get d i=x->x≠d->t.has i=true
 |.nil,i,h,hx=>absurd h.symm hx
 |.node v l r,i,h,hx=>by
  unfold Tr.get at h
  unfold Tr.has
  cases h1:Nat.beq i 0 with
  |true=>rfl
  |false=>
   rw[h1] at h
   cases h2:Nat.beq (i%2) 1 with
   |true=>rw[h2] at h;exact qcF (t:=l) h hx
   |false=>rw[h2] at h;exact qcF (t:=r) h hx
theorem qjZ {e:Env}(se:SoundEnv P e){c c':Cfg}(h:MR P e.E U pd c.l c.s G w)(hi:qjB P lof dr o=some i)(hna:dr=true->(∀j,i≠.alloced j)/\∀d,i≠.halloced d)(hlh:∀t j,lof t=some j->c.l.has j=true)(hpd:dr=false->∀j,pd j=none)
  (hr:qan G w c.f a (i.args.flatMap Arg.tmps))(hev:qaf e c i=some (v,c')):
  c'.f=c.f/\c'.h=c.h/\c'.rd=c.rd/\(∀j,c'.l.has j=c.l.has j)/\NextP P (qba P e.E U pd G w c'.l c'.s v) ((execOp a.eval o).run P w):=by
 have pure_case:qaU i=true->qai c.f i=some v->c'=c->c'.f=c.f/\c'.h=c.h/\c'.rd=c.rd/\(∀j,c'.l.has j=c.l.has j)/\NextP P (qba P e.E U pd G w c'.l c'.s v) ((execOp a.eval o).run P w):=by
  intro hp hv hc
  subst hc
  exact⟨rfl,rfl,rfl,fun _=>rfl,(qjN hi hp (h.free (zaf _)) hr hv).eff h⟩
 have pc:qaU i=true->(qai c.f i).map (fun v=>(v,c))=some (v,c')->c'.f=c.f/\c'.h=c.h/\c'.rd=c.rd/\(∀j,c'.l.has j=c.l.has j)/\NextP P (qba P e.E U pd G w c'.l c'.s v) ((execOp a.eval o).run P w):=by
  intro hp hv
  simp only[zab,zad] at hv
  obtain⟨v',hv,rfl,rfl⟩:=hv
  exact pure_case hp hv rfl
 have hi0:=hi
 cases hop:o.op<;>simp only[qjB,hop,zac,zab] at hi<;>try (cases hi;done)
 case move x=>obtain⟨g,hg,rfl⟩:=hi;exact pc rfl hev
 case assign x=>obtain⟨g,hg,rfl⟩:=hi;exact pc rfl hev
 case pick c x y=>obtain⟨gc,hc,gx,hx,gy,hy,rfl⟩:=hi;exact pc rfl hev
 case alloc t=>
  split at hi
  ·obtain⟨_,hi⟩:=qaD hi
   simp only[zab] at hi
   obtain⟨e',he',rfl⟩:=hi
   simp only[qaf,zaa,zad] at hev
   obtain⟨rfl,rfl⟩:=hev
   exact⟨rfl,rfl,rfl,fun _=>rfl,qoj h t hop he'⟩
  simp only[zac,zab] at hi
  obtain⟨d,hd,z,hz,hi⟩:=hi
  split at hi
  ·rename_i j hj
   cases dr with
   |true=>subst hi;exact absurd rfl ((hna rfl).1 j)
   |false=>
    simp only[cond_false] at hi
    subst hi
    simp only[qaf,zaa,zad] at hev
    obtain⟨rfl,rfl⟩:=hev
    exact⟨rfl,rfl,rfl,fun k=>Tr.has_set _ _ _ _,qlM h t hop hz (hlh _ _ hj) (hpd rfl j)⟩
  ·cases dr with
   |true=>subst hi;exact absurd rfl ((hna rfl).2 d)
   |false=>
    simp only[cond_false] at hi
    subst hi
    simp only[qaf] at hev
    obtain⟨_,hev⟩:=qac hev
    simp only[zaa,zad] at hev
    obtain⟨rfl,rfl⟩:=hev
    exact⟨rfl,rfl,rfl,fun k=>rfl,qjP h t hop hz⟩
 case box t x=>
  obtain⟨d,hd,n,hn,g,hg,hi⟩:=hi
  split at hi
  ·rename_i j hj
   obtain⟨hdr,hi⟩:=qaD hi
   simp only[zaa] at hi
   subst hi
   simp only[qaf,zac,zaa,zad] at hev
   obtain⟨cs,hcs,rfl,rfl⟩:=hev
   exact⟨rfl,rfl,rfl,fun k=>Tr.has_set _ _ _ _,qp9 h t x hop hg (by simpa[Ins.args] using hr) hcs (hlh _ _ hj) (hpd hdr j)⟩
  ·simp only[zaa] at hi
   subst hi
   simp only[qaf,zac] at hev
   obtain⟨cs,hcs,hev⟩:=hev
   obtain⟨ha,hev⟩:=qac hev
   simp only[zaa,zad] at hev
   obtain⟨rfl,rfl⟩:=hev
   exact⟨rfl,rfl,rfl,fun k=>rfl,qok h t x hop hg (by simpa[Ins.args] using hr) hcs ha⟩
 case build t ps=>
  split at hi
  ·simp only[zac,zab] at hi
   obtain⟨n,hn,z,hz,gs,hgs,rfl⟩:=hi
   exact pc rfl hev
  ·simp only[zac,zab] at hi
   obtain⟨fs,hfs,z,hz,pl,hpl,gs,hgs,rfl⟩:=hi
   exact pc rfl hev
 case buildSlice t len ps=>
  obtain⟨e,he,sz,hsz,n,hn,zs,hzs,hk⟩:=hi
  split at hk
  ·split at hk
   ·obtain⟨hle,hk⟩:=qac hk
    simp only[zab] at hk
    obtain⟨gs,hgs,rfl⟩:=hk
    simp only[qaf,zac] at hev
    obtain⟨cs,hf,hev⟩:=hev
    obtain⟨ha,hev⟩:=qac hev
    simp only[zaa,zad] at hev
    obtain⟨rfl,rfl⟩:=hev
    exact⟨rfl,rfl,rfl,fun _=>rfl,qqd h t len ps hop he hsz hn hzs (ble_iff.1 hle) hgs (by simpa[Ins.args,List.flatMap_map] using hr) hf ha⟩
   ·obtain⟨hle,hk⟩:=qac hk
    simp only[zab] at hk
    obtain⟨gs,hgs,rfl⟩:=hk
    exact pc rfl hev
  simp only[zac] at hk
  obtain⟨z,hz,hk⟩:=hk
  obtain⟨hle,hk⟩:=qac hk
  simp only[zab] at hk
  obtain⟨gs,hgs,rfl⟩:=hk
  exact pc rfl hev
 case load t x=>
  obtain⟨n,hn,g,hg,rfl⟩:=hi
  simp only[qaf,zac,zab,zad] at hev
  obtain⟨cs,hcs,v',hv,rfl,rfl⟩:=hev
  exact⟨rfl,rfl,rfl,fun _=>rfl,(qoi h t x hop hn hg (by simpa[Ins.args] using hr) hcs hv).eff h⟩
 case store t x y=>
  obtain⟨n,hn,gx,hx,gy,hy,rfl⟩:=hi
  simp only[qaf,zac,zab,zad] at hev
  obtain⟨cs,hcs,c2,hs,rfl,rfl⟩:=hev
  have hl:∀j,c2.l.has j=c.l.has j:=by
   intro j
   unfold qbm at hs
   split at hs<;>try (cases hs;done)
   ·generalize c.l.get (0,[]) _=p at hs
    obtain⟨g',old⟩:=p
    simp only at hs
    obtain⟨_,hs⟩:=qac hs
    simp only[zab] at hs
    obtain⟨new,_,rfl⟩:=hs
    exact Tr.has_set _ _ _ _
   ·split at hs<;>try (cases hs;done)
    obtain⟨_,hs⟩:=qac hs
    simp only[zac,zab] at hs
    obtain⟨new,_,hp,_,rfl⟩:=hs
    rfl
  obtain⟨h1,h2,h3,h4⟩:=qlO h (fun j g cs hj hg=>qcF hj (by intro e;injection e with e1;exact hg e1)) t x y hop hn hx hy (by simpa[Ins.args] using hr) hcs hs
  exact⟨h1,h2,h3,hl,h4⟩
 case nilCheck x=>obtain⟨g,hg,rfl⟩:=hi;exact pc rfl hev
 case binOp op t x y u=>
  obtain⟨gx,hx,gy,hy,hi⟩:=hi
  have hp:qaU i=true/\(∀(r:Option zA),qaf e c i=some (v,c')->(qai c.f i).map (fun v=>(v,c))=some (v,c')):=by
   have eqc:∀nl neg,cEq P t neg nl gx gy=some i->qaU i=true/\(∀(r:Option zA),qaf e c i=some (v,c')->(qai c.f i).map (fun v=>(v,c))=some (v,c')):=by
    intro nl neg hi
    unfold cEq at hi
    split at hi
    ·obtain⟨_,hi⟩:=qac hi
     simp only[zab] at hi
     obtain⟨ks,_,rfl⟩:=hi
     exact⟨rfl,fun _ h=>h⟩
    ·simp only[zac] at hi
     obtain⟨k,_,hi⟩:=hi
     split at hi
     ·simp only[zaa] at hi;subst hi;exact⟨rfl,fun _ h=>h⟩
     ·simp only[zaa] at hi;subst hi;exact⟨rfl,fun _ h=>h⟩
     ·obtain⟨_,hi⟩:=qac hi
      simp only[zaa] at hi;subst hi;exact⟨rfl,fun _ h=>h⟩
     ·simp only[zaa] at hi;subst hi;exact⟨rfl,fun _ h=>h⟩
   have eqn:∀(ni nl neg:Bool),cond ni (qpM P t neg gx) (cEq P t neg nl gx gy)=some i->qaU i=true/\(∀(r:Option zA),qaf e c i=some (v,c')->(qai c.f i).map (fun v=>(v,c))=some (v,c')):=by
    intro ni nl neg hi
    cases ni with
    |false=>exact eqc nl neg hi
    |true=>
     simp only[cond_true] at hi
     unfold qpM at hi
     split at hi<;>try (cases hi;done)
     simp only[zaa] at hi
     subst hi
     exact⟨rfl,fun _ h=>h⟩
   split at hi
   ·exact eqn _ _ _ hi
   ·exact eqn _ _ _ hi
   ·simp only[zaa] at hi;subst hi;exact⟨rfl,fun _ h=>h⟩
   ·simp only[zaa] at hi;subst hi;exact⟨rfl,fun _ h=>h⟩
   ·simp only[zaa] at hi
    subst hi
    exact⟨rfl,fun _ h=>h⟩
  exact pc hp.1 (hp.2 none hev)
 case unOp op t x=>
  cases op<;>simp only[zab] at hi<;>try (cases hi;done)
  case neg=>
   split at hi<;>try (cases hi;done)
   simp only[zab] at hi
   obtain⟨g,hg,rfl⟩:=hi
   exact pc rfl hev
  obtain⟨g,hg,rfl⟩:=hi
  exact pc rfl hev
 case convert s t x=>
  split at hi<;>try (cases hi;done)
  ·split at hi<;>try (cases hi;done)
   ·simp only[zab] at hi
    obtain⟨g,hg,rfl⟩:=hi
    exact pc rfl hev
   ·simp only[zab] at hi
    obtain⟨g,hg,rfl⟩:=hi
    exact pc rfl hev
  ·rename_i hs
   split at hi<;>try (cases hi;done)
   ·simp only[zab] at hi
    obtain⟨g,hg,rfl⟩:=hi
    exact pc rfl hev
   ·rename_i ht
    split at hi<;>try (cases hi;done)
    rename_i he8
    simp only[zac,zab] at hi
    obtain⟨_,_,g,hg,rfl⟩:=hi
    simp only[qaf] at hev
    split at hev<;>try (cases hev;done)
    rename_i b hb
    simp only[zaa,zad] at hev
    obtain⟨rfl,rfl⟩:=hev
    exact⟨rfl,rfl,rfl,fun _=>rfl,qqn h s t x hop hs ht he8 hg (by simpa[Ins.args] using hr) hb⟩
  ·rename_i hs
   split at hi<;>try (cases hi;done)
   rename_i ht
   split at hi<;>try (cases hi;done)
   rename_i he8
   simp only[zab] at hi
   obtain⟨g,hg,rfl⟩:=hi
   simp only[qaf,zab,zad] at hev
   obtain⟨v',hev,rfl,rfl⟩:=hev
   unfold qrN at hev
   split at hev<;>try (cases hev;done)
   rename_i hns
   simp only[zac] at hev
   obtain⟨⟨n,cs⟩,hsrc,hev⟩:=hev
   simp only at hev
   obtain⟨hl,hev⟩:=qac hev
   simp only[zab] at hev
   obtain⟨b,hb,rfl⟩:=hev
   exact⟨rfl,rfl,rfl,fun _=>rfl,qqk h s t x hop hs ht he8 hg (by simpa[Ins.args] using hr) (fun b e=>hns b e) hsrc (beq_iff.1 hl) hb⟩
 case makeFunc fn x y=>
  cases fn<;>simp only[zac,zab] at hi<;>try (cases hi;done)
  obtain⟨gx,hx,gy,hy,rfl⟩:=hi
  exact pc rfl hev
 case makeInterface t x=>
  split at hi<;>try (cases hi;done)
  simp only[zab] at hi
  obtain⟨g,hg,rfl⟩:=hi
  exact pc rfl hev
 case typeAssert x t u ok=>
  split at hi<;>try (cases hi;done)
  simp only[zac] at hi
  obtain⟨inf,hinf,hi⟩:=hi
  split at hi<;>try (cases hi;done)
  simp only[zac,zab] at hi
  obtain⟨zv,hzv,g,hg,rfl⟩:=hi
  exact pc rfl hev
 case makeSlice t x y=>
  obtain⟨e',he,inf,hinf,hi⟩:=hi
  split at hi
  rotate_left
  ·obtain⟨hb,hi⟩:=qac hi
   simp only[zac,zab] at hi
   obtain⟨z,hz,gx,hgx,gy,hgy,rfl⟩:=hi
   simp only[zae] at hb
   simp only[qaf,zac] at hev
   obtain⟨m,hm,k,hk,hev⟩:=hev
   obtain⟨hc,hev⟩:=qac hev
   simp only[zaa,zad] at hev
   obtain⟨rfl,rfl⟩:=hev
   simp only[zae] at hc
   exact⟨rfl,rfl,rfl,fun _=>rfl,qqc h t _ y hop (qaO he) hinf (blt_iff.1 hb.1) (blt_iff.1 hb.2) hz hgx hgy (by simpa[Ins.args] using hr) hm hk (ble_iff.1 hc.1) (ble_iff.1 hc.2.1) hc.2.2⟩
  obtain⟨hb,hi⟩:=qac hi
  simp only[zab] at hi
  obtain⟨g,hg,rfl⟩:=hi
  simp only[zae] at hb
  simp only[qaf,zac] at hev
  obtain⟨m,hm,hev⟩:=hev
  obtain⟨hle,hev⟩:=qac hev
  simp only[zaa,zad] at hev
  obtain⟨rfl,rfl⟩:=hev
  exact⟨rfl,rfl,rfl,fun _=>rfl,qom h t y hop (qaO he) hinf (blt_iff.1 hb.2.2.1) (blt_iff.1 hb.2.2.2) hb.1 hg (by simpa[Ins.args] using hr) hm (ble_iff.1 hle)⟩
 case slice t x lo hi' mx=>
  obtain⟨hmx,hk⟩:=qaD hi
  clear hi
  split at hk<;>try (cases hk;done)
  ·simp only[zac,zab] at hk
   obtain⟨sz,hsz,g,hg,gl,hl,gh,hh,rfl⟩:=hk
   exact pc rfl hev
  ·simp only[zac,zab] at hk
   obtain⟨g,hg,gl,hl,gh,hh,rfl⟩:=hk
   exact pc rfl hev
 case fieldAddr t x j=>obtain⟨fs,hfs,fd,hfd,n,hn,g,hg,rfl⟩:=hi;exact pc rfl hev
 case indexAddr t x y=>
  split at hi
  ·rename_i n e' hu
   simp only[zac] at hi
   obtain⟨sz,hsz,hi⟩:=hi
   split at hi
   ·rename_i gv
    obtain⟨_,hi⟩:=qaD hi
    simp only[zab] at hi
    obtain⟨gy,hy,rfl⟩:=hi
    simp only[qaf,zac] at hev
    obtain⟨m,hm,hev⟩:=hev
    obtain⟨hlt,hev⟩:=qac hev
    split at hev<;>try (cases hev;done)
    rename_i cs hE
    simp only[zab,zad] at hev
    obtain⟨ps,hps,rfl,rfl⟩:=hev
    exact⟨rfl,rfl,rfl,fun _=>rfl,qqj h t gv y hop hu hsz hy (by simpa[Ins.args] using hr) hm (blt_iff.1 hlt) hE hps⟩
   simp only[zac,zab] at hi
   obtain⟨gx,hx,gy,hy,rfl⟩:=hi
   exact pc rfl hev
  ·simp only[zac,zab] at hi
   obtain⟨e',he,sz,hsz,gx,hx,gy,hy,rfl⟩:=hi
   exact pc rfl hev
 case field t x j=>obtain⟨fs,hfs,fd,hfd,n,hn,g,hg,rfl⟩:=hi;exact pc rfl hev
 case index t x y=>
  split at hi<;>try (cases hi;done)
  ·simp only[zac,zab] at hi
   obtain⟨gx,hx,gy,hy,rfl⟩:=hi
   exact pc rfl hev
  ·simp only[zac,zab] at hi
   obtain⟨n,hn,gx,hx,gy,hy,rfl⟩:=hi
   exact pc rfl hev
 case extract x j=>obtain⟨g,hg,rfl⟩:=hi;exact pc rfl hev
 case makeMap t r=>
  cases r with
  |some r=>simp only[reduceCtorEq] at hi
  |none=>
  simp only[] at hi
  split at hi<;>try (cases hi;done)
  obtain⟨_,hk⟩:=qaD hi
  simp only[zaa] at hk
  subst hk
  simp only[qaf,zaa,zad] at hev
  obtain⟨rfl,rfl⟩:=hev
  exact⟨rfl,rfl,rfl,fun _=>rfl,qlS h t hop⟩
 case range t x=>
  obtain⟨_,hi⟩:=qaD hi
  split at hi<;>try (cases hi;done)
  rename_i ht
  simp only[zab] at hi
  obtain⟨g,hg,rfl⟩:=hi
  simp only[qaf] at hev
  split at hev<;>try (cases hev;done)
  rename_i q hq
  split at hev<;>try (cases hev;done)
  rename_i es hm
  simp only[zaa,zad] at hev
  obtain⟨rfl,rfl⟩:=hev
  exact⟨rfl,rfl,rfl,fun _=>rfl,qqf h t x hop ht hg (by simpa[Ins.args] using hr) hq hm⟩
 case next x b=>
  cases b with
  |true=>simp only[reduceCtorEq] at hi
  |false=>
  obtain⟨_,hi⟩:=qaD hi
  simp only[zab] at hi
  obtain⟨g,hg,rfl⟩:=hi
  simp only[qaf] at hev
  split at hev<;>try (cases hev;done)
  rename_i q hq
  split at hev<;>try (cases hev;done)
  rename_i m since last seen hm
  split at hev<;>try (cases hev;done)
  rename_i es hes
  obtain⟨hc,hev⟩:=qac hev
  obtain⟨k1,k2⟩:=qqh h x hop hg (by simpa[Ins.args] using hr) hq hm hes hc
  split at hev<;>try (cases hev;done)
  ·rename_i qiv
   simp only[zaa,zad] at hev
   obtain⟨rfl,rfl⟩:=hev
   exact⟨rfl,rfl,rfl,fun _=>rfl,k1 qiv⟩
  ·rename_i i k y hone
   obtain⟨hlt,hev⟩:=qac hev
   simp only[zab,zad] at hev
   obtain⟨hp,qaM,rfl,rfl⟩:=hev
   exact⟨rfl,rfl,rfl,fun _=>rfl,k2 i k y hp hone (blt_iff.1 hlt) qaM⟩
 case entry x=>
  obtain⟨_,hi⟩:=qaD hi
  simp only[zab] at hi
  obtain⟨g,hg,rfl⟩:=hi
  simp only[qaf] at hev
  split at hev<;>try (cases hev;done)
  rename_i q hq
  split at hev<;>try (cases hev;done)
  rename_i m since last seen hm
  split at hev<;>try (cases hev;done)
  rename_i es hes
  obtain⟨hc,hev⟩:=qac hev
  simp only[zac,zab] at hev
  obtain⟨i,hi2,⟨k,y⟩,hy,hev⟩:=hev
  simp only[zad] at hev
  obtain⟨rfl,rfl⟩:=hev
  exact⟨rfl,rfl,rfl,fun _=>rfl,qqi h x hop hg (by simpa[Ins.args] using hr) hq hm hes (beq_iff.1 hc) hi2 hy⟩
 case insert t x y z=>
  split at hi<;>try (cases hi;done)
  rename_i ht
  simp only[zac,zab] at hi
  obtain⟨⟨kd,ks⟩,hkd,gx,hx,gy,hy,gz,hz,rfl⟩:=hi
  simp only[qaf,zac] at hev
  obtain⟨k,hk,hev⟩:=hev
  split at hev<;>try (cases hev;done)
  rename_i hq
  split at hev<;>try (cases hev;done)
  rename_i hm
  obtain⟨hc,hev⟩:=qac hev
  simp only[zae] at hc
  simp only[zac,zab,zad] at hev
  obtain⟨es',hes,hp,qaM,rfl,rfl⟩:=hev
  exact⟨rfl,rfl,rfl,fun _=>rfl,qgj h t x y z (.inl hop) ht hkd hx hy hz (by simpa[Ins.args] using hr) hk hq hm hc.1 hc.2 hes qaM⟩
 case mapUpdate t x y z=>
  split at hi<;>try (cases hi;done)
  rename_i ht
  simp only[zac,zab] at hi
  obtain⟨⟨kd,ks⟩,hkd,gx,hx,gy,hy,gz,hz,rfl⟩:=hi
  simp only[qaf,zac] at hev
  obtain⟨k,hk,hev⟩:=hev
  split at hev<;>try (cases hev;done)
  rename_i hq
  split at hev<;>try (cases hev;done)
  rename_i hm
  obtain⟨hc,hev⟩:=qac hev
  simp only[zae] at hc
  simp only[zac,zab,zad] at hev
  obtain⟨es',hes,hp,qaM,rfl,rfl⟩:=hev
  exact⟨rfl,rfl,rfl,fun _=>rfl,qgj h t x y z (.inr hop) ht hkd hx hy hz (by simpa[Ins.args] using hr) hk hq hm hc.1 hc.2 hes qaM⟩
 case lookup t x y ok=>
  split at hi<;>try (cases hi;done)
  rename_i ht
  simp only[zac] at hi
  obtain⟨⟨kd,ks⟩,hkd,inf,hinf,hi⟩:=hi
  split at hi<;>try (cases hi;done)
  rename_i z hz
  simp only[zac,zab] at hi
  obtain⟨zv,hzv,gx,hx,gy,hy,rfl⟩:=hi
  simp only[qaf,zac] at hev
  obtain⟨k,hk,es,hm,hev⟩:=hev
  obtain⟨hik,hev⟩:=qac hev
  simp only[zab] at hev
  obtain⟨r,hf,hev⟩:=hev
  have:=qor h t x y ok hop ht hkd hinf hz hzv hx hy (by simpa[Ins.args] using hr) hk hm hik hf
  cases r with
  |none=>
   simp only[zad] at hev
   obtain⟨rfl,rfl⟩:=hev
   exact⟨rfl,rfl,rfl,fun _=>rfl,this.eff h⟩
  |some r=>
   simp only[zad] at hev
   obtain⟨rfl,rfl⟩:=hev
   exact⟨rfl,rfl,rfl,fun _=>rfl,this.eff h⟩
 case mapEntry t x y=>
  split at hi<;>try (cases hi;done)
  rename_i ht
  simp only[zac] at hi
  obtain⟨⟨kd,ks⟩,hkd,inf,hinf,hi⟩:=hi
  split at hi<;>try (cases hi;done)
  rename_i z hz
  simp only[zac,zab] at hi
  obtain⟨zv,hzv,gx,hx,gy,hy,rfl⟩:=hi
  simp only[qaf,zac] at hev
  obtain⟨k,hk,hev⟩:=hev
  split at hev<;>try (cases hev;done)
  rename_i hq
  split at hev<;>try (cases hev;done)
  rename_i hm
  obtain⟨hc,hev⟩:=qac hev
  simp only[zae] at hc
  simp only[zac] at hev
  obtain⟨r,hf,hev⟩:=hev
  have:=qos h t x y hop ht hkd hinf hz hzv hx hy (by simpa[Ins.args] using hr) hk hq hm hc.1 hc.2 hf
  cases r with
  |none=>
   simp only[zab,zad] at hev
   obtain⟨hp,qaM,rfl,rfl⟩:=hev
   exact⟨rfl,rfl,rfl,fun _=>rfl,this hp qaM⟩
  |some r=>
   simp only[zab,zad] at hev
   obtain⟨hp,qaM,rfl,rfl⟩:=hev
   exact⟨rfl,rfl,rfl,fun _=>rfl,this hp qaM⟩
 case entryStore t x y z=>
  obtain⟨gx,hx,gy,hy,gz,hz,rfl⟩:=hi
  simp only[qaf,zac] at hev
  obtain⟨j,hj,hev⟩:=hev
  split at hev<;>try (cases hev;done)
  rename_i hq
  split at hev<;>try (cases hev;done)
  rename_i hm
  obtain⟨hc,hev⟩:=qac hev
  simp only[zac,zab,zad] at hev
  obtain⟨p,hp0,hp,qaM,rfl,rfl⟩:=hev
  exact⟨rfl,rfl,rfl,fun _=>rfl,qot h t x y z hop hx hy hz (by simpa[Ins.args] using hr) hj hq hm hc hp0 qaM⟩
 case call cl=>
  split at hi
  ·rename_i f hc
   simp only[zab] at hi
   obtain⟨gs,hgs,hi⟩:=hi
   have key:∀{r:zA} {s':ASt},i.args=gs->e.call f (gs.map (Arg.ev c.f)) c.s=some (r,s')->NextP P (qba P e.E U pd G w c.l s' r) ((execOp a.eval o).run P w):=by
    intro r s' hia hcall
    have hargs:=qdp hgs fun t ht=>hr t (by rw[hia];exact ht)
    rw[qe8 cl hop hc]
    have e1:a.eval (.func f)=.func (.func f) #[] #[]:=rfl
    rw[e1]
    have:=se.call hcall (vs:=cl.args.map a.eval) h (by rw[Array.toList_map];exact hargs)
    simpa[Deferred.ofValue,invoke] using this
   split at hi
   ·subst hi
    simp only[qaf] at hev
    obtain⟨hpu,hev⟩:=qac hev
    simp only[zab,zad] at hev
    obtain⟨⟨r,s'⟩,hcall,rfl,rfl⟩:=hev
    have e1:=se.pure hpu hcall
    subst e1
    exact⟨rfl,rfl,rfl,fun _=>rfl,key rfl hcall⟩
   subst hi
   simp only[qaf,zab,zad] at hev
   obtain⟨⟨r,s'⟩,hcall,rfl,rfl⟩:=hev
   exact⟨rfl,rfl,rfl,fun _=>rfl,key rfl hcall⟩
  ·rename_i rc m hc
   simp only[zac,zab] at hi
   obtain⟨gx,hgx,gs,hgs,rfl⟩:=hi
   have hargs:=qdp hgs fun t ht=>hr t (by simp only[Ins.args,List.flatMap_cons,zay];exact .inr ht)
   have hrec:=qat hgx fun t ht=>hr t (by simp only[Ins.args,List.flatMap_cons,zay];exact .inl ht)
   have he:execOp a.eval o=(do let d <-resolve a.eval cl o.type;invoke d.target d.args):=qeb cl hop
   have fin:∀{t fn:Nat} {x r:zA} {u:Value} {s':ASt},qap (qjA P m) t=some fn->a.eval rc=.iface t u->VR G w x u->e.call fn (x::gs.map (Arg.ev c.f)) c.s=some (r,s')->NextP P (qba P e.E U pd G w c.l s' r) ((execOp a.eval o).run P w):=by
    intro t fn x r u s' hm hev' hx hcall
    have h1:=se.call hcall (vs:= #[u]++cl.args.map a.eval) h (by rw[Array.toList_append,Array.toList_map];exact hargs.cons hx)
    rw[<-qdw (w:=w) (qcw (qlE P m) _ _ _ hm) u (cl.args.map a.eval)] at h1
    rw[he]
    unfold resolve
    rw[hc]
    have e2:(#[Value.iface t u]++cl.args.map a.eval).extract 1 (#[Value.iface t u]++cl.args.map a.eval).size=cl.args.map a.eval:=by
     apply Array.ext
     ·simp
     ·intro i h1 h2
      rw[Array.getElem_extract,Array.getElem_append_right (by simp)]
      congr 1
      simp
    have e3:(#[Value.iface t u]++cl.args.map a.eval)[0]? =some (Value.iface t u):=by
     rw[Array.getElem?_append_left (by simp)]
     rfl
    simp only[hev',Sem.run_bind,Sem.run_pure,Result.andThen_ok,invoke,e3,e2]
    exact h1
   simp only[qaf] at hev
   split at hev<;>try (cases hev;done)
   ·rename_i t v1 hx
    simp only[zac,zab,zad] at hev
    obtain⟨fn,hm,⟨r,s'⟩,hcall,rfl,rfl⟩:=hev
    rw[hx] at hrec
    generalize hu:a.eval rc=uu at hrec
    cases hrec with|iface _ _ u hh=>
    exact⟨rfl,rfl,rfl,fun _=>rfl,fin hm hu hh hcall⟩
   ·rename_i t v1 hx
    simp only[zac,zab,zad] at hev
    obtain⟨fn,hm,⟨r,s'⟩,hcall,rfl,rfl⟩:=hev
    rw[hx] at hrec
    generalize hu:a.eval rc=uu at hrec
    cases hrec with|p _ _ hh=>
    cases hh with|iface _ _ u hh=>
    exact⟨rfl,rfl,rfl,fun _=>rfl,fin hm hu (.p _ _ hh) hcall⟩
  ·rename_i t hc
   simp only[zab] at hi
   obtain⟨gs,hgs,rfl⟩:=hi
   simp only[qaf,zab,zad] at hev
   obtain⟨⟨r,s'⟩,hcall,rfl,rfl⟩:=hev
   refine⟨rfl,rfl,rfl,fun _=>rfl,?_⟩
   have hargs:=qdp hgs fun t ht=>hr t (by simp only[Ins.args,List.flatMap_cons,zay];exact .inr ht)
   rw[qe8 cl hop hc]
   exact se.callv hcall h (qat (x:=.tmp t) (g:=.t t) rfl fun q hq=>hr q (by simp only[Ins.args,List.flatMap_cons,zay];exact .inl hq)) (by rw[Array.toList_map];exact hargs)
  ·rename_i hc
   split at hi<;>try (cases hi;done)
   rename_i ox oy hxs
   split at hi<;>try (cases hi;done)
   rename_i t1 t2 hts
   simp only[zac] at hi
   obtain⟨e',he,inf,hinf,hi⟩:=hi
   obtain⟨hb,hi⟩:=qac hi
   simp only[zae] at hb
   have happ:∀{gx gy:Arg},qax ox=some gx->qax oy=some gy->((∃e',P.underlying t2=some (.slice e'))\/P.underlying t2=some .string)->i=.apph inf.size inf.bytes gx gy->c'.f=c.f/\c'.h=c.h/\c'.rd=c.rd/\(∀j,c'.l.has j=c.l.has j)/\NextP P (qba P e.E U pd G w c'.l c'.s v) ((execOp a.eval o).run P w):=by
    intro gx gy hx hy hu e1
    subst e1
    simp only[qaf,zac] at hev
    obtain⟨⟨m,new⟩,hnew,hev⟩:=hev
    simp only at hev
    obtain⟨hc2,hev⟩:=qac hev
    simp only[zae] at hc2
    simp only[zab,zad] at hev
    obtain⟨⟨v',s'⟩,hap,rfl,rfl⟩:=hev
    exact⟨rfl,rfl,rfl,fun _=>rfl,qoo h cl hop hc hxs hts (qaO he) hu hinf (blt_iff.1 hb.1) (blt_iff.1 hb.2.1) hb.2.2 hx hy (by simpa[Ins.args] using hr) hnew (beq_iff.1 hc2.1) hc2.2 hap⟩
   split at hi<;>try (cases hi;done)
   ·rename_i hu
    simp only[zac] at hi
    obtain⟨gx,hx,gy,hy,hi⟩:=hi
    split at hi
    ·simp only[zaa] at hi
     exact happ hx hy (.inl ⟨_,hu⟩) hi.symm
    obtain⟨_,hi⟩:=qac hi
    simp only[zaa] at hi
    subst hi
    simp only[qaf,zac] at hev
    obtain⟨⟨m,new⟩,hnew,hev⟩:=hev
    simp only at hev
    split at hev<;>try (cases hev;done)
    rename_i n cs tk hsv
    obtain⟨hle,hev⟩:=qac hev
    simp only[zae] at hle
    obtain⟨k1,k2,k3⟩:=qqb h cl hop hc hxs hts (qaO he) hu hinf (blt_iff.1 hb.1) (blt_iff.1 hb.2.1) hb.2.2 hx hy (by simpa[Ins.args] using hr) hnew hsv (ble_iff.1 hle.1) (beq_iff.1 hle.2)
    cases hm:Nat.beq m 0 with
    |true=>
     rw[hm] at hev
     simp only[cond_true,zaa,zad] at hev
     obtain⟨rfl,rfl⟩:=hev
     exact⟨rfl,rfl,rfl,fun _=>rfl,k1 (beq_iff.1 hm)⟩
    |false=>
     rw[hm] at hev
     have hm0:m≠0:=fun e=>by rw[qaB e] at hm;cases hm
     simp only[cond_false] at hev
     split at hev
     ·obtain⟨hcl,hev⟩:=qac hev
      simp only[zaa,zad] at hev
      obtain⟨rfl,rfl⟩:=hev
      exact⟨rfl,rfl,rfl,fun _=>rfl,k2 hm0 rfl (beq_iff.1 hcl)⟩
     ·split at hev<;>try (cases hev;done)
      rename_i t1 _ kk zz hto
      obtain⟨hkz,hev⟩:=qac hev
      simp only[zae] at hkz
      simp only[zab,zad] at hev
      obtain⟨ts,hts',rfl,rfl⟩:=hev
      have e1:=beq_iff.1 hkz.1
      have e2:=beq_iff.1 hkz.2
      subst e1;subst e2
      exact⟨rfl,rfl,rfl,fun _=>rfl,k3 hm0 _ ts rfl hto hts'⟩
   ·rename_i hu
    simp only[zac,zab] at hi
    obtain⟨_,_,z,hz,gx,hx,gy,hy,rfl⟩:=hi
    simp only[qaf,zac] at hev
    obtain⟨m,hm,hev⟩:=hev
    split at hev<;>try (cases hev;done)
    rename_i hgx
    obtain⟨hcnd,hev⟩:=qac hev
    simp only[zae] at hcnd
    simp only[zaa,zad] at hev
    obtain⟨rfl,rfl⟩:=hev
    exact⟨rfl,rfl,rfl,fun _=>rfl,qow h cl hop hc hxs hts (qaO he) hu hinf (blt_iff.1 hb.1) (blt_iff.1 hb.2.1) hz hcnd.2.2 hx hy (by simpa[Ins.args] using hr) hm hgx (blt_iff.1 hcnd.1) (ble_iff.1 hcnd.2.1)⟩
   ·rename_i hu
    simp only[zac,zab] at hi
    obtain⟨_,_,gx,hx,gy,hy,hi⟩:=hi
    exact happ hx hy (.inr hu) hi.symm
  ·rename_i hc
   split at hi<;>try (cases hi;done)
   rename_i hxs
   split at hi<;>try (cases hi;done)
   rename_i hts
   split at hi<;>try (cases hi;done)
   ·simp only[zab] at hi
    obtain⟨g,hg,rfl⟩:=hi
    exact pc rfl hev
   ·simp only[zab] at hi
    obtain⟨g,hg,rfl⟩:=hi
    exact pc rfl hev
   ·rename_i ht
    simp only[zab] at hi
    obtain⟨g,hg,rfl⟩:=hi
    simp only[qaf,zab,zad] at hev
    obtain⟨es,hm,rfl,rfl⟩:=hev
    exact⟨rfl,rfl,rfl,fun _=>rfl,(qoq h cl hop hc hxs hts ht hg (by simpa[Ins.args] using hr) hm).eff h⟩
  ·split at hi<;>try (cases hi;done)
   split at hi<;>try (cases hi;done)
   simp only[zac,zab] at hi
   obtain⟨_,_,g,hg,rfl⟩:=hi
   exact pc rfl hev
  ·rename_i hc
   split at hi<;>try (cases hi;done)
   rename_i hxs
   split at hi<;>try (cases hi;done)
   rename_i hts
   simp only[zac] at hi
   obtain⟨e',he,inf,hinf,hi⟩:=hi
   obtain⟨_,hi⟩:=qac hi
   simp only[zac,zab] at hi
   obtain⟨gx,hx,gy,hy,rfl⟩:=hi
   simp only[qaf,zac] at hev
   obtain⟨⟨m,new⟩,hnew,hev⟩:=hev
   simp only at hev
   obtain⟨hc2,hev⟩:=qac hev
   simp only[zae] at hc2
   split at hev<;>try (cases hev;done)
   rename_i q off n cap z op hgx
   obtain⟨hzz,hev2⟩:=qac hev
   clear hev
   have hev:=hev2
   clear hev2
   have hzz:=beq_iff.1 hzz
   subst hzz
   split at hev<;>try (cases hev;done)
   rename_i old hold
   simp only[zac,zab,zad] at hev
   obtain⟨cs,hov,hp,hst,rfl,rfl⟩:=hev
   exact⟨rfl,rfl,rfl,fun _=>rfl,qql h cl hop hc hxs hts (qaO he) hinf hx hy (by simpa[Ins.args] using hr) hnew (beq_iff.1 hc2.1) hc2.2 hgx hold hov hst⟩
  ·rename_i hc
   split at hi<;>try (cases hi;done)
   rename_i hxs
   split at hi<;>try (cases hi;done)
   rename_i hts
   simp only[zac,zab] at hi
   obtain⟨e',he,inf,hinf,zc,hzc,gx,hx,rfl⟩:=hi
   simp only[qaf] at hev
   split at hev<;>try (cases hev;done)
   ·rename_i q off n cap z op hgx
    obtain⟨hzz,hev2⟩:=qac hev
    clear hev
    have hev:=hev2
    clear hev2
    simp only[zae] at hzz
    have hz1:=beq_iff.1 hzz.1
    subst hz1
    split at hev<;>try (cases hev;done)
    rename_i old hold
    simp only[zac,zab,zad] at hev
    obtain⟨cs,hov,hp,hst,rfl,rfl⟩:=hev
    exact⟨rfl,rfl,rfl,fun _=>rfl,qqm h cl hop hc hxs hts (qaO he) hinf hzc hzz.2 hx (by simpa[Ins.args] using hr) hgx hold hov hst⟩
   ·rename_i hgx
    simp only[zaa,zad] at hev
    obtain⟨rfl,rfl⟩:=hev
    exact⟨rfl,rfl,rfl,fun _=>rfl,qov h cl hop hc hxs hts (qaO he) hx (by simpa[Ins.args] using hr) hgx⟩
  ·split at hi<;>try (cases hi;done)
   simp only[zac,zab] at hi
   obtain⟨gx,hx,gy,hy,rfl⟩:=hi
   exact pc rfl hev
  ·split at hi<;>try (cases hi;done)
   simp only[zac,zab] at hi
   obtain⟨gx,hx,gy,hy,rfl⟩:=hi
   exact pc rfl hev
  ·cases hi
end Go.AI
namespace Go.AI
variable {P:Program} {E:Rom} {G:Gh} {w:World} {a:Act} {lof:Nat->Option Nat} {nt base:Nat} {U0:Nat->Option (List zA)}
def Marks (base:Nat)(G:Gh)(w:World):List Deferred->Prop
 |[]=>True
 |d::ds=>(∃r,d.target=.collected r/\base<=r/\G.own r=.misc/\w.heap[r]? =some (.deferred (some []))/\∀d'∈ds,d'.target≠.collected r)/\Marks base G w ds
theorem Marks.ext {G':Gh}{w':World}(x:Ext G w G' w'):∀{ds:List Deferred},Marks base G w ds->Marks base G' w' ds
 |[],_=>trivial
 |d::ds,⟨⟨r,h1,h2,h3,h4,h5⟩,h⟩=>by
  obtain⟨h6,h7⟩:=x.still r (zag.1 h4).1 (by rw[h3];trivial)
  exact⟨⟨r,h1,h2,h7.trans h3,h6.trans h4,h5⟩,h.ext x⟩
def FW (ro:Option Nat):Fence:={Fence.wide with round:=ro}
structure CR (P:Program)(E:Rom)(U0:Nat->Option (List zA))(lof:Nat->Option Nat)(nt base:Nat)(c:Cfg)(G:Gh)(w:World)(a:Act):Prop where
 fr:FR G w c.f a.tmps
 sz:a.tmps.size=nt
 mr:MR P E U0 (fun _=>none) c.l c.s G w
 lh:∀t j,lof t=some j->c.l.has j=true
 df:Marks base G w a.defers
 bs:base<=w.heap.size
theorem FR.put {G:Gh}{w:World}{f:Tr zA}{tmps:Array Value}(h:FR G w f tmps){d:Nat}(hd:d<tmps.size){v:zA}{u:Value}(hv:VR G w v u):FR G w (f.set d v) (tmps.setIfInBounds d u):=by
 refine⟨fun t=>?_,fun t ht=>by rw[Tr.has_set];exact h.2 t (by simpa using ht)⟩
 rw[Tr.get_set _ _ _ _ _ (h.2 d hd)]
 have hg:(tmps.setIfInBounds d u).getD t undef=if d=t then u else tmps.getD t undef:=by
  rw[zap,zap,Array.getElem?_setIfInBounds]
  by_cases e:d=t
  ·subst e;simp[hd]
  ·simp[e]
 rw[hg]
 by_cases e:d=t
 ·rw[if_pos e,if_pos e];exact hv
 ·rw[if_neg e,if_neg e];exact h.1 t
theorem qhX (a:Act)(d:Nat)(v:Value):(a.put (some d) v).tmps=a.tmps.setIfInBounds d v:=rfl
theorem qdx (a:Act)(d:Option Tmp)(v:Value):(a.put d v).defers=a.defers:=by cases d<;>rfl
theorem FR.dst {f:Tr zA}(h:FR G w f a.tmps){d:Option Tmp}(hd:∀t,d=some t->t<a.tmps.size){v:zA}{u:Value}(hv:VR G w v u)(c:Cfg)(hc:c.f=f):FR G w (c.put d v).f (a.put d u).tmps:=by
 subst hc
 cases d with
 |none=>exact h
 |some t=>exact h.put (hd t rfl) hv
theorem qfA (a:Act)(d:Option Tmp)(v:Value):(a.put d v).tmps.size=a.tmps.size:=by cases d<;>simp[Act.put]
theorem Cfg.put_l (c:Cfg)(d:Option Nat)(v:zA):(c.put d v).l=c.l:=by cases d<;>rfl
theorem Cfg.put_s (c:Cfg)(d:Option Nat)(v:zA):(c.put d v).s=c.s:=by cases d<;>rfl
theorem Cfg.put_h (c:Cfg)(d:Option Nat)(v:zA):(c.put d v).h=c.h:=by cases d<;>rfl
theorem Cfg.put_rd (c:Cfg)(d:Option Nat)(v:zA):(c.put d v).rd=c.rd:=by cases d<;>rfl
theorem FR.reads {f:Tr zA}(h:FR G w f a.tmps)(ts:List Nat):qan G w f a ts:=fun t _=>h.1 t
theorem qgo {ops:Array Oper}{o:Oper}{c:COp}{dr:Bool}{f:Tr zA}(hc:cOp P lof dr nt ops o=some c){b:Bool}(hw:wanted f c.guard=some b)(hr:∀t b,c.guard=some (t,b)->VR G w (f.get qag t) (a.tmps.getD t undef)):
  Region.wanted o (yielded ops a.tmps)=b:=by
 simp only[cOp,zac] at hc
 obtain⟨g,hg,hc⟩:=hc
 obtain⟨_,hc⟩:=qac hc
 simp only[zab] at hc
 obtain⟨i,_,rfl⟩:=hc
 simp only at hw hr
 unfold Region.wanted
 split at hg
 ·rename_i e
  simp only[zaa] at hg
  subst hg
  simp only[wanted,zaa] at hw
  subst hw
  rw[e]
 ·rename_i j want e
  simp only[zab] at hg
  obtain⟨t,ht,rfl⟩:=hg
  have hv:=hr t want rfl
  rw[e]
  simp only[wanted] at hw
  have key:yielded ops a.tmps j=match a.tmps[t]? with|some (.bool b)=>some b|_=>none:=by
   unfold yielded
   rw[ht]
   rfl
  simp only[key]
  rw[zap] at hv
  split at hw
  ·rename_i x hx
   rw[hx] at hv
   have:=hv.bool_inv
   cases hq:a.tmps[t]? with
   |none=>rw[hq] at this;cases this
   |some u=>
    rw[hq] at this
    simp only[Option.getD_some] at this
    subst this
    simp only[zaa] at hw
    subst hw
    cases x<;>cases want<;>rfl
  ·cases hw
  ·rename_i hn hj
   simp only[zaa] at hw
   subst hw
   cases hq:a.tmps[t]? with
   |none=>simp
   |some u=>
    rw[hq] at hv
    simp only[Option.getD_some] at hv
    cases u with
    |bool x=>
     exfalso
     generalize f.get qag t=av at hv hn hj
     cases hv with
     |p c v hp=>cases hp;exact hn _ rfl
     |junk=>exact hj rfl
    |_=>simp
theorem qdF {ops:Array Oper}{o:Oper}{c:COp}{dr:Bool}(hc:cOp P lof dr nt ops o=some c):qjB P lof dr o=some c.op/\c.dst=o.dst/\∀t,o.dst=some t->t<nt:=by
 simp only[cOp,zac] at hc
 obtain⟨g,hg,hc⟩:=hc
 obtain⟨hd,hc⟩:=qac hc
 simp only[zab] at hc
 obtain⟨i,hi,rfl⟩:=hc
 refine⟨hi,rfl,fun t ht=>?_⟩
 rw[ht] at hd
 exact blt_iff.1 hd
theorem qgp {ro:Option Nat}{o:Oper}{Pst:Value->World->Prop}{r:Result Next}(h:NextP P Pst r){next:Act->World->Prop}{Q:Exit->Act->World->Prop}(k:∀v w',Pst v w'->next (a.put o.dst v) w'):o.uponIn (FW ro) 0 P a next Q r:=by
 cases r with
 |halt x w=>exact h.elim
 |ok n w=>
  cases n with
  |value v=>exact k _ _ h
  |skip=>exact k _ _ h
  |enter f args=>
   refine⟨(fun e=>by cases e),?_⟩
   exact CallsIn.mono (F:=Fence.wide) h fun e w' ⟨v,he,hv⟩=>by subst he;exact k _ _ hv
  |round l f tmps as_ b=>
   refine⟨(fun e=>by cases e),?_⟩
   exact RoundIn.mono (F:=Fence.wide) h fun e w' ⟨v,he,hv⟩=>by subst he;exact k _ _ hv
  |_=>exact h.elim
theorem qj0 {o:Oper}{i:Ins}{dr:Bool}(h:qjB P lof dr o=some i):∀c,o.op≠.defer c:=by
 intro c e
 simp only[qjB,e] at h
 cases h
theorem qb3 {ro:Option Nat}{o:Oper}{i:Ins}{dr:Bool}(hi:qjB P lof dr o=some i){Pst:Value->World->Prop}(h:NextP P Pst ((execOp a.eval o).run P w)){next:Act->World->Prop}{Q:Exit->Act->World->Prop}(k:∀v w',Pst v w'->next (a.put o.dst v) w'):
  o.wpIn (FW ro) 0 P a w next Q:=by
 refine⟨fun _ _=>trivial,?_⟩
 rw[Oper.semAt_eq _ _ _ (qj0 hi)]
 exact qgp h k
theorem qqo {ro:Option Nat}{e:Env}(se:SoundEnv P e){ops:Array Oper}{o:Oper}{co:COp}{c c':Cfg}(hc:cOp P lof false nt ops o=some co)(cr:CR P e.E U0 lof nt base c G w a)(hev:qgU e c co=some c'){K:Act->World->Prop}{Q:Exit->Act->World->Prop}
  (k:∀G' a' w',Ext G w G' w'->CR P e.E U0 lof nt base c' G' w' a'->c'.rd=c.rd->K a' w'):if Region.wanted o (yielded ops a.tmps) then o.wpIn (FW ro) 0 P a w K Q else(∀f,o.about P w a.eval=some f->(FW ro).fn f)/\K (a.put o.dst undef) w:=by
 obtain⟨hi,hdst,hd⟩:=qdF hc
 simp only[qgU,zac] at hev
 obtain⟨b,hb,hev⟩:=hev
 rw[qgo hc hb (fun t b _=>cr.fr.1 t)]
 cases b with
 |false=>
  simp only[cond_false,zaa] at hev
  subst hev
  refine⟨fun _ _=>trivial,k G _ _ (Ext.refl G w) ⟨?_,by rw[qfA];exact cr.sz,by rw[Cfg.put_l,Cfg.put_s];exact cr.mr,by rw[Cfg.put_l];exact cr.lh,by rw[qdx];exact cr.df,cr.bs⟩ (Cfg.put_rd _ _ _)⟩
  rw[hdst]
  exact cr.fr.dst (fun t ht=>by rw[cr.sz];exact hd t ht) .undef c rfl
 |true=>
  simp only[cond_true,zab] at hev
  obtain⟨⟨v,c2⟩,hev,rfl⟩:=hev
  rw[if_pos rfl]
  obtain⟨h1,h2,h3,h4,h5⟩:=qjZ se cr.mr hi (fun e=>by cases e) cr.lh (fun _ _=>rfl) (cr.fr.reads _) hev
  refine qb3 hi h5 fun u w' ⟨G',x,m,hv⟩=>k G' _ _ x ⟨?_,by rw[qfA];exact cr.sz,by simp only[Cfg.put_l,Cfg.put_s];exact m,by simp only[Cfg.put_l];exact fun t j hj=>by rw[h4];exact cr.lh t j hj,by rw[qdx];exact cr.df.ext x,zaN cr.bs x.size⟩ (by rw[Cfg.put_rd];exact h3)
  simp only[hdst]
  exact(cr.fr.ext x).dst (fun t ht=>by rw[cr.sz];exact hd t ht) hv c2 h1
theorem qj1 {ro:Option Nat}{e:Env}(se:SoundEnv P e){ops:Array Oper}{Q:Exit->Act->World->Prop}:∀(l:List Oper) (k:Nat) {cs:List COp} {c c':Cfg} {G:Gh} {a:Act} {w:World},(∀i:Nat,l[i]? =ops[k+i]?)->qjC P lof false nt ops l=some cs->CR P e.E U0 lof nt base c G w a->qc5 e cs c=some c'->
  (∀G' a' w',Ext G w G' w'->CR P e.E U0 lof nt base c' G' w' a'->c'.rd=c.rd->Q .normal a' w')->wpOpsIn (FW ro) 0 P ops Q (List.range' k l.length) a w
 |[],k,cs,c,c',G,a,w,_,hc,cr,hev,hq=>by
  simp only[qjC,zaa] at hc
  subst hc
  simp only[qc5,zaa] at hev
  subst hev
  exact hq G a w (Ext.refl G w) cr rfl
 |o::l,k,cs,c,c',G,a,w,hl,hc,cr,hev,hq=>by
  simp only[qjC,zac,zab] at hc
  obtain⟨co,hco,cs',hcs,rfl⟩:=hc
  simp only[qc5,zac] at hev
  obtain⟨c1,hev1,hev2⟩:=hev
  have ho:ops[k]? =some o:=(hl 0).symm
  rw[List.length_cons,List.range'_succ]
  simp only[wpOpsIn,ho]
  refine qqo se hco cr hev1 fun G1 a1 w1 x1 cr1 hrd=>?_
  refine qj1 se l (k+1) (fun i=>?_) hcs cr1 hev2 fun G2 a2 w2 x2 cr2 hrd2=>hq G2 a2 w2 (x1.trans x2) cr2 (hrd2.trans hrd)
  have:=hl (i+1)
  rw[show k+(i+1)=k+1+i by omega] at this
  rw[<-this]
  rfl
theorem qox {ro:Option Nat}{e:Env}(se:SoundEnv P e){id:Nat}{ops:Array Oper}{Q:Exit->Act->World->Prop}{cs:List COp}{c c':Cfg}(hc:qjC P lof false nt ops ops.toList=some cs)(cr:CR P e.E U0 lof nt base c G w a)(hev:qc5 e cs c=some c')
  (hq:∀G' a' w',Ext G w G' w'->CR P e.E U0 lof nt base c' G' w' a'->c'.rd=c.rd->Q .normal a' w'):(Code.region id ops false).wpIn (FW ro) 0 P Q a w:=by
 refine wpIn_region ?_
 have:=qj1 (ro:=ro) se ops.toList 0 (cs:=cs) (fun i=>by simp) hc cr hev hq
 rw[zax] at this
 rw[List.range_eq_range']
 exact this
end Go.AI
namespace Go.AI
theorem qcx:∀(l:List (List Nat)) (acc:List Nat),∃t,qck l acc=acc++t/\t.length=l.length
 |[],acc=>⟨[],by simp[qck],rfl⟩
 |es::r,acc=>by
  obtain⟨t,h1,h2⟩:=qcx r (acc++[es.foldl (fun s e=>s|||(2^e|||acc.getD e 0)) 0])
  exact⟨_::t,by rw[qck,h1,List.append_assoc];rfl,by simp[h2]⟩
theorem qhY:∀(l:List (List Nat)) (acc:List Nat) (k:Nat) (es:List Nat),l[k]? =some es->(∀e∈es,e<acc.length+k)->
  (qck l acc).getD (acc.length+k) 0=es.foldl (fun s e=>s|||(2^e|||(qck l acc).getD e 0)) 0
 |es'::r,acc,0,es,h,hb=>by
  simp only[zak,zaa] at h
  subst h
  rw[qck]
  obtain⟨t,h1,h2⟩:=qcx r (acc++[es'.foldl (fun s e=>s|||(2^e|||acc.getD e 0)) 0])
  rw[h1]
  have e1:∀e,e∈es'->(acc++[es'.foldl (fun s e=>s|||(2^e|||acc.getD e 0)) 0]++t).getD e 0=acc.getD e 0:=fun e he=>by
   have:=hb e he
   rw[List.append_assoc]
   simp only[List.getD_eq_getElem?_getD]
   rw[zat (by omega)]
  have e2:(acc++[es'.foldl (fun s e=>s|||(2^e|||acc.getD e 0)) 0]++t).getD (acc.length+0) 0=es'.foldl (fun s e=>s|||(2^e|||acc.getD e 0)) 0:=by
   rw[List.append_assoc]
   simp only[List.getD_eq_getElem?_getD]
   rw[zas (by omega)]
   simp
  rw[e2]
  generalize acc++[es'.foldl (fun s e=>s|||(2^e|||acc.getD e 0)) 0]++t=M at e1
  clear e2 h1
  have:∀(xs:List Nat) (z:Nat),(∀e∈xs,M.getD e 0=acc.getD e 0)->xs.foldl (fun s e=>s|||(2^e|||acc.getD e 0)) z=xs.foldl (fun s e=>s|||(2^e|||M.getD e 0)) z:=by
   intro xs
   induction xs with
   |nil=>intros;rfl
   |cons x xs ih=>
    intro z hx
    simp only[List.foldl_cons]
    rw[hx x (List.mem_cons_self),ih _ fun e he=>hx e (List.mem_cons_of_mem _ he)]
  exact this es' 0 e1
 |es'::r,acc,k+1,es,h,hb=>by
  rw[qck]
  have:=qhY r (acc++[es'.foldl (fun s e=>s|||(2^e|||acc.getD e 0)) 0]) k es (by simpa using h) (fun e he=>by have:=hb e he;simp;omega)
  simp only[zal,List.length_cons,List.length_nil] at this
  rw[show acc.length+(k+1)=acc.length+(0+1)+k by omega]
  exact this
theorem qhZ (M:List Nat):∀(es:List Nat) (z i:Nat),(es.foldl (fun s e=>s|||(2^e|||M.getD e 0)) z).testBit i=(z.testBit i||es.any fun e=>decide (e=i)||(M.getD e 0).testBit i)
 |[],z,i=>by simp
 |e::es,z,i=>by
  simp only[List.foldl_cons,List.any_cons]
  rw[qhZ M es]
  simp only[Nat.testBit_or,Nat.testBit_two_pow,Bool.or_assoc]
theorem qgq {ess:List (List Nat)}{k:Nat}{es:List Nat}(h:ess[k]? =some es)(hb:∀e∈es,e<k)(i:Nat):qa9 (qck ess []) k i=true↔∃e∈es,e=i\/qa9 (qck ess []) e i=true:=by
 unfold qa9
 have:=qhY ess [] k es h (fun e he=>by simpa using hb e he)
 simp only[List.length_nil,zaI] at this
 rw[this,qhZ]
 simp only[Nat.zero_testBit,Bool.false_or,List.any_eq_true,zaE,decide_eq_true_eq]
theorem qlT {ess:List (List Nat)}(hb:∀(k:Nat) es,ess[k]? =some es->∀e∈es,e<k):∀k i,qa9 (qck ess []) k i=true->i<k:=by
 intro k
 induction k using Nat.strongRecOn with
 |_ k ih=>
  intro i h
  cases hk:ess[k]? with
  |none=>
   unfold qa9 at h
   obtain⟨t,h1,h2⟩:=qcx ess []
   have:ess.length<=k:=List.getElem?_eq_none_iff.1 hk
   rw[h1] at h
   simp only[List.nil_append,List.getD_eq_getElem?_getD] at h
   rw[List.getElem?_eq_none (by omega)] at h
   simp at h
  |some es=>
   obtain⟨e,he,h⟩:=(qgq hk (hb k es hk) i).1 h
   have:=hb k es hk e he
   rcases h with rfl|h
   ·exact this
   ·have:=ih e this i h;omega
theorem qfB (e:Env):∀(l:List COp) (c:Cfg) (T:List Cfg),qa2 e l c=some T->T.length=l.length+1/\T[0]? =some c/\
  (∀(i:Nat) co,l[i]? =some co->∃x y,T[i]? =some x/\T[i+1]? =some y/\qgU e x co=some y)/\∀d,T[l.length]? =some (qbl d T)
 |[],c,T,h=>by
  simp only[qa2,zaa] at h
  subst h
  exact⟨rfl,rfl,fun i co h=>by simp at h,fun d=>rfl⟩
 |o::l,c,T,h=>by
  simp only[qa2,zac,zab] at h
  obtain⟨c',hc,T',hT,rfl⟩:=h
  obtain⟨h1,h2,h3,h4⟩:=qfB e l c' T' hT
  refine⟨by simp[h1],rfl,fun i co hi=>?_,fun d=>?_⟩
  ·cases i with
   |zero=>
    simp only[zak,zaa] at hi
    subst hi
    exact⟨c,c',rfl,by simpa using h2,hc⟩
   |succ i=>
    obtain⟨x,y,h5,h6,h7⟩:=h3 i co (by simpa using hi)
    exact⟨x,y,by simpa using h5,by simpa using h6,h7⟩
  ·simp only[List.length_cons,List.getElem?_cons_succ,qbl]
   exact h4 c
section
variable {e:Env} {x y:Cfg} {i:Ins} {v:zA}
theorem qe9 (hp:qaU i=true):qaf e x i=(qai x.f i).map fun v=>(v,x):=by
 cases i<;>first|rfl|cases hp
theorem qcV (hp:i.light=true)(hev:qaf e x i=some (v,y)):y=x:=by
 by_cases h:qaU i=true
 ·rw[qe9 h] at hev
  simp only[zab,zad] at hev
  obtain⟨_,_,_,rfl⟩:=hev
  rfl
 ·cases i<;>try (exact absurd rfl h)
  all_goals try (cases hp;done)
  case b2s=>
   simp only[qaf,zab,zad] at hev
   obtain⟨_,_,_,rfl⟩:=hev
   rfl
  ·simp only[qaf,zaa,zad] at hev
   exact hev.2.symm
  ·simp only[qaf,zab,zad] at hev
   obtain⟨_,_,_,rfl⟩:=hev
   rfl
  ·simp only[qaf,zac,zab,zad] at hev
   obtain⟨_,_,_,_,_,rfl⟩:=hev
   rfl
  ·simp only[qaf] at hev
   obtain⟨_,hev⟩:=qac hev
   simp only[zab,zad] at hev
   obtain⟨_,_,_,rfl⟩:=hev
   rfl
  ·simp only[qaf,zac] at hev
   obtain⟨_,_,_,_,hev⟩:=hev
   obtain⟨_,hev⟩:=qac hev
   simp only[zab] at hev
   obtain⟨r,_,hev⟩:=hev
   cases r<;>(simp only[zad] at hev;obtain⟨_,rfl⟩:=hev;rfl)
  ·simp only[qaf,zab,zad] at hev
   obtain⟨_,_,_,rfl⟩:=hev
   rfl
theorem qcd {α:Type}{d:α}:∀{t:Tr α} {i:Nat},t.has i=false->t.get d i=d
 |.nil,_,_=>rfl
 |.node v l r,i,h=>by
  unfold Tr.has at h
  unfold Tr.get
  cases h1:Nat.beq i 0 with
  |true=>rw[h1] at h;cases h
  |false=>
   rw[h1] at h
   cases h2:Nat.beq (i%2) 1 with
   |true=>rw[h2] at h;exact qcd (t:=l) h
   |false=>rw[h2] at h;exact qcd (t:=r) h
structure Like (x y:Cfg):Prop where
 h:y.h=x.h
 rd:y.rd=x.rd
 gen:∀j,(y.l.get (0,[]) j).1=(x.l.get (0,[]) j).1
 has:∀j,y.l.has j=x.l.has j
theorem Like.refl (x:Cfg):Like x x:=⟨rfl,rfl,fun _=>rfl,fun _=>rfl⟩
theorem Like.trans {x y z:Cfg}(h:Like x y)(k:Like y z):Like x z:=⟨k.h.trans h.h,k.rd.trans h.rd,fun j=>(k.gen j).trans (h.gen j),fun j=>(k.has j).trans (h.has j)⟩
theorem qgr {a:zA}{cs:List zA}(hs:qbm x a cs=some y):y.f=x.f/\Like x y:=by
 unfold qbm at hs
 split at hs<;>try (cases hs;done)
 ·rename_i i g off
  generalize hli:x.l.get (0,[]) i=p at hs
  obtain⟨g',old⟩:=p
  simp only at hs
  obtain⟨_,hs⟩:=qac hs
  simp only[zab] at hs
  obtain⟨new,_,rfl⟩:=hs
  refine⟨rfl,rfl,rfl,fun j=>?_,fun j=>Tr.has_set _ _ _ _⟩
  simp only
  by_cases e:i=j
  ·subst e
   cases hh:x.l.has i with
   |true=>rw[Tr.get_set_eq _ _ _ _ hh,hli]
   |false=>rw[qcd (by rw[Tr.has_set];exact hh),qcd hh]
  ·rw[Tr.get_set_ne _ _ _ _ _ e]
 ·split at hs<;>try (cases hs;done)
  obtain⟨_,hs⟩:=qac hs
  simp only[zac,zab] at hs
  obtain⟨_,_,_,_,rfl⟩:=hs
  exact⟨rfl,rfl,rfl,fun _=>rfl,fun _=>rfl⟩
theorem qem (hp:i.heavy=true)(hev:qaf e x i=some (v,y)):y.f=x.f/\Like x y:=by
 have same:∀{s:ASt},({x with s:=s}:Cfg).f=x.f/\Like x {x with s:=s}:=⟨rfl,rfl,rfl,fun _=>rfl,fun _=>rfl⟩
 cases i<;>try (cases hp;done)
 case store=>
  simp only[qaf,zac,zab,zad] at hev
  obtain⟨_,_,z,hs,_,rfl⟩:=hev
  exact qgr hs
 case hbox=>
  simp only[qaf,zac] at hev
  obtain⟨cs,_,hev⟩:=hev
  obtain⟨_,hev⟩:=qac hev
  simp only[zaa,zad] at hev
  obtain⟨_,rfl⟩:=hev
  exact same
 case mkh=>
  simp only[qaf,zac] at hev
  obtain⟨_,_,_,_,hev⟩:=hev
  obtain⟨_,hev⟩:=qac hev
  simp only[zaa,zad] at hev
  obtain⟨_,rfl⟩:=hev
  exact same
 case mkl=>
  simp only[qaf,zac] at hev
  obtain⟨cs,_,hev⟩:=hev
  obtain⟨_,hev⟩:=qac hev
  simp only[zaa,zad] at hev
  obtain⟨_,rfl⟩:=hev
  exact same
 case call=>
  simp only[qaf,zab,zad] at hev
  obtain⟨⟨r,s⟩,_,_,rfl⟩:=hev
  exact same
 case callv=>
  simp only[qaf,zab,zad] at hev
  obtain⟨⟨r,s⟩,_,_,rfl⟩:=hev
  exact same
 case app=>
  simp only[qaf,zac] at hev
  obtain⟨⟨m,new⟩,_,hev⟩:=hev
  simp only at hev
  split at hev<;>try (cases hev;done)
  obtain⟨_,hev⟩:=qac hev
  revert hev
  cases Nat.beq m 0 with
  |true=>
   intro hev
   simp only[cond_true,zaa,zad] at hev
   obtain⟨_,rfl⟩:=hev
   exact⟨rfl,.refl _⟩
  |false=>
   intro hev
   simp only[cond_false] at hev
   split at hev
   ·obtain⟨_,hev⟩:=qac hev
    simp only[zaa,zad] at hev
    obtain⟨_,rfl⟩:=hev
    exact same
   ·split at hev<;>try (cases hev;done)
    obtain⟨_,hev⟩:=qac hev
    simp only[zab,zad] at hev
    obtain⟨_,_,_,rfl⟩:=hev
    exact same
 case apph=>
  simp only[qaf,zac] at hev
  obtain⟨⟨m,new⟩,_,hev⟩:=hev
  obtain⟨_,hev⟩:=qac hev
  simp only[zab,zad] at hev
  obtain⟨_,_,_,rfl⟩:=hev
  exact same
 case inv=>
  simp only[qaf] at hev
  split at hev<;>try (cases hev;done)
  ·simp only[zac,zab,zad] at hev
   obtain⟨_,_,⟨r,s⟩,_,_,rfl⟩:=hev
   exact same
  ·simp only[zac,zab,zad] at hev
   obtain⟨_,_,⟨r,s⟩,_,_,rfl⟩:=hev
   exact same
 case s2b=>
  simp only[qaf] at hev
  split at hev<;>try (cases hev;done)
  simp only[zaa,zad] at hev
  obtain⟨_,rfl⟩:=hev
  exact same
 case cpy=>
  simp only[qaf,zac] at hev
  obtain⟨⟨m,new⟩,_,hev⟩:=hev
  obtain⟨_,hev⟩:=qac hev
  split at hev<;>try (cases hev;done)
  obtain⟨_,hev⟩:=qac hev
  split at hev<;>try (cases hev;done)
  simp only[zac,zab,zad] at hev
  obtain⟨_,_,_,_,_,rfl⟩:=hev
  exact same
 case clr=>
  simp only[qaf] at hev
  split at hev<;>try (cases hev;done)
  ·obtain⟨_,hev⟩:=qac hev
   split at hev<;>try (cases hev;done)
   simp only[zac,zab,zad] at hev
   obtain⟨_,_,_,_,_,rfl⟩:=hev
   exact same
  ·simp only[zaa,zad] at hev
   obtain⟨_,rfl⟩:=hev
   exact same
 case appz=>
  simp only[qaf,zac] at hev
  obtain⟨_,_,hev⟩:=hev
  split at hev<;>try (cases hev;done)
  obtain⟨_,hev⟩:=qac hev
  simp only[zaa,zad] at hev
  obtain⟨_,rfl⟩:=hev
  exact same
 case insert=>
  simp only[qaf,zac] at hev
  obtain⟨_,_,hev⟩:=hev
  split at hev<;>try (cases hev;done)
  split at hev<;>try (cases hev;done)
  obtain⟨_,hev⟩:=qac hev
  simp only[zac,zab,zad] at hev
  obtain⟨_,_,_,_,_,rfl⟩:=hev
  exact same
 case ment=>
  simp only[qaf,zac] at hev
  obtain⟨_,_,hev⟩:=hev
  split at hev<;>try (cases hev;done)
  split at hev<;>try (cases hev;done)
  obtain⟨_,hev⟩:=qac hev
  simp only[zac] at hev
  obtain⟨r,_,hev⟩:=hev
  cases r<;>(simp only[zab,zad] at hev;obtain⟨_,_,_,rfl⟩:=hev;exact same)
 case mest=>
  simp only[qaf,zac] at hev
  obtain⟨_,_,hev⟩:=hev
  split at hev<;>try (cases hev;done)
  split at hev<;>try (cases hev;done)
  obtain⟨_,hev⟩:=qac hev
  simp only[zac,zab,zad] at hev
  obtain⟨_,_,_,_,_,rfl⟩:=hev
  exact same
theorem qen {co:COp}(hev:qgU e x co=some y):∃b,wanted x.f co.guard=some b/\(b=true->∃v z,qaf e x co.op=some (v,z)/\y=z.put co.dst v)/\(b=false->y=x.put co.dst qag):=by
 simp only[qgU,zac] at hev
 obtain⟨b,hb,hev⟩:=hev
 refine⟨b,hb,fun h=>?_,fun h=>?_⟩
 ·subst h
  simp only[cond_true,zab] at hev
  obtain⟨⟨v,z⟩,h1,h2⟩:=hev
  exact⟨v,z,h1,h2.symm⟩
 ·subst h
  simp only[cond_false,zaa] at hev
  exact hev.symm
theorem Like.put (h:Like x y)(d:Option Nat)(v:zA):Like x (y.put d v):=⟨by rw[Cfg.put_h];exact h.h,by rw[Cfg.put_rd];exact h.rd,fun j=>by rw[Cfg.put_l];exact h.gen j,fun j=>by rw[Cfg.put_l];exact h.has j⟩
theorem Cfg.put_f_ne (x:Cfg)(d:Option Nat)(v:zA)(t:Nat)(h:d≠some t):(x.put d v).f.get qag t=x.f.get qag t:=by
 cases d with
 |none=>rfl
 |some q=>exact Tr.get_set_ne _ _ _ _ _ (fun e=>h (by rw[e]))
theorem Cfg.put_f_has (x:Cfg)(d:Option Nat)(v:zA)(t:Nat):(x.put d v).f.has t=x.f.has t:=by
 cases d with
 |none=>rfl
 |some q=>exact Tr.has_set _ _ _ _
theorem qb4 {co:COp}(hk:co.op.heavy=true\/co.op.light=true)(hev:qgU e x co=some y):
  Like x y/\(∀t,co.dst≠some t->y.f.get qag t=x.f.get qag t)/\(∀t,y.f.has t=x.f.has t)/\(co.op.heavy=false->y.l=x.l/\y.s=x.s):=by
 obtain⟨b,hb,h1,h2⟩:=qen hev
 cases b with
 |false=>
  have:=h2 rfl
  subst this
  exact⟨(Like.refl x).put _ _,fun t ht=>Cfg.put_f_ne _ _ _ _ ht,fun t=>Cfg.put_f_has _ _ _ _,fun _=>⟨Cfg.put_l _ _ _,Cfg.put_s _ _ _⟩⟩
 |true=>
  obtain⟨v,z,h3,rfl⟩:=h1 rfl
  rcases hk with hk|hk
  ·obtain⟨h4,h5⟩:=qem hk h3
   exact⟨h5.put _ _,fun t ht=>by rw[Cfg.put_f_ne _ _ _ _ ht,h4],fun t=>by rw[Cfg.put_f_has,h4],fun e=>by rw[hk] at e;cases e⟩
  ·have:=qcV hk h3
   subst this
   exact⟨(Like.refl z).put _ _,fun t ht=>Cfg.put_f_ne _ _ _ _ ht,fun t=>Cfg.put_f_has _ _ _ _,fun _=>⟨Cfg.put_l _ _ _,Cfg.put_s _ _ _⟩⟩
end
mutual
theorem qfC:∀(x y:zP),qbw x y=true->x=y
 |.int k a,y,h=>by
  cases y with
  |int k' b=>
   simp only[qbw,zae] at h
   rw[qcQ,qco] at h
   rw[of_decide_eq_true h.1,of_decide_eq_true h.2]
  |_=>simp[qbw] at h
 |.bool a,y,h=>by
  cases y with
  |bool b=>cases a<;>cases b<;>first|rfl|(simp[qbw] at h)
  |_=>simp[qbw] at h
 |.str a,y,h=>by
  cases y with
  |str b=>
   simp only[qbw] at h
   rw[qcp] at h
   rw[of_decide_eq_true h]
  |_=>simp[qbw] at h
 |.sl n cs,y,h=>by
  cases y with
  |sl m ds=>
   simp only[qbw,zae] at h
   rw[beq_iff.1 h.1,qa4 cs ds h.2]
  |_=>simp[qbw] at h
 |.nilp,y,h=>by cases y<;>first|rfl|(simp[qbw] at h)
 |.nilFunc,y,h=>by cases y<;>first|rfl|(simp[qbw] at h)
 |.nilMap,y,h=>by cases y<;>first|rfl|(simp[qbw] at h)
 |.nilSl,y,h=>by cases y<;>first|rfl|(simp[qbw] at h)
 |.emSl,y,h=>by cases y<;>first|rfl|(simp[qbw] at h)
 |.nilIface,y,h=>by cases y<;>first|rfl|(simp[qbw] at h)
 |.nil0,y,h=>by cases y<;>first|rfl|(simp[qbw] at h)
 |.iface t a,y,h=>by
  cases y with
  |iface u b=>
   simp only[qbw,zae] at h
   rw[beq_iff.1 h.1,qfC a b h.2]
  |_=>simp[qbw] at h
 |.func f a b,y,h=>by
  cases y with
  |func g c d=>
   simp only[qbw,zae] at h
   rw[beq_iff.1 h.1,qa4 a c h.2.1,qa4 b d h.2.2]
  |_=>simp[qbw] at h
 |.agg cs,y,h=>by
  cases y with
  |agg ds=>
   simp only[qbw] at h
   rw[qa4 cs ds h]
  |_=>simp[qbw] at h
theorem qa4:∀(x y:List zP),qbP x y=true->x=y
 |[],ys,h=>by cases ys with
  |nil=>rfl
  |cons=>simp[qbP] at h
 |x::xs,ys,h=>by
  cases ys with
  |nil=>simp[qbP] at h
  |cons y ys=>
   simp only[qbP,zae] at h
   rw[qfC x y h.1,qa4 xs ys h.2]
end
theorem qj2 {a b:Tk}(h:qnB a b=true):a=b:=by
 cases a<;>cases b<;>first|rfl|(cases h;done)|(rw[beq_iff.1 h])
theorem qcW {α:Type}{f:α->α->Bool}(hf:∀a b,f a b=true->a=b):∀{a b:List α},qlB f a b=true->a=b
 |[],[],_=>rfl
 |x::xs,y::ys,h=>by
  simp only[qlB,zae] at h
  rw[hf _ _ h.1,qcW hf h.2]
 |[],_::_,h=>by cases h
 |_::_,[],h=>by cases h
theorem qh0 (a b:zA)(h:qlA a b=true):a=b:=by
 unfold qlA at h
 split at h
 ·rw[qfC _ _ h]
 ·simp only[zae] at h
  rw[beq_iff.1 h.1,qa4 _ _ h.2.1,qj2 h.2.2]
 ·simp only[zae] at h
  rw[beq_iff.1 h.1,beq_iff.1 h.2]
 ·simp only[zae] at h
  rw[beq_iff.1 h.1,beq_iff.1 h.2.1,beq_iff.1 h.2.2]
 ·simp only[zae] at h
  rw[qa4 _ _ h.1,beq_iff.1 h.2]
 ·rw[beq_iff.1 h]
 ·rw[beq_iff.1 h]
 ·simp only[zae] at h
  obtain⟨h1,h2,h3,h4,h5,h6⟩:=h
  rw[beq_iff.1 h1,beq_iff.1 h2,beq_iff.1 h3,beq_iff.1 h4,beq_iff.1 h5]
  congr 1
  revert h6
  rename_i p p'
  cases p<;>cases p'<;>simp
 ·cases h
theorem qh1:∀(k:Nat) (a b:zA),qff k a b=true->a=b
 |0,a,b,h=>qh0 a b h
 |k+1,a,b,h=>by
  have ih:=qh1 k
  unfold qff at h
  split at h
  ·simp only[zae] at h
   rw[beq_iff.1 h.1,qcW ih h.2]
  ·simp only[zae] at h
   rw[beq_iff.1 h.1,qcW ih h.2]
  ·simp only[zae] at h
   rw[beq_iff.1 h.1,qcW ih h.2.1,qcW ih h.2.2]
  ·simp only[zae] at h
   rw[beq_iff.1 h.1,ih _ _ h.2]
  ·rw[qcW ih h]
  ·exact qh0 _ _ h
theorem qh2 (a b:zA)(h:qn8 a b=true):a=b:=qh1 8 a b h
theorem qlU (a b:zA)(h:qn9 a b=true):a=b:=by
 unfold qn9 at h
 split at h
 ·rw[qcW qh2 h]
 ·exact qh2 _ _ h
theorem qj3 {a b:Option zA}(h:qch a b=true):a=b:=by
 unfold qch at h
 split at h
 ·rw[qlU _ _ h]
 ·cases h
end Go.AI
namespace Go.AI
variable {P:Program} {e:Env} {lof:Nat->Option Nat} {nt base:Nat} {ops:Array Oper} {cs:List COp} {ms:List Nat} {tr:Nat->Cfg} {G0:Gh} {w0:World} {U0:Nat->Option (List zA)}
def AL (P:Program)(ops:Array Oper)(cs:List COp)(i q:Nat)(z:List zA):Prop:=∃o co t,ops[i]? =some o/\cs[i]? =some co/\co.op=.alloced q/\o.op=.alloc t/\zeroCells P t=some z
def HL (P:Program)(ops:Array Oper)(cs:List COp)(h:List (Nat×Nat))(i q:Nat)(z:List zA):Prop:=∃o co t d,ops[i]? =some o/\cs[i]? =some co/\co.op=.halloced d/\qap h d=some q/\o.op=.alloc t/\zeroCells P t=some z
structure Drawn (P:Program)(e:Env)(lof:Nat->Option Nat)(nt:Nat)(ops:Array Oper)(cs:List COp)(ms:List Nat)(tr:Nat->Cfg):Prop where
 len:cs.length=ops.size
 cop:∀(i:Nat) o co,ops[i]? =some o->cs[i]? =some co->cOp P lof true nt ops o=some co
 step:∀(i:Nat) co,cs[i]? =some co->qgU e (tr i) co=some (tr (i+1))
 kind:∀(i:Nat) co,cs[i]? =some co->co.op.heavy=true\/co.op.light=true
 pair:∀(i j:Nat) a b,i<j->cs[i]? =some a->cs[j]? =some b->qd6 ms i a j b=true
 wlt:∀k i,qa9 ms k i=true->i<k
 al1:∀i j q z z',AL P ops cs i q z->AL P ops cs j q z'->i=j
 hl1:∀i j q z z',HL P ops cs (tr 0).h i q z->HL P ops cs (tr 0).h j q z'->i=j
 hl2:∀(i:Nat) co d,cs[i]? =some co->co.op=.halloced d->∃q,qap (tr 0).h d=some q
 pre:∀(i:Nat) o co,ops[i]? =some o->cs[i]? =some co->qf7 co.op=true->∃t,o.op=.alloc t
 grd:∀(i:Nat) co,cs[i]? =some co->qf7 co.op=true->co.guard=none
 chk:∀(i j:Nat) co b,cs[i]? =some co->qbz co.op=true->wanted (tr i).f co.guard=some true->cs[j]? =some b->b.op.heavy=true->qa9 ms j i=false->qa9 ms i j=false->
  rdv e (tr i).f co.op (tr (j+1)).l (tr (j+1)).s=rdv e (tr i).f co.op (tr j).l (tr j).s
 lh:∀t j,lof t=some j->(tr 0).l.has j=true
 has0:∀t,t<nt->(tr 0).f.has t=true
section
variable (D:Drawn P e lof nt ops cs ms tr)
include D
theorem Drawn.like (i:Nat)(h:i<=cs.length):Like (tr 0) (tr i):=by
 induction i with
 |zero=>exact .refl _
 |succ i ih=>
  have hi:cs[i]? =some (cs[i]'(by omega)):=zai (by omega)
  exact(ih (by omega)).trans (qb4 (D.kind i _ hi) (D.step i _ hi)).1
theorem Drawn.has (i:Nat)(h:i<=cs.length)(t:Nat)(ht:t<nt):(tr i).f.has t=true:=by
 induction i with
 |zero=>exact D.has0 t ht
 |succ i ih=>
  have hi:cs[i]? =some (cs[i]'(by omega)):=zai (by omega)
  rw[(qb4 (D.kind i _ hi) (D.step i _ hi)).2.2.1]
  exact ih (by omega)
theorem Drawn.frame {i k t:Nat}(hik:i<=k)(hk:k<=cs.length)(hn:∀(j:Nat) b,i<=j->j<k->cs[j]? =some b->b.dst≠some t):(tr k).f.get qag t=(tr i).f.get qag t:=by
 induction k with
 |zero=>rw[show i=0 by omega]
 |succ k ih=>
  by_cases e:i=k+1
  ·rw[e]
  ·have hi:cs[k]? =some (cs[k]'(by omega)):=zai (by omega)
   rw[(qb4 (D.kind k _ hi) (D.step k _ hi)).2.1 t (hn k _ (by omega) (by omega) hi)]
   exact ih (by omega) (by omega) fun j b h1 h2=>hn j b h1 (by omega)
theorem Drawn.mem {i k:Nat}(hik:i<=k)(hk:k<=cs.length)(hn:∀(j:Nat) b,i<=j->j<k->cs[j]? =some b->b.op.heavy=false):(tr k).l=(tr i).l/\(tr k).s=(tr i).s:=by
 induction k with
 |zero=>rw[show i=0 by omega];exact⟨rfl,rfl⟩
 |succ k ih=>
  by_cases e:i=k+1
  ·rw[e];exact⟨rfl,rfl⟩
  ·have hi:cs[k]? =some (cs[k]'(by omega)):=zai (by omega)
   obtain⟨h1,h2⟩:=(qb4 (D.kind k _ hi) (D.step k _ hi)).2.2.2 (hn k _ (by omega) (by omega) hi)
   obtain⟨h3,h4⟩:=ih (by omega) (by omega) fun j b h1 h2=>hn j b h1 (by omega)
   exact⟨h1.trans h3,h2.trans h4⟩
theorem Drawn.read {f:Tr zA}{op:Ins}{i k:Nat}(hik:i<=k)(hk:k<=cs.length)(hn:∀(j:Nat) b,i<=j->j<k->cs[j]? =some b->b.op.heavy=true->rdv e f op (tr (j+1)).l (tr (j+1)).s=rdv e f op (tr j).l (tr j).s):
  rdv e f op (tr k).l (tr k).s=rdv e f op (tr i).l (tr i).s:=by
 induction k with
 |zero=>rw[show i=0 by omega]
 |succ k ih=>
  by_cases e:i=k+1
  ·rw[e]
  ·have hi:cs[k]? =some (cs[k]'(by omega)):=zai (by omega)
   rw[<-ih (by omega) (by omega) fun j b h1 h2=>hn j b h1 (by omega)]
   cases hh:(cs[k]'(by omega)).op.heavy with
   |true=>exact hn k _ (by omega) (by omega) hi hh
   |false=>
    obtain⟨h1,h2⟩:=(qb4 (D.kind k _ hi) (D.step k _ hi)).2.2.2 hh
    rw[h1,h2]
end
structure Inv (P:Program)(e:Env)(U0:Nat->Option (List zA))(nt base:Nat)(ops:Array Oper)(cs:List COp)(tr:Nat->Cfg)(G0:Gh)(w0:World)(S:Nat->Prop)(U pd:Nat->Option (List zA))(m:Nat)(G:Gh)(a:Act)(w:World):Prop where
 ext:Ext G0 w0 G w
 mr:MR P e.E U pd (tr m).l (tr m).s G w
 mle:m<=cs.length
 heavy:∀(j:Nat) b,cs[j]? =some b->b.op.heavy=true->(S j↔j<m)
 tmp:∀t,∃v,VR G w v (a.tmps.getD t undef)/\((∃(i:Nat) (co:COp),S i/\cs[i]? =some co/\co.dst=some t/\v=(tr (i+1)).f.get qag t/\∀(j:Nat) b,S j->i<j->cs[j]? =some b->b.dst≠some t)\/
  ((∀(j:Nat) b,S j->cs[j]? =some b->b.dst≠some t)/\v=(tr 0).f.get qag t))
 sz:a.tmps.size=nt
 df:Marks base G w a.defers
 pd_:∀q z,pd q=some z↔∃i,¬S i/\AL P ops cs i q z
 u_:∀q z,U q=some z↔U0 q=some z\/∃i,¬S i/\HL P ops cs (tr 0).h i q z
 u0:∀d q,qap (tr 0).h d=some q->U0 q=none
section
variable (D:Drawn P e lof nt ops cs ms tr) {S:Nat->Prop} {U pd:Nat->Option (List zA)} {m:Nat} {G:Gh} {a:Act} {w:World} (I:Inv P e U0 nt base ops cs tr G0 w0 S U pd m G a w)
include D I
theorem Inv.reads {i:Nat}{co:COp}(hi:cs[i]? =some co)(hS:¬S i)(hcl:∀k j,S k->qa9 ms k j=true->S j)(hrd:∀k,qa9 ms i k=true->S k){t:Nat}(ht:t∈co.reads):VR G w ((tr i).f.get qag t) (a.tmps.getD t undef):=by
 have hil:i<cs.length:=(zah.1 hi).1
 obtain⟨v,hv,hcase⟩:=I.tmp t
 have hwr:∀(j:Nat) b,cs[j]? =some b->b.dst=some t->j<i->S j:=by
  intro j b hj hd hji
  have:=D.pair j i b co hji hj hi
  unfold qd6 at this
  simp only[zaE,zae,zaj] at this
  rcases this with h|⟨_,h,_⟩
  ·exact hrd j h
  ·have:=h t (by unfold qfj;rw[hd];exact List.mem_singleton.2 rfl)
   simp only[zaH,List.contains_eq_mem,decide_eq_false_iff_not] at this
   exact absurd ht this.1
 have hbe:∀(j:Nat) b,cs[j]? =some b->b.dst=some t->i<j->¬S j:=by
  intro j b hj hd hij hSj
  have:=D.pair i j co b hij hi hj
  unfold qd6 at this
  simp only[zaE,zae,zaj] at this
  rcases this with h|⟨_,_,h⟩
  ·exact hS (hcl j i hSj h)
  ·have:=h t (by unfold qfj;rw[hd];exact List.mem_singleton.2 rfl)
   simp only[zaH,List.contains_eq_mem,decide_eq_false_iff_not] at this
   exact absurd ht this
 rcases hcase with⟨k,b,hSk,hk,hd,rfl,hlast⟩|⟨hno,rfl⟩
 ·have hki:k<i:=by
   rcases Nat.lt_trichotomy k i with h|h|h
   ·exact h
   ·subst h;exact absurd hSk hS
   ·exact absurd hSk (hbe k b hk hd h)
  rw[D.frame (i:=k+1) (k:=i) hki (by omega) fun j b' h1 h2 hj hd'=>hlast j b' (hwr j b' hj hd' h2) (by omega) hj hd']
  exact hv
 ·rw[D.frame (i:=0) (k:=i) (by omega) (by omega) fun j b' h1 h2 hj hd'=>hno j b' (hwr j b' hj hd' h2) hj hd']
  exact hv
theorem Inv.next {i:Nat}{co:COp}(hi:cs[i]? =some co)(hS:¬S i)(hcl:∀k j,S k->qa9 ms k j=true->S j){m':Nat}(hm':m'<=cs.length)(hheavy:∀(j:Nat) b,cs[j]? =some b->b.op.heavy=true->((S j\/j=i)↔j<m')){U' pd':Nat->Option (List zA)}
  (hpd:∀q z,pd' q=some z↔∃k,¬(S k\/k=i)/\AL P ops cs k q z)(hu:∀q z,U' q=some z↔U0 q=some z\/∃k,¬(S k\/k=i)/\HL P ops cs (tr 0).h k q z)
  {G':Gh}{w':World}(x:Ext G w G' w')(mr:MR P e.E U' pd' (tr m').l (tr m').s G' w'){v:zA}{u:Value}(hv:VR G' w' v u)(hd:∀t,co.dst=some t->t<nt/\v=(tr (i+1)).f.get qag t):
  Inv P e U0 nt base ops cs tr G0 w0 (fun j=>S j\/j=i) U' pd' m' G' (a.put co.dst u) w':=by
 have hbe:∀(j:Nat) b t,cs[j]? =some b->b.dst=some t->co.dst=some t->i<j->¬S j:=by
  intro j b t hj hd hco hij hSj
  have:=D.pair i j co b hij hi hj
  unfold qd6 at this
  simp only[zaE,zae,zaj] at this
  rcases this with h|⟨_,h,_⟩
  ·exact hS (hcl j i hSj h)
  ·have:=(h t (by unfold qfj;rw[hco];exact List.mem_singleton.2 rfl)).2
   unfold qfj at this
   rw[hd] at this
   simp at this
 refine⟨I.ext.trans x,mr,hm',hheavy,fun t=>?_,by rw[qfA];exact I.sz,by rw[qdx];exact I.df.ext x,hpd,hu,I.u0⟩
 by_cases e:co.dst=some t
 ·obtain⟨htn,hvt⟩:=hd t e
  refine⟨v,?_,.inl ⟨i,co,.inr rfl,hi,e,hvt,fun j b hj hij hb=>?_⟩⟩
  ·rw[e]
   have:(a.put (some t) u).tmps.getD t undef=u:=by
    rw[qhX,zap,Array.getElem?_setIfInBounds]
    simp[I.sz,htn]
   rw[this]
   exact hv
  ·intro hd'
   rcases hj with hj|hj
   ·exact hbe j b t hb hd' e hij hj
   ·omega
 ·obtain⟨v',hv',hc⟩:=I.tmp t
  refine⟨v',?_,?_⟩
  ·have:(a.put co.dst u).tmps.getD t undef=a.tmps.getD t undef:=by
    cases hco:co.dst with
    |none=>rfl
    |some d=>
     rw[qhX,zap,Array.getElem?_setIfInBounds,zap]
     rw[if_neg (fun e'=>e (by rw[hco,e']))]
   rw[this]
   exact hv'.ext x
  ·rcases hc with⟨k,b,hSk,hk,hd',hvv,hlast⟩|⟨hno,hvv⟩
   ·refine .inl ⟨k,b,.inl hSk,hk,hd',hvv,fun j b' hj hkj hb'=>?_⟩
    rcases hj with hj|hj
    ·exact hlast j b' hj hkj hb'
    ·subst hj
     rw[hi] at hb'
     cases hb'
     exact e
   ·refine .inr ⟨fun j b hj hb=>?_,hvv⟩
    rcases hj with hj|hj
    ·exact hno j b hj hb
    ·subst hj
     rw[hi] at hb
     cases hb
     exact e
theorem Inv.place {i:Nat}{co:COp}(hi:cs[i]? =some co)(hh:co.op.heavy=true)(hS:¬S i)(hcl:∀k j,S k->qa9 ms k j=true->S j)(hrd:∀k,qa9 ms i k=true->S k):
  (tr i).l=(tr m).l/\(tr i).s=(tr m).s/\∀(j:Nat) b,cs[j]? =some b->b.op.heavy=true->((S j\/j=i)↔j<i+1):=by
 have hil:i<cs.length:=(zah.1 hi).1
 have hbefore:∀(j:Nat) b,cs[j]? =some b->b.op.heavy=true->j<i->S j:=by
  intro j b hj hb hji
  have:=D.pair j i b co hji hj hi
  unfold qd6 at this
  simp only[zaE,zae,hb,hh] at this
  rcases this with h|⟨h,_⟩
  ·exact hrd j h
  ·simp at h
 have hafter:∀(j:Nat) b,cs[j]? =some b->b.op.heavy=true->i<j->¬S j:=by
  intro j b hj hb hij hSj
  have:=D.pair i j co b hij hi hj
  unfold qd6 at this
  simp only[zaE,zae,hb,hh] at this
  rcases this with h|⟨h,_⟩
  ·exact hS (hcl j i hSj h)
  ·simp at h
 have hmi:m<=i:=by
  rcases Nat.lt_or_ge i m with h|h
  ·exact absurd ((I.heavy i co hi hh).2 h) hS
  ·exact h
 obtain⟨h1,h2⟩:=D.mem hmi (by omega) fun j b hj1 hj2 hb=>by
  cases hbh:b.op.heavy with
  |false=>rfl
  |true=>
   have:=(I.heavy j b hb hbh).1 (hbefore j b hb hbh hj2)
   omega
 refine⟨h1,h2,fun j b hj hb=>⟨fun h=>?_,fun h=>?_⟩⟩
 ·rcases h with h|h
  ·rcases Nat.lt_trichotomy j i with h'|h'|h'
   ·omega
   ·omega
   ·exact absurd h (hafter j b hj hb h')
  ·omega
 ·rcases Nat.lt_or_ge j i with h'|h'
  ·exact .inl (hbefore j b hj hb h')
  ·exact .inr (by omega)
theorem Inv.light {i:Nat}{co:COp}(hi:cs[i]? =some co)(hh:co.op.heavy=false):∀(j:Nat) b,cs[j]? =some b->b.op.heavy=true->((S j\/j=i)↔j<m):=by
 have _:=D
 intro j b hj hb
 have:j≠i:=fun e=>by subst e;rw[hi] at hj;cases hj;rw[hh] at hb;cases hb
 rw[<-I.heavy j b hj hb]
 exact⟨fun h=>h.resolve_right this,.inl⟩
theorem Inv.pd_same {i:Nat}{co:COp}(hi:cs[i]? =some co)(hn:(∀q,co.op≠.alloced q)/\∀d,co.op≠.halloced d):
  (∀q z,pd q=some z↔∃k,¬(S k\/k=i)/\AL P ops cs k q z)/\(∀q z,U q=some z↔U0 q=some z\/∃k,¬(S k\/k=i)/\HL P ops cs (tr 0).h k q z):=by
 have _:=D
 constructor
 ·intro q z
  rw[I.pd_]
  constructor
  ·rintro ⟨k,h1,h2⟩
   refine⟨k,fun h=>h.elim h1 fun e=>?_,h2⟩
   obtain⟨o,co',t,_,h3,h4,_⟩:=h2
   subst e
   rw[hi] at h3
   cases h3
   exact hn.1 q h4
  ·rintro ⟨k,h1,h2⟩
   exact⟨k,fun h=>h1 (.inl h),h2⟩
 ·intro q z
  rw[I.u_]
  constructor
  ·rintro (h|⟨k,h1,h2⟩)
   ·exact .inl h
   refine .inr ⟨k,fun h=>h.elim h1 fun e=>?_,h2⟩
   obtain⟨o,co',t,d,_,h3,h4,_⟩:=h2
   subst e
   rw[hi] at h3
   cases h3
   exact hn.2 d h4
  ·rintro (h|⟨k,h1,h2⟩)
   ·exact .inl h
   exact .inr ⟨k,fun h=>h1 (.inl h),h2⟩
end
end Go.AI
namespace Go.AI
variable {P:Program} {e:Env} {lof:Nat->Option Nat} {nt base:Nat} {ops:Array Oper} {cs:List COp} {ms:List Nat} {tr:Nat->Cfg} {G0:Gh} {w0:World} {U0:Nat->Option (List zA)}
theorem qbM {o:Oper}{t:TypeId}{i:Ins}(h:qjB P lof true o=some i)(hop:o.op=.alloc t):∃z d,zeroCells P t=some z/\o.dst=some d/\((∃q,i=.alloced q/\lof d=some q)\/(i=.halloced d/\lof d=none)):=by
 simp only[qjB,hop] at h
 split at h
 ·simp only[cond_true] at h
  cases h
 simp only[zac,zab] at h
 obtain⟨d,hd,z,hz,h⟩:=h
 split at h
 ·rename_i j hj
  exact⟨z,d,hz,hd,.inl ⟨j,h.symm,hj⟩⟩
 ·rename_i hj
  exact⟨z,d,hz,hd,.inr ⟨h.symm,hj⟩⟩
theorem qgs {i:Ins}:qf7 i=false->(∀q,i≠.alloced q)/\∀d,i≠.halloced d:=by
 intro h
 exact⟨fun q e=>(by subst e;cases h),fun q e=>(by subst e;cases h)⟩
section
variable (D:Drawn P e lof nt ops cs ms tr) {S:Nat->Prop} {U pd:Nat->Option (List zA)} {m:Nat} {G:Gh} {a:Act} {w:World} (I:Inv P e U0 nt base ops cs tr G0 w0 S U pd m G a w)
include D I
theorem Inv.reading {i:Nat}{co:COp}(hi:cs[i]? =some co)(hl:qbz co.op=true)(hw:wanted (tr i).f co.guard=some true)(hS:¬S i)(hcl:∀k j,S k->qa9 ms k j=true->S j)(hrd:∀k,qa9 ms i k=true->S k):
  rdv e (tr i).f co.op (tr m).l (tr m).s=rdv e (tr i).f co.op (tr i).l (tr i).s:=by
 have hil:i<cs.length:=(zah.1 hi).1
 have fls:∀k j,qa9 ms k j≠true->qa9 ms k j=false:=fun k j h=>by cases e:qa9 ms k j<;>simp_all
 rcases Nat.le_total m i with hmi|hmi
 ·symm
  refine D.read hmi (by omega) fun j b h1 h2 hj hb=>D.chk i j co b hi hl hw hj hb (fls _ _ fun h=>?_) (fls _ _ fun h=>?_)
  ·have:=D.wlt _ _ h;omega
  ·have:=(I.heavy j b hj hb).1 (hrd j h);omega
 ·refine D.read hmi I.mle fun j b h1 h2 hj hb=>D.chk i j co b hi hl hw hj hb (fls _ _ fun h=>?_) (fls _ _ fun h=>?_)
  ·exact hS (hcl j i ((I.heavy j b hj hb).2 h2) h)
  ·have:=D.wlt _ _ h;omega
theorem qoy {ro:Option Nat}(se:SoundEnv P e){i:Nat}{o:Oper}{co:COp}(ho:ops[i]? =some o)(hi:cs[i]? =some co)(hS:¬S i)(hcl:∀k j,S k->qa9 ms k j=true->S j)(hrd:∀k,qa9 ms i k=true->S k){K:Act->World->Prop}{Q:Exit->Act->World->Prop}
  (k:∀U' pd' m' G' a' w',Inv P e U0 nt base ops cs tr G0 w0 (fun j=>S j\/j=i) U' pd' m' G' a' w'->K a' w'):
  if Region.wanted o (yielded ops a.tmps) then o.wpIn (FW ro) 0 P a w K Q else(∀f,o.about P w a.eval=some f->(FW ro).fn f)/\K (a.put o.dst undef) w:=by
 have hil:i<cs.length:=(zah.1 hi).1
 have hco:=D.cop i o co ho hi
 obtain⟨hins,hdst,hdn⟩:=qdF hco
 have hrds:=fun {t} (ht:t∈co.reads)=>I.reads D hi hS hcl hrd ht
 obtain⟨b,hb,hT,hF⟩:=qen (D.step i co hi)
 rw[qgo hco hb (fun t b' hg=>hrds (by unfold COp.reads;rw[hg];simp))]
 have hputf:∀(z:Cfg) (v:zA),z.f=(tr i).f->∀t,co.dst=some t->t<nt/\v=(z.put co.dst v).f.get qag t:=by
  intro z v hz t ht
  have htn:=hdn t (by rw[<-hdst];exact ht)
  refine⟨htn,?_⟩
  rw[ht]
  exact(Tr.get_set_eq _ _ _ _ (by rw[hz];exact D.has i (by omega) t htn)).symm
 have hmem:∃m',m'<=cs.length/\(∀(j:Nat) b,cs[j]? =some b->b.op.heavy=true->((S j\/j=i)↔j<m'))/\(co.op.heavy=true->m'=i+1/\(tr m).l=(tr i).l/\(tr m).s=(tr i).s)/\(co.op.heavy=false->m'=m):=by
  cases hh:co.op.heavy with
  |true=>
   obtain⟨h1,h2,h3⟩:=I.place D hi hh hS hcl hrd
   exact⟨i+1,by omega,h3,fun _=>⟨rfl,h1.symm,h2.symm⟩,fun e=>by cases e⟩
  |false=>exact⟨m,I.mle,I.light D hi hh,(fun e=>by cases e),fun _=>rfl⟩
 obtain⟨m',hm',hheavy,hmh,hml⟩:=hmem
 cases b with
 |false=>
  rw[if_neg (by simp)]
  have hnp:qf7 co.op=false:=by
   cases hq:qf7 co.op with
   |false=>rfl
   |true=>
    rw[D.grd i co hi hq] at hb
    cases hb
  obtain⟨hpd,hu⟩:=I.pd_same D hi (qgs hnp)
  have hstep:=hF rfl
  refine⟨fun _ _=>trivial,k U pd m' G _ w ?_⟩
  have hls:(tr m').l=(tr m).l/\(tr m').s=(tr m).s:=by
   cases hh:co.op.heavy with
   |true=>
    obtain⟨e1,e2,e3⟩:=hmh hh
    rw[e1,hstep,Cfg.put_l,Cfg.put_s]
    exact⟨e2.symm,e3.symm⟩
   |false=>rw[hml hh];exact⟨rfl,rfl⟩
  rw[<-hdst]
  exact I.next D hi hS hcl hm' hheavy hpd hu (Ext.refl G w) (by rw[hls.1,hls.2];exact I.mr) .undef (fun t ht=>by rw[hstep];exact hputf (tr i) qag rfl t ht)
 |true=>
  rw[if_pos rfl]
  obtain⟨v,z,hev,hstep⟩:=hT rfl
  have hR:qan G w (tr i).f a (co.op.args.flatMap Arg.tmps):=fun t ht=>hrds (by unfold COp.reads;exact List.mem_append_right _ ht)
  have hlike:=D.like i (by omega)
  have hlm:=D.like m I.mle
  cases hq:qf7 co.op with
  |false=>
   have hnp:=qgs hq
   obtain⟨hpd,hu⟩:=I.pd_same D hi hnp
   cases hh:co.op.heavy with
   |true=>
    obtain⟨e1,e2,e3⟩:=hmh hh
    obtain⟨hzf,_⟩:=qem hh hev
    obtain⟨k1,k2,k3,k4,k5⟩:=qjZ (c:=tr i) (c':=z) se (by rw[<-e2,<-e3];exact I.mr) hins (fun _=>hnp) (fun t j hj=>by rw[hlike.has];exact D.lh t j hj) (fun e=>by cases e) hR hev
    refine qb3 hins k5 fun u w' ⟨G',x,mr,hv⟩=>k U pd m' G' _ w' ?_
    rw[<-hdst]
    exact I.next D hi hS hcl hm' hheavy hpd hu x (by rw[e1,hstep,Cfg.put_l,Cfg.put_s];exact mr) hv (fun t ht=>by rw[hstep];exact hputf z v hzf t ht)
   |false=>
    have hlight:=(D.kind i co hi).resolve_left (by rw[hh];simp)
    have hz:=qcV hlight hev
    have em:=hml hh
    have k5:NextP P (qba P e.E U pd G w (tr m).l (tr m).s v) ((execOp a.eval o).run P w):=by
     cases hpu:qaU co.op with
     |true=>
      rw[qe9 hpu] at hev
      simp only[zab,zad] at hev
      obtain⟨v',hv',rfl,_⟩:=hev
      exact(qjN hins hpu (I.mr.free (zaf _)) hR hv').eff I.mr
     |false=>
      have hread:qbz co.op=true:=by
       generalize co.op=q at hpu hlight hq
       cases q<;>first|rfl|(cases hpu;done)|(cases hlight;done)|cases hq
      have h1:=I.reading D hi hread hb hS hcl hrd
      have hevi:qaf e ⟨(tr i).f,(tr i).l,[],none,(tr i).s⟩ co.op=some (v,⟨(tr i).f,(tr i).l,[],none,(tr i).s⟩):=by
       generalize co.op=q at hread hev
       cases q<;>try (cases hread;done)
       case b2s=>
        simp only[qaf,zab,zad] at hev⊢
        obtain⟨v',hv',rfl,_⟩:=hev
        exact⟨_,hv',rfl,trivial⟩
       ·simp only[qaf,zac,zab,zad] at hev⊢
        obtain⟨cs',hcs,v',hv',rfl,_⟩:=hev
        exact⟨cs',hcs,v',hv',rfl,trivial⟩
       ·simp only[qaf] at hev⊢
        obtain⟨hp,hev⟩:=qac hev
        simp only[zab,zad] at hev
        obtain⟨r,hr,rfl,_⟩:=hev
        rw[hp,hr]
        rfl
       ·simp only[qaf,zac] at hev⊢
        obtain⟨k,hk,es,hes,hev⟩:=hev
        obtain⟨hik,hev⟩:=qac hev
        simp only[zab] at hev
        obtain⟨r,hr,hev⟩:=hev
        refine⟨k,hk,es,hes,?_⟩
        rw[hik,hr]
        cases r<;>(simp only[zad] at hev;obtain⟨rfl,_⟩:=hev;rfl)
       ·simp only[qaf,zab,zad] at hev⊢
        obtain⟨es,hes,rfl,_⟩:=hev
        exact⟨es,hes,rfl,trivial⟩
      have h2:rdv e (tr i).f co.op (tr m).l (tr m).s=some v:=by
       rw[h1]
       unfold rdv
       rw[hevi]
       rfl
      unfold rdv at h2
      simp only[zab] at h2
      obtain⟨⟨v',c'⟩,h3,rfl⟩:=h2
      have h4:=qcV hlight h3
      subst h4
      exact(qjZ (c:=⟨(tr i).f,(tr m).l,[],none,(tr m).s⟩) se I.mr hins (fun _=>hnp) (fun t j hj=>by rw[hlm.has];exact D.lh t j hj) (fun e=>by cases e) hR h3).2.2.2.2
    refine qb3 hins k5 fun u w' ⟨G',x,mr,hv⟩=>k U pd m' G' _ w' ?_
    rw[<-hdst]
    exact I.next D hi hS hcl hm' hheavy hpd hu x (by rw[em];exact mr) hv (fun t ht=>by rw[hstep,hz];exact hputf (tr i) v rfl t ht)
  |true=>
   obtain⟨t,hop⟩:=D.pre i o co ho hi hq
   obtain⟨zz,d,hzz,hd,hcase⟩:=qbM hins hop
   have hh:co.op.heavy=false:=by
    rcases hcase with⟨q,e,_⟩|⟨e,_⟩<;>rw[e]<;>rfl
   have em:=hml hh
   rcases hcase with⟨q,eq,hq'⟩|⟨eq,hq'⟩
   ·have hal:AL P ops cs i q zz:=⟨o,co,t,ho,hi,eq,hop,hzz⟩
    have hpdq:pd q=some zz:=(I.pd_ q zz).2 ⟨i,hS,hal⟩
    have k5:=qiC (a:=a) (o:=o) I.mr t hop hzz hpdq
    rw[eq] at hev
    simp only[qaf,zaa,zad] at hev
    obtain⟨rfl,rfl⟩:=hev
    refine qb3 hins k5 fun u w' ⟨G',x,mr,hv⟩=>k U (upd pd q none) m' G' _ w' ?_
    rw[<-hdst]
    have hgen:((tr m).l.get (0,[]) q).1=((tr i).l.get (0,[]) q).1:=(hlm.gen q).trans (hlike.gen q).symm
    rw[hgen] at hv
    refine I.next D hi hS hcl hm' hheavy (fun q' z'=>?_) ?_ x (by rw[em];exact mr) hv (fun t ht=>by rw[hstep];exact hputf _ _ rfl t ht)
    ·by_cases e':q'=q
     ·subst e'
      rw[qav]
      constructor
      ·intro e';cases e'
      ·rintro ⟨k,h1,h2⟩
       exact absurd (.inr (D.al1 k i q' z' zz h2 hal)) h1
     ·rw[qar _ _ _ e',I.pd_]
      constructor
      ·rintro ⟨k,h1,h2⟩
       refine⟨k,fun h=>h.elim h1 fun ek=>?_,h2⟩
       subst ek
       obtain⟨_,co',_,_,h3,h4,_⟩:=h2
       rw[hi] at h3
       cases h3
       rw[eq] at h4
       injection h4 with h4
       exact e' h4.symm
      ·rintro ⟨k,h1,h2⟩
       exact⟨k,fun h=>h1 (.inl h),h2⟩
    ·intro q' z'
     rw[I.u_]
     constructor
     ·rintro (h|⟨k,h1,h2⟩)
      ·exact .inl h
      refine .inr ⟨k,fun h=>h.elim h1 fun ek=>?_,h2⟩
      subst ek
      obtain⟨_,co',_,_,_,h3,h4,_⟩:=h2
      rw[hi] at h3
      cases h3
      rw[eq] at h4
      cases h4
     ·rintro (h|⟨k,h1,h2⟩)
      ·exact .inl h
      exact .inr ⟨k,fun h=>h1 (.inl h),h2⟩
   ·obtain⟨q,hqd⟩:=D.hl2 i co d hi eq
    have hhl:HL P ops cs (tr 0).h i q zz:=⟨o,co,t,d,ho,hi,eq,hqd,hop,hzz⟩
    have huq:U q=some zz:=(I.u_ q zz).2 (.inr ⟨i,hS,hhl⟩)
    have hu0:=I.u0 d q hqd
    have k5:=qg0 (a:=a) (o:=o) I.mr t hop hzz huq
    rw[eq] at hev
    simp only[qaf,zab,zad] at hev
    rw[hlike.h,hqd] at hev
    obtain⟨q',e1,rfl,rfl⟩:=hev
    injection e1 with e1
    subst e1
    refine qb3 hins k5 fun u w' ⟨G',x,mr,hv⟩=>k (upd U q none) pd m' G' _ w' ?_
    rw[<-hdst]
    refine I.next D hi hS hcl hm' hheavy ?_ (fun q' z'=>?_) x (by rw[em];exact mr) hv (fun t ht=>by rw[hstep];exact hputf _ _ rfl t ht)
    ·intro q' z'
     rw[I.pd_]
     constructor
     ·rintro ⟨k,h1,h2⟩
      refine⟨k,fun h=>h.elim h1 fun ek=>?_,h2⟩
      subst ek
      obtain⟨_,co',_,_,h3,h4,_⟩:=h2
      rw[hi] at h3
      cases h3
      rw[eq] at h4
      cases h4
     ·rintro ⟨k,h1,h2⟩
      exact⟨k,fun h=>h1 (.inl h),h2⟩
    ·by_cases e':q'=q
     ·subst e'
      rw[qav]
      constructor
      ·intro e';cases e'
      ·rintro (h|⟨k,h1,h2⟩)
       ·rw[hu0] at h;cases h
       exact absurd (.inr (D.hl1 k i q' z' zz h2 hhl)) h1
     ·rw[qar _ _ _ e',I.u_]
      constructor
      ·rintro (h|⟨k,h1,h2⟩)
       ·exact .inl h
       refine .inr ⟨k,fun h=>h.elim h1 fun ek=>?_,h2⟩
       subst ek
       obtain⟨_,co',_,d',_,h3,h4,h5,_⟩:=h2
       rw[hi] at h3
       cases h3
       rw[eq] at h4
       injection h4 with h4
       subst h4
       rw[hqd] at h5
       injection h5 with h5
       exact e' h5.symm
      ·rintro (h|⟨k,h1,h2⟩)
       ·exact .inl h
       exact .inr ⟨k,fun h=>h1 (.inl h),h2⟩
end
end Go.AI
namespace Go.AI
variable {P:Program} {E:Rom} {lof:Nat->Option Nat} {U pd:Nat->Option (List zA)} {l:Tr (Nat×List zA)} {s:ASt} {G:Gh} {w:World}
def qgt {α:Type}:List (Nat×α)->Prop
 |[]=>True
 |(d,_)::r=>qap r d=none/\qgt r
theorem qj4 {α:Type}{l:List (Nat×α)}{k:Nat}{v:α}(h:qap l k=some v):(l.map (·.1)).contains k=true:=by
 rw[List.contains_iff_mem]
 exact List.mem_map.2 ⟨_,qd8 h,rfl⟩
theorem qeo {α:Type}{l:List (Nat×α)}{k:Nat}(h:(l.map (·.1)).contains k=false):qap l k=none:=by
 cases e:qap l k with
 |none=>rfl
 |some v=>rw[qj4 e] at h;cases h
structure PreOK (P:Program)(lof:Nat->Option Nat)(l:List Oper)(A B:List (Nat×List zA)):Prop where
 al:∀(i:Nat) o t,l[i]? =some o->o.op=.alloc t->o.guard=none/\∃d z,o.dst=some d/\zeroCells P t=some z/\((∃q,lof d=some q/\qap A q=some z)\/(lof d=none/\qap B d=some z))
 a:∀q z,qap A q=some z->∃(i:Nat) (o:Oper) (t:TypeId) (d:Nat),l[i]? =some o/\o.op=.alloc t/\o.dst=some d/\lof d=some q/\zeroCells P t=some z
 b:∀d z,qap B d=some z->∃(i:Nat) (o:Oper) (t:TypeId),l[i]? =some o/\o.op=.alloc t/\o.dst=some d/\lof d=none/\zeroCells P t=some z
 ua:∀(i j:Nat) o o' t t' d d' q,l[i]? =some o->l[j]? =some o'->o.op=.alloc t->o'.op=.alloc t'->o.dst=some d->o'.dst=some d'->lof d=some q->lof d'=some q->i=j
 ub:∀(i j:Nat) o o' t t' d,l[i]? =some o->l[j]? =some o'->o.op=.alloc t->o'.op=.alloc t'->o.dst=some d->o'.dst=some d->lof d=none->i=j
 na:qgt A
 nb:qgt B
theorem qfD:∀(l:List Oper) (A B:List (Nat×List zA)),qix P lof l=some (A,B)->PreOK P lof l A B
 |[],A,B,h=>by
  simp only[qix,zaa,zad] at h
  obtain⟨rfl,rfl⟩:=h
  exact⟨fun i o t h=>(by simp at h),fun q z h=>(by cases h),fun q z h=>(by cases h),fun i j o o' t t' d d' q h=>(by simp at h),fun i j o o' t t' d h=>(by simp at h),trivial,trivial⟩
 |o::r,A,B,h=>by
  simp only[qix,zac] at h
  obtain⟨⟨A',B'⟩,hr,h⟩:=h
  have K:=qfD r A' B' hr
  by_cases hal:∃t,o.op=.alloc t
  ·obtain⟨t,hop⟩:=hal
   simp only[hop,zac] at h
   obtain⟨d,hd,h⟩:=h
   obtain⟨hg,h⟩:=qaD h
   simp only[zac] at h
   obtain⟨z,hz,h⟩:=h
   have hgn:o.guard=none:=by cases e:o.guard with
    |none=>rfl
    |some g=>rw[e] at hg;cases hg
   split at h
   ·rename_i q hq
    obtain⟨hc,h⟩:=qaD h
    simp only[zaa,zad] at h
    obtain⟨rfl,rfl⟩:=h
    have hnk:=qeo hc
    have hother:∀(j:Nat) o' t' d',r[j]? =some o'->o'.op=.alloc t'->o'.dst=some d'->lof d'=some q->False:=by
     intro j o' t' d' hj hop' hd' hl'
     obtain⟨_,d2,z2,e1,_,e3⟩:=K.al j o' t' hj hop'
     rw[hd'] at e1
     cases e1
     rcases e3 with⟨q2,e4,e5⟩|⟨e4,_⟩
     ·rw[hl'] at e4;cases e4;rw[hnk] at e5;cases e5
     ·rw[hl'] at e4;cases e4
    refine⟨fun i o' t' hi hop'=>?_,fun q' z' hq'=>?_,fun d' z' hd'=>?_,fun i j o1 o2 t1 t2 d1 d2 q' h1 h2 h3 h4 h5 h6 h7 h8=>?_,fun i j o1 o2 t1 t2 d1 h1 h2 h3 h4 h5 h6 h7=>?_,⟨hnk,K.na⟩,K.nb⟩
    ·cases i with
     |zero=>
      simp only[zak,zaa] at hi
      subst hi
      rw[hop] at hop'
      cases hop'
      exact⟨hgn,d,z,hd,hz,.inl ⟨q,hq,by rw[qak,if_pos rfl]⟩⟩
     |succ i=>
      obtain⟨k1,d',z',k2,k3,k4⟩:=K.al i o' t' (by simpa using hi) hop'
      refine⟨k1,d',z',k2,k3,k4.imp (fun⟨q',k5,k6⟩=>⟨q',k5,?_⟩) id⟩
      rw[qak,if_neg (fun e=>by subst e;rw[hnk] at k6;cases k6)]
      exact k6
    ·rw[qak] at hq'
     split at hq'
     ·rename_i e
      subst e
      cases hq'
      exact⟨0,o,t,d,rfl,hop,hd,hq,hz⟩
     ·obtain⟨i,o',t',d',k1,k2⟩:=K.a q' z' hq'
      exact⟨i+1,o',t',d',by simpa using k1,k2⟩
    ·obtain⟨i,o',t',k1,k2⟩:=K.b d' z' hd'
     exact⟨i+1,o',t',by simpa using k1,k2⟩
    ·cases i with
     |zero=>
      cases j with
      |zero=>rfl
      |succ j=>
       simp only[zak,zaa] at h1
       subst h1
       rw[hd] at h5
       cases h5
       rw[hq] at h7
       cases h7
       exact(hother j o2 t2 d2 (by simpa using h2) h4 h6 h8).elim
     |succ i=>
      cases j with
      |zero=>
       simp only[zak,zaa] at h2
       subst h2
       rw[hd] at h6
       cases h6
       rw[hq] at h8
       cases h8
       exact(hother i o1 t1 d1 (by simpa using h1) h3 h5 h7).elim
      |succ j=>rw[K.ua i j o1 o2 t1 t2 d1 d2 q' (by simpa using h1) (by simpa using h2) h3 h4 h5 h6 h7 h8]
    ·cases i with
     |zero=>
      simp only[zak,zaa] at h1
      subst h1
      rw[hd] at h5
      cases h5
      rw[hq] at h7
      cases h7
     |succ i=>
      cases j with
      |zero=>
       simp only[zak,zaa] at h2
       subst h2
       rw[hd] at h6
       cases h6
       rw[hq] at h7
       cases h7
      |succ j=>rw[K.ub i j o1 o2 t1 t2 d1 (by simpa using h1) (by simpa using h2) h3 h4 h5 h6 h7]
   ·rename_i hq
    obtain⟨hc,h⟩:=qaD h
    simp only[zaa,zad] at h
    obtain⟨rfl,rfl⟩:=h
    have hnk:=qeo hc
    have hother:∀(j:Nat) o' t',r[j]? =some o'->o'.op=.alloc t'->o'.dst=some d->False:=by
     intro j o' t' hj hop' hd'
     obtain⟨_,d2,z2,e1,_,e3⟩:=K.al j o' t' hj hop'
     rw[hd'] at e1
     cases e1
     rcases e3 with⟨q2,e4,e5⟩|⟨_,e4⟩
     ·rw[hq] at e4;cases e4
     ·rw[hnk] at e4;cases e4
    refine⟨fun i o' t' hi hop'=>?_,fun q' z' hq'=>?_,fun d' z' hd'=>?_,fun i j o1 o2 t1 t2 d1 d2 q' h1 h2 h3 h4 h5 h6 h7 h8=>?_,fun i j o1 o2 t1 t2 d1 h1 h2 h3 h4 h5 h6 h7=>?_,K.na,⟨hnk,K.nb⟩⟩
    ·cases i with
     |zero=>
      simp only[zak,zaa] at hi
      subst hi
      rw[hop] at hop'
      cases hop'
      exact⟨hgn,d,z,hd,hz,.inr ⟨hq,by rw[qak,if_pos rfl]⟩⟩
     |succ i=>
      obtain⟨k1,d',z',k2,k3,k4⟩:=K.al i o' t' (by simpa using hi) hop'
      refine⟨k1,d',z',k2,k3,k4.imp id fun⟨k5,k6⟩=>⟨k5,?_⟩⟩
      rw[qak,if_neg (fun e=>by subst e;rw[hnk] at k6;cases k6)]
      exact k6
    ·obtain⟨i,o',t',d',k1,k2⟩:=K.a q' z' hq'
     exact⟨i+1,o',t',d',by simpa using k1,k2⟩
    ·rw[qak] at hd'
     split at hd'
     ·rename_i e
      subst e
      cases hd'
      exact⟨0,o,t,rfl,hop,hd,hq,hz⟩
     ·obtain⟨i,o',t',k1,k2⟩:=K.b d' z' hd'
      exact⟨i+1,o',t',by simpa using k1,k2⟩
    ·cases i with
     |zero=>
      simp only[zak,zaa] at h1
      subst h1
      rw[hd] at h5
      cases h5
      rw[hq] at h7
      cases h7
     |succ i=>
      cases j with
      |zero=>
       simp only[zak,zaa] at h2
       subst h2
       rw[hd] at h6
       cases h6
       rw[hq] at h8
       cases h8
      |succ j=>rw[K.ua i j o1 o2 t1 t2 d1 d2 q' (by simpa using h1) (by simpa using h2) h3 h4 h5 h6 h7 h8]
    ·cases i with
     |zero=>
      cases j with
      |zero=>rfl
      |succ j=>
       simp only[zak,zaa] at h1
       subst h1
       rw[hd] at h5
       cases h5
       exact(hother j o2 t2 (by simpa using h2) h4 h6).elim
     |succ i=>
      cases j with
      |zero=>
       simp only[zak,zaa] at h2
       subst h2
       rw[hd] at h6
       cases h6
       exact(hother i o1 t1 (by simpa using h1) h3 h5).elim
      |succ j=>rw[K.ub i j o1 o2 t1 t2 d1 (by simpa using h1) (by simpa using h2) h3 h4 h5 h6 h7]
  ·have h':(A',B')=(A,B):=by
    split at h
    ·rename_i t hop
     exact absurd ⟨t,hop⟩ hal
    ·simpa using h
   simp only[zad] at h'
   obtain⟨rfl,rfl⟩:=h'
   have sc:∀{i:Nat} {o':Oper} {t':TypeId},(o::r)[i]? =some o'->o'.op=.alloc t'->∃k,i=k+1/\r[k]? =some o':=by
    intro i o' t' hi hop'
    cases i with
    |zero=>
     simp only[zak,zaa] at hi
     subst hi
     exact absurd ⟨t',hop'⟩ hal
    |succ i=>exact⟨i,rfl,by simpa using hi⟩
   refine⟨fun i o' t' hi hop'=>?_,fun q' z' hq'=>?_,fun d' z' hd'=>?_,fun i j o1 o2 t1 t2 d1 d2 q' h1 h2 h3 h4 h5 h6 h7 h8=>?_,fun i j o1 o2 t1 t2 d1 h1 h2 h3 h4 h5 h6 h7=>?_,K.na,K.nb⟩
   ·obtain⟨k,rfl,hk⟩:=sc hi hop'
    exact K.al k o' t' hk hop'
   ·obtain⟨i,o',t',d',k1,k2⟩:=K.a q' z' hq'
    exact⟨i+1,o',t',d',by simpa using k1,k2⟩
   ·obtain⟨i,o',t',k1,k2⟩:=K.b d' z' hd'
    exact⟨i+1,o',t',by simpa using k1,k2⟩
   ·obtain⟨k,rfl,hk⟩:=sc h1 h3
    obtain⟨k',rfl,hk'⟩:=sc h2 h4
    rw[K.ua k k' o1 o2 t1 t2 d1 d2 q' hk hk' h3 h4 h5 h6 h7 h8]
   ·obtain⟨k,rfl,hk⟩:=sc h1 h3
    obtain⟨k',rfl,hk'⟩:=sc h2 h4
    rw[K.ub k k' o1 o2 t1 t2 d1 hk hk' h3 h4 h5 h6 h7]
theorem MR.lay (h:MR P E U pd l s G w){i:Nat}(hp:pd i=none)(hh:l.has i=true)(zs:List zA):MR P E U (upd pd i (some zs)) (l.set i ((l.get (0,[]) i).1+1,zs)) s G w:=by
 refine⟨h.own,h.bOf,h.lo_,h.un,fun j z hj=>?_,h.nt,fun j g cs hj hg hpj=>?_,fun j g b hb=>?_,h.heap,h.ro,h.tok⟩
 ·rw[Tr.get_set _ _ _ _ _ hh]
  by_cases e:j=i
  ·subst e
   rw[qav] at hj
   cases hj
   rw[if_pos rfl]
   exact⟨rfl,by simp⟩
  ·rw[qar _ _ _ e] at hj
   rw[if_neg (fun e'=>e e'.symm)]
   exact h.pdz j z hj
 ·by_cases e:j=i
  ·subst e;rw[qav] at hpj;cases hpj
  ·rw[qar _ _ _ e] at hpj
   rw[Tr.get_set_ne _ _ _ _ _ (fun e'=>e e'.symm)] at hj
   exact h.loc j g cs hj hg hpj
 ·obtain⟨h1,h2,h3⟩:=h.lam j g b hb
  by_cases e:j=i
  ·subst e
   rw[Tr.get_set_eq _ _ _ _ hh]
   exact⟨h1,by simp only;omega,fun _=>by simp only;omega⟩
  ·rw[Tr.get_set_ne _ _ _ _ _ (fun e'=>e e'.symm),qar _ _ _ e]
   exact⟨h1,h2,h3⟩
theorem MR.preL:∀(A:List (Nat×List zA)) {pd:Nat->Option (List zA)} {l:Tr (Nat×List zA)},MR P E U pd l s G w->qgt A->(∀q z,qap A q=some z->pd q=none/\l.has q=true)->
  MR P E U (fun q=>match qap A q with|some z=>some z|none=>pd q) (preL l A) s G w/\(∀j,(preL l A).has j=l.has j)
 |[],pd,l,h,_,_=>⟨h,fun _=>rfl⟩
 |(i,zs)::r,pd,l,h,hn,hp=>by
  obtain⟨h1,h2⟩:=hp i zs (by rw[qak,if_pos rfl])
  have k:=h.lay h1 h2 zs
  obtain⟨k1,k2⟩:=MR.preL r k hn.2 (fun q z hq=>by
   have e:q≠i:=fun e=>by subst e;rw[hn.1] at hq;cases hq
   obtain⟨h3,h4⟩:=hp q z (by rw[qak,if_neg (fun e'=>e e'.symm)];exact hq)
   exact⟨by rw[qar _ _ _ e];exact h3,by rw[Tr.has_set];exact h4⟩)
  refine⟨?_,fun j=>?_⟩
  ·have:(fun q=>match qap ((i,zs)::r) q with|some z=>some z|none=>pd q)=(fun q=>match qap r q with|some z=>some z|none=>upd pd i (some zs) q):=by
    funext q
    rw[qak]
    by_cases e:i=q
    ·subst e
     rw[if_pos rfl,hn.1]
     simp[qav]
    ·rw[if_neg e]
     cases qap r q with
     |some z=>rfl
     |none=>simp only;rw[qar _ _ _ (fun e'=>e e'.symm)]
   rw[this]
   exact k1
  ·show(Go.AI.preL (l.set i ((l.get (0,[]) i).1+1,zs)) r).has j=_
   rw[k2,Tr.has_set]
theorem MR.layH (h:MR P E U pd l s G w)(zs:List zA):MR P E (upd U s.next (some zs)) pd l (qaw s (.cells zs)) G w:=by
 refine⟨h.own,fun k b hb=>Nat.lt_succ_of_lt (h.bOf k b hb),Nat.le_succ_of_le h.lo_,fun k z hk=>?_,h.pdz,h.nt,h.loc,h.lam,fun k o hk=>?_,h.ro,h.tok⟩
 ·show G.bOf k=none∧qaH (qfW s.heap s.next (some (zH.cells zs))) k=_∧_
  rw[qa6]
  by_cases e:k=s.next
  ·subst e
   rw[qav] at hk
   cases hk
   exact⟨h.bOf_next,by rw[if_pos rfl],h.lo_⟩
  ·rw[qar _ _ _ e] at hk
   rw[if_neg (fun e'=>e e'.symm)]
   exact h.un k z hk
 ·have hk':qaH (qfW s.heap s.next (some (zH.cells zs))) k=some o:=hk
  rw[qa6] at hk'
  split at hk'
  ·rename_i e
   subst e
   exact⟨Nat.lt_succ_self _,.inl h.bOf_next⟩
  ·obtain⟨h1,h2⟩:=h.heap k o hk'
   exact⟨Nat.lt_succ_of_lt h1,h2⟩
theorem MR.preH:∀(B:List (Nat×List zA)) {U:Nat->Option (List zA)} {s:ASt},MR P E U pd l s G w->qgt B->∃U',MR P E U' pd l (preH s B).1 G w/\
  (∀q z,U' q=some z↔U q=some z\/∃d,qap (preH s B).2 d=some q/\qap B d=some z)/\(∀d z,qap B d=some z->∃q,qap (preH s B).2 d=some q)/\(∀d q,qap (preH s B).2 d=some q->s.next<=q)/\
  (∀d d' q,qap (preH s B).2 d=some q->qap (preH s B).2 d'=some q->d=d')
 |[],U,s,h,_=>⟨U,h,fun q z=>⟨.inl,fun h=>h.elim id fun⟨d,h1,_⟩=>(by cases h1)⟩,fun d z h=>(by cases h),fun d q h=>(by cases h),fun d d' q h=>(by cases h)⟩
 |(d0,zs)::r,U,s,h,hn=>by
  obtain⟨U',k1,k2,k3,k4,k5⟩:=MR.preH r (h.layH zs) hn.2
  have e1:(Go.AI.preH s ((d0,zs)::r)).1=(Go.AI.preH (qaw s (.cells zs)) r).1:=rfl
  have e2:(Go.AI.preH s ((d0,zs)::r)).2=(d0,s.next)::(Go.AI.preH (qaw s (.cells zs)) r).2:=rfl
  have hlt:∀d q,qap (Go.AI.preH (qaw s (.cells zs)) r).2 d=some q->s.next<q:=fun d q hq=>k4 d q hq
  have hUn:∀z,U s.next=some z->False:=fun z hz=>by
   have:=(h.heap _ _ (h.un _ _ hz).2.1).1
   omega
  refine⟨U',by rw[e1];exact k1,fun q z=>?_,fun d z hd=>?_,fun d q hq=>?_,fun d d' q hq hq'=>?_⟩
  ·rw[k2,e2]
   constructor
   ·rintro (hq|⟨d,h1,h2⟩)
    ·by_cases e:q=s.next
     ·subst e
      rw[qav] at hq
      cases hq
      exact .inr ⟨d0,by rw[qak,if_pos rfl],by rw[qak,if_pos rfl]⟩
     ·rw[qar _ _ _ e] at hq
      exact .inl hq
    ·have e:d0≠d:=fun e=>by subst e;rw[hn.1] at h2;cases h2
     exact .inr ⟨d,by rw[qak,if_neg e];exact h1,by rw[qak,if_neg e];exact h2⟩
   ·rintro (hq|⟨d,h1,h2⟩)
    ·have e:q≠s.next:=fun e=>by subst e;exact hUn z hq
     exact .inl (by rw[qar _ _ _ e];exact hq)
    ·rw[qak] at h1 h2
     by_cases e:d0=d
     ·rw[if_pos e] at h1 h2
      cases h1;cases h2
      exact .inl (qav _ _ _)
     ·rw[if_neg e] at h1 h2
      exact .inr ⟨d,h1,h2⟩
  ·rw[e2]
   rw[qak] at hd⊢
   by_cases e:d0=d
   ·rw[if_pos e];exact⟨_,rfl⟩
   ·rw[if_neg e] at hd⊢
    exact k3 d z hd
  ·rw[e2,qak] at hq
   split at hq
   ·cases hq;exact zaf _
   ·have:=hlt d q hq;omega
  ·rw[e2,qak] at hq hq'
   split at hq<;>split at hq'
   ·rename_i e e';rw[<-e,<-e']
   ·cases hq;have:=hlt _ _ hq';omega
   ·cases hq';have:=hlt _ _ hq;omega
   ·exact k5 d d' q hq hq'
end Go.AI
namespace Go.AI
variable {P:Program} {e:Env} {lof:Nat->Option Nat} {nt base:Nat} {ops:Array Oper}
theorem qfE {dr:Bool}:∀(l:List Oper) (cs:List COp),qjC P lof dr nt ops l=some cs->cs.length=l.length/\∀(i:Nat) o co,l[i]? =some o->cs[i]? =some co->cOp P lof dr nt ops o=some co
 |[],cs,h=>by
  simp only[qjC,zaa] at h
  subst h
  exact⟨rfl,fun i o co h=>by simp at h⟩
 |o::r,cs,h=>by
  simp only[qjC,zac,zab] at h
  obtain⟨c,hc,cs',hcs,rfl⟩:=h
  obtain⟨h1,h2⟩:=qfE r cs' hcs
  refine⟨by simp[h1],fun i o' co hi hj=>?_⟩
  cases i with
  |zero=>
   simp only[zak,zaa] at hi hj
   subst hi;subst hj
   exact hc
  |succ i=>exact h2 i o' co (by simpa using hi) (by simpa using hj)
theorem qce {α:Type}{l:List α}{i:Nat}{x:α}(h:l[i]? =some x):(i,x)∈qiw l:=by
 have hi:i<l.length:=(zah.1 h).1
 unfold qiw
 refine List.mem_iff_getElem?.2 ⟨i,?_⟩
 rw[List.getElem?_zip_eq_some]
 exact⟨by simp[hi],h⟩
theorem qj5 {f g:Tr zA}{x:Arg}(h:∀t,t∈x.tmps->f.get qag t=g.get qag t):x.ev f=x.ev g:=by
 cases x with
 |c v=>rfl
 |t n=>exact h n (List.mem_singleton.2 rfl)
theorem qcf (f:Tr zA)(n:Option Nat)(a:Arg)(l:Tr (Nat×List zA))(s:ASt):rdv e f (.load n a) l s=(qay e.E l s (a.ev f) (cnt n)).bind (zA.ofCells n):=by
 unfold rdv
 simp only[qaf]
 cases qay e.E l s (a.ev f) (cnt n) with
 |none=>rfl
 |some cs=>
  simp only[zar,Option.map_map]
  cases zA.ofCells n cs<;>rfl
theorem qj6 {f g:Tr zA}{op:Ins}(hr:qbz op=true)(h:∀t,t∈op.args.flatMap Arg.tmps->f.get qag t=g.get qag t){l:Tr (Nat×List zA)}{s:ASt}:rdv e f op l s=rdv e g op l s:=by
 have ha:∀x,x∈op.args->x.ev f=x.ev g:=fun x hx=>qj5 fun t ht=>h t (List.mem_flatMap.2 ⟨x,hx,ht⟩)
 cases op<;>try (cases hr;done)
 case b2s=>
  simp only[Ins.args,zaO,List.not_mem_nil,or_false] at ha
  simp only[rdv,qaf,ha _ rfl,Option.map_map]
  rfl
 ·simp only[Ins.args,zaO,List.not_mem_nil,or_false] at ha
  rw[qcf,qcf,ha _ rfl]
 ·rename_i k xs
  have:xs.map (Arg.ev f)=xs.map (Arg.ev g):=List.map_congr_left fun x hx=>ha x hx
  simp only[rdv,qaf,this]
  cases e.pure k with
  |true=>simp only[cond_true,Option.map_map];rfl
  |false=>rfl
 ·simp only[Ins.args,zaO,List.not_mem_nil,or_false] at ha
  rename_i kd ks z ok m k
  simp only[rdv,qaf,ha m (.inl rfl),ha k (.inr rfl),Option.map_bind]
  congr 1
  funext kk
  simp only[Function.comp,Option.map_bind]
  congr 1
  funext es
  simp only[Function.comp]
  cases qdK kd ks kk with
  |true=>
   simp only[cond_true,Option.map_map]
   congr 1
   funext r
   cases r<;>rfl
  |false=>rfl
 ·simp only[Ins.args,zaO,List.not_mem_nil,or_false] at ha
  simp only[rdv,qaf,ha _ rfl,Option.map_map]
  rfl
theorem qqp (se:SoundEnv P e){cs:List COp}{ms:List Nat}{T:List Cfg}{c0 last:Cfg}(hstep:∀(i:Nat) co,cs[i]? =some co->∃x y,T[i]? =some x/\T[i+1]? =some y/\qgU e x co=some y)(hkind:∀(i:Nat) co,cs[i]? =some co->co.op.heavy=true\/co.op.light=true)
  (hall:(qf6 ms (qiw cs)).all (qeO e T last)=true)(hst:(qf6 ms (qiw cs)).all (qfk (qiw cs))=true)(hlast:(T[cs.length]?).getD c0=last)
  {i j:Nat}{co b:COp}(hi:cs[i]? =some co)(hl:qbz co.op=true)(hj:cs[j]? =some b)(hb:b.op.heavy=true)(hw1:qa9 ms j i=false)(hw2:qa9 ms i j=false):
  rdv e ((T[i]?).getD c0).f co.op ((T[j+1]?).getD c0).l ((T[j+1]?).getD c0).s=rdv e ((T[i]?).getD c0).f co.op ((T[j]?).getD c0).l ((T[j]?).getD c0).s:=by
 have hjs:(j,b.op.kind)∈(qiw cs).filterMap (fun(j,b)=>if b.op.heavy&&!(qa9 ms j i)&&!(qa9 ms i j) then some (j,b.op.kind) else none):=
  List.mem_filterMap.2 ⟨(j,b),qce hj,by simp[hb,hw1,hw2]⟩
 obtain⟨k,hk,hkat,hka,hkj⟩:∃k:Chk,k∈qf6 ms (qiw cs)/\k.at_=i/\k.op=co.op/\(j,b.op.kind)∈k.js:=by
  generalize hjs':(qiw cs).filterMap (fun(j,b)=>if b.op.heavy&&!(qa9 ms j i)&&!(qa9 ms i j) then some (j,b.op.kind) else none)=js at hjs
  cases js with
  |nil=>cases hjs
  |cons y ys=>
   refine⟨{at_:=i,op:=co.op,js:=y::ys},List.mem_filterMap.2 ⟨(i,co),qce hi,?_⟩,rfl,rfl,hjs⟩
   simp only[hl,cond_true,hjs']
 subst hkat
 rw[<-hka] at hl⊢
 have hok:=zaj.1 hall k hk
 have hsy:=zaj.1 hst k hk
 have hT:T.length>=cs.length+1\/cs.length=0:=by
  rcases Nat.eq_zero_or_pos cs.length with h|h
  ·exact .inr h
  ·obtain⟨x,y,_,h2,_⟩:=hstep (cs.length-1) _ (zai (by omega))
   have:=(zah.1 h2).1
   exact .inl (by omega)
 have hil:k.at_<cs.length:=(zah.1 hi).1
 have hjl:j<cs.length:=(zah.1 hj).1
 have hargs:∀t,t∈k.op.args.flatMap Arg.tmps->last.f.get qag t=((T[k.at_]?).getD c0).f.get qag t:=by
  intro t ht
  rw[<-hlast]
  have key:∀q,k.at_<=q->q<=cs.length->((T[q]?).getD c0).f.get qag t=((T[k.at_]?).getD c0).f.get qag t:=by
   intro q
   induction q with
   |zero=>intro h1 _;rw[show k.at_=0 by omega]
   |succ q ih=>
    intro h1 h2
    by_cases h:k.at_=q+1
    ·rw[h]
    ·have hq:cs[q]? =some (cs[q]'(by omega)):=zai (by omega)
     obtain⟨x,y,h3,h4,h5⟩:=hstep q _ hq
     rw[<-ih (by omega) (by omega),h3,h4]
     refine(qb4 (hkind q _ hq) h5).2.1 t fun hd=>?_
     have:=zaj.1 hsy (q,cs[q]'(by omega)) (qce hq)
     simp only[zaE,zaH,zaj] at this
     rcases this with h|h
     ·have:Nat.ble k.at_ q=true:=ble_iff.2 (by omega)
      rw[this] at h;cases h
     ·have:=h t (by unfold qfj;rw[hd];exact List.mem_singleton.2 rfl)
      simp only[List.contains_eq_mem,decide_eq_false_iff_not] at this
      exact this ht
  exact key cs.length (by omega) (zaf _)
 have hfr:∀l s,rdv e ((T[k.at_]?).getD c0).f k.op l s=rdv e last.f k.op l s:=fun l s=>(qj6 hl hargs).symm
 rw[hfr,hfr]
 obtain⟨x,y,h3,h4,h5⟩:=hstep j b hj
 rw[h3,h4]
 simp only[Option.getD_some]
 have hl3:qc0 T j=some x:=by rw[qbn];exact h3
 have hl4:qc0 T (j+1)=some y:=by rw[qbn];exact h4
 have hat:qf2 e T last.f k.op j=true->rdv e last.f k.op y.l y.s=rdv e last.f k.op x.l x.s:=by
  intro h
  unfold qf2 at h
  rw[hl3,hl4] at h
  exact(qj3 h).symm
 obtain⟨bb,_,hT1,hF1⟩:=qen h5
 unfold qeO at hok
 split at hok
 ·rename_i hav
  have:=zaj.1 hok _ hkj
  simp only[zaE] at this
  rcases this with h|h
  ·have hkd:=blt_iff.1 h
   have hsame:y.l=x.l:=by
    cases bb with
    |false=>rw[hF1 rfl,Cfg.put_l]
    |true=>
     obtain⟨v,z,hev,rfl⟩:=hT1 rfl
     rw[Cfg.put_l]
     generalize hop:b.op=op at hkd hev
     cases op<;>first|(exfalso;exact Nat.not_lt_zero _ hkd;done)|(exfalso;exact absurd hkd (Nat.not_lt_of_le (Nat.zero_le _));done)|(exfalso;exact absurd hkd (Nat.lt_irrefl 1);done)|skip
     ·simp only[qaf,zab,zad] at hev
      obtain⟨_,_,_,rfl⟩:=hev
      rfl
     ·simp only[qaf,zab,zad] at hev
      obtain⟨_,_,_,rfl⟩:=hev
      rfl
   generalize k.op=op at hav
   unfold qjw at hav
   split at hav
   ·split at hav<;>try (cases hav;done)
    rename_i ha
    simp only[qcf,ha,qay,hsame]
   ·cases hav
  ·exact hat h
 ·rename_i hav
  generalize k.op=op at hav
  unfold qjw at hav
  split at hav
  ·split at hav<;>try (cases hav;done)
   ·rename_i ha
    simp only[qcf,ha,qay]
   ·rename_i ha
    simp only[qcf,ha,qay]
   ·rename_i ha
    simp only[qcf,ha,qay]
  ·cases hav
 ·have:=zaj.1 hok _ hkj
  simp only[zaE,zae] at this
  rcases this with⟨h,hpu,hld⟩|h
  ·have hkd:=blt_iff.1 h
   have hsame:y.s=x.s:=by
    cases bb with
    |false=>rw[hF1 rfl,Cfg.put_s]
    |true=>
     obtain⟨v,z,hev,rfl⟩:=hT1 rfl
     rw[Cfg.put_s]
     generalize hop:b.op=op at hkd hev hpu
     cases op<;>first|(exfalso;exact Nat.not_lt_zero _ hkd;done)|(exfalso;exact absurd hkd (Nat.not_lt_of_le (Nat.zero_le _));done)|(exfalso;exact absurd hkd (Nat.lt_irrefl 1);done)|skip
     simp only[qaf,zab,zad] at hev
     obtain⟨⟨r,s'⟩,hcall,_,rfl⟩:=hev
     exact se.pure (by simpa[Ins.kind] using hpu) hcall
   generalize k.op=op at hld
   split at hld
   ·split at hld
    ·rename_i ha
     simp only[qcf,ha,qay,hsame]
    ·cases hld
   ·cases hld
  ·exact hat h
end Go.AI
namespace Go.AI
variable {P:Program} {e:Env} {lof:Nat->Option Nat} {nt base:Nat} {ops:Array Oper} {U0:Nat->Option (List zA)}
theorem qfa {A B:List (Nat×List zA)}{cs:List COp}{chk:List Chk}(h:qiy P lof nt ops=some (.regd A B cs chk)):
  qjC P lof true nt ops ops.toList=some cs/\qix P lof ops.toList=some (A,B)/\chk=qf6 (qck (ops.toList.map qa8) []) (qiw cs)/\qd7 ops.toList=true/\qjD (qck (ops.toList.map qa8) []) (qiw cs)=true/\
  cs.all (fun o=>o.op.heavy||o.op.light)=true/\(ops.toList.zip cs).all (fun(o,c)=>qhG o.op c.op)=true/\chk.all (qfk (qiw cs))=true:=by
 simp only[qiy,zac] at h
 obtain⟨l,hl,⟨a,b⟩,hab,h⟩:=h
 obtain⟨hc,h⟩:=qac h
 simp only[zaa,CC.regd.injEq] at h
 obtain⟨rfl,rfl,rfl,rfl⟩:=h
 simp only[zae] at hc
 exact⟨hl,hab,rfl,hc.1,hc.2.1,hc.2.2.1,hc.2.2.2.1,hc.2.2.2.2⟩
theorem qlV (se:SoundEnv P e){A B:List (Nat×List zA)}{cs:List COp}{chk:List Chk}(hc:qiy P lof nt ops=some (.regd A B cs chk)){c0:Cfg}{s0:ASt}(hh:c0.h=(preH s0 B).2)
  (hinj:∀d d' q,qap c0.h d=some q->qap c0.h d'=some q->d=d')(hex:∀d z,qap B d=some z->∃q,qap c0.h d=some q){T:List Cfg}(hT:qa2 e cs c0=some T)(hchk:chk.all (qeO e T (qbl c0 T))=true)
  (hlh:∀t j,lof t=some j->c0.l.has j=true)(hhas:∀t,t<nt->c0.f.has t=true):
  Drawn P e lof nt ops cs (qck (ops.toList.map qa8) []) (fun i=>(T[i]?).getD c0)/\PreOK P lof ops.toList A B/\(T[cs.length]?).getD c0=qbl c0 T/\(T[0]?).getD c0=c0:=by
 obtain⟨h1,h2,h3,h4,h5,h6,h7,h8⟩:=qfa hc
 obtain⟨k1',k2⟩:=qfE _ _ h1
 have k1:cs.length=ops.size:=by rw[k1',zax]
 obtain⟨t1,t2,t3,t4⟩:=qfB e cs c0 T hT
 have K:=qfD _ _ _ h2
 have hk:∀(i:Nat) co,cs[i]? =some co->co.op.heavy=true\/co.op.light=true:=fun i co hi=>by
  have:=zaj.1 h6 co (zaF hi)
  simpa using this
 have hlast:(T[cs.length]?).getD c0=qbl c0 T:=by rw[t4 c0];rfl
 have h0:(T[0]?).getD c0=c0:=by rw[t2];rfl
 have hsame:∀(i:Nat) o co,ops[i]? =some o->cs[i]? =some co->qhG o.op co.op=true:=fun i o co hi hj=>by
  have:(o,co)∈ops.toList.zip cs:=List.mem_iff_getElem?.2 ⟨i,List.getElem?_zip_eq_some.2 ⟨by rw[zan];exact hi,hj⟩⟩
  exact zaj.1 h7 _ this
 have hpre:∀(i:Nat) o co,ops[i]? =some o->cs[i]? =some co->qf7 co.op=true->∃t,o.op=.alloc t:=fun i o co hi hj hp=>by
  have:=hsame i o co hi hj
  simp only[qhG,zaE,zaH,hp] at this
  have:=this.resolve_left (by simp)
  cases hop:o.op<;>rw[hop] at this<;>first|exact⟨_,rfl⟩|cases this
 have hal:∀{i q z},AL P ops cs i q z->∃(o:Oper) (t:TypeId) (d:Nat),ops.toList[i]? =some o/\o.op=.alloc t/\o.dst=some d/\lof d=some q:=by
  rintro i q z ⟨o,co,t,ho,hco,hq,hop,_⟩
  obtain⟨hins,_⟩:=qdF (k2 i o co (by rw[zan];exact ho) hco)
  obtain⟨z',d,_,hd,hcase⟩:=qbM hins hop
  rcases hcase with⟨q',e1,e2⟩|⟨e1,_⟩
  ·rw[hq] at e1
   cases e1
   exact⟨o,t,d,by rw[zan];exact ho,hop,hd,e2⟩
  ·rw[hq] at e1;cases e1
 have hhl:∀{i d:Nat} {co:COp},(∃(o:Oper) (t:TypeId),ops[i]? =some o/\cs[i]? =some co/\co.op=.halloced d/\o.op=.alloc t)->∃(o:Oper) (t:TypeId),ops.toList[i]? =some o/\o.op=.alloc t/\o.dst=some d/\lof d=none:=by
  rintro i d co ⟨o,t,ho,hco,hq,hop⟩
  obtain⟨hins,_⟩:=qdF (k2 i o co (by rw[zan];exact ho) hco)
  obtain⟨z',d',_,hd,hcase⟩:=qbM hins hop
  rcases hcase with⟨q',e1,e2⟩|⟨e1,e2⟩
  ·rw[hq] at e1;cases e1
  ·rw[hq] at e1
   cases e1
   exact⟨o,t,by rw[zan];exact ho,hop,hd,e2⟩
 have hof:∀(i:Nat) co,cs[i]? =some co->∃o,ops[i]? =some o:=fun i co hi=>⟨_,zam (by have:=(zah.1 hi).1;omega)⟩
 refine⟨⟨k1,fun i o co hi hj=>k2 i o co (by rw[zan];exact hi) hj,fun i co hi=>?_,hk,fun i j a b hij hi hj=>?_,fun k i hw=>?_,fun i j q z z' hi hj=>?_,fun i j q z z' hi hj=>?_,fun i co d hi hd=>?_,hpre,fun i co hi hp=>?_,
  fun i j co b hi hl hw hj hb hw1 hw2=>qqp se t3 hk (by rw[<-h3];exact hchk) (by rw[<-h3];exact h8) hlast hi hl hj hb hw1 hw2,by simp only[h0];exact hlh,by simp only[h0];exact hhas⟩,K,hlast,h0⟩
 ·obtain⟨x,y,q1,q2,q3⟩:=t3 i co hi
  simp only[q1,q2,Option.getD_some]
  exact q3
 ·have:=zaj.1 (zaj.1 h5 (i,a) (qce hi)) (j,b) (qce hj)
  simp only[blt_iff.2 hij,Bool.not_true,Bool.false_or] at this
  exact this
 ·refine qlT (fun k es hes e' he'=>?_) k i hw
  simp only[zaw,zab] at hes
  obtain⟨o,ho,rfl⟩:=hes
  have:=zaj.1 (zaj.1 h4 (k,o) (qce ho)) e' he'
  exact blt_iff.1 this
 ·obtain⟨o,t,d,a1,a2,a3,a4⟩:=hal hi
  obtain⟨o',t',d',b1,b2,b3,b4⟩:=hal hj
  exact K.ua i j o o' t t' d d' q a1 b1 a2 b2 a3 b3 a4 b4
 ·obtain⟨o,co,t,d,ho,hco,hq,hqd,hop,_⟩:=hi
  obtain⟨o',co',t',d',ho',hco',hq',hqd',hop',_⟩:=hj
  simp only[h0] at hqd hqd'
  have:=hinj d d' q hqd hqd'
  subst this
  obtain⟨o1,t1,a1,a2,a3,a4⟩:=hhl ⟨o,t,ho,hco,hq,hop⟩
  obtain⟨o2,t2,b1,b2,b3,b4⟩:=hhl ⟨o',t',ho',hco',hq',hop'⟩
  exact K.ub i j o1 o2 t1 t2 d a1 b1 a2 b2 a3 b3 a4
 ·obtain⟨o,ho⟩:=hof i co hi
  obtain⟨t,hop⟩:=hpre i o co ho hi (by rw[hd];rfl)
  obtain⟨o',t',a1,a2,a3,a4⟩:=hhl ⟨o,t,ho,hi,hd,hop⟩
  obtain⟨_,d',z,b1,b2,b3⟩:=K.al i o' t' a1 a2
  rw[a3] at b1
  cases b1
  simp only[h0]
  rcases b3 with⟨q,e1,_⟩|⟨_,e1⟩
  ·rw[a4] at e1;cases e1
  ·exact hex d z e1
 ·obtain⟨o,ho⟩:=hof i co hi
  obtain⟨t,hop⟩:=hpre i o co ho hi hp
  obtain⟨hg,_⟩:=K.al i o t (by rw[zan];exact ho) hop
  have hco:=k2 i o co (by rw[zan];exact ho) hi
  simp only[cOp,hg,zar] at hco
  obtain⟨_,hco⟩:=qac hco
  simp only[zab] at hco
  obtain⟨_,_,rfl⟩:=hco
  rfl
theorem qlW {ro:Option Nat}(se:SoundEnv P e){cs:List COp}{tr:Nat->Cfg}{G0:Gh}{w0:World}(D:Drawn P e lof nt ops cs (qck (ops.toList.map qa8) []) tr)(hback:qd7 ops.toList=true){Q:Exit->Act->World->Prop}
  (hq:∀(S:Nat->Prop) U pd m G a w,(∀i,i<ops.size->S i)->Inv P e U0 nt base ops cs tr G0 w0 S U pd m G a w->Q .normal a w):
  ∀(fuel:Nat) (listed:Array Bool) U pd m G a w,listed.size=ops.size->(List.range ops.size).countP (fun i=>!listed.getD i false)<=fuel->(∀k j,listed.getD k false=true->qa9 (qck (ops.toList.map qa8) []) k j=true->listed.getD j false=true)->
   Inv P e U0 nt base ops cs tr G0 w0 (fun i=>listed.getD i false=true) U pd m G a w->wpAnyIn (FW ro) 0 P .any ops Q fuel listed a w:=by
 have hb:∀(k:Nat) es,(ops.toList.map qa8)[k]? =some es->∀e'∈es,e'<k:=by
  intro k es hes e' he'
  simp only[zaw,zab] at hes
  obtain⟨o,ho,rfl⟩:=hes
  exact blt_iff.1 (zaj.1 (zaj.1 hback (k,o) (qce ho)) e' he')
 have hready:∀(listed:Array Bool) i,listed.size=ops.size->(i∈Region.ready .any ops listed↔∃o,ops[i]? =some o/\listed.getD i false=false/\∀e'∈qa8 o,listed.getD e' false=true):=by
  intro listed i hsz
  unfold Region.ready
  rw[List.mem_filter,List.mem_range]
  constructor
  ·rintro ⟨hi,h⟩
   have hoi:ops[i]? =some (ops[i]'hi):=zam hi
   simp only[zae,zaH,hoi,zao,Option.getD_some,Array.all_eq_true_iff_forall_mem] at h
   refine⟨ops[i],hoi,?_,fun e' he'=>?_⟩
   ·rw[zap,zam (by omega)] at h⊢
    exact h.1
   ·unfold qa8 at he'
    obtain⟨x,hx,rfl⟩:=List.mem_map.1 he'
    obtain⟨h1,h2⟩:=List.mem_filter.1 hx
    have:=h.2 x (by simpa using h1)
    simp only[zaE,zaH] at this
    exact this.resolve_left (by rw[h2];simp)
  ·rintro ⟨o,ho,hl,he⟩
   have hi:i<ops.size:=(zag.1 ho).1
   refine⟨hi,?_⟩
   simp only[zae,zaH,ho,zao,Option.getD_some,Array.all_eq_true_iff_forall_mem]
   refine⟨?_,fun x hx=>?_⟩
   ·rw[zap,zam (by omega)] at hl⊢
    exact hl
   ·cases hbx:Region.binds .any x with
    |false=>rfl
    |true=>
     simp only[Bool.not_true,Bool.false_or]
     exact he x.on (by unfold qa8;exact List.mem_map.2 ⟨x,List.mem_filter.2 ⟨by simpa using hx,hbx⟩,rfl⟩)
 have hdone:∀(listed:Array Bool),listed.size=ops.size->Region.ready .any ops listed=[]->∀i,i<ops.size->listed.getD i false=true:=by
  intro listed hsz hr i
  induction i using Nat.strongRecOn with
  |_ i ih=>
   intro hi
   cases hl:listed.getD i false with
   |true=>rfl
   |false=>
    have hoi:ops[i]? =some (ops[i]'hi):=zam hi
    have:i∈Region.ready .any ops listed:=(hready listed i hsz).2 ⟨_,hoi,hl,fun e' he'=>by
     have:=hb i (qa8 ops[i]) (by simp[hoi]) e' he'
     exact ih e' this (by omega)⟩
    rw[hr] at this
    cases this
 intro fuel
 induction fuel with
 |zero=>
  intro listed U pd m G a w hsz hcnt hcl I
  have hall:∀i,i<ops.size->listed.getD i false=true:=by
   intro i hi
   have:=List.countP_eq_zero.1 (Nat.le_zero.1 hcnt) i (List.mem_range.2 hi)
   simpa using this
  refine⟨?_,hq _ U pd m G a w hall I⟩
  apply List.eq_nil_iff_forall_not_mem.2
  intro i hi
  obtain⟨o,ho,hl,_⟩:=(hready listed i hsz).1 hi
  rw[hall i (zag.1 ho).1] at hl
  cases hl
 |succ fuel ih=>
  intro listed U pd m G a w hsz hcnt hcl I
  refine⟨fun hr=>hq _ U pd m G a w (hdone listed hsz hr) I,fun i hi=>?_⟩
  obtain⟨o,ho,hl,he⟩:=(hready listed i hsz).1 hi
  have hio:i<ops.size:=(zag.1 ho).1
  have hlen:=D.len
  have hci:cs[i]? =some (cs[i]'(by omega)):=zai (by omega)
  have hoi:(ops.toList.map qa8)[i]? =some (qa8 o):=by simp[ho]
  have hrd:∀k,qa9 (qck (ops.toList.map qa8) []) i k=true->listed.getD k false=true:=by
   intro k hw
   obtain⟨e',he',h⟩:=(qgq hoi (hb i _ hoi) k).1 hw
   rcases h with rfl|h
   ·exact he e' he'
   ·exact hcl e' k (he e' he') h
  unfold wpOpIn
  simp only[ho]
  have qaH:∀j,(listed.setIfInBounds i true).getD j false=if j=i then true else listed.getD j false:=by
   intro j
   rw[zap,zap,Array.getElem?_setIfInBounds]
   by_cases e1:i=j
   ·subst e1;simp[hsz,hio]
   ·rw[if_neg e1,if_neg (fun e2=>e1 e2.symm)]
  refine qoy D I se ho hci (by simp[hl]) hcl hrd fun U' pd' m' G' a' w' I'=>?_
  refine ih (listed.setIfInBounds i true) U' pd' m' G' a' w' (by simpa using hsz) ?_ (fun k j hk hw=>?_) ?_
  ·have hlt:(List.range ops.size).countP (fun j=>!(listed.setIfInBounds i true).getD j false)<(List.range ops.size).countP (fun j=>!listed.getD j false):=by
    have key:∀(l:List Nat),i∈l->l.countP (fun j=>!(listed.setIfInBounds i true).getD j false)<l.countP (fun j=>!listed.getD j false):=by
     intro l
     induction l with
     |nil=>intro h;cases h
     |cons x l ihl=>
      intro h
      have hle:∀l:List Nat,l.countP (fun j=>!(listed.setIfInBounds i true).getD j false)<=l.countP (fun j=>!listed.getD j false):=fun l=>
       List.countP_mono_left fun j _ h=>by
        rw[qaH] at h
        split at h
        ·cases h
        ·exact h
      rw[List.countP_cons,List.countP_cons]
      by_cases hx:x=i
      ·subst hx
       rw[qaH,if_pos rfl,hl]
       have:=hle l
       simp only[Bool.not_true,zaA,if_false,Bool.not_false,if_true]
       omega
      ·have:=ihl ((zaO.1 h).resolve_left (fun e=>hx e.symm))
       rw[qaH,if_neg hx]
       omega
    exact key _ (List.mem_range.2 hio)
   omega
  ·rw[qaH] at hk⊢
   split
   ·rfl
   ·split at hk
    ·rename_i e1
     subst e1
     exact hrd j hw
    ·exact hcl k j hk hw
  ·have:(fun j=>(listed.setIfInBounds i true).getD j false=true)=(fun j=>listed.getD j false=true∨j=i):=by
    funext j
    rw[qaH]
    by_cases e1:j=i
    ·simp[e1]
    ·simp[e1]
   rw[this]
   exact I'
end Go.AI
namespace Go.AI
variable {P:Program} {e:Env} {lof:Nat->Option Nat} {nt base:Nat} {ops:Array Oper} {U0:Nat->Option (List zA)} {G:Gh} {w:World} {a:Act}
theorem qh3 {ro:Option Nat}(se:SoundEnv P e)(hm:P.follows .mixedOrders=true){id:Nat}{Q:Exit->Act->World->Prop}{cc:CC}{c c':Cfg}{ex:EX}{n:Nat}(hc:qiy P lof nt ops=some cc)(cr:CR P e.E U0 lof nt base c G w a)(hev:qaZ e n cc c=some (ex,c'))
  (hq:∀G' a' w',Ext G w G' w'->CR P e.E U0 lof nt base c' G' w' a'->c'.rd=c.rd->Q .normal a' w'):ex=.normal/\(Code.region id ops true).wpIn (FW ro) 0 P Q a w:=by
 obtain⟨A,B,cs,chk,rfl⟩:∃A B cs chk,cc=.regd A B cs chk:=by
  simp only[qiy,zac] at hc
  obtain⟨l,hl,⟨x,y⟩,hab,h⟩:=hc
  obtain⟨_,h⟩:=qac h
  simp only[zaa] at h
  exact⟨_,_,_,_,h.symm⟩
 have hspec:=qfa hc
 have K0:=qfD _ _ _ hspec.2.1
 simp only[qaZ,zac] at hev
 obtain⟨T,hT,hev⟩:=hev
 obtain⟨hchk,hev⟩:=qac hev
 simp only[zaa,zad] at hev
 obtain⟨rfl,rfl⟩:=hev
 refine⟨rfl,wpIn_region_any hm ?_⟩
 have hkd:Keep w {w with drawn:=w.drawn+1}:=⟨zaf _,rfl,rfl,rfl,fun _ _=>rfl⟩
 have mr1:=cr.mr.keep hkd
 obtain⟨mr2,hhas2⟩:=mr1.preL A K0.na (fun q z hqz=>by
  obtain⟨_,_,_,d,_,_,_,h4,_⟩:=K0.a q z hqz
  exact⟨rfl,cr.lh d q h4⟩)
 obtain⟨U',mr3,hU,hex,hlo,hinj⟩:=mr2.preH B K0.nb
 generalize hc0:({c with l:=preL c.l A,h:=(preH c.s B).2,s:=(preH c.s B).1}:Cfg)=c0 at hT
 have e0l:c0.l=preL c.l A:=by rw[<-hc0]
 have e0s:c0.s=(preH c.s B).1:=by rw[<-hc0]
 have e0h:c0.h=(preH c.s B).2:=by rw[<-hc0]
 have e0f:c0.f=c.f:=by rw[<-hc0]
 have e0rd:c0.rd=c.rd:=by rw[<-hc0]
 obtain⟨t1,t2,t3,t4⟩:=qfB e cs c0 T hT
 have hlo2:qbl c T=qbl c0 T:=by
  have:=(t4 c).symm.trans (t4 c0)
  injection this
 rw[hlo2] at hchk hq
 obtain⟨D,K,hlast,h0⟩:=qlV se hc (c0:=c0) (s0:=c.s) e0h (by rw[e0h];exact hinj) (by rw[e0h];exact hex) hT hchk (fun t j hj=>by rw[e0l,hhas2];exact cr.lh t j hj) (fun t ht=>by rw[e0f];exact cr.fr.2 t (by rw[cr.sz];exact ht))
 have h0':(fun i=>(T[i]?).getD c0) 0=c0:=h0
 have k2:=(qfE _ _ hspec.1).2
 have hlen:=D.len
 have I0:Inv P e U0 nt base ops cs (fun i=>(T[i]?).getD c0) G w (fun i=>(Array.replicate ops.size false).getD i false=true) U' (fun q=>match qap A q with|some z=>some z|none=>none) 0 G a {w with drawn:=w.drawn+1}:=by
  have hS:∀i,¬((Array.replicate ops.size false).getD i false=true):=by
   intro i
   rw[zap,Array.getElem?_replicate]
   split<;>simp
  refine⟨hkd.ext G,by simp only[h0];rw[e0l,e0s];exact mr3,Nat.zero_le _,fun j b hj hb=>⟨fun h=>absurd h (hS j),fun h=>absurd h (Nat.not_lt_zero j)⟩,fun t=>⟨c.f.get qag t,(cr.fr.1 t).ext (hkd.ext G),.inr ⟨fun j b hj=>absurd hj (hS j),by simp only[h0];rw[e0f]⟩⟩,cr.sz,cr.df.ext (hkd.ext G),fun q z=>?_,fun q z=>?_,fun d q hd=>?_⟩
  ·constructor
   ·intro h
    have hA:qap A q=some z:=by
     cases e:qap A q with
     |none=>rw[e] at h;cases h
     |some z'=>rw[e] at h;exact h
    obtain⟨i,o,t,d,a1,a2,a3,a4,a5⟩:=K.a q z hA
    have hi:i<cs.length:=by
     have:=(zah.1 a1).1
     rw[zax] at this
     omega
    have hci:cs[i]? =some (cs[i]'hi):=zai hi
    obtain⟨hins,_⟩:=qdF (k2 i o _ a1 hci)
    obtain⟨z',d',_,hd,hcase⟩:=qbM hins a2
    rw[a3] at hd
    cases hd
    refine⟨i,hS i,o,_,t,by rw[<-zan];exact a1,hci,?_,a2,a5⟩
    rcases hcase with⟨q',e1,e2⟩|⟨_,e2⟩
    ·rw[a4] at e2;cases e2;exact e1
    ·rw[a4] at e2;cases e2
   ·rintro ⟨i,_,o,co,t,ho,hco,hq',hop,hz⟩
    obtain⟨_,d,z',b1,b2,b3⟩:=K.al i o t (by rw[zan];exact ho) hop
    obtain⟨hins,_⟩:=qdF (k2 i o co (by rw[zan];exact ho) hco)
    obtain⟨z2,d',c1,hd,hcase⟩:=qbM hins hop
    rw[b1] at hd
    cases hd
    rw[hz] at b2
    cases b2
    rcases hcase with⟨q',e1,e2⟩|⟨e1,_⟩
    ·rw[hq'] at e1
     cases e1
     rcases b3 with⟨q2,e3,e4⟩|⟨e3,_⟩
     ·rw[e2] at e3;cases e3;rw[e4]
     ·rw[e2] at e3;cases e3
    ·rw[hq'] at e1;cases e1
  ·rw[hU]
   constructor
   ·rintro (h|⟨d,h1,h2⟩)
    ·exact .inl h
    ·refine .inr ?_
     obtain⟨i,o,t,a1,a2,a3,a4,a5⟩:=K.b d z h2
     have hi:i<cs.length:=by
      have:=(zah.1 a1).1
      rw[zax] at this
      omega
     have hci:cs[i]? =some (cs[i]'hi):=zai hi
     obtain⟨hins,_⟩:=qdF (k2 i o _ a1 hci)
     obtain⟨z',d',_,hd,hcase⟩:=qbM hins a2
     rw[a3] at hd
     cases hd
     refine⟨i,hS i,o,_,t,d,by rw[<-zan];exact a1,hci,?_,by simp only[h0];rw[e0h];exact h1,a2,a5⟩
     rcases hcase with⟨q',e1,e2⟩|⟨e1,_⟩
     ·rw[a4] at e2;cases e2
     ·exact e1
   ·rintro (h|⟨i,_,o,co,t,d,ho,hco,hq',hqd,hop,hz⟩)
    ·exact .inl h
    obtain⟨_,d2,z',b1,b2,b3⟩:=K.al i o t (by rw[zan];exact ho) hop
    obtain⟨hins,_⟩:=qdF (k2 i o co (by rw[zan];exact ho) hco)
    obtain⟨z2,d',c1,hd,hcase⟩:=qbM hins hop
    rw[b1] at hd
    cases hd
    rw[hz] at b2
    cases b2
    simp only[h0] at hqd
    rw[e0h] at hqd
    rcases hcase with⟨q',e1,e2⟩|⟨e1,e2⟩
    ·rw[hq'] at e1;cases e1
    ·rw[hq'] at e1
     cases e1
     rcases b3 with⟨q2,e3,_⟩|⟨_,e3⟩
     ·rw[e2] at e3;cases e3
     ·exact .inr ⟨d,hqd,e3⟩
  ·simp only[h0] at hd
   rw[e0h] at hd
   cases e1:U0 q with
   |none=>rfl
   |some z=>
    have h1:=(mr2.heap _ _ (mr2.un q z e1).2.1).1
    have h2:=hlo d q hd
    omega
 refine qlW (ro:=ro) (base:=base) (G0:=G) (w0:=w) se D hspec.2.2.2.1 (fun S U pd m G' a' w' hall I=>?_) ops.size _ U' _ 0 G a _ (by simp) ?_ (fun k j hk _=>?_) I0
 ·
  have hnoS:∀i,¬S i->cs[i]? =none:=fun i hi=>by
   cases e1:cs[i]? with
   |none=>rfl
   |some b=>
    have:=(zah.1 e1).1
    exact absurd (hall i (by omega)) hi
  have hpd0:pd=fun _=>none:=by
   funext q
   cases e1:pd q with
   |none=>rfl
   |some z=>
    obtain⟨i,h1,o,co,t,h2,h3,_⟩:=(I.pd_ q z).1 e1
    rw[hnoS i h1] at h3
    cases h3
  have hu0:U=U0:=by
   funext q
   cases e1:U q with
   |none=>
    cases e2:U0 q with
    |none=>rfl
    |some z=>rw[(I.u_ q z).2 (.inl e2)] at e1;cases e1
   |some z=>
    rcases(I.u_ q z).1 e1 with h|⟨i,h1,o,co,t,d,h2,h3,_⟩
    ·exact h.symm
    ·rw[hnoS i h1] at h3
     cases h3
  subst hpd0;subst hu0
  obtain⟨hl,hs⟩:=D.mem I.mle (zaf _) fun j b h1 h2 hj=>by
   cases hb:b.op.heavy with
   |false=>rfl
   |true=>
    have:=(I.heavy j b hj hb).1 (hall j (by omega))
    omega
  simp only[hlast] at hl hs
  have hlike:=D.like cs.length (zaf _)
  simp only[hlast,h0] at hlike
  refine hq G' a' w' I.ext ⟨⟨fun t=>?_,fun t ht=>?_⟩,I.sz,by rw[hl,hs];exact I.mr,fun t j hj=>by rw[hlike.has,e0l,hhas2];exact cr.lh t j hj,I.df,zaN cr.bs I.ext.size⟩ (hlike.rd.trans e0rd)
  ·obtain⟨v,hv,hcase⟩:=I.tmp t
   rcases hcase with⟨i,co,hSi,hi,hd,rfl,hlst⟩|⟨hno,rfl⟩
   ·have hil:=(zah.1 hi).1
    have:=D.frame (t:=t) (i:=i+1) (k:=cs.length) (by omega) (zaf _) fun j b h1 h2 hj=>hlst j b (hall j (by omega)) (by omega) hj
    simp only[hlast] at this
    rw[this]
    exact hv
   ·have:=D.frame (t:=t) (i:=0) (k:=cs.length) (by omega) (zaf _) fun j b h1 h2 hj=>hno j b (hall j (by omega)) hj
    simp only[hlast] at this
    rw[this]
    exact hv
  ·have:=D.has cs.length (zaf _) t (by rw[←I.sz];exact ht)
   simp only[hlast] at this
   exact this
 ·exact zaN List.countP_le_length (by simp)
 ·rw[zap,Array.getElem?_replicate] at hk
  split at hk<;>simp at hk
end Go.AI
namespace Go.AI
variable {P:Program} {e:Env} {lof:Nat->Option Nat} {nt base:Nat} {U0:Nat->Option (List zA)}
def qnK:EX->Exit
 |.normal=> .normal
 |.exit i=> .exit i
 |.ret=> .ret
def RoR (G:Gh):Option Nat->Option Nat->Prop
 |none,none=>True
 |some b,some k=>G.bOf k=some b
 |_,_=>False
theorem RoR.ext {G G':Gh}{w w':World}(x:Ext G w G' w'){ro rd:Option Nat}(h:RoR G ro rd):RoR G' ro rd:=by
 cases ro<;>cases rd<;>first|exact h|exact x.bOf _ _ h
theorem qiG (k:Nat)(b:Cfg->Option (EX×Cfg))(c:Cfg):qfg (k+1) b c=(b c).bind fun r=>match r with
  |(.normal,c)=>qfg k b c
  |r=>some r:=rfl
theorem qqq {G:Gh}{w:World}{c:zA}{v:Value}(h:VR G w c v):VR G w (far c) v:=by
 unfold far
 cases qjt c with
 |true=>exact h
 |false=>exact .junk v
theorem qlX (c:zA):qjt (far c)=true\/far c=.junk:=by
 unfold far
 cases e:qjt c with
 |true=>exact .inl (by simpa using e)
 |false=>exact .inr rfl
theorem qgu (f:Tr zA)(t:Nat):(f.map far).get qag t=far (f.get qag t):=by
 have:=Tr.get_map far qag f t
 have e:far qag=qag:=rfl
 rw[e] at this
 exact this
theorem qoz (l:Tr (Nat×List zA))(i:Nat):(l.map fun _=>((0,[]):Nat×List zA)).get (0,[]) i=(0,[]):=by
 have:=Tr.get_map (fun _:Nat×List zA=>((0,[]):Nat×List zA)) (0,[]) l i
 exact this
theorem qlY {ro:Option Nat}{c:Cfg}{G:Gh}{w:World}{a:Act}(cr:CR P e.E U0 lof nt base c G w a)(hro:RoR G ro c.rd)(hin:qjy c=true){ps:Array Tmp}{assign body:Code}{aa bb:CC}(ha:qbf P lof nt assign=some aa)(hb:qbf P lof nt body=some bb)
  (hps:∀p∈ps.toList,p<nt)(fn:FuncId):∃l mark w1 G1,(Instr.enterLoop fn a.tmps ps assign body ro).run P w=.ok (l,mark) w1∧Ext G w G1 w1∧G1.bOf c.s.next=some l∧
   CR P e.E U0 lof nt base {c with s:=qaw c.s (.loop 0 none (c.f.map far) (c.l.map fun _=>(0,[])) ps.toList aa bb)} G1 w1 {a with defers:=mark++a.defers}:=by
 have second:∀(d:Nat) (mark:List Deferred) (G0:Gh) (w0:World),Ext G w G0 w0->MR P e.E U0 (fun _=>none) c.l c.s G0 w0->Marks base G0 w0 (mark++a.defers)->
   ∃G1,Ext G w G1 (w0.alloc (.loop {state:=.ready,pending:=none,fn:=fn,tmps:=a.tmps,params:=ps,assign:=assign,body:=body,defers:=d}))/\G1.bOf c.s.next=some w0.heap.size/\
    CR P e.E U0 lof nt base {c with s:=qaw c.s (.loop 0 none (c.f.map far) (c.l.map fun _=>(0,[])) ps.toList aa bb)} G1 (w0.alloc (.loop {state:=.ready,pending:=none,fn:=fn,tmps:=a.tmps,params:=ps,assign:=assign,body:=body,defers:=d})) {a with defers:=mark++a.defers}:=by
  intro d mark G0 w0 x0 mr0 hm
  have x1:=mr0.ext_addH (Keep.alloc w0 (.loop {state:=.ready,pending:=none,fn:=fn,tmps:=a.tmps,params:=ps,assign:=assign,body:=body,defers:=d})) (b:=w0.heap.size) (q:=c.s.next) (zaf _) mr0.bOf_next mr0.lo_
  have x:=x0.trans x1
  refine⟨_,x,by simp[Gh.addH,qav],⟨cr.fr.ext x,cr.sz,?_,cr.lh,hm.ext x1,zaN cr.bs x.size⟩⟩
  refine mr0.addH (Keep.alloc w0 _) (zaf _) (qa7 w0 _) (o:=.loop 0 none (c.f.map far) (c.l.map fun _=>(0,[])) ps.toList aa bb) ⟨_,heap_alloc_new w0 _,trivial,trivial,⟨fun t=>?_,fun t ht=>?_⟩,fun t=>?_,rfl,fun p hp=>?_,fun i=>qoz _ _,lof,?_,?_,fun t i hi=>?_⟩
  ·rw[qgu]
   exact qqq ((cr.fr.1 t).ext x)
  ·rw[Tr.has_map]
   exact cr.fr.2 t ht
  ·rw[qgu]
   exact qlX _
  ·show p<a.tmps.size
   rw[cr.sz]
   exact hps p hp
  ·rw[<-cr.sz] at ha;exact ha
  ·rw[<-cr.sz] at hb;exact hb
  ·rw[Tr.has_map];exact cr.lh t i hi
 cases ro with
 |none=>
  let G0:Gh:={G with own:=upd G.own w.heap.size .misc}
  have hf:=cr.mr.free (zaf w.heap.size)
  have k0:=Keep.alloc w (.deferred (some []))
  have x0:Ext G w G0 (w.alloc (.deferred (some []))):=Ext.new k0 (zaf _) (fun y hy=>qar _ _ _ hy) hf (fun _ _ h=>h) (fun _ _ _ h=>h) (zaf _) rfl (fun _ _=>rfl) (fun t n sz h=>by simp[G0,qav] at h)
  have hne:∀y r,G.own y=r->r≠.free->y≠w.heap.size:=fun y r h1 h2 e=>h2 (by rw[<-h1,e,hf])
  have st:Step G w G0 (w.alloc (.deferred (some []))) (fun y=>y=w.heap.size):=⟨x0,fun y hy hn=>⟨k0.same y hy,qar _ _ _ hn⟩⟩
  have h:=cr.mr
  have mr0:MR P e.E U0 (fun _=>none) c.l c.s G0 (w.alloc (.deferred (some []))):=by
   refine⟨fun y hy=>?_,h.bOf,h.lo_,h.un,h.pdz,h.nt,h.loc.step st (fun y q r ho=>hne y _ ho (by simp)),h.lam,h.heap.step st (fun y q ho=>hne y _ ho (by simp)) (fun _ _ _ h=>h),h.ro.step st (fun y q ho=>hne y _ ho (by simp)),
    h.tok.step (fun y t n sz ho=>by simp only[G0];rw[qar _ _ _ (hne y _ ho (by simp))];exact ho) (fun y t n sz ho=>?_) (fun y _ _ _ ho=>k0.same y (h.own y (by rw[ho];simp)))⟩
   ·by_cases e':y=w.heap.size
    ·subst e';simp
    ·simp only[G0] at hy
     rw[qar _ _ _ e'] at hy
     exact zau (h.own y hy) k0.size
   ·have hy:y≠w.heap.size:=fun e'=>by subst e';simp[G0,qav] at ho
    simp only[G0] at ho
    rw[qar _ _ _ hy] at ho
    exact ho
  have hold:∀(ds:List Deferred),Marks base G w ds->∀d'∈ds,d'.target≠.collected w.heap.size:=by
   intro ds
   induction ds with
   |nil=>intro _ d' hd';cases hd'
   |cons d ds ih=>
    rintro ⟨⟨r,q1,q2,q3,q4,q5⟩,q6⟩ d' hd'
    rcases zaO.1 hd' with rfl|hd'
    ·rw[q1]
     intro e'
     injection e' with e'
     have:=(zag.1 q4).1
     omega
    ·exact ih q6 d' hd'
  obtain⟨G1,x1,hb1,cr1⟩:=second w.heap.size [{target:=.collected w.heap.size,args:= #[]}] G0 (w.alloc (.deferred (some []))) x0 mr0
   ⟨⟨w.heap.size,rfl,cr.bs,qav _ _ _,heap_alloc_new w _,hold a.defers cr.df⟩,cr.df.ext x0⟩
  refine⟨_,_,_,G1,?_,x1,hb1,cr1⟩
  simp[Instr.enterLoop]
 |some lr=>
  obtain⟨k,hrd,hbk⟩:∃k,c.rd=some k/\G.bOf k=some lr:=by
   cases hr:c.rd with
   |none=>rw[hr] at hro;exact hro.elim
   |some k=>rw[hr] at hro;exact⟨k,rfl,hro⟩
  have hloop:∃r,w.heap[lr]? =some (.loop r):=by
   unfold qjy at hin
   rw[hrd] at hin
   simp only at hin
   split at hin<;>try (cases hin;done)
   rename_i hk
   rcases(cr.mr.heap k _ hk).2 with e'|⟨b,h1,h2,r,h3,_⟩
   ·rw[hbk] at e';cases e'
   ·rw[hbk] at h1;cases h1;exact⟨r,h3⟩
  obtain⟨r,hr⟩:=hloop
  obtain⟨G1,x1,hb1,cr1⟩:=second r.defers [] G w (Ext.refl G w) cr.mr cr.df
  refine⟨_,_,_,G1,?_,x1,hb1,cr1⟩
  simp[Instr.enterLoop,Instr.getLoop,getObj,hr]
  simp[Sem.run,hr]
end Go.AI
namespace Go.AI
variable {P:Program} {e:Env} {lof:Nat->Option Nat} {nt base:Nat} {U0:Nat->Option (List zA)}
theorem qep (u:Value)(vs:Array Value)(w:World)(f:Fn)(first cap:Array Value)(h:u=.func f first cap):(Deferred.ofValue u vs).run P w=.ok {target:=.fn f cap,args:=first++vs} w:=by subst h;rfl
theorem qlZ:∀{st:Nat},stR st .busy->st=1
 |0,h=>h.elim
 |1,_=>rfl
 |2,h=>h.elim
 |_+3,h=>h.elim
theorem ql0 {G:Gh}{w:World}{c:Cfg}{a:Act}{l k:Nat}{st:Nat}{pend:Option CC}{f:Tr zA}{lo:Tr (Nat×List zA)}{ps:List Nat}{x y:CC}(cr:CR P e.E U0 lof nt base c G w a)(hb:G.bOf k=some l)(hk:qaH c.s.heap k=some (.loop st pend f lo ps x y))(hst:st≠1){hp:Heap}(qaM:qaM c.s.heap k .gone=some hp):
  ∃jump w',(Instr.endLoop l).run P w=.ok jump w'/\qlI pend jump/\Ext G w G w'/\CR P e.E U0 lof nt base {c with s:={c.s with heap:=hp}} G w' a:=by
 rcases(cr.mr.heap k _ hk).2 with e'|⟨b,h1,h2,r,h3,h4⟩
 ·rw[hb] at e';cases e'
 rw[hb] at h1
 cases h1
 have hne:r.state≠.busy:=fun hs=>hst (qlZ (by rw[<-hs];exact h4.st_))
 have sw:=Swap.setObj h3 (.loop {r with state:=.exhausted})
 have x:=Ext.chg (G:=G) sw (by rw[h2];exact fun e=>e) (by rw[h2];intros;simp)
 obtain⟨_,hm⟩:=cr.mr.chgH sw hb h2 qaM (ob:=.gone) ⟨_,(MapKept.heap_set h3).1⟩
 refine⟨r.pending,_,?_,h4.pend_,x,⟨cr.fr.ext x,cr.sz,hm,cr.lh,cr.df.ext x,zaN cr.bs x.size⟩⟩
 simp[Instr.endLoop,Instr.getLoop,getObj,setObj,Sem.run,h3,hne]
theorem qh4 {x:Option CC}{cc:CC}(h:qlF x=some cc):x=some cc\/cc=.bad:=by
 cases x with
 |none=>
  simp only[qlF,zaa] at h
  exact .inr h.symm
 |some y=>exact .inl h
theorem qcg (se:SoundEnv P e)(hm:P.follows .mixedOrders=true){ro:Option Nat}(n:Nat):∀(code:Code) {cc:CC},qbf P lof nt code=some cc->∀{c c':Cfg} {ex:EX} {G:Gh} {w:World} {a:Act} {Q:Exit->Act->World->Prop},
  CR P e.E U0 lof nt base c G w a->RoR G ro c.rd->qaZ e n cc c=some (ex,c')->(∀G' a' w',Ext G w G' w'->CR P e.E U0 lof nt base c' G' w' a'->c'.rd=c.rd->Q (qnK ex) a' w')->code.wpIn (FW ro) 0 P Q a w
 |.skip,cc,hc,c,c',ex,G,w,a,Q,cr,hro,hev,hq=>by
  simp only[qbf,zaa] at hc
  subst hc
  simp only[qaZ,zaa,zad] at hev
  obtain⟨rfl,rfl⟩:=hev
  exact wpIn_skip (hq G a w (Ext.refl G w) cr rfl)
 |.region id ops false,cc,hc,c,c',ex,G,w,a,Q,cr,hro,hev,hq=>by
  simp only[qbf] at hc
  rcases qh4 hc with hc|rfl
  ·simp only[zab] at hc
   obtain⟨cs,hcs,rfl⟩:=hc
   simp only[qaZ,zab,zad] at hev
   obtain⟨c1,hev,rfl,rfl⟩:=hev
   exact qox se hcs cr hev hq
  ·simp only[qaZ,reduceCtorEq] at hev
 |.region id ops true,cc,hc,c,c',ex,G,w,a,Q,cr,hro,hev,hq=>by
  simp only[qbf] at hc
  rcases qh4 hc with hc|rfl
  ·have he:ex=.normal:=(qh3 (ro:=ro) (id:=id) (Q:=fun _ _ _=>True) se hm hc cr hev (fun _ _ _ _ _ _=>trivial)).1
   subst he
   exact(qh3 se hm hc cr hev hq).2
  ·simp only[qaZ,reduceCtorEq] at hev
 |.seq x y,cc,hc,c,c',ex,G,w,a,Q,cr,hro,hev,hq=>by
  simp only[qbf,zac,zab] at hc
  obtain⟨cx,hx,cy,hy,rfl⟩:=hc
  simp only[qaZ,zac] at hev
  obtain⟨⟨ex1,c1⟩,h1,h2⟩:=hev
  refine wpIn_seq (qcg se hm n x hx cr hro h1 fun G1 a1 w1 x1 cr1 hrd1=>?_)
  cases ex1 with
  |normal=>
   exact qcg se hm n y hy cr1 (by rw[hrd1];exact hro.ext x1) h2 fun G2 a2 w2 x2 cr2 hrd2=>hq G2 a2 w2 (x1.trans x2) cr2 (hrd2.trans hrd1)
  |exit i=>
   simp only[zaa,zad] at h2
   obtain⟨rfl,rfl⟩:=h2
   exact hq G1 a1 w1 x1 cr1 hrd1
  |ret=>
   simp only[zaa,zad] at h2
   obtain⟨rfl,rfl⟩:=h2
   exact hq G1 a1 w1 x1 cr1 hrd1
 |.cond x p q,cc,hc,c,c',ex,G,w,a,Q,cr,hro,hev,hq=>by
  simp only[qbf,zac,zab] at hc
  obtain⟨g,hg,cp,hp,cq,hcq,rfl⟩:=hc
  have hv:=qat hg (cr.fr.reads (a:=a) g.tmps)
  simp only[qaZ] at hev
  split at hev
  ·rename_i hx
   rw[hx] at hv
   exact wpIn_cond_true hv.bool_inv (qcg se hm n p hp cr hro hev hq)
  ·rename_i hx
   rw[hx] at hv
   exact wpIn_cond_false hv.bool_inv (qcg se hm n q hcq cr hro hev hq)
  ·cases hev
 |.block id x,cc,hc,c,c',ex,G,w,a,Q,cr,hro,hev,hq=>by
  simp only[qbf,zab] at hc
  obtain⟨cx,hx,rfl⟩:=hc
  simp only[qaZ,zab] at hev
  obtain⟨⟨ex1,c1⟩,h1,h2⟩:=hev
  refine wpIn_block (qcg se hm n x hx cr hro h1 fun G1 a1 w1 x1 cr1 hrd1=>?_)
  cases ex1 with
  |normal=>
   simp only[zad] at h2
   obtain⟨rfl,rfl⟩:=h2
   exact hq G1 a1 w1 x1 cr1 hrd1
  |exit i=>
   simp only[zad] at h2
   obtain⟨rfl,rfl⟩:=h2
   have:=hq G1 a1 w1 x1 cr1 hrd1
   show if i=id then _ else _
   by_cases e1:i=id
   ·rw[if_pos e1]
    rw[qaB e1] at this
    exact this
   ·rw[if_neg e1]
    rw[qaE e1] at this
    exact this
  |ret=>
   simp only[zad] at h2
   obtain⟨rfl,rfl⟩:=h2
   exact hq G1 a1 w1 x1 cr1 hrd1
 |.loop x,cc,hc,c,c',ex,G,w,a,Q,cr,hro,hev,hq=>by
  simp only[qbf,zab] at hc
  obtain⟨cx,hx,rfl⟩:=hc
  simp only[qaZ] at hev
  have key:∀k {c:Cfg} {G1:Gh} {w1:World} {a1:Act},Ext G w G1 w1->CR P e.E U0 lof nt base c G1 w1 a1->RoR G1 ro c.rd->qfg k (qaZ e n cx) c=some (ex,c')->(∀G' a' w',Ext G1 w1 G' w'->CR P e.E U0 lof nt base c' G' w' a'->c'.rd=c.rd->Q (qnK ex) a' w')->Code.roundsIn (FW ro) 0 P x Q k a1 w1:=by
   intro k
   induction k with
   |zero=>intro c G1 w1 a1 _ _ _ h;cases h
   |succ k ih=>
    intro c G1 w1 a1 x1 cr1 hro1 h hq1
    rw[qiG] at h
    simp only[zac] at h
    obtain⟨⟨ex2,c2⟩,h1,h2⟩:=h
    rw[roundsIn_succ]
    refine qcg se hm n x hx cr1 hro1 h1 fun G2 a2 w2 x2 cr2 hrd2=>?_
    cases ex2 with
    |normal=>exact ih (x1.trans x2) cr2 (by rw[hrd2];exact hro1.ext x2) h2 fun G3 a3 w3 x3 cr3 hrd3=>hq1 G3 a3 w3 (x2.trans x3) cr3 (hrd3.trans hrd2)
    |exit i=>
     simp only[zaa,zad] at h2
     obtain⟨rfl,rfl⟩:=h2
     exact hq1 G2 a2 w2 x2 cr2 hrd2
    |ret=>
     simp only[zaa,zad] at h2
     obtain⟨rfl,rfl⟩:=h2
     exact hq1 G2 a2 w2 x2 cr2 hrd2
  exact wpIn_loop_rounds n (key n (Ext.refl G w) cr hro hev hq)
 |.rangeFunc g ps x y,cc,hc,c,c',ex,G,w,a,Q,cr,hro,hev,hq=>by
  simp only[qbf,zac] at hc
  obtain⟨gg,hg,cx,hx,cy,hy,hc⟩:=hc
  obtain⟨hps,hc⟩:=qac hc
  simp only[zaa] at hc
  subst hc
  simp only[qaZ] at hev
  obtain⟨hin,hev⟩:=qac hev
  simp only[zae] at hin
  simp only[zac] at hev
  obtain⟨⟨rv,s1⟩,hcall,hev⟩:=hev
  simp only at hev
  split at hev<;>try (cases hev;done)
  rename_i st pend lf ll lps lx ly hloop
  obtain⟨hst,hev⟩:=qaD hev
  have hst1:st≠1:=fun e'=>by subst e';cases hst
  simp only[zac] at hev
  obtain⟨hp,qaM,hev⟩:=hev
  refine wpIn_rangeFunc fun fn _=>?_
  obtain⟨l,mark,w1,G1,hent,x1,hbl,cr1⟩:=qlY cr hro hin.1 hx hy (fun p hp=>blt_iff.1 (zaj.1 hps p hp)) fn
  have hfv:=(qat hg (cr.fr.reads (a:=a) gg.tmps)).ext x1
  have hargs:VRs G1 w1 [.yield c.s.next] #[Value.func (.yield l) #[] #[]].toList:=VRs.nil.cons (.yield _ _ hbl)
  obtain⟨f0,first,cap,hu,hcf⟩:=se.callf hcall hin.2 cr1.mr hfv hargs
  have hcv:=se.callv hcall cr1.mr hfv hargs
  refine⟨l,mark,w1,{target:=.fn (.func f0) cap,args:=first++ #[Value.func (.yield l) #[] #[]]},w1,f0,first++ #[Value.func (.yield l) #[] #[]]++cap,w1,hent,?_,fun _ _=>trivial,?_,(fun h=>by cases h),?_⟩
  ·show(Deferred.ofValue (a.eval g) _).run P w1=_
   rw[qep _ _ _ (.func f0) first cap hu,show Array.map a.eval (rangeCall g l).args= #[Value.func (.yield l) #[] #[]] by simp[rangeCall,Act.eval]]
  ·exact hcf
  ·have hn:NextP P (qba P e.E U0 (fun _=>none) G1 w1 c.l s1 rv) (.ok (.enter f0 (first++ #[Value.func (.yield l) #[] #[]]++cap)) w1):=by
    rw[Sem.run_bind,qep _ _ _ (.func f0) first cap hu] at hcv
    simp only[Result.andThen_ok,invoke] at hcv
    rw[hcf] at hcv
    exact hcv
   refine CallsIn.mono (F:=Fence.wide) hn fun en w2 h=>?_
   obtain⟨u,rfl,G2,x2,mr2,hvr⟩:=h
   have cr2:CR P e.E U0 lof nt base {c with s:=s1} G2 w2 {a with defers:=mark++a.defers}:=⟨cr1.fr.ext x2,cr1.sz,mr2,cr1.lh,cr1.df.ext x2,zaN cr1.bs x2.size⟩
   obtain⟨jump,w3,hend,hpend,x3,cr3⟩:=ql0 (k:=c.s.next) cr2 (x2.bOf _ _ hbl) hloop hst1 qaM
   refine⟨jump,w3,hend,?_⟩
   have hx:=(x1.trans x2).trans x3
   cases pend with
   |none=>
    simp only[zaa,zad] at hev
    obtain⟨rfl,rfl⟩:=hev
    cases jump with
    |none=>exact hq G2 _ w3 hx cr3 rfl
    |some j=>exact hpend.elim
   |some pc=>
    cases pc with
    |ret=>
     simp only[zaa,zad] at hev
     obtain⟨rfl,rfl⟩:=hev
     cases jump with
     |none=>exact hpend.elim
     |some j=>
      cases j with
      |ret=>exact wpIn_ret (hq G2 _ w3 hx cr3 rfl)
      |_=>exact hpend.elim
    |exit i=>
     simp only[zaa,zad] at hev
     obtain⟨rfl,rfl⟩:=hev
     cases jump with
     |none=>exact hpend.elim
     |some j=>
      cases j with
      |exit i'=>
       have:i=i':=hpend
       subst this
       exact wpIn_exit (hq G2 _ w3 hx cr3 rfl)
      |_=>exact hpend.elim
    |_=>cases hev
 |.exit i,cc,hc,c,c',ex,G,w,a,Q,cr,hro,hev,hq=>by
  simp only[qbf,zaa] at hc
  subst hc
  simp only[qaZ,zaa,zad] at hev
  obtain⟨rfl,rfl⟩:=hev
  exact wpIn_exit (hq G a w (Ext.refl G w) cr rfl)
 |.ret,cc,hc,c,c',ex,G,w,a,Q,cr,hro,hev,hq=>by
  simp only[qbf,zaa] at hc
  subst hc
  simp only[qaZ,zaa,zad] at hev
  obtain⟨rfl,rfl⟩:=hev
  exact wpIn_ret (hq G a w (Ext.refl G w) cr rfl)
 |.label _,cc,hc,_,_,_,_,_,_,_,_,_,hev,_=>by
  simp only[qbf,zaa] at hc
  subst hc
  simp only[qaZ,reduceCtorEq] at hev
 |.goto _,cc,hc,_,_,_,_,_,_,_,_,_,hev,_=>by
  simp only[qbf,zaa] at hc
  subst hc
  simp only[qaZ,reduceCtorEq] at hev
 |.scope _,cc,hc,_,_,_,_,_,_,_,_,_,hev,_=>by
  simp only[qbf,zaa] at hc
  subst hc
  simp only[qaZ,reduceCtorEq] at hev
 |.refuse _,cc,hc,_,_,_,_,_,_,_,_,_,hev,_=>by
  simp only[qbf,zaa] at hc
  subst hc
  simp only[qaZ,reduceCtorEq] at hev
end Go.AI
namespace Go.AI
variable {P:Program} {e:Env} {lof:Nat->Option Nat} {nt base:Nat}
section
variable {E:Rom} {U pd:Nat->Option (List zA)} {l:Tr (Nat×List zA)} {s:ASt} {G G0:Gh} {w w0 w':World} {r:Nat}
theorem qcG (sw:Swap r w w')(hr:G.own r=.misc):∀(ad:Addr) v,w.cell? ad=some v->G.S ad.block ad.off->w'.cell? ad=some v/\G.S ad.block ad.off:=by
 intro ad v hc hs
 refine⟨?_,hs⟩
 have:ad.block≠r:=fun e'=>by
  unfold Gh.S at hs
  rw[e',hr] at hs
  exact hs
 unfold World.cell? at hc⊢
 rw[sw.same _ this]
 exact hc
theorem PR.quiet (sw:Swap r w w')(hr:G.own r=.misc){c:zP}{v:Value}(h:PR G.S w c v):PR G.S w' c v:=h.mono (qcG sw hr)
theorem Right.quiet (sw:Swap r w w')(hr:G.own r=.misc){n:Nat}{cs:List zP}{t:Nat}{a:Option Addr}{cap:Nat}(h:Right G w n cs t a cap):Right G w' n cs t a cap:=by
 refine⟨h.1,fun b m sz hb=>?_⟩
 obtain⟨h1,h2⟩:=h.2 b m sz hb
 refine⟨h1,fun e'=>?_⟩
 obtain⟨h3,h4,h5,c,E,h6,h7⟩:=h2 e'
 exact⟨h3,h4,h5,c,E,by rw[sw.same b (fun e'=>by rw[e',hr] at hb;cases hb)];exact h6,h7⟩
theorem VR.quiet (sw:Swap r w w')(hr:G.own r=.misc){c:zA}{v:Value}(h:VR G w c v):VR G w' c v:=by
 induction h with
 |p c v hp=>exact .p c v (hp.quiet sw hr)
 |full n cs a hp=>exact .full n cs a (hp.quiet sw hr)
 |own n cs t a cap hp q=>exact .own n cs t a cap (hp.quiet sw hr) (q.quiet sw hr)
 |lptr i g off b hb=>exact .lptr i g off b hb
 |ptr l off b hb=>exact .ptr l off b hb
 |elem cs i ad he=>
  refine .elem cs i ad fun j c hc=>?_
  obtain⟨v,h1,h2,h3,h4⟩:=he j c hc
  exact⟨v,(qcG sw hr (ad.add j) v h1 (by rw[qaP,qbg];exact h2)).1,h2,h3.quiet sw hr,h4⟩
 |row n cs a cap vs hn hl h1 hc _ ih=>exact .row n cs a cap vs hn hl h1 (fun i v hv=>⟨(qcG sw hr (a.add i) v (hc i v hv).1 (by rw[qaP,qbg];exact(hc i v hv).2)).1,(hc i v hv).2⟩) ih
 |rel cs i a vs hl h1 hc _ ih=>exact .rel cs i a vs hl h1 (fun i v hv=>⟨(qcG sw hr (a.add i) v (hc i v hv).1 (by rw[qaP,qbg];exact(hc i v hv).2)).1,(hc i v hv).2⟩) ih
 |func f fs cps vs us hl hm _ _ ih ik=>exact .func f fs cps vs us hl hm ih ik
 |yield l b hb=>exact .yield l b hb
 |map l b hb=>exact .map l b hb
 |hs l off n cap sz op b cap' hb hn hc he hz=>
  obtain⟨c,E,fr,h1,h2⟩:=hz
  obtain⟨c',fr',h3,h4⟩:=sw.wideAll b c E fr h1
  exact .hs l off n cap sz op b cap' hb hn hc he ⟨c',E,fr',h3,by omega⟩
 |iface t c v _ ih=>exact .iface t c v ih
 |agg cs vs hl h1 _ ih=>exact .agg cs vs hl h1 ih
 |tuple cs vs hl _ ih=>exact .tuple cs vs hl ih
 |sym b ls n h hn=>exact .sym b ls n h hn
 |junk v=>exact .junk v
theorem BR.quiet (sw:Swap r w w')(hr:G.own r=.misc){b:Nat}(hb:b≠r){cs:List zA}(h:BR G w b cs):BR G w' b cs:=by
 obtain⟨c,E,h1,h2,h3,h4⟩:=h
 exact⟨c,E,by rw[sw.same b hb];exact h1,h2,h3,fun j a v ha hv=>(h4 j a v ha hv).quiet sw hr⟩
theorem OR.quiet (sw:Swap r w w')(hr:G.own r=.misc){b:Nat}(hb:b≠r)(hq:G.own b≠.misc){o:zH}(h:OR P G w b o):OR P G w' b o:=by
 cases o with
 |bld T e bs=>exact h.move (sw.same b hb) fun g hg he=>⟨sw.same g (fun e'=>hq (by rw[<-he,e',hr])),he⟩
 |cells cs=>exact⟨h.1.quiet sw hr hb,h.2⟩
 |map es=>
  obtain⟨⟨ents,h1,h2,h3⟩,h4⟩:=h
  exact⟨⟨ents,by rw[sw.same b hb];exact h1,h2,fun j k y e ha hv=>⟨(h3 j k y e ha hv).1.quiet sw hr,(h3 j k y e ha hv).2.1.quiet sw hr,(h3 j k y e ha hv).2.2⟩⟩,h4⟩
 |loop st pend f l ps a c=>
  obtain⟨q,h1,h2⟩:=h
  exact⟨q,by rw[sw.same b hb];exact h1,⟨h2.st_,h2.pend_,⟨fun t=>(h2.f_.1 t).quiet sw hr,h2.f_.2⟩,h2.aw,h2.ps_,h2.psl,h2.l_,h2.code⟩⟩
 |gone=>
  obtain⟨q,h1⟩:=h
  exact⟨q,by rw[sw.same b hb];exact h1⟩
 |iter m since last seen=>
  obtain⟨bm,h1,h2⟩:=h
  exact⟨bm,by rw[sw.same b hb];exact h1,h2.quiet sw hr⟩
theorem MR.quiet (h:MR P E U pd l s G w)(sw:Swap r w w')(hr:G.own r=.misc):MR P E U pd l s G w':=by
 have hne:∀y q,G.own y=q->q≠.misc->y≠r:=fun y q h1 h2 e'=>h2 (by rw[<-h1,e',hr])
 refine⟨fun b hb=>by rw[sw.size];exact h.own b hb,h.bOf,h.lo_,h.un,h.pdz,h.nt,fun i g cs hl hg hp=>?_,h.lam,fun k o hk=>?_,fun k o hk=>?_,h.tok.step (fun _ _ _ _ h=>h) (fun _ _ _ _ h=>h) (fun y _ _ _ ho=>sw.same y (hne y _ ho (by simp)))⟩
 ·obtain⟨b,h1,h2,h3⟩:=h.loc i g cs hl hg hp
  exact⟨b,h1,h2,h3.quiet sw hr (hne b _ h2 (by simp))⟩
 ·obtain⟨h1,h2⟩:=h.heap k o hk
  exact⟨h1,h2.imp id fun⟨b,h3,h4,h5⟩=>⟨b,h3,h4,h5.quiet sw hr (hne b _ h4 (by simp)) (by rw[h4];simp)⟩⟩
 ·obtain⟨h12,hph⟩:=h.ro k o hk
  refine⟨fun hlo=>?_,fun hhi=>?_⟩
  ·obtain⟨h1,h2⟩:=h12 hlo
   exact⟨h1,h2.imp id fun⟨b,j,h3,h4,h5⟩=>⟨b,j,h3,h4,h5.quiet sw hr (hne b _ h4 (by simp)) (by rw[h4];simp)⟩⟩
  ·obtain⟨j,h4,h5⟩:=hph hhi
   exact⟨j,h4,h5.go (sw.same _ (hne _ _ h4 (by simp))) fun a v _ h=>h.quiet sw hr⟩
theorem Ext.quiet (x:Ext G0 w0 G w)(sw:Swap r w w')(hr:w0.heap.size<=r):Ext G0 w0 G w' where
 size:=by rw[sw.size];exact x.size
 os:=sw.os.trans x.os
 tape:=sw.tape.trans x.tape
 output:=sw.output.trans x.output
 still:=fun b hb hs=>by
  obtain⟨h1,h2⟩:=x.still b hb hs
  exact⟨(sw.same b (by omega)).trans h1,h2⟩
 tok:=fun b t n sz hb ho=>by
  obtain⟨h1,h2⟩:=x.tok b t n sz hb ho
  refine⟨fun o v hlt hc=>?_,h2⟩
  have:=h1 o v hlt hc
  unfold World.cell? at this⊢
  rw[sw.same b (by omega)]
  exact this
 shape:=fun b t n sz c E' ho hc hx=>by
  obtain⟨c',h1,h2⟩:=x.shape b t n sz c E' ho hc hx
  have:=(zag.1 hc).1
  exact⟨c',by rw[sw.same b (by omega)];exact h1,h2⟩
 wide:=fun b c E' fr hc=>by
  obtain⟨c',fr',h1,h2⟩:=x.wide b c E' fr hc
  have:=(zag.1 hc).1
  exact⟨c',fr',by rw[sw.same b (by omega)];exact h1,h2⟩
 loc:=x.loc
 lcl:=x.lcl
 bOf:=x.bOf
 lam:=x.lam
 nt:=x.nt
 lo_:=x.lo_
 low:=x.low
 old:=x.old
end
end Go.AI
namespace Go.AI
variable {P:Program} {e:Env} {lof:Nat->Option Nat} {nt base:Nat} {U0:Nat->Option (List zA)}
theorem qj7 {c:Cfg}{G:Gh}{w:World}{a:Act}(fr:FR G w c.f a.tmps)(mr:MR P e.E U0 (fun _=>none) c.l c.s G w):∀(rs:List ResultVar) (res:List RV) (vs:List zA),qlx P rs=some res->rvs e c res=some vs->
  ∃us:List Value,(rs.mapM (fun(r:ResultVar)=>match r with|.tmp t=>(pure (a.tmps.getD t undef):Sem Value)|.cell x t=>do loadVar t (<-asAddr (a.tmps.getD x undef)))).run P w=.ok us w/\VRs G w vs us
 |[],res,vs,hc,hv=>by
  simp only[qlx,zaa] at hc
  subst hc
  simp only[rvs,zaa] at hv
  subst hv
  exact⟨[],rfl,.nil⟩
 |.tmp t::rs,res,vs,hc,hv=>by
  simp only[qlx,zab] at hc
  obtain⟨res',hr,rfl⟩:=hc
  simp only[rvs,zab] at hv
  obtain⟨vs',hv',rfl⟩:=hv
  obtain⟨us,h1,h2⟩:=qj7 fr mr rs res' vs' hr hv'
  refine⟨a.tmps.getD t undef::us,?_,h2.cons (fr.1 t)⟩
  simp only[List.mapM_cons,Sem.run_bind,Sem.run_pure,Result.andThen_ok,h1]
 |.cell x t::rs,res,vs,hc,hv=>by
  simp only[qlx,zac,zab] at hc
  obtain⟨n,hn,res',hr,rfl⟩:=hc
  simp only[rvs,zac,zab] at hv
  obtain⟨cs,hcs,v,hv1,vs',hv',rfl⟩:=hv
  obtain⟨us,h1,h2⟩:=qj7 fr mr rs res' vs' hr hv'
  obtain⟨ad,ls,k1,k2,k3,k4,k5⟩:=qe4 mr (fr.1 x) hcs
  obtain⟨u,k6,k7,k8⟩:=qhO (P:=P) hn k2 k5
  have k9:(loadVar t ad).run P w=.ok u w:=by
   simpa[Instr.loadAt,Instr.sureAddr] using k6
  have k10:VR G w v u:=by
   obtain⟨q1,q2⟩:=qdo hv1 k3 k4
   cases n with
   |none=>
    obtain⟨u',e',q3⟩:=q1 rfl
    rw[k7 rfl] at e'
    cases e'
    exact q3
   |some m=>
    rw[k8 m rfl]
    exact q2 m rfl
  refine⟨u::us,?_,h2.cons k10⟩
  rw[List.mapM_cons]
  simp only[Sem.run_bind,k1,show asAddr (.pointer (some ad))=pure ad from rfl,Sem.run_pure,Result.andThen_ok,k9,h1]
theorem qqr {G:Gh}{w:World}{vs:List zA}{us:List Value}(h:VRs G w vs us):VR G w (qeW vs) (if h:us.toArray.size=1 then us.toArray[0] else .tuple us.toArray):=by
 match vs,us,h with
 |[],[],_=>exact .undef
 |[v],[u],h=>exact h.2 0 v u rfl rfl
 |v::v'::vs,u::u'::us,h=>
  have hs:(u::u'::us).toArray.size≠1:=by simp
  rw[dif_neg hs]
  exact .tuple _ _ (by simpa using h.1) fun i c x hc hx=>h.2 i c x hc (by simpa using hx)
 |[],_::_,h=>simp[VRs] at h
 |_::_,[],h=>simp[VRs] at h
 |[_],_::_::_,h=>simp[VRs] at h
 |_::_::_,[_],h=>simp[VRs] at h
theorem qiH {c:Cfg}{G:Gh}{w:World}{a:Act}(fr:FR G w c.f a.tmps)(mr:MR P e.E U0 (fun _=>none) c.l c.s G w){fn:Func}{res:List RV}{vs:List zA}(hc:qlx P fn.results.toList=some res)(hv:rvs e c res=some vs):
  ∃u,(results fn a.tmps).run P w=.ok u w/\VR G w (qeW vs) u:=by
 obtain⟨us,h1,h2⟩:=qj7 fr mr _ _ _ hc hv
 refine⟨_,?_,qqr h2⟩
 unfold results
 rw[Sem.run_bind,Array.mapM_eq_mapM_toList,map_eq_pure_bind,Sem.run_bind]
 have h3:=h1
 refine(congrArg (fun r=>Result.andThen (Result.andThen r _) _) h3).trans ?_
 rfl
theorem qh5 {c:Cfg}{G0 G:Gh}{w0:World}{a:Act}{fn:Func}{res:List RV}{vs:List zA}(hc:qlx P fn.results.toList=some res)(hv:rvs e c res=some vs){R:Ending->World->Prop}
  (hR:∀u w',Ext G0 w0 G w'->MR P e.E U0 (fun _=>none) c.l c.s G w'->VR G w' (qeW vs) u->R (.returned u) w'):
  ∀(ds:List Deferred) (w:World),Ext G0 w0 G w->FR G w c.f a.tmps->MR P e.E U0 (fun _=>none) c.l c.s G w->Marks w0.heap.size G w ds->LeavesInM Fence.wide 0 P fn a.tmps R ds .returning w
 |[],w,x,fr,mr,_=>by
  obtain⟨u,h1,h2⟩:=qiH fr mr hc hv
  exact⟨u,h1,hR u w x mr h2⟩
 |d::ds,w,x,fr,mr,⟨⟨r,h1,h2,h3,h4,h5⟩,hm⟩=>by
  have sw:=Swap.setObj h4 (.deferred none)
  refine⟨by simp,.inl ⟨r,_,h1,?_,qh5 hc hv hR ds _ (x.quiet sw h2) ⟨fun t=>(fr.1 t).quiet sw h3,fr.2⟩ (mr.quiet sw h3) ?_⟩⟩
  ·simp[Instr.takeDeferred,getObj,setObj,Sem.run,h4]
  ·have:∀ds:List Deferred,(∀d'∈ds,d'.target≠.collected r)→Marks w0.heap.size G w ds→Marks w0.heap.size G {w with heap:=w.heap.setIfInBounds r (.deferred none)} ds:=by
    intro ds
    induction ds with
    |nil=>intros;trivial
    |cons d ds ih=>
     rintro hne ⟨⟨q,k1,k2,k3,k4,k5⟩,k6⟩
     have hqr:q≠r:=fun e'=>hne d (List.mem_cons_self) (by rw[k1,e'])
     exact⟨⟨q,k1,k2,k3,by rw[sw.same q hqr];exact k4,k5⟩,ih (fun d' hd'=>hne d' (List.mem_cons_of_mem _ hd')) k6⟩
   exact this ds h5 hm
end Go.AI
