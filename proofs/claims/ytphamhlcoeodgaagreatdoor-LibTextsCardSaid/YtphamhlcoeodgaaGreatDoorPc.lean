/- An interpreter for the code of the model, proved sound. No condition. -/
import Derived.Test.YtphamhlcoeodgaaGreatDoorPb
import Derived.RowKit3
import Derived.Shelf.Strings.Builder1
import Derived.Shelf.Strings.Replace
import Derived.Shelf.Strings.Count
import Derived.Test.YtphamhlcoeodgaaGreatDoorPa
import Derived.Lib.Bytealg
import Derived.Below
import Derived.Test.YtphamhlcoeodgaaGreatDoorProg
import Derived.WalkKit
import Derived.Tactics
import Derived.Tactics2
import Derived.Defers
import Derived.Laws.Pointers
import Derived.Laws.LoneSync
import Derived.RegionTactic
import Derived.RegionCalls
import Derived.ChangeAlike
import Derived.Laws.NewBlocks
import Derived.Recover
set_option linter.unusedVariables false
set_option linter.unusedSimpArgs false
open Array renaming getElem?_eq_some_iff→zag,getElem?_eq_getElem→zam,getElem?_toList→zan,getD_eq_getD_getElem?→zap
open Bool renaming and_eq_true→zae,false_eq_true→zaA,or_eq_true→zaE,or_eq_false_iff→zaG,not_eq_true'→zaH
open List renaming getElem?_eq_some_iff→zah,getElem?_eq_getElem→zai,all_eq_true→zaj,getElem?_cons_zero→zak,length_append→zal,replicate→zaq,length_eq_zero_iff→zav,getElem?_map→zaw,map_cons→zaC,mem_of_getElem?→zaF,length_drop→zaK,mem_cons→zaO
open Nat renaming le_refl→zaf,lt_of_lt_of_le→zau,zero_add→zaI,lor→zaM,le_trans→zaN
open Option renaming map_eq_some_iff→zab,bind_eq_some_iff→zac,map_some→zao,bind_some→zar
open Option.some renaming injEq→zaa
open Prod.mk renaming injEq→zad
namespace Go.AI
variable {P:Program}
theorem qeq:∀(args:List zA) (f:Tr zA) (k t:Nat),(qaQ f k args).has t=f.has t
 |[],_,_,_=>rfl
 |v::r,f,k,t=>by
  rw[qaQ,qeq r,Tr.has_set]
theorem qer:∀(args:List zA) (f:Tr zA) (k t:Nat),(∀i,i<args.length->f.has (k+i)=true)->(qaQ f k args).get qag t=if k<=t then(match args[t-k]? with|some v=>v|none=>f.get qag t) else f.get qag t
 |[],f,k,t,_=>by simp[qaQ]
 |v::r,f,k,t,h=>by
  rw[qaQ,qer r (f.set k v) (k+1) t (fun i hi=>by
   rw[Tr.has_set]
   have:=h (i+1) (by simp;omega)
   rw[show k+1+i=k+(i+1) by omega]
   exact this)]
  have hk:=h 0 (by simp)
  rw[Nat.add_zero] at hk
  by_cases h1:k+1<=t
  ·rw[if_pos h1,if_pos (by omega),show t-k=(t-(k+1))+1 by omega,List.getElem?_cons_succ]
   cases r[t-(k+1)]? with
   |some v=>rfl
   |none=>exact Tr.get_set_ne _ _ _ _ _ (by omega)
  ·rw[if_neg h1]
   by_cases h2:k=t
   ·subst h2
    rw[if_pos (zaf _),Nat.sub_self,zak,Tr.get_set_eq _ _ _ _ hk]
   ·rw[if_neg (by omega),Tr.get_set_ne _ _ _ _ _ h2]
theorem qb5 {fl:Flag}{fn:Func}{cf:CF}(h:qjE P fl fn=some cf):∃body,fn.body=some body/\fn.ntmps<2^cf.depth/\fl.locals.length<2^cf.ldepth/\cf.np<=fn.ntmps/\qlx P fn.results.toList=some cf.res/\qbf P (fun t=>qeY fl.locals t 0) fn.ntmps body=some cf.body:=by
 unfold qjE at h
 split at h
 ·cases h
 ·rename_i body hb
  obtain⟨hc,h⟩:=qac h
  simp only[zac,zab] at h
  obtain⟨res,hr,b,hcb,rfl⟩:=h
  simp only[zae] at hc
  exact⟨body,hb,blt_iff.1 hc.1,blt_iff.1 hc.2.1,ble_iff.1 hc.2.2,hr,hcb⟩
theorem qgv:∀(l:List Nat) (t k i:Nat),qeY l t k=some i->i<k+l.length
 |[],_,_,_,h=>by cases h
 |x::r,t,k,i,h=>by
  unfold qeY at h
  cases hb:Nat.beq x t with
  |true=>
   rw[hb] at h
   simp only[cond_true,zaa] at h
   subst h
   simp
  |false=>
   rw[hb] at h
   have:=qgv r t (k+1) i h
   simp
   omega
theorem qj8 {e:Env}(se:SoundEnv P e)(hm:P.follows .mixedOrders=true){f:FuncId}{fn:Func}{fl:Flag}{cf:CF}(hf:P.funcs[f]? =some fn)(hcf:qjE P fl fn=some cf){n:Nat}{U:Nat->Option (List zA)}{args:List zA}{s:ASt}{G:Gh}{w:World}{vs:Array Value}
  (hnp:args.length=cf.np)(mr:MR P e.E U (fun _=>none) (Tr.mk (0,[]) cf.ldepth) s G w)(ha:VRs G w args vs.toList){r:EX×Cfg}(hev:qaZ e n cf.body ⟨qaQ (Tr.mk qag cf.depth) 0 args,Tr.mk (0,[]) cf.ldepth,[],none,s⟩=some r){v:zA}(hl:qfh e cf r=some v):
  CallsIn Fence.wide 0 P f vs w fun ex w'=>∃u,ex=.returned u/\∃G',Ext G w G' w'/\MR P e.E U (fun _=>none) r.2.l r.2.s G' w'/\VR G' w' v u:=by
 obtain⟨body,hb,hd,hld,hle,hres,hcode⟩:=qb5 hcf
 obtain⟨ex,c'⟩:=r
 have hsz:vs.size=args.length:=by have:=ha.1;simpa using this.symm
 have hin:∀t,t<fn.ntmps->(Tr.mk qag cf.depth).has t=true:=fun t ht=>Tr.has_mk _ _ _ (by omega)
 have hlen:(vs++Array.replicate (fn.ntmps-vs.size) undef).size=fn.ntmps:=by simp;omega
 have cr:CR P e.E U (fun t=>qeY fl.locals t 0) fn.ntmps w.heap.size ⟨qaQ (Tr.mk qag cf.depth) 0 args,Tr.mk (0,[]) cf.ldepth,[],none,s⟩ G w {tmps:=vs++Array.replicate (fn.ntmps-vs.size) undef,defers:=[]}:=by
  refine⟨⟨fun t=>?_,fun t ht=>?_⟩,hlen,mr,fun t j hj=>Tr.has_mk _ _ _ (by have:=qgv _ _ _ _ hj;omega),trivial,zaf _⟩
  ·show VR G w ((qaQ (Tr.mk qag cf.depth) 0 args).get qag t) ((vs++Array.replicate (fn.ntmps-vs.size) undef).getD t undef)
   rw[qer _ _ _ _ (fun i hi=>hin _ (by omega)),if_pos (Nat.zero_le _),Nat.sub_zero,Tr.get_mk]
   by_cases ht:t<args.length
   ·rw[zai ht,zap,Array.getElem?_append_left (by omega),zam (by omega),Option.getD_some]
    exact ha.2 t _ _ (zai ht) (by rw[zan];exact zam (by omega))
   ·rw[List.getElem?_eq_none (by omega),zap,Array.getElem?_append_right (by omega),Array.getElem?_replicate]
    have hu:((if t-vs.size<fn.ntmps-vs.size then some undef else none:Option Value).getD undef)=undef:=by split<;>rfl
    rw[hu]
    exact .undef
  ·rw[qeq]
   exact hin t (by rw[hlen] at ht;exact ht)
 refine callsIn_of_wp_marks (F:=Fence.wide) hf hb trivial ?_
 refine qcg (ro:=none) se hm n body hcode cr trivial hev fun G' a' w' x cr' _=>?_
 unfold qfh at hl
 have fin:∀vs',rvs e c' cf.res=some vs'->qeW vs'=v->LeavesInM Fence.wide 0 P fn a'.tmps (fun ex w'=>∃u,ex=.returned u/\∃G',Ext G w G' w'/\MR P e.E U (fun _=>none) c'.l c'.s G' w'/\VR G' w' v u) a'.defers .returning w':=by
  intro vs' hvs hv
  refine qh5 (G:=G') hres hvs (fun u w2 x2 mr2 hu=>⟨u,rfl,G',x2,mr2,by rw[<-hv];exact hu⟩) a'.defers w' x cr'.fr cr'.mr cr'.df
 cases ex with
 |normal=>
  simp only[zab] at hl
  obtain⟨vs',h1,h2⟩:=hl
  exact fin vs' h1 h2
 |ret=>
  simp only[zab] at hl
  obtain⟨vs',h1,h2⟩:=hl
  exact fin vs' h1 h2
 |exit i=>cases hl
theorem qbc {f:FuncId}{fn:Func}{body:Code}(hf:P.funcs[f]? =some fn)(hb:fn.body=some body)(hn:(fn.name== "runtime.NumGoroutine")=false)(vs:Array Value)(w:World):(callFunc f vs).run P w=.ok (.enter f vs) w:=by
 unfold callFunc
 have h1:∀x:Program,(program:Sem Program).run P w=.ok P w:=fun _=>rfl
 rw[Sem.run_bind,h1 P]
 simp only[Result.andThen_ok,hf,hn,hb,Option.isNone_some,zaA,if_false]
 rfl
structure ProgOK (P:Program)(CP:Nat->Option CF):Prop where
 orders:P.follows .mixedOrders=true
 code:∀f cf,CP f=some cf->∃fn fl,P.funcs[f]? =some fn/\qjE P fl fn=some cf/\(fn.name== "runtime.NumGoroutine")=false
structure SpOK (P:Program)(CP:Nat->Option CF)(sp:Sp):Prop where
 ok:∀{e:Env},SoundEnv P e->∀{f args s v s'},sp e f args s=some (v,s')->(qa3 CP f=true->s'=s)/\∀{U pd l G w} {vs:Array Value},MR P e.E U pd l s G w->VRs G w args vs.toList->NextP P (qba P e.E U pd G w l s' v) ((callFunc f vs).run P w)
theorem qbN (CP:Nat->Option CF)(sp:Sp)(n:Nat)(E:Rom):(qbG CP sp n E).E=E:=by cases n<;>rfl
theorem qfb {G:Gh}{w:World}{args:List zA}{vs:List Value}(keep:Bool)(h:VRs G w args vs):VRs G w (cond keep args (args.map qbT)) vs:=by
 cases keep with
 |true=>exact h
 |false=>
  refine⟨by simpa using h.1,fun i c v hc hv=>?_⟩
  simp only[cond_false,zaw,zab] at hc
  obtain⟨d,hd,rfl⟩:=hc
  exact qfw (h.2 i d v hd hv)
theorem qiI {args:List zA}(keep:Bool)(h:args.all qaV=true):(cond keep args (args.map qbT)).all qaV=true:=by
 cases keep with
 |true=>exact h
 |false=>
  simp only[cond_false,zaj]
  intro x hx
  obtain⟨y,hy,rfl⟩:=List.mem_map.1 hx
  exact qg4 y (zaj.1 h y hy)
theorem ql1 {args:List zA}(keep:Bool):(cond keep args (args.map qbT)).length=args.length:=by cases keep<;>simp
theorem qj9 {CP:Nat->Option CF}{sp:Sp}(pk:ProgOK P CP){n:Nat}(ih:∀E,SoundEnv P (qbG CP sp n E)){E:Rom}{f:Nat}{args:List zA}{s s':ASt}{v:zA}(h:qd3 CP (qbG CP sp n) n E f args s=some (v,s')){U pd:Nat->Option (List zA)}{l:Tr (Nat×List zA)}{G:Gh}{w:World}{vs:Array Value}
  (mr:MR P E U pd l s G w)(ha:VRs G w args vs.toList):(callFunc f vs).run P w=.ok (.enter f vs) w/\NextP P (qba P E U pd G w l s' v) ((callFunc f vs).run P w):=by
 unfold qd3 at h
 simp only[zac] at h
 obtain⟨cf,hcf,h⟩:=h
 obtain⟨fn,fl,hf,hc,hname⟩:=pk.code f cf hcf
 obtain⟨body,hb,_⟩:=qb5 hc
 have hrun:=qbc hf hb hname vs w
 refine⟨hrun,?_⟩
 rw[hrun]
 obtain⟨hg,h⟩:=qac h
 simp only[zae] at hg
 have hnp:=beq_iff.1 hg.1
 have h0:∀i,(Tr.mk ((0,[]):Nat×List zA) cf.ldepth).get (0,[]) i=(0,[]):=fun i=>Tr.get_mk _ _ _
 have quiet:∀(as_:List zA) (u:zA),as_.length=cf.np->as_.all qaV=true->VRs G w as_ vs.toList->qnD (qbG CP sp n (qlv s.heap E)) n cf as_ s=some u->
   CallsIn Fence.wide 0 P f vs w fun ex w'=>∃x,ex=.returned x/\∃G',Ext (G.fix s.next) w G' w'/\VR G' w' u x:=by
  intro as_ u hlen haw hvr hr
  unfold qnD at hr
  simp only[zac] at hr
  obtain⟨r,hr1,hr2⟩:=hr
  have mr0:=mr.fix h0
  rw[<-qbN CP sp n (qlv s.heap E)] at mr0
  refine CallsIn.mono (qj8 (ih (qlv s.heap E)) pk.orders hf hc hlen mr0 ⟨hvr.1,fun i c x hci hx=>(qde s.next).atC (hvr.2 i c x hci hx) (qaS haw hci)⟩ hr1 hr2) fun ex w' ⟨x,h1,G',h2,_,h3⟩=>⟨x,h1,G',h2,h3⟩
 cases hcl:cf.clone&&qeX (args.map qbT) with
 |true=>
  rw[hcl] at h
  simp only[cond_true,zac] at h
  obtain⟨a,ha1,b,hb1,h⟩:=h
  obtain⟨hab,h⟩:=qac h
  simp only[zaa,zad] at h
  obtain⟨rfl,rfl⟩:=h
  simp only[zae] at hcl hab
  have ha2:=qfb false ha
  simp only[cond_false] at ha2
  have hone:args.map qbT=[.p (.sl 0 [])]:=by
   have:=hcl.2
   unfold qeX at this
   split at this
   ·assumption
   ·cases this
  rw[hone] at ha2
  have hlen1:args.length=1:=by have:=congrArg List.length hone;simpa using this
  have hvs:vs.size=1:=by have:=ha.1;simp at this;omega
  have hv0:vs[0]? =some vs[0]:=zam (by omega)
  have hvx:=ha2.2 0 _ _ rfl (by rw[zan];exact hv0)
  obtain⟨ad,cap,ex0,_⟩:=qcr (n:=0) (cs:=[]) rfl hvx
  have hfull:∀{q:zA} {G':Gh} {w':World} {x:Value},qd2 q=true->VR G' w' q x->∃a',x=.slice a' 0 0:=by
   intro q G' w' x hq hx
   unfold qd2 at hq
   split at hq
   ·cases hx with
    |full _ _ a' _=>exact⟨a',rfl⟩
   ·cases hq
  have done:∀(as0:zA) (q:zA),qaV as0=true->VR G w as0 vs[0]->qd2 q=true->qnD (qbG CP sp n (qlv s.heap E)) n cf [as0] s=some q->NextP P (qba P E U pd G w l s (.sl 0 [] .full)) (.ok (.enter f vs) w):=by
   intro as0 q haw hvr hq hr
   refine CallsIn.mono (quiet [as0] q (by rw[<-hnp,hlen1];rfl) (by simp[haw]) ⟨by simp[hvs],fun i c x hci hx=>?_⟩ hr) fun en w' ⟨x,h1,G',h2,h3⟩=>⟨x,h1,?_⟩
   ·cases i with
    |zero=>
     simp only[zak,zaa] at hci
     rw[zan,hv0] at hx
     cases hci;cases hx
     exact hvr
    |succ i=>simp at hci
   ·obtain⟨a',rfl⟩:=hfull hq h3
    exact⟨G,(qdS h2).ext G,mr.keep (qdS h2),.full 0 [] a' (PR.nil_row _ _)⟩
  cases ad with
  |none=>exact done (.p .nilSl) a rfl (by rw[ex0];exact .p _ _ (.nilSl cap)) hab.1 ha1
  |some ad=>exact done (.p .emSl) b rfl (by rw[ex0];exact .p _ _ (.emSl ad cap)) hab.2 hb1
 |false=>
  rw[hcl] at h
  simp only[cond_false] at h
  have ha':=qfb cf.keepA ha
  have haw:=qiI cf.keepA hg.2
  have hlen:(cond cf.keepA args (args.map qbT)).length=cf.np:=by rw[ql1];exact hnp
  cases hp:cf.pure with
  |true=>
   rw[hp] at h
   simp only[cond_true,zac] at h
   obtain⟨u,hu,h⟩:=h
   obtain⟨hpl,h⟩:=qac h
   simp only[zaa,zad] at h
   obtain⟨rfl,rfl⟩:=h
   exact CallsIn.mono (quiet _ u hlen haw ha' hu) fun ex w' ⟨x,h1,G',h2,h3⟩=>⟨x,h1,qjW mr h2 (qfw h3) hpl⟩
  |false=>
   rw[hp] at h
   simp only[cond_false,zac] at h
   obtain⟨r,hr,u,hu,h⟩:=h
   obtain⟨hpl,h⟩:=qac h
   simp only[zaa,zad] at h
   obtain⟨rfl,rfl⟩:=h
   have mr0:=mr.sub h0
   rw[<-qbN CP sp n E] at mr0
   refine CallsIn.mono (qj8 (ih E) pk.orders hf hc hlen mr0 ⟨ha'.1,fun i c x hci hx=>moves_sub.atC (ha'.2 i c x hci hx) (qaS haw hci)⟩ hr hu) fun ex w' ⟨x,h1,G',h2,h3,h4⟩=>⟨x,h1,?_⟩
   rw[qbN] at h3
   refine qfy mr h2 h3 ?_ hpl
   cases cf.keepR with
   |true=>exact h4
   |false=>exact qfw h4
theorem VRs.map_whole {G:Gh}{w:World}{cs:List zP}{vs:Array Value}(hl:cs.length=vs.size)(h:∀(i:Nat) c v,cs[i]? =some c->vs[i]? =some v->PR G.S w c v):VRs G w (cs.map zP.whole) vs.toList:=by
 refine⟨by simpa using hl,fun i c v hc hv=>?_⟩
 simp only[zaw,zab] at hc
 obtain⟨d,hd,rfl⟩:=hc
 exact qc8 (h i d v hd (by simpa using hv))
theorem VRs.of_arr {G:Gh}{w:World}{cs:List zA}{vs:Array Value}(hl:cs.length=vs.size)(h:∀(i:Nat) c v,cs[i]? =some c->vs[i]? =some v->VR G w c v):VRs G w cs vs.toList:=
 ⟨by simpa using hl,fun i c v hc hv=>h i c v hc (by simpa using hv)⟩
theorem qgw (fn:Nat)(first cap vs:Array Value)(w:World):((do let d <-Deferred.ofValue (.func (.func fn) first cap) vs;invoke d.target d.args:Sem Next).run P w)=(callFunc fn (first++vs++cap)).run P w:=rfl
theorem qes {nt:Nat}:∀(ps:List Nat) (args:List zA) (vs:List Value) (f f1:Tr zA) (tmps:Array Value) {G:Gh} {w:World},FR G w f tmps->(∀p∈ps,p<tmps.size)->VRs G w args vs->qcn f ps args=some f1->tmps.size=nt->
  FR G w f1 ((ps.zip vs).foldl (fun tmps (x:Nat×Value)=>tmps.setIfInBounds x.1 x.2) tmps)/\((ps.zip vs).foldl (fun tmps (x:Nat×Value)=>tmps.setIfInBounds x.1 x.2) tmps).size=nt/\ps.length=vs.length
 |[],[],vs,f,f1,tmps,G,w,hf,_,hv,h,hs=>by
  simp only[qcn,zaa] at h
  subst h
  have:vs=[]:=by
   have:=hv.1
   simp at this
   exact List.eq_nil_of_length_eq_zero this.symm
  subst this
  exact⟨hf,hs,rfl⟩
 |p::ps,a::args,[],f,f1,tmps,G,w,hf,_,hv,h,hs=>by simp[VRs] at hv
 |p::ps,a::args,v::vs,f,f1,tmps,G,w,hf,hp,hv,h,hs=>by
  simp only[qcn] at h
  have hv0:=hv.2 0 a v rfl rfl
  have:=qes (nt:=nt) ps args vs (f.set p a) f1 (tmps.setIfInBounds p v) (hf.put (hp p List.mem_cons_self) hv0) (fun q hq=>by simpa using hp q (List.mem_cons_of_mem _ hq))
   ⟨by have:=hv.1;simpa using this,fun i c x hc hx=>hv.2 (i+1) c x (by simpa using hc) (by simpa using hx)⟩ h (by simpa using hs)
  refine⟨this.1,this.2.1,by simp[this.2.2]⟩
 |[],_::_,_,_,_,_,_,_,_,_,_,h,_=>by cases h
 |_::_,[],_,_,_,_,_,_,_,_,_,h,_=>by cases h
end Go.AI
namespace Go.AI
variable {P:Program}
theorem qg8 {E:Rom}{U pd:Nat->Option (List zA)}{l:Tr (Nat×List zA)}{s:ASt}{G:Gh}{w:World}(mr:MR P E U pd l s G w){q b st:Nat}{pend:Option CC}{f:Tr zA}{lo:Tr (Nat×List zA)}{ps:List Nat}{x y:CC}(hb:G.bOf q=some b)(hq:qaH s.heap q=some (.loop st pend f lo ps x y)):
  ∃r,w.heap[b]? =some (.loop r)/\G.own b=.loc q/\LoopR P G w st pend f lo ps x y r:=by
 rcases(mr.heap q _ hq).2 with e|⟨b',h1,h2,r,h3,h4⟩
 ·rw[hb] at e;cases e
 ·rw[hb] at h1;cases h1;exact⟨r,h3,h2,h4⟩
theorem qh6 {E:Rom}{U pd:Nat->Option (List zA)}{l:Tr (Nat×List zA)}{s:ASt}{G:Gh}{w:World}(mr:MR P E U pd l s G w){q b st st':Nat}{pend pend':Option CC}{f:Tr zA}{lo:Tr (Nat×List zA)}{ps:List Nat}{x y:CC}(hb:G.bOf q=some b){r:Loop}(hr:w.heap[b]? =some (.loop r))(ho:G.own b=.loc q)(hl:LoopR P G w st pend f lo ps x y r)
  {state:LoopState}{jump:Option Code}(hs:stR st' state)(hj:qlI pend' jump){hp:Heap}(qaM:qaM s.heap q (.loop st' pend' f lo ps x y)=some hp):
  Ext G w G {w with heap:=w.heap.setIfInBounds b (.loop {r with state:=state,pending:=jump})}/\MR P E U pd l {s with heap:=hp} G {w with heap:=w.heap.setIfInBounds b (.loop {r with state:=state,pending:=jump})}:=by
 have sw:=Swap.setObj hr (.loop {r with state:=state,pending:=jump})
 have x:=Ext.chg (G:=G) sw (by rw[ho];exact fun e=>e) (by rw[ho];intros;simp)
 exact mr.chgH sw hb ho qaM (ob:=.loop st' pend' f lo ps _ _) ⟨_,(MapKept.heap_set hr).1,hs,hj,hl.f_.ext x,hl.aw,hl.ps_,hl.psl,hl.l_,hl.code⟩
theorem ql2 {CP:Nat->Option CF}{sp:Sp}(pk:ProgOK P CP){n:Nat}(ih:∀E,SoundEnv P (qbG CP sp n E)){E:Rom}{call:Nat->List zA->ASt->Option (zA×ASt)}{q:Nat}{args:List zA}{s s':ASt}{v:zA}(h:qdD call (qbG CP sp n) n E (.yield q) args s=some (v,s')){U pd:Nat->Option (List zA)}{l:Tr (Nat×List zA)}{G:Gh}{w:World}{u:Value}{vs:Array Value}
  (mr:MR P E U pd l s G w)(hu:VR G w (.yield q) u)(ha:VRs G w args vs.toList):NextP P (qba P E U pd G w l s' v) ((do let d <-Deferred.ofValue u vs;invoke d.target d.args:Sem Next).run P w):=by
 cases hu with|yield _ b hb=>
 unfold qdD at h
 simp only at h
 split at h<;>try (cases h;done)
 rename_i pend f lo ps aa bb hq
 obtain⟨haw,h⟩:=qac h
 simp only[zac] at h
 obtain⟨f1,hf1,⟨ex1,c1⟩,h1,h⟩:=h
 cases ex1 with
 |exit i=>cases h
 |ret=>cases h
 |normal=>
 simp only at h
 split at h<;>try (cases h;done)
 rename_i p2 f2 l2 ps2 a2 b2 hq1
 simp only[zac] at h
 obtain⟨hp,qaM,⟨ex2,c2⟩,h2,h⟩:=h
 unfold endRound at h
 simp only at h
 split at h<;>try (cases h;done)
 rename_i st3 p3 f3 l3 ps3 a3 b3 hq3
 simp only[zab,zad] at h
 obtain⟨hp3,hset3,rfl,rfl⟩:=h
 obtain⟨r,hr,ho,hL⟩:=qg8 mr hb hq
 have mr0:=mr.sub (l0:=lo) hL.l_
 rw[<-qbN CP sp n E] at mr0
 have hargs:VRs G.sub w args vs.toList:=⟨ha.1,fun i c x hc hx=>moves_sub.atC (ha.2 i c x hc hx) (qaS haw hc)⟩
 have hfr:FR G.sub w f r.tmps:=⟨fun t=>by
  rcases hL.aw t with e|e
  ·exact moves_sub.at (hL.f_.1 t) e
  ·rw[e];exact .junk _,hL.f_.2⟩
 obtain⟨k1,k2,k3⟩:=qes ps args vs.toList f f1 r.tmps hfr (fun p hp=>hL.psl p hp) hargs hf1 rfl
 have hsz:vs.size=r.params.size:=by
  rw[<-hL.ps_] at k3
  simpa using k3.symm
 have hrun:(do let d <-Deferred.ofValue (.func (.yield b) #[] #[]) vs;invoke d.target d.args:Sem Next).run P w=.ok (.round b r.fn ((r.params.zip vs).foldl (fun tmps (t,a)=>tmps.setIfInBounds t a) r.tmps) r.assign r.body) w:=by
  have e1:(do let d <-Deferred.ofValue (.func (.yield b) #[] #[]) vs;invoke d.target d.args:Sem Next).run P w=(Instr.yield b (#[]++vs)).run P w:=rfl
  rw[e1]
  simp[Instr.yield,Instr.getLoop,getObj,Sem.run,hr,hsz]
 rw[hrun]
 have htm:(r.params.zip vs).foldl (fun tmps (t,a)=>tmps.setIfInBounds t a) r.tmps=(ps.zip vs.toList).foldl (fun tmps (x:Nat×Value)=>tmps.setIfInBounds x.1 x.2) r.tmps:=by
  rw[<-hL.ps_,<-Array.foldl_toList,Array.toList_zip]
 rw[htm]
 obtain⟨lof,hca,hcb,hlof⟩:=hL.code
 have cr0:CR P (qbG CP sp n E).E U lof r.tmps.size w.heap.size ⟨f1,lo,[],some q,s⟩ G.sub w {tmps:=(ps.zip vs.toList).foldl (fun tmps (x:Nat×Value)=>tmps.setIfInBounds x.1 x.2) r.tmps,defers:=[]}:=⟨k1,k2,mr0,hlof,trivial,zaf _⟩
 refine roundIn_of_wpIn (F:=Fence.wide) trivial ?_
 refine qcg (ro:=some b) (ih E) pk.orders n r.assign hca cr0 hb h1 fun G1 a1 w1 x1 cr1 hrd1=>?_
 have hb1:=x1.bOf _ _ hb
 obtain⟨r1,hr1,ho1,hL1⟩:=qg8 cr1.mr hb1 hq1
 have hready:r1.state=.ready:=by
  have:=hL1.st_
  cases hs:r1.state<;>rw[hs] at this<;>first|rfl|exact this.elim
 obtain⟨x2,mr2⟩:=qh6 cr1.mr hb1 hr1 ho1 hL1 (state:=.busy) (jump:=r1.pending) (st':=1) trivial hL1.pend_ qaM
 refine⟨{w1 with heap:=w1.heap.setIfInBounds b (.loop {r1 with state:=.busy,pending:=r1.pending})},?_,?_⟩
 ·simp[Instr.beginRound,Instr.getLoop,getObj,setObj,Sem.run,hr1,hready]
 have cr2:CR P (qbG CP sp n E).E U lof r.tmps.size w.heap.size {c1 with s:={c1.s with heap:=hp}} G1 {w1 with heap:=w1.heap.setIfInBounds b (.loop {r1 with state:=.busy,pending:=r1.pending})} a1:=
  ⟨cr1.fr.ext x2,cr1.sz,mr2,cr1.lh,cr1.df.ext x2,zaN cr1.bs x2.size⟩
 refine qcg (ro:=some b) (ih E) pk.orders n r.body hcb cr2 (by rw[show({c1 with s:={c1.s with heap:=hp}}:Cfg).rd=some q from hrd1];exact x2.bOf _ _ hb1) h2 fun G3 a3' w3 x3 cr3 hrd3=>?_
 have hb3:=x3.bOf _ _ (x2.bOf _ _ hb1)
 obtain⟨r3,hr3,ho3,hL3⟩:=qg8 cr3.mr hb3 hq3
 have hx:=(x1.trans x2).trans x3
 have fin:∀(state:LoopState) (jump:Option Code),stR (qsw ex2) state->qlI (qnC ex2) jump->qba P E U pd G w l {c2.s with heap:=hp3} (.p (.bool (qjx ex2))) (.bool (qjx ex2)) {w3 with heap:=w3.heap.setIfInBounds b (.loop {r3 with state:=state,pending:=jump})}:=by
  intro state jump hs hj
  obtain⟨x4,mr4⟩:=qh6 cr3.mr hb3 hr3 ho3 hL3 hs hj hset3
  rw[qbN] at mr4
  exact qfy mr (hx.trans x4) mr4 (.bool _) rfl
 cases ex2 with
 |normal=>
  refine⟨.bool true,_,?_,.bool true,rfl,fin .ready none trivial trivial⟩
  simp[Instr.endRound,Instr.getLoop,getObj,setObj,Sem.run,hr3]
 |ret=>
  refine⟨.bool false,_,?_,.bool false,rfl,fin .done (some .ret) trivial trivial⟩
  simp[Instr.endRound,Instr.getLoop,getObj,setObj,Sem.run,hr3]
 |exit i=>
  refine⟨.bool false,_,?_,.bool false,rfl,fin .done (some (.exit i)) trivial rfl⟩
  simp[Instr.endRound,Instr.getLoop,getObj,setObj,Sem.run,hr3]
theorem qh7 {CP:Nat->Option CF}{sp:Sp}(pk:ProgOK P CP)(sk:SpOK P CP sp):∀(n:Nat) (E:Rom),SoundEnv P (qbG CP sp n E)
 |0,E=>⟨fun h=>(by cases h),fun h=>(by cases h),fun h=>(by cases h),fun _ h=>(by cases h)⟩
 |n+1,E=>by
  have ih:=qh7 pk sk n
  have hcallA:∀{f args s v s'},qf3 CP sp (qbG CP sp n) n E f args s=some (v,s')->∀{U pd l G w} {vs:Array Value},MR P E U pd l s G w->VRs G w args vs.toList->NextP P (qba P E U pd G w l s' v) ((callFunc f vs).run P w):=by
   intro f args s v s' h U pd l G w vs mr ha
   unfold qf3 at h
   split at h
   ·rename_i r hr
    injection h with h
    subst h
    have:=(sk.ok (ih E) hr).2 (by rw[qbN];exact mr) ha
    rw[qbN] at this
    exact this
   ·exact(qj9 pk ih h mr ha).2
  have hcall:∀{f args s v s'},qf4 CP sp (qbG CP sp n) n E f args s=some (v,s')->∀{U pd l G w} {vs:Array Value},MR P E U pd l s G w->VRs G w args vs.toList->(callFunc f vs).run P w=.ok (.enter f vs) w/\NextP P (qba P E U pd G w l s' v) ((callFunc f vs).run P w):=by
   intro f args s v s' h U pd l G w vs mr ha
   unfold qf4 at h
   split at h
   ·rename_i cf hcf
    obtain⟨fn,fl,hf,hc,hname⟩:=pk.code f cf hcf
    obtain⟨body,hb,_⟩:=qb5 hc
    exact⟨qbc hf hb hname vs w,hcallA h mr ha⟩
   ·cases h
  have hfun:∀{fv args s v s'},qdD (qf4 CP sp (qbG CP sp n) n E) (qbG CP sp n) n E fv args s=some (v,s')->qpL fv=true->∀{U pd l G w u} {vs:Array Value},MR P E U pd l s G w->VR G w fv u->VRs G w args vs.toList->
    ∃fn first cap,u=.func (.func fn) first cap/\(callFunc fn (first++vs++cap)).run P w=.ok (.enter fn (first++vs++cap)) w/\NextP P (qba P E U pd G w l s' v) ((callFunc fn (first++vs++cap)).run P w):=by
   intro fv args s v s' h hf U pd l G w u vs mr hu ha
   cases fv with
   |p c=>
    cases c with
    |func fn x y=>
     cases hu with|p _ _ hu=>
     cases hu with|func _ _ _ first cap hl hm hx hy=>
     have hargs:VRs G w (x.map zP.whole++(args++y.map zP.whole)) (first++vs++cap).toList:=by
      rw[Array.toList_append,Array.toList_append,List.append_assoc]
      exact(VRs.map_whole hl hx).append (ha.append (VRs.map_whole hm hy))
     exact⟨fn,first,cap,rfl,hcall h mr hargs⟩
    |_=>cases hf
   |func fn x y=>
    cases hu with|func _ _ _ first cap hl hm hx hy=>
    have hargs:VRs G w (x++(args++y)) (first++vs++cap).toList:=by
     rw[Array.toList_append,Array.toList_append,List.append_assoc]
     exact(VRs.of_arr hl hx).append (ha.append (VRs.of_arr hm hy))
    exact⟨fn,first,cap,rfl,hcall h mr hargs⟩
   |_=>cases hf
  refine⟨?_,?_,?_,?_⟩
  ·intro f args s v s' h U pd l G w vs mr ha
   exact hcallA h mr ha
  ·intro fv args s v s' h U pd l G w u vs mr hu ha
   cases hf:qpL fv with
   |true=>
    obtain⟨fn,first,cap,rfl,_,h2⟩:=hfun h hf mr hu ha
    rw[qgw]
    exact h2
   |false=>
    have:∃q,fv=.yield q:=by
     have h':qdD (qf4 CP sp (qbG CP sp n) n E) (qbG CP sp n) n E fv args s=some (v,s'):=h
     unfold qdD at h'
     split at h'
     ·cases hf
     ·cases hf
     ·exact⟨_,rfl⟩
     ·cases h'
    obtain⟨q,rfl⟩:=this
    exact ql2 (call:=qf4 CP sp (qbG CP sp n) n E) pk ih h mr hu ha
  ·intro fv args s v s' h hf U pd l G w u vs mr hu ha
   obtain⟨fn,first,cap,h1,h2,_⟩:=hfun h hf mr hu ha
   exact⟨fn,first,cap,h1,h2⟩
  ·intro f args s v s' hp h
   have hp':qa3 CP f=true:=hp
   have h':qf3 CP sp (qbG CP sp n) n E f args s=some (v,s'):=h
   unfold qf3 at h'
   split at h'
   ·rename_i r hr
    injection h' with h'
    subst h'
    exact(sk.ok (ih E) hr).1 hp'
   unfold qa3 at hp'
   unfold qd3 at h'
   simp only[zac] at h'
   obtain⟨cf,hcf,h'⟩:=h'
   rw[hcf] at hp'
   simp only at hp'
   obtain⟨_,h'⟩:=qac h'
   cases hcl:cf.clone&&qeX (args.map qbT) with
   |true=>
    rw[hcl] at h'
    simp only[cond_true,zac] at h'
    obtain⟨a,_,b,_,h'⟩:=h'
    obtain⟨_,h'⟩:=qac h'
    simp only[zaa,zad] at h'
    exact h'.2.symm
   |false=>
    rw[hcl,hp'] at h'
    simp only[cond_false,cond_true,zac] at h'
    obtain⟨u,_,h'⟩:=h'
    obtain⟨_,h'⟩:=qac h'
    simp only[zaa,zad] at h'
    exact h'.2.symm
end Go.AI
namespace Go.AI
variable {P:Program}
def s00:ASt:=⟨0,qiv,0,[]⟩
theorem qoA {CP:Nat->Option CF}{sp:Sp}(pk:ProgOK P CP)(sk:SpOK P CP sp){n f:Nat}{E:Rom}{args:List zA}{v:zA}{s s':ASt}(h:(qbG CP sp n E).call f args s=some (v,s'))(hf:(CP f).isSome=true){U pd:Nat->Option (List zA)}{l:Tr (Nat×List zA)}{G:Gh}{w:World}
  (mr:MR P E U pd l s G w){vs:Array Value}(ha:VRs G w args vs.toList):Calls P f vs w fun e w'=>∃u,e=.returned u/\∃G',Ext G w G' w'/\MR P E U pd l s' G' w'/\VR G' w' v u:=by
 obtain⟨cf,hcf⟩:=Option.isSome_iff_exists.1 hf
 obtain⟨fn,fl,hfn,hc,hname⟩:=pk.code f cf hcf
 obtain⟨body,hb,_⟩:=qb5 hc
 have h2:=(qh7 pk sk n E).call h (by rw[qbN];exact mr) ha
 rw[qbc hfn hb hname vs w,qbN] at h2
 exact(callsIn_wide (n:=0)).1 (CallsIn.mono h2 fun e w' ⟨u,he,hu⟩=>⟨u,he,hu⟩)
end Go.AI
namespace Go.AI
open Go.Shelf Go.RowKit Go.Proofs
variable {P:Program} {ρ:Ren}
structure BAt (T e:TypeId)(b:Nat)(p v:Value)(bs:List Value)(w:World):Prop where
 blk:w.heap[b]? =some (.cells #[p,v] T (0,0))
 row:w.ownsRow 0 e 1 v bs.length bs
 ne:v.ownBlock≠some b
theorem BAt.at' {T e:TypeId}{b:Nat}{p v:Value}{bs:List Value}{w:World}(h:BAt T e b p v bs w):Lib.BuilderAt T e 0 b p bs w:=⟨Nat.zero_le _,v,h.blk,h.row,h.ne⟩
def Wide (w w':World):Prop:=∀(k:Nat) (c:Array Value) (E:TypeId) (fr:Nat×Nat),w.heap[k]? =some (Obj.cells c E fr)->∃(c':Array Value) (fr':Nat×Nat),w'.heap[k]? =some (Obj.cells c' E fr')/\c'.size=c.size
structure BStep (b:Nat)(v:Value)(w:World)(v':Value)(w':World):Prop where
 os:w'.os=w.os
 tape:w'.tape=w.tape
 output:w'.output=w.output
 size:w.heap.size<=w'.heap.size
 same:∀k,k<w.heap.size->k≠b->v.ownBlock≠some k->w'.heap[k]? =w.heap[k]?
 buf:∀g,v'.ownBlock=some g->v.ownBlock=some g\/w.heap.size<=g
 wide:Wide w w'
theorem qa1 (w:World)(b i:Nat)(v:Value){k:Nat}(hk:k≠b):(w.setCell ⟨b,i,none⟩ v).heap[k]? =w.heap[k]?:=by
 unfold World.setCell
 simp only[Array.getElem?_modify]
 rw[if_neg (fun e=>hk e.symm)]
theorem qb6 (w:World)(b i:Nat)(v:Value){c:Array Value}{T:TypeId}{fr:Nat×Nat}(hb:w.heap[b]? =some (.cells c T fr)):(w.setCell ⟨b,i,none⟩ v).heap[b]? =some (.cells (c.setIfInBounds i v) T fr):=by
 unfold World.setCell
 simp only[Array.getElem?_modify,if_true,hb,zao]
 rfl
theorem BAt.keep {T e:TypeId}{b:Nat}{p v:Value}{bs:List Value}{w w':World}(h:BAt T e b p v bs w)(hs:∀k,k≠b->w'.heap[k]? =w.heap[k]?){p':Value}(hb:w'.heap[b]? =some (.cells #[p',v] T (0,0))):BAt T e b p' v bs w':=by
 refine⟨hb,⟨h.row.1,?_⟩,h.ne⟩
 rcases h.row.2 with hn|⟨g,cap,cur,hv,h5,h6,h7⟩
 ·exact .inl hn
 ·refine .inr ⟨g,cap,cur,hv,h5,?_,h7⟩
  rw[hs g (fun e=>h.ne (by rw[hv,e];rfl))]
  exact h6
theorem Wide.keep {w w':World}(k:Keep w w'):Wide w w':=fun b c E fr h=>⟨c,fr,by rw[k.same b (zag.1 h).1];exact h,rfl⟩
theorem Wide.trans {a b c:World}(h:Wide a b)(k:Wide b c):Wide a c:=fun x y E fr hx=>by
 obtain⟨c1,f1,h1,h2⟩:=h x y E fr hx
 obtain⟨c2,f2,h3,h4⟩:=k x c1 E f1 h1
 exact⟨c2,f2,h3,h4.trans h2⟩
theorem Wide.setCell (w:World)(b i:Nat)(v:Value):Wide w (w.setCell ⟨b,i,none⟩ v):=fun k c E fr h=>by
 by_cases e:k=b
 ·subst e
  exact⟨_,_,qb6 w k i v h,by simp⟩
 ·exact⟨c,fr,by rw[qa1 w b i v e];exact h,rfl⟩
theorem qet {w:World}{t tx ty e:TypeId}{i:TypeInfo}{z:Value}(ht:P.underlying t=some (.slice e))(hi:P.info? e=some i)(hz:i.zero=some z)(hsz:i.size=1)(hby:i.bytes=1)(hzc:z.cells.size=1)
  {v x:Value}{n m:Nat}{xs news:List Value}(hown:w.ownsRow 0 e 1 v n xs)(hs:Src P 1 tx x m news w)(hle:n+m<=140737488355328):
  ∃v' w',(Builtin.append_ #[t,tx] ty #[v,x]).run P w=.ok v' w'/\w'.ownsRow 0 e 1 v' (n+m) (xs++news)/\w.grownBy w' v.ownBlock/\(∀g,v'.ownBlock=some g->v.ownBlock=some g\/w.heap.size<=g)/\Wide w w':=by
 have hs:Src P i.size tx x m news w:=by rw[hsz];exact hs
 have hnl:=hs.newsLen
 rw[hsz,Nat.mul_one] at hnl
 have hxl:xs.length=n:=by simpa using hown.1
 have hlen:(xs++news).length=(n+m)*1:=by rw[zal,hxl,hnl,Nat.mul_one]
 have grow:∀{base:Option Addr} {sCap:Nat},v=.slice base n sCap->(Builtin.firstCells i.size n (.slice base n sCap)).run P w.drew=.ok xs.toArray w.drew->sCap<n+m->
   ∃v' w',(Builtin.append_ #[t,tx] ty #[v,x]).run P w=.ok v' w'/\w'.ownsRow 0 e 1 v' (n+m) (xs++news)/\w.grownBy w' v.ownBlock/\(∀g,v'.ownBlock=some g->v.ownBlock=some g\/w.heap.size<=g)/\Wide w w':=by
  intro base sCap ev hf hg
  have hr:=run_append_grow_src w t tx ty e i z ht hi hz base n sCap xs hf x m news hs hg (by omega) (growslice_fits hg (by rw[hby];omega))
  have hge:=grownCap_ge w (n+m) sCap e
  have hcm:=grownCap_le_maxLen w (n+m) sCap e (by unfold maxLen;omega)
  refine⟨_,_,by rw[ev];exact hr,⟨hlen,.inr ⟨w.heap.size,_,_,rfl,Nat.zero_le _,heap_alloc_new w.drew _,hge,hcm,?_,?_⟩⟩,⟨rfl,rfl,rfl,by simp,fun k hk _=>heap_alloc_old w.drew _ hk⟩,fun g hg=>?_,Wide.keep ((Keep.drew w).trans (Keep.alloc _ _))⟩
  ·rw[Array.size_append,size_zeroCells,hzc]
   simp only[List.size_toArray,zal,hxl,hnl]
   omega
  ·rw[Array.toList_append,List.toList_toArray,←hlen]
   exact List.take_left
  ·simp only[Value.ownBlock,zaa] at hg
   exact .inr (by omega)
 rcases hown.2 with⟨rfl,rfl⟩|⟨g,cap,cur,rfl,_,hg,hnc,hcm,hcs,htake⟩
 ·have hx:xs=[]:=List.eq_nil_of_length_eq_zero hxl
  subst hx
  by_cases hm:m=0
  ·subst hm
   have hn:news=[]:=List.eq_nil_of_length_eq_zero hnl
   subst hn
   exact⟨_,_,run_append_nothing w t tx ty e i ht hi none 0 0 (zaf _) _ hs,World.ownsRow_nil w 0 e 1,⟨rfl,rfl,rfl,zaf _,fun _ _ _=>rfl⟩,(fun g hg=>by cases hg),Wide.keep (Keep.refl w)⟩
  ·exact grow rfl (run_firstCells_none w.drew i.size 0 0 0) (by omega)
 ·have holds:∀j u,xs[j]? =some u→w.cell? ((⟨g,0,none⟩:Addr).add j)=some u:=hown.cells (g:=g) rfl
  by_cases hroom:n+m<=cap
  ·have hfit:0+n*i.size+news.length≤cur.size:=by rw[hsz,hcs,hnl];omega
   have hr:=qcc (P:=P) (ty:=ty) ht hi hg (Thaw.none _) hs hroom hfit
   rw[hsz,Nat.mul_one,zaI] at hr
   refine⟨_,_,hr,⟨hlen,.inr ⟨g,cap,_,rfl,Nat.zero_le _,setRow_heap w g cur _ e _ hg,hroom,hcm,?_,?_⟩⟩,⟨rfl,rfl,rfl,by simp[World.setRow],fun k _ hk=>setRow_other w g k _ (fun e=>hk (by simp[Value.ownBlock,e]))⟩,fun g' hg'=> .inl hg',fun k c E fr hc=>?_⟩
   ·have h2:n+news.length≤cur.size:=by rw[hsz] at hfit;omega
    rw[qaW _ _ _ h2];exact hcs
   ·have ht':cur.toList.take n=xs:=by simpa using htake
    rw[ht',<-hlen]
    exact List.take_left
   ·by_cases ek:k=g
    ·subst ek
     rw[hg] at hc
     injection hc with hc
     injection hc with e1 e2 e3
     subst e1;subst e2;subst e3
     have h2:n+news.length<=cur.size:=by rw[hsz] at hfit;omega
     exact⟨_,_,setRow_heap w k cur _ _ _ hg,qaW _ _ _ h2⟩
    ·exact⟨c,fr,by rw[setRow_other w g k _ ek];exact hc,rfl⟩
  ·exact grow rfl (run_firstCells_some w.drew i.size n ⟨g,0,none⟩ n cap xs (by rw[hsz,Nat.mul_one];exact hxl) (fun j u hu=>by simpa using holds j u hu)) (by omega)
theorem qbR {w:World}{ops:Array Oper}{rest:List Oper}{o:Oper}{a:Act}{Q:Exit->Act->World->Prop}(hgd:o.guard=none)(sl y:Operand)(t tx:TypeId)
  (ho:o.op=.call {callee:=.builtin .append,args:= #[sl,y],argTypes:= #[t,tx]}){e:TypeId}{i:TypeInfo}{z:Value}(ht:P.underlying t=some (.slice e))(hi:P.info? e=some i)(hz:i.zero=some z)(hsz:i.size=1)(hby:i.bytes=1)(hzc:z.cells.size=1)
  {v x:Value}{n m:Nat}{xs news:List Value}(hv:a.eval sl=v)(hx:a.eval y=x)(hown:w.ownsRow 0 e 1 v n xs)(hs:Src P 1 tx x m news w)(hle:n+m<=140737488355328)
  (h:∀v' w',w'.ownsRow 0 e 1 v' (n+m) (xs++news)->w.grownBy w' v.ownBlock->(∀g,v'.ownBlock=some g->v.ownBlock=some g\/w.heap.size<=g)->Wide w w'->wpList P ops Q rest (a.put o.dst v') w'):wpList P ops Q (o::rest) a w:=by
 refine wpList_plain hgd fun K hK=>?_
 obtain⟨v',w',hr,h2,h3,h4,h5⟩:=qet (P:=P) (ty:=o.type) ht hi hz hsz hby hzc hown hs hle
 unfold Oper.wp execOp
 simp only[ho,resolve,invoke,builtin,Sem.run_bind,Sem.run_pure,Result.andThen_ok,List.map_toArray,zaC,List.map_nil,hv,hx,hr]
 exact hK _ _ (h v' w' h2 h3 h4 h5)
set_option maxHeartbeats 2000000 in
set_option maxRecDepth 100000 in
theorem qeu (L:Lays.n166 P ρ)(X:Builder.Extra P ρ){b:Nat}{p v:Value}{bs:List Value}(s:ByteArray){w:World}(h:BAt (ρ.t 72) (ρ.t 5) b p v bs w)(hp:p=.pointer none\/p=.pointer (some ⟨b,0,none⟩))(hlen:bs.length+s.size<=140737488355328):
  Calls P (ρ.f 166) #[.pointer (some ⟨b,0,none⟩),.string s] w fun e w'=>e=.returned (.tuple #[.int .i64 s.size,.nilIface])/\∃v',BAt (ρ.t 72) (ρ.t 5) b (.pointer (some ⟨b,0,none⟩)) v' (bs++Lib.strCells s) w'/\BStep b v w v' w':=by
 obtain⟨i0,hi,hz0,hz1,hz2⟩:=info_parts X.infoByte
 have mixed:=L.mixed
 have t72:=L.t72;have a72:=L.a72;have z72:=L.z72;have v72:=L.v72;have u72:=run_underlying L.t72
 have t70:=L.t70;have a70:=L.a70;have z70:=L.z70;have v70:=L.v70;have u70:=run_underlying L.t70
 have t37:=L.t37;have a37:=L.a37;have z37:=L.z37;have v37:=L.v37;have u37:=run_underlying L.t37
 have t3:=L.t3;have a3:=L.a3;have z3:=L.z3;have v3:=L.v3;have u3:=run_underlying L.t3
 have t9:=L.t9;have a9:=L.a9;have z9:=L.z9;have v9:=L.v9;have u9:=run_underlying L.t9
 have t4:=L.t4;have a4:=L.a4;have z4:=L.z4;have v4:=L.v4;have u4:=run_underlying L.t4
 have t164:=L.t164;have a164:=L.a164;have z164:=L.z164;have v164:=L.v164;have u164:=run_underlying L.t164
 have t5:=X.t5;have a5:=X.a5;have z5:=X.z5;have v5:=X.v5;have u5:=run_underlying X.t5
 have e240:∀args w,(callFunc (ρ.f 240) args).run P w=.ok (.enter (ρ.f 240) args) w:=enters_of L.f240 (by kernel_rfl) rfl
 have hlt0:b<w.heap.size:=(zag.1 h.blk).1
 have chk:Calls P (ρ.f 240) #[.pointer (some ⟨b,0,none⟩)] w fun e w'=>e=.returned (.tuple #[])/\BAt (ρ.t 72) (ρ.t 5) b (.pointer (some ⟨b,0,none⟩)) v bs w'/\(∀k,k≠b->w'.heap[k]? =w.heap[k]?)/\w'.heap.size=w.heap.size/\w'.os=w.os/\w'.tape=w.tape/\w'.output=w.output/\Wide w w':=by
  rcases hp with rfl|rfl
  ·refine(Any.Builder_copyCheck_fresh {L with} X.toX72 b w h.at'.cell0 h.at'.shape h.at'.frozen0).mono ?_
   rintro e w' ⟨rfl,rfl⟩
   have hb':=qb6 w b 0 (.pointer (some ⟨b,0,none⟩)) h.blk
   exact⟨rfl,h.keep (fun k hk=>qa1 w b 0 _ hk) hb',fun k hk=>qa1 w b 0 _ hk,by simp[World.setCell],rfl,rfl,rfl,Wide.setCell _ _ _ _⟩
  ·refine(Any.Builder_copyCheck_used {L with} X.toX72 b w h.at'.cell0).mono ?_
   rintro e w' ⟨rfl,rfl⟩
   exact⟨rfl,h,fun k _=>rfl,rfl,rfl,rfl,rfl,Wide.keep (Keep.refl _)⟩
 go_enter L.f166,Body.n166_ntmps ρ
 go_wp2_with (go_at_fn (ρ.f 240);refine chk.mono ?_)
 rintro e w1 ⟨rfl,h1,hk1,hs1,ho1,ht1,hu1,hw1⟩
 obtain⟨hbk,hown,hne⟩:=h1
 have c0:w1.cell? ⟨b,0,none⟩=some (.pointer (some ⟨b,0,none⟩)):=by rw[Lib.cell_of_heap hbk];rfl
 have c1:w1.cell? ⟨b,1,none⟩=some v:=by rw[Lib.cell_of_heap hbk];rfl
 go_wp2_with (at_builtin;refine qbR (w:=w1) (v:=v) (x:=.string s) (z:=.int .u8 0) rfl _ _ (ρ.t 37) (ρ.t 9) rfl L.t37 hi hz0 hz1 hz2 rfl rfl rfl hown (Src.ofString (P:=P) w1 L.t9 s) hlen ?_)
 intro v' w2 hown' hgrow hlies hwide
 have hlt:b<w1.heap.size:=by omega
 have hb2:w2.heap[b]? =some (.cells #[.pointer (some ⟨b,0,none⟩),v] (ρ.t 72) (0,0)):=by
  rw[hgrow.block b hlt (fun e=>hne e.symm)]
  exact hbk
 have d0:w2.cell? ⟨b,0,none⟩=some (.pointer (some ⟨b,0,none⟩)):=by rw[Lib.cell_of_heap hb2];rfl
 have d1:w2.cell? ⟨b,1,none⟩=some v:=by rw[Lib.cell_of_heap hb2];rfl
 have f1:w2.frozen? ⟨b,1,none⟩=false:=Lib.frozen_of_heap hb2 1
 obtain⟨ao,n',cap,rfl⟩:∃ao n' cap,v'=.slice ao n' cap:=by
  rcases hown'.2 with⟨hv,_⟩|⟨g,cap,cur,hv,_⟩
  ·exact⟨_,_,_,hv⟩
  ·exact⟨_,_,_,hv⟩
 go_wp2
 go_ret2
 have hne':(Value.slice ao n' cap).ownBlock≠some b:=fun e=>by
  rcases hlies b e with h'|h'
  ·exact hne h'
  ·omega
 have hnb:∀g,(Value.slice ao n' cap).ownBlock=some g->g≠b:=fun g hg e=>hne' (by rw[hg,e])
 have hb3:=qb6 w2 b 1 (.slice ao n' cap) hb2
 refine⟨rfl,.slice ao n' cap,⟨hb3,⟨by have:=hown'.1;simp[Lib.strCells_length],?_⟩,hne'⟩,⟨?_,?_,?_,?_,fun k hk hkb hkv=>?_,fun g hg=>?_,?_⟩⟩
 ·rcases hown'.2 with⟨e1,e2⟩|⟨g,cap',cur,hv,h5,h6,h7,h8,h9,h10⟩
  ·exact .inl ⟨e1,by rw[zal,Lib.strCells_length];exact e2⟩
  ·refine .inr ⟨g,cap',cur,by rw[zal,Lib.strCells_length];exact hv,h5,?_,by rw[zal,Lib.strCells_length];exact h7,h8,h9,by rw[zal,Lib.strCells_length];exact h10⟩
   rw[qa1 w2 b 1 _ (hnb g (by rw[hv];rfl))]
   exact h6
 ·exact hgrow.os.trans ho1
 ·exact hgrow.tape.trans ht1
 ·exact hgrow.output.trans hu1
 ·have:=hgrow.size
  simp only[World.setCell,Array.size_modify]
  omega
 ·rw[qa1 w2 b 1 _ hkb,hgrow.block k (by omega) (fun e=>hkv e.symm),hk1 k hkb]
 ·rcases hlies g hg with h'|h'
  ·exact .inl h'
  ·exact .inr (by omega)
 ·exact(hw1.trans hwide).trans (Wide.setCell _ _ _ _)
set_option maxHeartbeats 2000000 in
set_option maxRecDepth 100000 in
theorem qfF (L:Lays.n167 P ρ)(X:Builder.Extra P ρ){b:Nat}{p v:Value}{bs:List Value}(c:Int){w:World}(h:BAt (ρ.t 72) (ρ.t 5) b p v bs w)(hp:p=.pointer none\/p=.pointer (some ⟨b,0,none⟩))(hlen:bs.length+1<=140737488355328):
  Calls P (ρ.f 167) #[.pointer (some ⟨b,0,none⟩),.int .u8 c] w fun e w'=>e=.returned .nilIface/\∃v',BAt (ρ.t 72) (ρ.t 5) b (.pointer (some ⟨b,0,none⟩)) v' (bs++[.int .u8 c]) w'/\BStep b v w v' w':=by
 obtain⟨i0,hi,hz0,hz1,hz2⟩:=info_parts X.infoByte
 have mixed:=L.mixed
 have t72:=L.t72;have a72:=L.a72;have z72:=L.z72;have v72:=L.v72;have u72:=run_underlying L.t72
 have t70:=L.t70;have a70:=L.a70;have z70:=L.z70;have v70:=L.v70;have u70:=run_underlying L.t70
 have t37:=L.t37;have a37:=L.a37;have z37:=L.z37;have v37:=L.v37;have u37:=run_underlying L.t37
 have t5:=L.t5;have a5:=L.a5;have z5:=L.z5;have v5:=L.v5;have u5:=run_underlying L.t5
 have t9:=L.t9;have a9:=L.a9;have z9:=L.z9;have v9:=L.v9;have u9:=run_underlying L.t9
 have t4:=L.t4;have a4:=L.a4;have z4:=L.z4;have v4:=L.v4;have u4:=run_underlying L.t4
 have t164:=L.t164;have a164:=L.a164;have z164:=L.z164;have v164:=L.v164;have u164:=run_underlying L.t164
 have e240:∀args w,(callFunc (ρ.f 240) args).run P w=.ok (.enter (ρ.f 240) args) w:=enters_of L.f240 (by kernel_rfl) rfl
 have hlt0:b<w.heap.size:=(zag.1 h.blk).1
 have chk:Calls P (ρ.f 240) #[.pointer (some ⟨b,0,none⟩)] w fun e w'=>e=.returned (.tuple #[])/\BAt (ρ.t 72) (ρ.t 5) b (.pointer (some ⟨b,0,none⟩)) v bs w'/\(∀k,k≠b->w'.heap[k]? =w.heap[k]?)/\w'.heap.size=w.heap.size/\w'.os=w.os/\w'.tape=w.tape/\w'.output=w.output/\Wide w w':=by
  rcases hp with rfl|rfl
  ·refine(Any.Builder_copyCheck_fresh {L with} X.toX72 b w h.at'.cell0 h.at'.shape h.at'.frozen0).mono ?_
   rintro e w' ⟨rfl,rfl⟩
   have hb':=qb6 w b 0 (.pointer (some ⟨b,0,none⟩)) h.blk
   exact⟨rfl,h.keep (fun k hk=>qa1 w b 0 _ hk) hb',fun k hk=>qa1 w b 0 _ hk,by simp[World.setCell],rfl,rfl,rfl,Wide.setCell _ _ _ _⟩
  ·refine(Any.Builder_copyCheck_used {L with} X.toX72 b w h.at'.cell0).mono ?_
   rintro e w' ⟨rfl,rfl⟩
   exact⟨rfl,h,fun k _=>rfl,rfl,rfl,rfl,rfl,Wide.keep (Keep.refl _)⟩
 go_enter L.f167,Body.n167_ntmps ρ
 go_wp2_with (go_at_fn (ρ.f 240);refine chk.mono ?_)
 rintro e w1 ⟨rfl,h1,hk1,hs1,ho1,ht1,hu1,hw1⟩
 obtain⟨hbk,hown,hne⟩:=h1
 have c0:w1.cell? ⟨b,0,none⟩=some (.pointer (some ⟨b,0,none⟩)):=by rw[Lib.cell_of_heap hbk];rfl
 have c1:w1.cell? ⟨b,1,none⟩=some v:=by rw[Lib.cell_of_heap hbk];rfl
 go_wp2_with (at_builtin;refine qbR (v:=v) (x:=.slice (some ⟨w.heap.size,0,none⟩) 1 1) (z:=.int .u8 0) (news:=[.int .u8 c]) rfl _ _ (ρ.t 37) (ρ.t 37) rfl L.t37 hi hz0 hz1 hz2 rfl rfl rfl (hown.alloc _) (Src.ofSlice (P:=P) _ L.t37 ⟨w.heap.size,0,none⟩ 1 1 [.int .u8 c] rfl ?c1 ?c2) hlen ?_)
 case c1=>
  intro j u hj
  match j,hj with
  |0,hj=>simp at hj;subst hj;rw[<-hs1];simp[Addr.add]
 case c2=>intro u hu;simp at hu;subst hu;rfl
 intro v' w2 hown' hgrow hlies hwide
 have hlt:b<w1.heap.size:=by omega
 have hb2:w2.heap[b]? =some (.cells #[.pointer (some ⟨b,0,none⟩),v] (ρ.t 72) (0,0)):=by
  rw[hgrow.block b (by simp;omega) (fun e=>hne e.symm),Lib.alloc_old w1 _ b hlt]
  exact hbk
 have d0:w2.cell? ⟨b,0,none⟩=some (.pointer (some ⟨b,0,none⟩)):=by rw[Lib.cell_of_heap hb2];rfl
 have d1:w2.cell? ⟨b,1,none⟩=some v:=by rw[Lib.cell_of_heap hb2];rfl
 have f1:w2.frozen? ⟨b,1,none⟩=false:=Lib.frozen_of_heap hb2 1
 obtain⟨ao,n',cap,rfl⟩:∃ao n' cap,v'=.slice ao n' cap:=by
  rcases hown'.2 with⟨hv,_⟩|⟨g,cap,cur,hv,_⟩
  ·exact⟨_,_,_,hv⟩
  ·exact⟨_,_,_,hv⟩
 go_wp2
 go_ret
 have hne':(Value.slice ao n' cap).ownBlock≠some b:=fun e=>by
  rcases hlies b e with h'|h'
  ·exact hne h'
  ·first|omega|(simp at h';omega)
 have hnb:∀g,(Value.slice ao n' cap).ownBlock=some g->g≠b:=fun g hg e=>hne' (by rw[hg,e])
 have hb3:=qb6 w2 b 1 (.slice ao n' cap) hb2
 refine⟨rfl,.slice ao n' cap,⟨hb3,⟨by have:=hown'.1;simp,?_⟩,hne'⟩,⟨?_,?_,?_,?_,fun k hk hkb hkv=>?_,fun g hg=>?_,?_⟩⟩
 ·rcases hown'.2 with⟨e1,e2⟩|⟨g,cap',cur,hv,h5,h6,h7,h8,h9,h10⟩
  ·exact .inl ⟨e1,by rw[zal];exact e2⟩
  ·refine .inr ⟨g,cap',cur,by rw[zal];exact hv,h5,?_,by rw[zal];exact h7,h8,h9,by rw[zal];exact h10⟩
   rw[qa1 w2 b 1 _ (hnb g (by rw[hv];rfl))]
   exact h6
 ·exact hgrow.os.trans ho1
 ·exact hgrow.tape.trans ht1
 ·exact hgrow.output.trans hu1
 ·have:=hgrow.size
  simp only[World.setCell,Array.size_modify]
  simp at this
  omega
 ·rw[qa1 w2 b 1 _ hkb,hgrow.block k (by simp;omega) (fun e=>hkv e.symm),Lib.alloc_old w1 _ k (by omega),hk1 k hkb]
 ·rcases hlies g hg with h'|h'
  ·exact .inl h'
  ·exact .inr (by first|omega|(simp at h';omega))
 ·exact((hw1.trans (Wide.keep (Keep.alloc _ _))).trans hwide).trans (Wide.setCell _ _ _ _)
structure BRead (g:Nat)(w w':World):Prop where
 os:w'.os=w.os
 tape:w'.tape=w.tape
 output:w'.output=w.output
 size:w.heap.size=w'.heap.size
 same:∀k,k≠g->w'.heap[k]? =w.heap[k]?
 wide:∀c E fr,w.heap[g]? =some (.cells c E fr)->∃fr',w'.heap[g]? =some (.cells c E fr')
set_option maxHeartbeats 2000000 in
set_option maxRecDepth 100000 in
theorem qiJ (L:Lays.n169 P ρ)(X:Builder.Extra P ρ){b g:Nat}{p v:Value}{l:List UInt8}{w:World}(h:BAt (ρ.t 72) (ρ.t 5) b p v (Lib.byteCells l) w)(h0:l≠[])(hg0:v.ownBlock=some g):
  Calls P (ρ.f 169) #[.pointer (some ⟨b,0,none⟩)] w fun e w'=>e=.returned (.string ⟨l.toArray⟩)/\BRead g w w':=by
 obtain⟨hbk,hown,hne⟩:=h
 have hl0:l.length≠0:=by simpa using h0
 rw[Lib.byteCells_length] at hown
 obtain⟨cap,cur,rfl,hg,hnc,hcm,hcs,htake⟩:∃cap cur,v=.slice (some ⟨g,0,none⟩) l.length cap/\w.heap[g]? =some (.cells cur (ρ.t 5) (0,0))/\l.length<=cap/\cap<=maxLen/\cur.size=cap*1/\cur.toList.take (l.length*1)=Lib.byteCells l:=by
  rcases hown.2 with⟨_,hz⟩|⟨g',cap,cur,hv,_,r⟩
  ·exact absurd hz hl0
  ·rw[hv] at hg0
   injection hg0 with hg0
   simp only at hg0
   subst hg0
   exact⟨cap,cur,hv,r⟩
 have c1:w.drew.cell? ⟨b,1,none⟩=some (.slice (some ⟨g,0,none⟩) l.length cap):=by
  have:w.drew.heap[b]? =some (.cells #[p,.slice (some ⟨g,0,none⟩) l.length cap] (ρ.t 72) (0,0)):=hbk
  rw[Lib.cell_of_heap this];rfl
 have hSD:(Builtin.unsafeSliceData_ #[(ρ.t 37)] (ρ.t 127) #[.slice (some ⟨g,0,none⟩) l.length cap]).run P w.drew=.ok (.pointer (some ⟨g,0,none⟩)) w.drew:=
  Lib.run_unsafeSliceData_row _ _ _ _ _ _ (by omega)
 have hUS:(Builtin.unsafeString_ #[(ρ.t 127),(ρ.t 3)] (ρ.t 9) #[.pointer (some ⟨g,0,none⟩),.int .i64 l.length]).run P w.drew=.ok (.string ⟨l.toArray⟩) (w.drew.freeze ⟨g,0,none⟩ l.length):=by
  refine Lib.run_unsafeString_row w.drew (ρ.t 127) (ρ.t 3) (ρ.t 9) (ρ.t 5) L.t127 X.cellsByte g cur.size (by have hg':w.drew.heap[g]? =some (.cells cur (ρ.t 5) (0,0)):=hg;simp[World.shape?,hg']) l h0 (by omega) (by unfold maxLen at hcm;omega) ?_
  intro j x hx
  have:=hown.cells (g:=g) rfl j (.int .u8 x.toNat) (by simp[Lib.byteCells,hx])
  exact this
 have fin:BRead g w (w.drew.freeze ⟨g,0,none⟩ l.length):=by
  unfold World.freeze
  rw[if_neg hl0]
  refine⟨rfl,rfl,rfl,by simp,fun k hk=>?_,fun c E fr hc=>?_⟩
  ·show(w.heap.modify g _)[k]? =_
   rw[Array.getElem?_modify,if_neg (fun e=>hk e.symm)]
  ·have e1:(w.heap.modify g fun|.cells c elem (lo,hi)=> .cells c elem (if lo==hi then(0,0+l.length) else(min lo 0,max hi (0+l.length)))|o=>o)[g]? =some (.cells c E (if fr.1==fr.2 then(0,0+l.length) else(min fr.1 0,max fr.2 (0+l.length)))):=by
    rw[Array.getElem?_modify,if_pos rfl,hc]
    rfl
   exact⟨_,e1⟩
 have mixed:=L.mixed
 have t72:=L.t72;have a72:=L.a72;have z72:=L.z72;have v72:=L.v72;have u72:=run_underlying L.t72
 have t70:=L.t70;have a70:=L.a70;have z70:=L.z70;have v70:=L.v70;have u70:=run_underlying L.t70
 have t37:=L.t37;have a37:=L.a37;have z37:=L.z37;have v37:=L.v37;have u37:=run_underlying L.t37
 have t127:=L.t127;have a127:=L.a127;have z127:=L.z127;have v127:=L.v127;have u127:=run_underlying L.t127
 have t3:=L.t3;have a3:=L.a3;have z3:=L.z3;have v3:=L.v3;have u3:=run_underlying L.t3
 have t9:=L.t9;have a9:=L.a9;have z9:=L.z9;have v9:=L.v9;have u9:=run_underlying L.t9
 have t5:=X.t5;have a5:=X.a5;have z5:=X.z5;have v5:=X.v5;have u5:=run_underlying X.t5
 go_enter L.f169,Body.n169_ntmps ρ
 go_wp2
 go_region_o
 all_goals (go_wp2;go_ret;exact⟨rfl,fin⟩)
end Go.AI
namespace Go.AI
open Go.Shelf Go.RowKit Go.Proofs
variable {P:Program} {ρ:Ren} {E:Rom} {U pd:Nat->Option (List zA)} {l:Tr (Nat×List zA)} {s:ASt} {G G':Gh} {w w':World}
structure Turn (q:Nat)(G G':Gh)(w w':World):Prop where
 size:w.heap.size<=w'.heap.size
 os:w'.os=w.os
 tape:w'.tape=w.tape
 output:w'.output=w.output
 same:∀k,k<w.heap.size->G.own k≠.loc q->w'.heap[k]? =w.heap[k]?
 wide:Wide w w'
 old:∀k,k<w.heap.size->G'.own k=G.own k
 new:∀k,w.heap.size<=k->G'.own k=.free\/G'.own k=.loc q/\k<w'.heap.size
 bOf:G'.bOf=G.bOf
 lam:G'.lam=G.lam
 nt:G'.nt=G.nt
 lo_:G'.lo=G.lo
theorem Turn.ext (h:MR P E U pd l s G w){q:Nat}(t:Turn q G G' w w'):Ext G w G' w' where
 size:=t.size
 os:=t.os
 tape:=t.tape
 output:=t.output
 still:=fun b hb hs=>⟨t.same b hb (fun e=>by rw[e] at hs;exact hs),t.old b hb⟩
 tok:=fun b n m sz hb ho=>by
  have e:=t.same b hb (by rw[ho];simp)
  exact⟨fun o v _ hc=>by unfold World.cell? at hc⊢;rw[e];exact hc,.inr ⟨m,zaf _,by rw[t.old b hb];exact ho⟩⟩
 shape:=fun b n m sz c E ho hc _=>by
  have hb:=(zag.1 hc).1
  exact⟨c,by rw[t.same b hb (by rw[ho];simp)];exact hc,rfl⟩
 wide:=t.wide
 loc:=fun b k ho=>⟨k,by rw[t.old b (h.own b (by rw[ho];simp))];exact ho⟩
 lcl:=fun b i g ho=>by rw[t.old b (h.own b (by rw[ho];simp))];exact ho
 bOf:=fun k b hk=>by rw[t.bOf];exact hk
 lam:=fun i g b hk=>by rw[t.lam];exact hk
 nt:=by rw[t.nt];exact zaf _
 lo_:=t.lo_
 low:=fun k _=>by rw[t.bOf]
 old:=fun b n m sz ho _=>by
  rcases Nat.lt_or_ge b w.heap.size with hb|hb
  ·rw[t.old b hb] at ho
   exact⟨b,m,ho,zaf _,fun _=>rfl⟩
  ·rcases t.new b hb with e|⟨e,_⟩<;>rw[e] at ho<;>cases ho
theorem MR.turn (h:MR P E U pd l s G w){q b:Nat}(t:Turn q G G' w w')(hb:G.bOf q=some b)(ho:G.own b=.loc q){hp:Heap}(hlt:q<s.next)
  (hs:∀k,qaH hp k=if k=q then qaH hp q else qaH s.heap k)(hr:∀ob,qaH hp q=some ob->OR P G' w' b ob):MR P E U pd l {s with heap:=hp} G' w':=by
 have x:Step G w G' w' (fun y=>G.own y=.loc q):=⟨t.ext h,fun y hy hn=>⟨t.same y hy hn,t.old y hy⟩⟩
 have hlb:=h.own b (by rw[ho];simp)
 refine⟨fun y hy=>?_,fun k y hk=>h.bOf k y (by rw[<-t.bOf];exact hk),by rw[t.lo_];exact h.lo_,fun k zs hk=>?_,h.pdz,by rw[t.nt];exact h.nt,h.loc.step x (fun y i g ho' e=>by rw[ho'] at e;cases e),?_,fun k p hk=>?_,
  h.ro.step x (fun y j ho' e=>by rw[ho'] at e;cases e),h.tok.step (fun y n m sz ho'=>by rw[t.old y (h.own y (by rw[ho'];simp))];exact ho') (fun y n m sz ho'=>?_) (fun y n m sz ho'=>t.same y (h.own y (by rw[ho'];simp)) (by rw[ho'];simp))⟩
 ·rcases Nat.lt_or_ge y w.heap.size with h1|h1
  ·exact zau h1 t.size
  ·rcases t.new y h1 with e|⟨_,e⟩
   ·exact absurd e hy
   ·exact e
 ·obtain⟨h1,h2,h3⟩:=h.un k zs hk
  refine⟨by rw[t.bOf];exact h1,?_,by rw[t.lo_];exact h3⟩
  show qaH hp k=_
  rw[hs,if_neg (fun e=>by subst e;rw[hb] at h1;cases h1)]
  exact h2
 ·intro i g y hy
  exact h.lam i g y (by rw[<-t.lam];exact hy)
 ·have hk':qaH hp k=some p:=hk
  by_cases e:k=q
  ·subst e
   exact⟨hlt,.inr ⟨b,by rw[t.bOf];exact hb,by rw[t.old b hlb];exact ho,hr p hk'⟩⟩
  ·rw[hs,if_neg e] at hk'
   obtain⟨h1,h2⟩:=h.heap k p hk'
   refine⟨h1,h2.imp (fun e'=>by rw[t.bOf];exact e') fun⟨y,h3,h4,h5⟩=>?_⟩
   obtain⟨h6,h7⟩:=x.same y h5.lt (fun e'=>by rw[h4] at e';injection e' with e';exact e e')
   exact⟨y,by rw[t.bOf];exact h3,h7.trans h4,h5.ext x.ext h6 fun g hg he=>⟨t.same g hg (fun e'=>by rw[he,h4] at e';injection e' with e';exact e e'),by rw[t.old g hg,he,h7]⟩⟩
 ·rcases Nat.lt_or_ge y w.heap.size with h1|h1
  ·rw[t.old y h1] at ho';exact ho'
  ·rcases t.new y h1 with e|⟨e,_⟩<;>rw[e] at ho'<;>cases ho'
theorem qaX {f:FuncId}{vs:Array Value}{Q:Value->World->Prop}(he:(callFunc f vs).run P w=.ok (.enter f vs) w)(h:Calls P f vs w fun e w'=>∃v,e=.returned v/\Q v w'):NextP P Q ((callFunc f vs).run P w):=by
 rw[he]
 exact callsIn_wide.2 h
theorem qfG (bs:List UInt8)(b:ByteArray):Lib.byteCells (bs++b.data.toList)=Lib.byteCells bs++Lib.strCells b:=by
 simp[Lib.byteCells,Lib.strCells]
theorem qgx (h:MR P E U pd l s G w){q b:Nat}{T e:TypeId}{bs bs':List UInt8}(hb:G.bOf q=some b)(hq:qaH s.heap q=some (.bld T e bs)){hp:Heap}(hs:qaM s.heap q (.bld T e bs')=some hp){v v':Value}(hown:G.own b=.loc q)
  (hv:∀g,v.ownBlock=some g->G.own g=G.own b)(at':BAt T e b (.pointer (some ⟨b,0,none⟩)) v' (Lib.byteCells bs') w')(st:BStep b v w v' w'):∃G',Ext G w G' w'/\MR P E U pd l {s with heap:=hp} G' w':=by
 have hlb:=h.own b (by rw[hown];simp)
 have hin:∀g,v'.ownBlock=some g->g<w'.heap.size:=fun g hg=>(at'.row.lt g hg).2
 let G':Gh:={G with own:=fun k=>if w.heap.size<=k/\v'.ownBlock=some k then .loc q else G.own k}
 have hold:∀k,k<w.heap.size->G'.own k=G.own k:=fun k hk=>if_neg (fun e=>by have:=e.1;omega)
 have t:Turn q G G' w w':=⟨st.size,st.os,st.tape,st.output,fun k hk hn=>st.same k hk (fun e=>hn (by rw[e];exact hown)) (fun e=>hn (by rw[hv k e];exact hown)),st.wide,hold,fun k hk=>by
  by_cases hc:w.heap.size<=k/\v'.ownBlock=some k
  ·exact .inr ⟨if_pos hc,hin k hc.2⟩
  ·exact .inl ((if_neg hc).trans (h.free hk)),rfl,rfl,rfl,rfl⟩
 have qaM:=qb0 hs
 refine⟨G',t.ext h,h.turn t hb hown (h.heap q _ hq).1 (fun k=>?_) fun ob hob=>?_⟩
 ·by_cases e:k=q
  ·rw[if_pos e,e]
  ·rw[if_neg e,qaM,if_neg e]
 ·rw[qaM,if_pos rfl] at hob
  injection hob with hob
  subst hob
  refine⟨_,v',.inr rfl,at'.blk,by have:=at'.row;rwa [Lib.byteCells_length] at this,at'.ne,fun g hg=>?_⟩
  rw[hold b hlb]
  rcases st.buf g hg with h'|h'
  ·have hgl:g<w.heap.size:=h.own g (by rw[hv g h',hown];simp)
   rw[hold g hgl]
   exact hv g h'
  ·exact(if_pos ⟨h',hg⟩).trans hown.symm
def qoB (fw fb fs T el:Nat):Sp:=fun _ f args s=>
 cond (Nat.beq f fw) (match args with
  |[.ptr q 0,.p (.str b)]=>match qaH s.heap q with
   |some (.bld T' el' bs)=>cond (Nat.beq T' T&&(Nat.beq el' el&&Nat.ble (bs.length+qaJ b) 140737488355328))
    ((qaM s.heap q (.bld T' el' (bs++b.data.toList))).map fun h=>(.tuple [.p (.int .i64 (.ofNat (qaJ b))),.p .nilIface],{s with heap:=h})) none
   |_=>none
  |_=>none)
 (cond (Nat.beq f fb) (match args with
  |[.ptr q 0,.p (.int .u8 (.ofNat c))]=>match qaH s.heap q with
   |some (.bld T' el' bs)=>cond (Nat.beq T' T&&(Nat.beq el' el&&(Nat.ble (bs.length+1) 140737488355328&&Nat.blt c 256)))
    ((qaM s.heap q (.bld T' el' (bs++[UInt8.ofNat c]))).map fun h=>(.p .nilIface,{s with heap:=h})) none
   |_=>none
  |_=>none)
 (cond (Nat.beq f fs) (match args with
  |[.ptr q 0]=>match qaH s.heap q with
   |some (.bld T' el' (x::bs))=>cond (Nat.beq T' T&&Nat.beq el' el) (some (.p (.str ⟨(x::bs).toArray⟩),{s with heap:=qfW s.heap q none})) none
   |_=>none
  |_=>none) none))
theorem qpN {args:List zA}{x y:zA}{vs:Array Value}(h:VRs G w [x,y] vs.toList):∃u v,vs= #[u,v]/\VR G w x u/\VR G w y v:=by
 obtain⟨l⟩:=vs
 match l,h with
 |[u,v],h=>exact⟨u,v,rfl,h.2 0 _ _ rfl rfl,h.2 1 _ _ rfl rfl⟩
 |[],h=>exact absurd h.1 (by simp)
 |[_],h=>exact absurd h.1 (by simp)
 |_::_::_::_,h=>exact absurd h.1 (by simp)
theorem arg1 {x:zA}{vs:Array Value}(h:VRs G w [x] vs.toList):∃u,vs= #[u]/\VR G w x u:=by
 obtain⟨l⟩:=vs
 match l,h with
 |[u],h=>exact⟨u,rfl,h.2 0 _ _ rfl rfl⟩
 |[],h=>exact absurd h.1 (by simp)
 |_::_::_,h=>exact absurd h.1 (by simp)
theorem qka (h:MR P E U pd l s G w){q b:Nat}{T e:TypeId}{bs:List UInt8}(hb:G.bOf q=some b)(hq:qaH s.heap q=some (.bld T e bs)):
  G.own b=.loc q/\∃p v,(p=.pointer none\/p=.pointer (some ⟨b,0,none⟩))/\BAt T e b p v (Lib.byteCells bs) w/\∀g,v.ownBlock=some g->G.own g=G.own b:=by
 rcases(h.heap q _ hq).2 with e|⟨b',h1,h2,p,v,h3,h4,h5,h6,h7⟩
 ·rw[hb] at e;cases e
 ·rw[hb] at h1
  cases h1
  exact⟨h2,p,v,h3,⟨h4,by rw[Lib.byteCells_length];exact h5,h6⟩,h7⟩
theorem ql3 {CP:Nat->Option CF}(L1:Lays.n166 P ρ)(L2:Lays.n167 P ρ)(L3:Lays.n169 P ρ)(X:Builder.Extra P ρ)(p1:qa3 CP (ρ.f 166)=false)(p2:qa3 CP (ρ.f 167)=false)(p3:qa3 CP (ρ.f 169)=false):
  SpOK P CP (qoB (ρ.f 166) (ρ.f 167) (ρ.f 169) (ρ.t 72) (ρ.t 5)) where
 ok:=fun {e} se {f args s v s'} h=>by
  unfold qoB at h
  cases h1:Nat.beq f (ρ.f 166) with
  |true=>
   rw[h1] at h
   simp only[cond_true] at h
   have ef:=beq_iff.1 h1
   subst ef
   refine⟨(fun hp=>by rw[p1] at hp;cases hp),fun {U pd l G w vs} mr ha=>?_⟩
   split at h<;>try (cases h;done)
   rename_i q b
   split at h<;>try (cases h;done)
   rename_i T' el' bs hq
   obtain⟨hc,h⟩:=qac h
   simp only[zae] at hc
   have e1:=beq_iff.1 hc.1
   have e2:=beq_iff.1 hc.2.1
   have e3:=ble_iff.1 hc.2.2
   subst e1;subst e2
   simp only[zab,zad] at h
   obtain⟨hp,hs,rfl,rfl⟩:=h
   obtain⟨u1,u2,rfl,a1,a2⟩:=qpN (args:=[]) ha
   cases a1 with|ptr _ _ bb hb=>
   have e4:=a2.str_inv
   subst e4
   obtain⟨hown,p,v,hp',hat,hv⟩:=qka mr hb hq
   rw[qbb] at e3⊢
   have hcall:=qeu L1 X b hat hp' (by rw[Lib.byteCells_length];exact e3)
   refine qaX (enters_of L1.f166 (by kernel_rfl) rfl _ _) (hcall.mono ?_)
   rintro e w' ⟨rfl,v',hat',hst⟩
   rw[<-qfG] at hat'
   obtain⟨G',x,m⟩:=qgx mr hb hq hs hown hv hat' hst
   refine⟨_,rfl,G',x,m,.tuple _ _ rfl fun i c u hc hu=>?_⟩
   match i,hc,hu with
   |0,hc,hu=>simp at hc hu;subst hc;subst hu;exact .int _ _
   |1,hc,hu=>simp at hc hu;subst hc;subst hu;exact .p _ _ .nilIface
  |false=>
  rw[h1] at h
  simp only[cond_false] at h
  cases h2:Nat.beq f (ρ.f 167) with
  |true=>
   rw[h2] at h
   simp only[cond_true] at h
   have ef:=beq_iff.1 h2
   subst ef
   refine⟨(fun hp=>by rw[p2] at hp;cases hp),fun {U pd l G w vs} mr ha=>?_⟩
   split at h<;>try (cases h;done)
   rename_i q c
   split at h<;>try (cases h;done)
   rename_i T' el' bs hq
   obtain⟨hc,h⟩:=qac h
   simp only[zae] at hc
   have e1:=beq_iff.1 hc.1
   have e2:=beq_iff.1 hc.2.1
   have e3:=ble_iff.1 hc.2.2.1
   have e5:=blt_iff.1 hc.2.2.2
   subst e1;subst e2
   simp only[zab,zad] at h
   obtain⟨hp,hs,rfl,rfl⟩:=h
   obtain⟨u1,u2,rfl,a1,a2⟩:=qpN (args:=[]) ha
   cases a1 with|ptr _ _ bb hb=>
   cases a2 with|p _ _ a2=>
   cases a2
   obtain⟨hown,p,v,hp',hat,hv⟩:=qka mr hb hq
   have hcall:=qfF L2 X (.ofNat c) hat hp' (by rw[Lib.byteCells_length];exact e3)
   refine qaX (enters_of L2.f167 (by kernel_rfl) rfl _ _) (hcall.mono ?_)
   rintro e w' ⟨rfl,v',hat',hst⟩
   have e6:Lib.byteCells bs++[Value.int .u8 (.ofNat c)]=Lib.byteCells (bs++[UInt8.ofNat c]):=by
    simp[Lib.byteCells,Nat.mod_eq_of_lt e5]
   rw[e6] at hat'
   obtain⟨G',x,m⟩:=qgx mr hb hq hs hown hv hat' hst
   exact⟨_,rfl,G',x,m,.p _ _ .nilIface⟩
  |false=>
  rw[h2] at h
  simp only[cond_false] at h
  cases h3:Nat.beq f (ρ.f 169) with
  |false=>rw[h3] at h;cases h
  |true=>
   rw[h3] at h
   simp only[cond_true] at h
   have ef:=beq_iff.1 h3
   subst ef
   refine⟨(fun hp=>by rw[p3] at hp;cases hp),fun {U pd l G w vs} mr ha=>?_⟩
   split at h<;>try (cases h;done)
   rename_i q
   split at h<;>try (cases h;done)
   rename_i T' el' y bs hq
   obtain⟨hc,h'⟩:=qac h
   clear h
   simp only[zaa,zad] at h'
   obtain⟨rfl,rfl⟩:=h'
   simp only[zae] at hc
   have e1:=beq_iff.1 hc.1
   have e2:=beq_iff.1 hc.2
   subst e1;subst e2
   obtain⟨u1,rfl,a1⟩:=arg1 ha
   cases a1 with|ptr _ _ bb hb=>
   obtain⟨hown,p,v,hp',hat,hv⟩:=qka mr hb hq
   obtain⟨g,hg⟩:∃g,v.ownBlock=some g:=by
    rcases hat.row.2 with⟨_,e⟩|⟨g,cap,cur,e,_⟩
    ·rw[Lib.byteCells_length] at e;cases e
    ·exact⟨g,by rw[e];rfl⟩
   have hcall:=qiJ L3 X hat (by simp) hg
   refine qaX (enters_of L3.f169 (by kernel_rfl) rfl _ _) (hcall.mono ?_)
   rintro e w' ⟨rfl,hrd⟩
   have t:Turn q G G w w':=⟨Nat.le_of_eq hrd.size,hrd.os,hrd.tape,hrd.output,fun k hk hn=>hrd.same k (fun e=>hn (by rw[e,hv g hg];exact hown)),fun k c E fr hk=>by
    by_cases e:k=g
    ·subst e
     obtain⟨fr',h'⟩:=hrd.wide c E fr hk
     exact⟨c,fr',h',rfl⟩
    ·exact⟨c,fr,by rw[hrd.same k e];exact hk,rfl⟩,fun _ _=>rfl,fun k hk=> .inl (mr.free hk),rfl,rfl,rfl,rfl⟩
   exact⟨_,rfl,G,t.ext mr,mr.turn t hb hown (mr.heap q _ hq).1 (fun k=>by
    by_cases e:k=q
    ·rw[if_pos e,e]
    ·rw[if_neg e,qa6,if_neg (fun e'=>e e'.symm)]) (fun ob hob=>by rw[qa6,if_pos rfl] at hob;cases hob),.p _ _ (.str _)⟩
end Go.AI
namespace Go.AI
open Go.Proofs
variable {P:Program} {E:Rom} {U pd:Nat->Option (List zA)} {l:Tr (Nat×List zA)} {s:ASt} {G G':Gh} {w w':World}
theorem qdf (h:MR P E U pd l s G w){q b off:Nat}{cs:List zA}(hb:G.bOf q=some b)(hold:qaH s.heap q=some (.cells cs))(hc:off<cs.length):∃z,w.cell? ⟨b,off,none⟩=some z:=by
 rcases(h.heap q _ hold).2 with e|⟨b',g1,g2,g3,_⟩
 ·rw[hb] at e;cases e
 ·rw[hb] at g1
  cases g1
  obtain⟨c,T,⟨fr,h1,ht⟩,h2,_,h4⟩:=g3
  have hlt:off<c.size:=by omega
  exact⟨c[off],by simp[World.cell?,h1,hlt]⟩
theorem qcH (h:MR P E U pd l s G w){q b off:Nat}{old new:List zA}{c:zA}{v:Value}(hb:G.bOf q=some b)(hold:qaH s.heap q=some (.cells old))(ho:over old off [c]=some new)(hca:qaG c=true)(hv:VR G w c v)(h1:v.oneCell'=true)
  {hp:Heap}(hset':qaM s.heap q (.cells new)=some hp):Ext G w G (w.setCell ⟨b,off,none⟩ v)/\MR P E U pd l {s with heap:=hp} G (w.setCell ⟨b,off,none⟩ v):=by
 obtain⟨w',_,hst,x,m⟩:=qfz h hb hold ho (by simp[hca]) (us:=[v]) ⟨rfl,fun i a u ha hu=>by
  match i,ha,hu with
  |0,ha,hu=>simp at ha hu;subst ha;subst hu;exact hv⟩ (fun u hu=>by simp at hu;subst hu;exact h1) hset'
 have e:w'=w.setCell ⟨b,off,none⟩ v:=by
  simp only[storeCells,Sem.run_bind,Sem.run_pure] at hst
  have hadd:(⟨b,off,none⟩:Addr).add 0=⟨b,off,none⟩:=by unfold Addr.add;simp
  rw[hadd,run_store P w _ v _ h1] at hst
  split at hst
  ·split at hst
   ·simp[Result.andThen] at hst
   ·simp only[Result.andThen_ok,Result.ok.injEq,true_and] at hst
    exact hst.symm
  ·rename_i hn
   obtain⟨z,hz⟩:=qdf h hb hold (off:=off) (by have:=(qbt ho).1;simp at this;omega)
   rw[hz] at hn
   cases hn
 subst e
 exact⟨x,m⟩
theorem qdT (h:MR P E U pd l s G w){q b off:Nat}{cs:List zA}(hb:G.bOf q=some b)(hold:qaH s.heap q=some (.cells cs)){k:IntKind}{n:Int}(hc:cs[off]? =some (.p (.int k n))):
  w.cell? ⟨b,off,none⟩=some (.int k n)/\w.frozen? ⟨b,off,none⟩=false:=by
 rcases(h.heap q _ hold).2 with e|⟨b',g1,g2,g3,_⟩
 ·rw[hb] at e;cases e
 ·rw[hb] at g1
  cases g1
  obtain⟨c,T,⟨fr,h1,ht⟩,h2,_,h4⟩:=g3
  have hlt:off<c.size:=by have:=(zah.1 hc).1;omega
  have hv:=h4 off _ c[off] hc (zam hlt)
  have e:c[off]=.int k n:=by
   generalize c[off]=z at hv
   cases hv with|p _ _ hv=>
   cases hv
   rfl
  refine⟨by simp[World.cell?,h1,hlt,e],?_⟩
  have:=ht off hlt
  simp[World.frozen?,h1]
  omega
def qkb (fd:Nat):Sp:=fun e f args s=>cond (Nat.beq f fd) (match args with
 |[.ptr q off,fv]=>cond (qpL fv) (match qaH s.heap q with
  |some (.cells cs)=>match qc0 cs off,qc0 cs (off+1) with
   |some (.p (.int .u32 (.ofNat 0))),some (.p (.int .i32 (.ofNat 0)))=>
    (over cs (off+1) [.p (.int .i32 1)]).bind fun cs1=>(qaM s.heap q (.cells cs1)).bind fun h1=>(e.callv fv [] {s with heap:=h1}).bind fun(_,s2)=>
     match qaH s2.heap q with
     |some (.cells cs2)=>match qc0 cs2 off,qc0 cs2 (off+1) with
      |some (.p (.int .u32 (.ofNat 0))),some (.p (.int .i32 (.ofNat 1)))=>
       (over cs2 off [.p (.int .u32 1)]).bind fun cs3=>(qaM s2.heap q (.cells cs3)).bind fun h3=>(over cs3 (off+1) [.p (.int .i32 0)]).bind fun cs4=>(qaM h3 q (.cells cs4)).map fun h4=>(qag,{s2 with heap:=h4})
      |_,_=>none
     |_=>none
   |_,_=>none
  |_=>none) none
 |_=>none) none
def qnL (P:Program)(fd:Nat):Prop:=∀(b off fn:Nat) (first cap:Array Value) (w:World) (Q:World->Prop),
  w.cell? ⟨b,off,none⟩=some (.int .u32 0)->w.cell? ⟨b,off+1,none⟩=some (.int .i32 0)->w.frozen? ⟨b,off,none⟩=false->w.frozen? ⟨b,off+1,none⟩=false->
  (callFunc fn (first++cap)).run P (w.setCell ⟨b,off+1,none⟩ (.int .i32 1))=.ok (.enter fn (first++cap)) (w.setCell ⟨b,off+1,none⟩ (.int .i32 1))->
  Calls P fn (first++cap) (w.setCell ⟨b,off+1,none⟩ (.int .i32 1)) (fun e w2=>(∃v,e=.returned v)/\Q w2)->
  (∀w2,Q w2->w2.cell? ⟨b,off,none⟩=some (.int .u32 0)/\w2.cell? ⟨b,off+1,none⟩=some (.int .i32 1)/\w2.frozen? ⟨b,off,none⟩=false/\w2.frozen? ⟨b,off+1,none⟩=false)->
  Calls P fd #[.pointer (some ⟨b,off,none⟩),.func (.func fn) first cap] w fun e w'=>e=.returned (.tuple #[])/\∃w2,Q w2/\w'=(w2.drew.setCell ⟨b,off,none⟩ (.int .u32 1)).setCell ⟨b,off+1,none⟩ (.int .i32 0)
theorem qkc {CP:Nat->Option CF}{fd:Nat}(hd:qnL P fd)(hen:∀args w,(callFunc fd args).run P w=.ok (.enter fd args) w)(p1:qa3 CP fd=false):SpOK P CP (qkb fd) where
 ok:=fun {e} se {f args s v s'} h=>by
  unfold qkb at h
  obtain⟨hf,h'⟩:=qac h
  clear h
  have ef:=beq_iff.1 hf
  subst ef
  refine⟨(fun hp=>by rw[p1] at hp;cases hp),fun {U pd l G w vs} mr ha=>?_⟩
  split at h'<;>try (cases h';done)
  rename_i q off fv
  obtain⟨hfn,h⟩:=qac h'
  clear h'
  split at h<;>try (cases h;done)
  rename_i cs hcs
  split at h<;>try (cases h;done)
  rename_i c0 c1
  rw[qbn] at c0 c1
  simp only[zac] at h
  obtain⟨cs1,ho1,h1,hs1,⟨r,s2⟩,hcall,h⟩:=h
  simp only at h
  split at h<;>try (cases h;done)
  rename_i cs2 hcs2
  split at h<;>try (cases h;done)
  rename_i d0 d1
  rw[qbn] at d0 d1
  simp only[zac,zab,zad] at h
  obtain⟨cs3,ho3,h3,hs3,cs4,ho4,h4,hs4,rfl,rfl⟩:=h
  obtain⟨u1,u2,rfl,a1,a2⟩:=qpN (args:=[]) ha
  cases a1 with|ptr _ _ b hb=>
  obtain⟨k0,f0⟩:=qdT mr hb hcs c0
  obtain⟨k1,f1⟩:=qdT mr hb hcs c1
  obtain⟨x1,m1⟩:=qcH mr hb hcs ho1 rfl (VR.int (G:=G) (w:=w) .i32 1) rfl hs1
  have a2':=a2.ext x1
  obtain⟨fn,first,cap,rfl,hent⟩:=se.callf hcall hfn m1 a2' (vs:= #[]) VRs.nil
  have hn:=se.callv hcall m1 a2' (vs:= #[]) VRs.nil
  let Q:World->Prop:=fun w2=>qba P e.E U pd G (w.setCell ⟨b,off+1,none⟩ (.int .i32 1)) l s2 r undef w2\/∃u,qba P e.E U pd G (w.setCell ⟨b,off+1,none⟩ (.int .i32 1)) l s2 r u w2
  have hcf:Calls P fn (first++cap) (w.setCell ⟨b,off+1,none⟩ (.int .i32 1)) fun e2 w2=>(∃v,e2=.returned v)/\Q w2:=by
   have hent':(callFunc fn (first++ #[]++cap)).run P (w.setCell ⟨b,off+1,none⟩ (.int .i32 1))=.ok (.enter fn (first++ #[]++cap)) (w.setCell ⟨b,off+1,none⟩ (.int .i32 1)):=hent
   have e1:(do let d <-Deferred.ofValue (.func (.func fn) first cap) #[];invoke d.target d.args:Sem Next).run P (w.setCell ⟨b,off+1,none⟩ (.int .i32 1))=(callFunc fn (first++ #[]++cap)).run P (w.setCell ⟨b,off+1,none⟩ (.int .i32 1)):=by
    simp[Deferred.ofValue,invoke]
   rw[e1,hent'] at hn
   have h2:=callsIn_wide.1 hn
   rw[Array.append_empty] at h2
   exact h2.mono fun e2 w2 ⟨u,he,hu⟩=>⟨⟨u,he⟩,.inr ⟨u,hu⟩⟩
  rw[Array.append_empty] at hent
  have key:∀w2,Q w2->∃G2,Ext G (w.setCell ⟨b,off+1,none⟩ (.int .i32 1)) G2 w2/\MR P e.E U pd l s2 G2 w2:=by
   rintro w2 (⟨G2,x,m,_⟩|⟨u,G2,x,m,_⟩)
   ·exact⟨G2,x,m⟩
   ·exact⟨G2,x,m⟩
  refine qaX (hen _ _) ((hd b off fn first cap w Q k0 k1 f0 f1 hent hcf fun w2 hq=>?_).mono ?_)
  ·obtain⟨G2,x,m⟩:=key w2 hq
   obtain⟨j0,j1⟩:=qdT m (x.bOf _ _ hb) hcs2 d0
   obtain⟨j2,j3⟩:=qdT m (x.bOf _ _ hb) hcs2 d1
   exact⟨j0,j2,j1,j3⟩
  ·rintro e2 w' ⟨rfl,w2,hq,rfl⟩
   obtain⟨G2,x2,m2⟩:=key w2 hq
   have hb2:=x2.bOf _ _ hb
   have x3:=(Keep.drew w2).ext G2
   have m3:=m2.keep (Keep.drew w2)
   obtain⟨x4,m4⟩:=qcH m3 hb2 hcs2 ho3 rfl (VR.int (G:=G2) (w:=w2.drew) .u32 1) rfl hs3
   have hc3:qaH h3 q=some (.cells cs3):=by rw[qb0 hs3,if_pos rfl]
   obtain⟨x5,m5⟩:=qcH m4 hb2 hc3 ho4 rfl (VR.int (G:=G2) (w:=w2.drew.setCell ⟨b,off,none⟩ (.int .u32 1)) .i32 0) rfl hs4
   exact⟨_,rfl,G2,x1.trans (x2.trans (x3.trans (x4.trans x5))),m5,.tuple [] #[] rfl (fun i c v h=>by simp at h)⟩
end Go.AI
namespace Go.AI
open Go.Shelf Go.RowKit Go.Proofs
variable {P:Program} {ρ:Ren} {E:Rom} {U pd:Nat->Option (List zA)} {l:Tr (Nat×List zA)} {s:ASt} {G G':Gh} {w w':World}
theorem Below.keepAI {w w':World}(h:Below w.heap.size w w'):Keep w w':=⟨h.size,h.os,h.tape,h.output,fun k hk=>h.block k hk⟩
theorem qoC (h:MR P E U pd l s G w){g:Nat}{k:IntKind}{n:Int}(he:E (PB+g)=some (.cells [.p (.int k n)])):w.cell? ⟨g,0,none⟩=some (.int k n):=by
 obtain⟨j,_,cs,ecs,_,_,c,T,fr,h1,h2,h4⟩:=(h.ro _ _ he).2 (Nat.le_add_right _ _)
 simp only[zH.cells.injEq] at ecs
 subst ecs
 rw[Nat.add_sub_cancel_left] at h1
 have hlt:0<c.size:=by simp at h2;omega
 have hv:=h4 0 _ c[0] rfl (zam hlt)
 have e:c[0]=.int k n:=by
  generalize c[0]=z at hv
  cases hv with|p _ _ hv=>
  cases hv
  rfl
 simp[World.cell?,h1,hlt,e]
def qoD (fr fc g1:Nat):Sp:=fun e f args s=>cond (Nat.beq f fr) (match args with
 |[.p (.str a),.p (.str b),.p (.str c),.p (.int .i64 n)]=>match e.E (PB+g1) with
  |some (.cells [.p (.int .i64 _)])=>cond (Nat.blt (qaJ a) 4294967281&&(Nat.blt 0 (qaJ b)&&Nat.ble (qaJ a+Lib.count a.data.toList b.data.toList*qaJ c) 140737488355328))
   (some (.p (.str ⟨(Lib.replace a.data.toList b.data.toList c.data.toList n).toArray⟩),s)) none
  |_=>none
 |_=>none)
 (cond (Nat.beq f fc) (match args with
  |[.p (.str a),.p (.str b)]=>match b.data.toList with
   |[c]=>some (.p (.int .i64 (.ofNat (Lib.countByte a.data.toList c))),s)
   |_=>none
  |_=>none) none)
theorem ql4 {CP:Nat->Option CF}(L1:Lays.n154 P ρ)(L2:Lays.n138 P ρ)(X:Builder.Extra P ρ):SpOK P CP (qoD (ρ.f 154) (ρ.f 138) (ρ.g 1)) where
 ok:=fun {e} se {f args s v s'} h=>by
  unfold qoD at h
  cases h1:Nat.beq f (ρ.f 154) with
  |true=>
   rw[h1] at h
   simp only[cond_true] at h
   have ef:=beq_iff.1 h1
   subst ef
   split at h<;>try (cases h;done)
   rename_i a b c n
   split at h<;>try (cases h;done)
   rename_i m hE
   obtain⟨hc,h'⟩:=qac h
   clear h
   simp only[zaa,zad] at h'
   obtain⟨rfl,rfl⟩:=h'
   simp only[zae] at hc
   rw[qbb,qbb,qbb] at hc
   refine⟨fun _=>rfl,fun {U pd l G w vs} mr ha=>?_⟩
   have hm:=qoC mr hE
   obtain⟨vl⟩:=vs
   match vl,ha with
   |[u1,u2,u3,u4],ha=>
    have e1:=(ha.2 0 _ u1 rfl rfl).str_inv
    have e2:=(ha.2 1 _ u2 rfl rfl).str_inv
    have e3:=(ha.2 2 _ u3 rfl rfl).str_inv
    have e4:u4=.int .i64 n:=by
     have:=ha.2 3 _ u4 rfl rfl
     cases this with|p _ _ hv=>
     cases hv
     rfl
    subst e1;subst e2;subst e3;subst e4
    have hcall:=Any.strings_Replace L1 X a b c n m w (blt_iff.1 hc.1) hm (blt_iff.1 hc.2.1) (ble_iff.1 hc.2.2)
    refine qaX (enters_of L1.f154 (by kernel_rfl) rfl _ _) (hcall.mono ?_)
    rintro e2 w' ⟨rfl,hb⟩
    have k:=Below.keepAI hb
    exact⟨_,rfl,G,k.ext G,mr.keep k,.p _ _ (.str _)⟩
   |[],ha=>exact absurd ha.1 (by simp)
   |[_],ha=>exact absurd ha.1 (by simp)
   |[_,_],ha=>exact absurd ha.1 (by simp)
   |[_,_,_],ha=>exact absurd ha.1 (by simp)
   |_::_::_::_::_::_,ha=>exact absurd ha.1 (by simp)
  |false=>
  rw[h1] at h
  simp only[cond_false] at h
  cases h2:Nat.beq f (ρ.f 138) with
  |false=>rw[h2] at h;cases h
  |true=>
   rw[h2] at h
   simp only[cond_true] at h
   have ef:=beq_iff.1 h2
   subst ef
   split at h<;>try (cases h;done)
   rename_i a b
   split at h<;>try (cases h;done)
   rename_i c hb
   simp only[zaa,zad] at h
   obtain⟨rfl,rfl⟩:=h
   refine⟨fun _=>rfl,fun {U pd l G w vs} mr ha=>?_⟩
   obtain⟨u1,u2,rfl,a1,a2⟩:=qpN (args:=[]) ha
   have e1:=a1.str_inv
   have e2:=a2.str_inv
   subst e1;subst e2
   have eb:b=⟨#[c]⟩:=by
    apply ByteArray.ext
    exact Array.toList_inj.1 hb
   subst eb
   refine qaX (enters_of L2.f138 (by kernel_rfl) rfl _ _) ((Any.strings_Count_one L2 a c w).mono ?_)
   rintro e2 w' ⟨rfl,rfl⟩
   exact⟨_,rfl,G,Ext.refl G _,mr,.p _ _ (.int _ _)⟩
def qjo (a b:Sp):Sp:=fun e f args s=>match a e f args s with
 |some r=>some r
 |none=>b e f args s
theorem qbW {CP:Nat->Option CF}{a b:Sp}(ha:SpOK P CP a)(hb:SpOK P CP b):SpOK P CP (qjo a b) where
 ok:=fun {e} se {f args s v s'} h=>by
  unfold qjo at h
  split at h
  ·rename_i r hr
   injection h with h
   subst h
   exact ha.ok se hr
  ·exact hb.ok se h
end Go.AI
namespace Go.AI
noncomputable section
def bF {α:Type}(b:Bool)(t f:α):α:=Bool.rec (motive:=fun _=>α) f t b
def xF {α:Type}(x:EX)(a:α)(f:Nat->α)(b:α):α:=EX.rec (motive:=fun _=>α) a f b x
def qrB (t:Tr zA):Nat->zA:=
 Tr.rec (motive:=fun _=>Nat->zA) (fun _=>qag) (fun v _ _ a b i=>bF (Nat.beq i (nat_lit 0)) v (bF (Nat.beq (Nat.mod i (nat_lit 2)) (nat_lit 1)) (a (Nat.div i (nat_lit 2))) (b (Nat.sub (Nat.div i (nat_lit 2)) (nat_lit 1))))) t
theorem qoE (t:Tr zA):∀i,qrB t i=t.get qag i:=by
 induction t with
 |nil=>intro i;rfl
 |node v l r ihl ihr=>
  intro i
  show bF (Nat.beq i 0) v (bF (Nat.beq (i%2) 1) (qrB l (i/2)) (qrB r (i/2-1)))=_
  unfold Tr.get
  rw[ihl,ihr]
  cases Nat.beq i 0<;>cases Nat.beq (i%2) 1<;>rfl
def ql5 {α:Type}(t:Tr α):Nat->α->Tr α:=
 Tr.rec (motive:=fun _=>Nat->α->Tr α) (fun _ _=> .nil) (fun v l r a b i x=>bF (Nat.beq i (nat_lit 0)) (.node x l r) (bF (Nat.beq (Nat.mod i (nat_lit 2)) (nat_lit 1)) (.node v (a (Nat.div i (nat_lit 2)) x) r) (.node v l (b (Nat.sub (Nat.div i (nat_lit 2)) (nat_lit 1)) x)))) t
theorem qfH {α:Type}(t:Tr α):∀i x,ql5 t i x=t.set i x:=by
 induction t with
 |nil=>intro i x;rfl
 |node v l r ihl ihr=>
  intro i x
  show bF (Nat.beq i 0) (Tr.node x l r) (bF (Nat.beq (i%2) 1) (Tr.node v (ql5 l (i/2) x) r) (Tr.node v l (ql5 r (i/2-1) x)))=_
  unfold Tr.set
  rw[ihl,ihr]
  cases Nat.beq i 0<;>cases Nat.beq (i%2) 1<;>rfl
def evA (x:Arg):Tr zA->zA:=Arg.rec (motive:=fun _=>Tr zA->zA) (fun n f=>qrB f n) (fun v _=>v) x
theorem qcy (x:Arg)(f:Tr zA):evA x f=x.ev f:=by cases x with
 |t n=>exact qoE f n
 |c v=>rfl
abbrev R:=Option (zA×Cfg)
def qaF {α β:Type}(x:Option α)(k:α->Option β):Option β:=Option.rec (motive:=fun _=>Option β) none k x
theorem qas {α β:Type}(x:Option α)(k:α->Option β):qaF x k=x.bind k:=by cases x<;>rfl
def qnM (t:Tr (Nat×List zA)):Nat->Nat×List zA:=
 Tr.rec (motive:=fun _=>Nat->Nat×List zA) (fun _=>(0,[])) (fun v _ _ a b i=>bF (Nat.beq i (nat_lit 0)) v (bF (Nat.beq (Nat.mod i (nat_lit 2)) (nat_lit 1)) (a (Nat.div i (nat_lit 2))) (b (Nat.sub (Nat.div i (nat_lit 2)) (nat_lit 1))))) t
theorem qkd (t:Tr (Nat×List zA)):∀i,qnM t i=t.get (0,[]) i:=by
 induction t with
 |nil=>intro i;rfl
 |node v l r ihl ihr=>
  intro i
  show bF (Nat.beq i 0) v (bF (Nat.beq (i%2) 1) (qnM l (i/2)) (qnM r (i/2-1)))=_
  unfold Tr.get
  rw[ihl,ihr]
  cases Nat.beq i 0<;>cases Nat.beq (i%2) 1<;>rfl
def qh8 {α:Type}(l:List α):Nat->List α:=List.rec (motive:=fun _=>Nat->List α) (fun _=>[]) (fun x xs ih n=>bF (Nat.beq n 0) (x::xs) (ih (n-1))) l
theorem qgy {α:Type}(l:List α):∀n,qh8 l n=qc1 l n:=by
 induction l with
 |nil=>intro n;rfl
 |cons x xs ih=>
  intro n
  show bF (Nat.beq n 0) (x::xs) (qh8 xs (n-1))=_
  unfold qc1
  rw[ih]
  cases Nat.beq n 0<;>rfl
def qh9 {α:Type}(l:List α):Nat->List α:=List.rec (motive:=fun _=>Nat->List α) (fun _=>[]) (fun x _ ih n=>bF (Nat.beq n 0) [] (x::ih (n-1))) l
theorem qgz {α:Type}(l:List α):∀n,qh9 l n=qcl l n:=by
 induction l with
 |nil=>intro n;rfl
 |cons x xs ih=>
  intro n
  show bF (Nat.beq n 0) [] (x::qh9 xs (n-1))=_
  unfold qcl
  rw[ih]
  cases Nat.beq n 0<;>rfl
def qnN {α:Type}(l:List α):Nat:=List.rec (motive:=fun _=>Nat) 0 (fun _ _ ih=>Nat.succ ih) l
theorem qfI {α:Type}(l:List α):qnN l=l.length:=by
 induction l with
 |nil=>rfl
 |cons x xs ih=>show Nat.succ (qnN xs)=_;rw[ih];rfl
def qrC {α:Type}(l m:List α):List α:=List.rec (motive:=fun _=>List α) m (fun x _ ih=>x::ih) l
theorem qke {α:Type}(l m:List α):qrC l m=l++m:=by
 induction l with
 |nil=>rfl
 |cons x xs ih=>show x::qrC xs m=_;rw[ih];rfl
def qqs {α:Type}(xs:List α)(off n:Nat):Option (List α):=bF (Nat.ble (off+n) (qnN xs)) (some (qh9 (qh8 xs off) n)) none
theorem qg9 {α:Type}(xs:List α)(off n:Nat):qqs xs off n=cut xs off n:=by
 unfold qqs cut
 rw[qfI,qgy,qgz]
 cases Nat.ble (off+n) xs.length<;>rfl
def qoF {α:Type}(xs:List α)(off:Nat)(ys:List α):Option (List α):=bF (Nat.ble (off+qnN ys) (qnN xs)) (some (qrC (qh9 xs off) (qrC ys (qh8 xs (off+qnN ys))))) none
theorem ql6 {α:Type}(xs:List α)(off:Nat)(ys:List α):qoF xs off ys=over xs off ys:=by
 unfold qoF over
 rw[qfI,qfI,qgy,qgz,qke,qke]
 cases Nat.ble (off+ys.length) xs.length<;>rfl
def qrD (l:List zP):List zA:=List.rec (motive:=fun _=>List zA) [] (fun x _ ih=> .p x::ih) l
theorem qkf (l:List zP):qrD l=l.map .p:=by
 induction l with
 |nil=>rfl
 |cons x xs ih=>show zA.p x::qrD xs=_;rw[ih];rfl
def qia (E:Rom)(s:ASt)(l:Nat):Option (List zA):=qbS E s l
theorem qha (E:Rom)(s:ASt)(l:Nat):qia E s l=qbS E s l:=rfl
def qcz (E:Rom)(lo:Tr (Nat×List zA))(s:ASt)(a:zA)(n:Nat):Option (List zA):=
 match a with
 |.lptr i g off=>bF (Nat.beq g (qnM lo i).1) (qqs (qnM lo i).2 off n) none
 |.ptr l off=>qaF (qia E s l) fun cs=>qqs cs off n
 |.elem cs off=>qaF (qqs cs off n) fun cs=>some (qrD cs)
 |a=>qay E lo s a n
theorem qgA (E:Rom)(lo:Tr (Nat×List zA))(s:ASt)(a:zA)(n:Nat):qcz E lo s a n=qay E lo s a n:=by
 cases a<;>try rfl
 ·simp only[qcz,qay,qkd,qg9]
  generalize lo.get (0,[]) _=p
  obtain⟨g',cs⟩:=p
  simp only
  generalize Nat.beq _ g'=b
  cases b<;>rfl
 ·simp only[qcz,qay,qas,qg9,qha]
 ·simp only[qcz,qay,qas,qg9,qkf]
  cases cut _ _ n<;>rfl
def qfJ (c:Cfg)(a:zA)(cs:List zA):Option Cfg:=
 match a with
 |.lptr i g off=>bF (Nat.beq g (qnM c.l i).1) (qaF (qoF (qnM c.l i).2 off cs) fun new=>some {c with l:=ql5 c.l i ((qnM c.l i).1,new)}) none
 |a=>qbm c a cs
theorem qhb (c:Cfg)(a:zA)(cs:List zA):qfJ c a cs=qbm c a cs:=by
 cases a<;>try rfl
 simp only[qfJ,qbm,qkd,ql6,qas,qfH]
 generalize c.l.get (0,[]) _=p
 obtain⟨g',old⟩:=p
 simp only
 generalize Nat.beq _ g'=b
 cases b
 ·rfl
 ·show(over old _ cs).bind _=_
  cases over old _ cs<;>rfl
def mkF {α:Type}(x:α)(d:Nat):Tr α:=Nat.rec (motive:=fun _=>Tr α) .nil (fun _ t=> .node x t t) d
theorem qkg {α:Type}(x:α)(d:Nat):mkF x d=Tr.mk x d:=by
 induction d with
 |zero=>rfl
 |succ d ih=>show Tr.node x (mkF x d) (mkF x d)=_;rw[ih];rfl
def qdU (args:List zA):Tr zA->Nat->Tr zA:=List.rec (motive:=fun _=>Tr zA->Nat->Tr zA) (fun f _=>f) (fun v _ ih f i=>ih (ql5 f i v) (i+1)) args
theorem qev (args:List zA):∀f i,qdU args f i=qaQ f i args:=by
 induction args with
 |nil=>intro f i;rfl
 |cons v r ih=>
  intro f i
  show qdU r (ql5 f i v) (i+1)=_
  rw[ih,qfH]
  rfl
def iMov (x:Arg)(_:Env)(c:Cfg):R:=some (evA x c.f,c)
def qoG (b x y:Arg)(_:Env)(c:Cfg):R:=match evA b c.f with
  |.p (.bool t)=>some (cond t (evA x c.f) (evA y c.f),c)
  |_=>none
def qqt (i:Nat)(zs:List zA)(e:Env)(c:Cfg):R:=qaf e c (.alloc i zs)
def qrT (i:Nat)(n:Option Nat)(x:Arg)(_:Env)(c:Cfg):R:=qaF (zA.cells n (evA x c.f)) fun cs=>match c.l.get (0,[]) i with
  |(g,_)=>some (.lptr i (g+1) 0,{c with l:=ql5 c.l i (g+1,cs)})
def qoH (n:Option Nat)(a:Arg)(e:Env)(c:Cfg):R:=qaF (qcz e.E c.l c.s (evA a c.f) (cnt n)) fun cs=>qaF (zA.ofCells n cs) fun v=>some (v,c)
def qkh (n:Option Nat)(a x:Arg)(_:Env)(c:Cfg):R:=qaF (zA.cells n (evA x c.f)) fun cs=>qaF (qfJ c (evA a c.f) cs) fun c=>some (qag,c)
def qrU (o:BinOp)(x y:Arg)(_:Env)(c:Cfg):R:=qaF (qeM o (evA x c.f) (evA y c.f)) fun v=>some (.p v,c)
def faA (off:Nat)(c:Cfg)(v:zA):R:=match v with
  |.lptr i g o=>some (.lptr i g (o+off),c)
  |.ptr l o=>some (.ptr l (o+off),c)
  |.elem cs o=>some (.elem cs (o+off),c)
  |.rel cs o=>some (.rel cs (o+off),c)
  |_=>none
def iFa (off:Nat)(x:Arg)(_:Env)(c:Cfg):R:=faA off c (evA x c.f)
def qrE (xs:List Arg)(f:Tr zA):List zA:=List.rec (motive:=fun _=>List zA) [] (fun x _ ih=>evA x f::ih) xs
theorem qki (xs:List Arg)(f:Tr zA):qrE xs f=xs.map (Arg.ev f):=by
 induction xs with
 |nil=>rfl
 |cons x xs ih=>
  show evA x f::qrE xs f=_
  rw[ih,qcy];rfl
def qoI (f:Nat)(args:List Arg)(e:Env)(c:Cfg):R:=qaF (e.call f (qrE args c.f) c.s) fun r=>some (r.1,{c with s:=r.2})
def qkj (f:Arg)(args:List Arg)(e:Env)(c:Cfg):R:=qaF (e.callv (evA f c.f) (qrE args c.f) c.s) fun r=>some (r.1,{c with s:=r.2})
def qkk (i:Nat)(e:Env)(c:Cfg):R:=match c.l.get (0,[]) i with
  |(g,_)=>some (.lptr i g 0,c)
def ql7 (zs:List zA)(e:Env)(c:Cfg):R:=cond (zs.all qaG) (some (.ptr c.s.next 0,{c with s:=qaw c.s (.cells zs)})) none
def qiK (d:Nat)(e:Env)(c:Cfg):R:=(qap c.h d).map fun l=>(.ptr l 0,c)
def qqu (n:Option Nat)(x:Arg)(e:Env)(c:Cfg):R:=(zA.cells n (x.ev c.f)).bind fun cs=>cond (cs.all qaG) (some (.ptr c.s.next 0,{c with s:=qaw c.s (.cells cs)})) none
def qhc (zs:List zA)(ps:List (Nat×Option Nat×Arg))(f:Tr zA):Option zA:=(qbv zs f ps).map .agg
def qhd (a0:List zA)(a1:List (Nat×Option Nat×Arg))(_:Env)(c:Cfg):R:=qaF (qhc a0 a1 c.f) fun v=>some (v,c)
theorem qiL (a0:List zA)(a1:List (Nat×Option Nat×Arg))(e:Env)(c:Cfg):qhd a0 a1 e c=qaf e c (.build a0 a1):=by
 have h:qaf e c (.build a0 a1)=(qhc a0 a1 c.f).map fun v=>(v,c):=rfl
 rw[h]
 unfold qhd
 rw[qas]
 cases qhc a0 a1 c.f<;>rfl
def qoJ (n:Nat)(zs:List zP)(ps:List (Nat×Option Nat×Arg))(f:Tr zA):Option zA:=(qc4 zs f ps).map fun cs=> .sl n cs .full
def qoK (a0:Nat)(a1:List zP)(a2:List (Nat×Option Nat×Arg))(_:Env)(c:Cfg):R:=qaF (qoJ a0 a1 a2 c.f) fun v=>some (v,c)
theorem ql8 (a0:Nat)(a1:List zP)(a2:List (Nat×Option Nat×Arg))(e:Env)(c:Cfg):qoK a0 a1 a2 e c=qaf e c (.mks a0 a1 a2):=by
 have h:qaf e c (.mks a0 a1 a2)=(qoJ a0 a1 a2 c.f).map fun v=>(v,c):=rfl
 rw[h]
 unfold qoK
 rw[qas]
 cases qoJ a0 a1 a2 c.f<;>rfl
def qoL (n:Nat)(zs:List zA)(ps:List (Nat×Option Nat×Arg))(f:Tr zA):Option zA:=(qbv zs f ps).map fun cs=> .row n cs
def qoM (a0:Nat)(a1:List zA)(a2:List (Nat×Option Nat×Arg))(_:Env)(c:Cfg):R:=qaF (qoL a0 a1 a2 c.f) fun v=>some (v,c)
theorem ql9 (a0:Nat)(a1:List zA)(a2:List (Nat×Option Nat×Arg))(e:Env)(c:Cfg):qoM a0 a1 a2 e c=qaf e c (.mkr a0 a1 a2):=by
 have h:qaf e c (.mkr a0 a1 a2)=(qoL a0 a1 a2 c.f).map fun v=>(v,c):=rfl
 rw[h]
 unfold qoM
 rw[qas]
 cases qoL a0 a1 a2 c.f<;>rfl
def qoN (x:Arg)(f:Tr zA):Option zA:=match x.ev f with
  |.ptr l o=>some (.ptr l o)
  |.lptr i g o=>some (.lptr i g o)
  |.elem cs o=>some (.elem cs o)
  |.rel cs o=>some (.rel cs o)
  |_=>none
def qoO (a0:Arg)(_:Env)(c:Cfg):R:=qaF (qoN a0 c.f) fun v=>some (v,c)
theorem qma (a0:Arg)(e:Env)(c:Cfg):qoO a0 e c=qaf e c (.nck a0):=by
 have h:qaf e c (.nck a0)=(qoN a0 c.f).map fun v=>(v,c):=rfl
 rw[h]
 unfold qoO
 rw[qas]
 cases qoN a0 c.f<;>rfl
def qoP (kd:Nat)(neg:Bool)(x:Arg)(y:Arg)(f:Tr zA):Option zA:=(eqK kd (x.ev f) (y.ev f)).map fun b=> .p (.bool (cond neg (!b) b))
def qoQ (a0:Nat)(a1:Bool)(a2:Arg)(a3:Arg)(_:Env)(c:Cfg):R:=qaF (qoP a0 a1 a2 a3 c.f) fun v=>some (v,c)
theorem qmb (a0:Nat)(a1:Bool)(a2:Arg)(a3:Arg)(e:Env)(c:Cfg):qoQ a0 a1 a2 a3 e c=qaf e c (.eqv a0 a1 a2 a3):=by
 have h:qaf e c (.eqv a0 a1 a2 a3)=(qoP a0 a1 a2 a3 c.f).map fun v=>(v,c):=rfl
 rw[h]
 unfold qoQ
 rw[qas]
 cases qoP a0 a1 a2 a3 c.f<;>rfl
def qoR (ks:List Nat)(neg:Bool)(x:Arg)(y:Arg)(f:Tr zA):Option zA:=(qn6 ks (x.ev f) (y.ev f)).map fun b=> .p (.bool (cond neg (!b) b))
def qoS (a0:List Nat)(a1:Bool)(a2:Arg)(a3:Arg)(_:Env)(c:Cfg):R:=qaF (qoR a0 a1 a2 a3 c.f) fun v=>some (v,c)
theorem qmc (a0:List Nat)(a1:Bool)(a2:Arg)(a3:Arg)(e:Env)(c:Cfg):qoS a0 a1 a2 a3 e c=qaf e c (.eqs a0 a1 a2 a3):=by
 have h:qaf e c (.eqs a0 a1 a2 a3)=(qoR a0 a1 a2 a3 c.f).map fun v=>(v,c):=rfl
 rw[h]
 unfold qoS
 rw[qas]
 cases qoR a0 a1 a2 a3 c.f<;>rfl
def qmd (x:Arg)(f:Tr zA):Option zA:=match x.ev f with
  |.p (.bool b)=>some (.p (.bool !b))
  |_=>none
def qoT (a0:Arg)(_:Env)(c:Cfg):R:=qaF (qmd a0 c.f) fun v=>some (v,c)
theorem qme (a0:Arg)(e:Env)(c:Cfg):qoT a0 e c=qaf e c (.not a0):=by
 have h:qaf e c (.not a0)=(qmd a0 c.f).map fun v=>(v,c):=rfl
 rw[h]
 unfold qoT
 rw[qas]
 cases qmd a0 c.f<;>rfl
def qoU (left:Bool)(x:Arg)(y:Arg)(f:Tr zA):Option zA:=match x.ev f,y.ev f with
  |.p (.int k a),.p (.int _ (.ofNat n))=>some (.p (.int k (cond left (k.wrap (a*2^(min n k.bits))) (a.fdiv (2^(min n k.bits))))))
  |_,_=>none
def qoV (a0:Bool)(a1:Arg)(a2:Arg)(_:Env)(c:Cfg):R:=qaF (qoU a0 a1 a2 c.f) fun v=>some (v,c)
theorem qmf (a0:Bool)(a1:Arg)(a2:Arg)(e:Env)(c:Cfg):qoV a0 a1 a2 e c=qaf e c (.shf a0 a1 a2):=by
 have h:qaf e c (.shf a0 a1 a2)=(qoU a0 a1 a2 c.f).map fun v=>(v,c):=rfl
 rw[h]
 unfold qoV
 rw[qas]
 cases qoU a0 a1 a2 c.f<;>rfl
def qmg (k:IntKind)(x:Arg)(f:Tr zA):Option zA:=match x.ev f with
  |.p (.int _ n)=>some (.p (.int k (qdJ k n)))
  |_=>none
def qoW (a0:IntKind)(a1:Arg)(_:Env)(c:Cfg):R:=qaF (qmg a0 a1 c.f) fun v=>some (v,c)
theorem qmh (a0:IntKind)(a1:Arg)(e:Env)(c:Cfg):qoW a0 a1 e c=qaf e c (.cvt a0 a1):=by
 have h:qaf e c (.cvt a0 a1)=(qmg a0 a1 c.f).map fun v=>(v,c):=rfl
 rw[h]
 unfold qoW
 rw[qas]
 cases qmg a0 a1 c.f<;>rfl
def qoX (x:Arg)(f:Tr zA):Option zA:=match x.ev f with
  |.p (.int _ n)=>some (.p (.str (Utf8.encode n)))
  |_=>none
def qoY (a0:Arg)(_:Env)(c:Cfg):R:=qaF (qoX a0 c.f) fun v=>some (v,c)
theorem qmi (a0:Arg)(e:Env)(c:Cfg):qoY a0 e c=qaf e c (.i2s a0):=by
 have h:qaf e c (.i2s a0)=(qoX a0 c.f).map fun v=>(v,c):=rfl
 rw[h]
 unfold qoY
 rw[qas]
 cases qoX a0 c.f<;>rfl
def qoZ (x:Arg)(f:Tr zA):Option zA:=match x.ev f with
  |.p (.str s)=>some (.p (.str s))
  |_=>none
def qo0 (a0:Arg)(_:Env)(c:Cfg):R:=qaF (qoZ a0 c.f) fun v=>some (v,c)
theorem qmj (a0:Arg)(e:Env)(c:Cfg):qo0 a0 e c=qaf e c (.s2s a0):=by
 have h:qaf e c (.s2s a0)=(qoZ a0 c.f).map fun v=>(v,c):=rfl
 rw[h]
 unfold qo0
 rw[qas]
 cases qoZ a0 c.f<;>rfl
def qrV (x:Arg)(e:Env)(c:Cfg):R:=(qrN e.E c.s (x.ev c.f)).map fun v=>(v,c)
def qrW (tbl:List (Nat×Nat))(x:Arg)(args:List Arg)(e:Env)(c:Cfg):R:=match x.ev c.f with
  |.iface t v=>(qap tbl t).bind fun f=>(e.call f (v::args.map (Arg.ev c.f)) c.s).map fun(r,s)=>(r,{c with s:=s})
  |.p (.iface t v)=>(qap tbl t).bind fun f=>(e.call f (.p v::args.map (Arg.ev c.f)) c.s).map fun(r,s)=>(r,{c with s:=s})
  |_=>none
def qrX (x:Arg)(e:Env)(c:Cfg):R:=match x.ev c.f with
  |.p (.str b)=>some (.hs c.s.next 0 (qaJ b) (qaJ b) 1 true,{c with s:=qaw c.s (.cells (b.data.toList.map fun x=> .p (.int .u8 (.ofNat x.toNat))))})
  |_=>none
def qo1 (n:Nat)(sz:Nat)(x:Arg)(i:Arg)(f:Tr zA):Option zA:=(qbe (i.ev f)).bind fun i=>cond (Nat.blt i n) (match x.ev f with
  |.lptr a g o=>some (.lptr a g (o+i*sz))
  |.ptr l o=>some (.ptr l (o+i*sz))
  |.elem cs o=>some (.elem cs (o+i*sz))
  |.rel cs o=>some (.rel cs (o+i*sz))
  |_=>none) none
def qo2 (a0:Nat)(a1:Nat)(a2:Arg)(a3:Arg)(_:Env)(c:Cfg):R:=qaF (qo1 a0 a1 a2 a3 c.f) fun v=>some (v,c)
theorem qmk (a0:Nat)(a1:Nat)(a2:Arg)(a3:Arg)(e:Env)(c:Cfg):qo2 a0 a1 a2 a3 e c=qaf e c (.iaA a0 a1 a2 a3):=by
 have h:qaf e c (.iaA a0 a1 a2 a3)=(qo1 a0 a1 a2 a3 c.f).map fun v=>(v,c):=rfl
 rw[h]
 unfold qo2
 rw[qas]
 cases qo1 a0 a1 a2 a3 c.f<;>rfl
def qo3 (x:Arg)(f:Tr zA):Option zA:=match x.ev f with
  |.hs _ _ _ cap _ false=>some (.p (.int .i64 (.ofNat cap)))
  |.p .nil0=>some (.p (.int .i64 0))
  |_=>none
def qo4 (a0:Arg)(_:Env)(c:Cfg):R:=qaF (qo3 a0 c.f) fun v=>some (v,c)
theorem qml (a0:Arg)(e:Env)(c:Cfg):qo4 a0 e c=qaf e c (.cap a0):=by
 have h:qaf e c (.cap a0)=(qo3 a0 c.f).map fun v=>(v,c):=rfl
 rw[h]
 unfold qo4
 rw[qas]
 cases qo3 a0 c.f<;>rfl
def qmm (off:Nat)(n:Option Nat)(x:Arg)(f:Tr zA):Option zA:=match x.ev f with
  |.agg cs=>(cut cs off (cnt n)).bind (zA.ofCells n)
  |_=>none
def qo5 (a0:Nat)(a1:Option Nat)(a2:Arg)(_:Env)(c:Cfg):R:=qaF (qmm a0 a1 a2 c.f) fun v=>some (v,c)
theorem qmn (a0:Nat)(a1:Option Nat)(a2:Arg)(e:Env)(c:Cfg):qo5 a0 a1 a2 e c=qaf e c (.fld a0 a1 a2):=by
 have h:qaf e c (.fld a0 a1 a2)=(qmm a0 a1 a2 c.f).map fun v=>(v,c):=rfl
 rw[h]
 unfold qo5
 rw[qas]
 cases qmm a0 a1 a2 c.f<;>rfl
def qkl (m:Nat)(n:Option Nat)(x:Arg)(i:Arg)(f:Tr zA):Option zA:=(qbe (i.ev f)).bind fun i=>cond (Nat.blt i m) (match x.ev f with
  |.agg cs=>(cut cs (i*cnt n) (cnt n)).bind (zA.ofCells n)
  |_=>none) none
def qkm (a0:Nat)(a1:Option Nat)(a2:Arg)(a3:Arg)(_:Env)(c:Cfg):R:=qaF (qkl a0 a1 a2 a3 c.f) fun v=>some (v,c)
theorem qkn (a0:Nat)(a1:Option Nat)(a2:Arg)(a3:Arg)(e:Env)(c:Cfg):qkm a0 a1 a2 a3 e c=qaf e c (.idxa a0 a1 a2 a3):=by
 have h:qaf e c (.idxa a0 a1 a2 a3)=(qkl a0 a1 a2 a3 c.f).map fun v=>(v,c):=rfl
 rw[h]
 unfold qkm
 rw[qas]
 cases qkl a0 a1 a2 a3 c.f<;>rfl
def qo6 (neg:Bool)(x:Arg)(f:Tr zA):Option zA:=match x.ev f with
  |.p .nilIface=>some (.p (.bool (!neg)))
  |.p (.iface ..)=>some (.p (.bool neg))
  |.iface .. =>some (.p (.bool neg))
  |_=>none
def qo7 (a0:Bool)(a1:Arg)(_:Env)(c:Cfg):R:=qaF (qo6 a0 a1 c.f) fun v=>some (v,c)
theorem qmo (a0:Bool)(a1:Arg)(e:Env)(c:Cfg):qo7 a0 a1 e c=qaf e c (.eqn a0 a1):=by
 have h:qaf e c (.eqn a0 a1)=(qo6 a0 a1 c.f).map fun v=>(v,c):=rfl
 rw[h]
 unfold qo7
 rw[qas]
 cases qo6 a0 a1 c.f<;>rfl
def qrY (sz:Nat)(d:Arg)(x:Arg)(e:Env)(c:Cfg):R:=(qjn e.E c.s sz (x.ev c.f)).bind fun(m,new)=>cond (Nat.beq new.length (m*sz)&&new.all qaG)
   (match d.ev c.f with
    |.hs l off n cap z op=>cond (Nat.beq z sz) (match qaH c.s.heap l with
     |some (.cells old)=>(over old off (qcl new (Nat.min m n*sz))).bind fun cs=>(qaM c.s.heap l (.cells cs)).map fun h=>(.p (.int .i64 (.ofNat (Nat.min m n))),{c with s:={c.s with heap:=h}})
     |_=>none) none
    |_=>none) none
def qrZ (sz:Nat)(zs:List zA)(x:Arg)(e:Env)(c:Cfg):R:=match x.ev c.f with
  |.hs l off n cap z op=>cond (Nat.beq z sz&&zs.all qaG) (match qaH c.s.heap l with
   |some (.cells old)=>(over old off (zaq n zs).flatten).bind fun cs=>(qaM c.s.heap l (.cells cs)).map fun h=>(qag,{c with s:={c.s with heap:=h}})
   |_=>none) none
  |.p .nil0=>some (qag,c)
  |_=>none
def qqv (sz:Nat)(bytes:Nat)(zs:List zA)(s:Arg)(x:Arg)(e:Env)(c:Cfg):R:=(qbe (x.ev c.f)).bind fun m=>match s.ev c.f with
  |.p .nil0=>cond (Nat.blt 0 m&&(Nat.ble (m*bytes) 140737488355328&&zs.all qaG)) (some (.hs c.s.next 0 m m sz true,{c with s:=qaw c.s (.cells (zaq m zs).flatten)})) none
  |_=>none
def qo8 (fn:Nat)(first:List Arg)(cap:List Arg)(f:Tr zA):Option zA:=match qc2 (first.map (Arg.ev f)),qc2 (cap.map (Arg.ev f)) with
  |some a,some b=>some (.p (.func fn a b))
  |_,_=>some (.func fn (first.map (Arg.ev f)) (cap.map (Arg.ev f)))
def qo9 (a0:Nat)(a1:List Arg)(a2:List Arg)(_:Env)(c:Cfg):R:=qaF (qo8 a0 a1 a2 c.f) fun v=>some (v,c)
theorem qmp (a0:Nat)(a1:List Arg)(a2:List Arg)(e:Env)(c:Cfg):qo9 a0 a1 a2 e c=qaf e c (.mkf a0 a1 a2):=by
 have h:qaf e c (.mkf a0 a1 a2)=(qo8 a0 a1 a2 c.f).map fun v=>(v,c):=rfl
 rw[h]
 unfold qo9
 rw[qas]
 cases qo8 a0 a1 a2 c.f<;>rfl
def qpa (t:Nat)(x:Arg)(f:Tr zA):Option zA:=match zA.pureW (x.ev f) with
  |some c=>some (.p (.iface t c))
  |none=>cond (qjr (x.ev f)) (some (.iface t (x.ev f))) none
def qpb (a0:Nat)(a1:Arg)(_:Env)(c:Cfg):R:=qaF (qpa a0 a1 c.f) fun v=>some (v,c)
theorem qmq (a0:Nat)(a1:Arg)(e:Env)(c:Cfg):qpb a0 a1 e c=qaf e c (.mki a0 a1):=by
 have h:qaf e c (.mki a0 a1)=(qpa a0 a1 c.f).map fun v=>(v,c):=rfl
 rw[h]
 unfold qpb
 rw[qas]
 cases qpa a0 a1 c.f<;>rfl
def qpc (t:Nat)(z:zA)(ok:Bool)(x:Arg)(f:Tr zA):Option zA:=match x.ev f with
  |.p .nilIface=>cond ok (some (.tuple [z,.p (.bool false)])) none
  |.p (.iface u c)=>cond (Nat.beq u t) (some (cond ok (.tuple [c.whole,.p (.bool true)]) c.whole)) (cond ok (some (.tuple [z,.p (.bool false)])) none)
  |.iface u v=>cond (Nat.beq u t) (some (cond ok (.tuple [v,.p (.bool true)]) v)) (cond ok (some (.tuple [z,.p (.bool false)])) none)
  |_=>none
def qpd (a0:Nat)(a1:zA)(a2:Bool)(a3:Arg)(_:Env)(c:Cfg):R:=qaF (qpc a0 a1 a2 a3 c.f) fun v=>some (v,c)
theorem qmr (a0:Nat)(a1:zA)(a2:Bool)(a3:Arg)(e:Env)(c:Cfg):qpd a0 a1 a2 a3 e c=qaf e c (.tas a0 a1 a2 a3):=by
 have h:qaf e c (.tas a0 a1 a2 a3)=(qpc a0 a1 a2 a3 c.f).map fun v=>(v,c):=rfl
 rw[h]
 unfold qpd
 rw[qas]
 cases qpc a0 a1 a2 a3 c.f<;>rfl
def qqw (sz:Nat)(bytes:Nat)(m:Arg)(e:Env)(c:Cfg):R:=(qbe (m.ev c.f)).bind fun m=>cond (Nat.ble (m*bytes) 140737488355328)
   (some (.sl 0 [] (.own c.s.ntok),{c with s:={c.s with ntok:=c.s.ntok+1,toks:=(c.s.ntok,0,sz)::c.s.toks}})) none
def qr0 (sz:Nat)(bytes:Nat)(zs:List zA)(m:Arg)(k:Arg)(e:Env)(c:Cfg):R:=(qbe (m.ev c.f)).bind fun m=>(qbe (k.ev c.f)).bind fun k=>cond (Nat.ble m k&&(Nat.ble (k*bytes) 140737488355328&&zs.all qaG))
   (some (.hs c.s.next 0 m k sz false,{c with s:=qaw c.s (.cells (zaq k zs).flatten)})) none
def qr1 (n:Nat)(sz:Nat)(zs:List zA)(ps:List (Nat×Option Nat×Arg))(e:Env)(c:Cfg):R:=(qbv zs c.f ps).bind fun cs=>cond (cs.all qaG) (some (.hs c.s.next 0 n n sz false,{c with s:=qaw c.s (.cells cs)})) none
def qhe (sz:Nat)(x:Arg)(lo:Option Arg)(hi:Option Arg)(f:Tr zA):Option zA:=match x.ev f with
  |.hs l off n cap z p=>(qaY 0 f lo).bind fun a=>(qaY n f hi).bind fun b=>
   cond (Nat.beq z sz&&(Nat.ble a b&&Nat.ble b cap)) (cond (Nat.blt a cap) (some (.hs l (off+a*sz) (b-a) (cap-a) z p)) (cond p (some (.p .emSl)) (some (.hs l off 0 0 z false)))) none
  |.row n cs=>(qaY 0 f lo).bind fun a=>(qaY n f hi).bind fun b=>
   cond (Nat.ble a b&&(Nat.ble b n&&Nat.ble (b*sz) cs.length)) (some (.row (b-a) (qcl (qc1 cs (a*sz)) ((b-a)*sz)))) none
  |.p .nil0=>(qaY 0 f lo).bind fun a=>(qaY 0 f hi).bind fun b=>cond (Nat.beq a 0&&Nat.beq b 0) (some (.p .nil0)) none
  |v=>(qcm v).bind fun(n,cs)=>(qaY 0 f lo).bind fun a=>(qaY n f hi).bind fun b=>
   cond (Nat.ble a b&&(Nat.ble b n&&Nat.ble (b*sz) cs.length)) (some (.p (.sl (b-a) (qcl (qc1 cs (a*sz)) ((b-a)*sz))))) none
def qhf (a0:Nat)(a1:Arg)(a2:Option Arg)(a3:Option Arg)(_:Env)(c:Cfg):R:=qaF (qhe a0 a1 a2 a3 c.f) fun v=>some (v,c)
theorem qiM (a0:Nat)(a1:Arg)(a2:Option Arg)(a3:Option Arg)(e:Env)(c:Cfg):qhf a0 a1 a2 a3 e c=qaf e c (.slice a0 a1 a2 a3):=by
 have h:qaf e c (.slice a0 a1 a2 a3)=(qhe a0 a1 a2 a3 c.f).map fun v=>(v,c):=rfl
 rw[h]
 unfold qhf
 rw[qas]
 cases qhe a0 a1 a2 a3 c.f<;>rfl
def qgB (x:Arg)(lo:Option Arg)(hi:Option Arg)(f:Tr zA):Option zA:=match x.ev f with
  |.p (.str s)=>(qaY 0 f lo).bind fun a=>(qaY (qaJ s) f hi).bind fun b=>
   cond (Nat.ble a b&&Nat.ble b (qaJ s)) (some (.p (.str ⟨(qcl (qc1 s.data.toList a) (b-a)).toArray⟩))) none
  |_=>none
def qko (a0:Arg)(a1:Option Arg)(a2:Option Arg)(_:Env)(c:Cfg):R:=qaF (qgB a0 a1 a2 c.f) fun v=>some (v,c)
theorem qkp (a0:Arg)(a1:Option Arg)(a2:Option Arg)(e:Env)(c:Cfg):qko a0 a1 a2 e c=qaf e c (.sstr a0 a1 a2):=by
 have h:qaf e c (.sstr a0 a1 a2)=(qgB a0 a1 a2 c.f).map fun v=>(v,c):=rfl
 rw[h]
 unfold qko
 rw[qas]
 cases qgB a0 a1 a2 c.f<;>rfl
def qrF (sz:Nat)(x:Arg)(i:Arg)(f:Tr zA):Option zA:=(qbe (i.ev f)).bind fun i=>match x.ev f with
  |.hs l off n _ z _=>cond (Nat.beq z sz&&Nat.blt i n) (some (.ptr l (off+i*sz))) none
  |.row n cs=>cond (Nat.blt i n) (some (.rel cs (i*sz))) none
  |v=>(qcm v).bind fun(n,cs)=>cond (Nat.blt i n) (some (.elem cs (i*sz))) none
def qr2 (a0:Nat)(a1:Arg)(a2:Arg)(_:Env)(c:Cfg):R:=qaF (qrF a0 a1 a2 c.f) fun v=>some (v,c)
theorem qpe (a0:Nat)(a1:Arg)(a2:Arg)(e:Env)(c:Cfg):qr2 a0 a1 a2 e c=qaf e c (.ia a0 a1 a2):=by
 have h:qaf e c (.ia a0 a1 a2)=(qrF a0 a1 a2 c.f).map fun v=>(v,c):=rfl
 rw[h]
 unfold qr2
 rw[qas]
 cases qrF a0 a1 a2 c.f<;>rfl
def qms (x:Arg)(i:Arg)(f:Tr zA):Option zA:=(qbe (i.ev f)).bind fun i=>
  match x.ev f with
  |.p (.str s)=>(qc0 s.data.toList i).map fun b=> .p (.int .u8 (.ofNat b.toNat))
  |_=>none
def qpf (a0:Arg)(a1:Arg)(_:Env)(c:Cfg):R:=qaF (qms a0 a1 c.f) fun v=>some (v,c)
theorem qmt (a0:Arg)(a1:Arg)(e:Env)(c:Cfg):qpf a0 a1 e c=qaf e c (.idx a0 a1):=by
 have h:qaf e c (.idx a0 a1)=(qms a0 a1 c.f).map fun v=>(v,c):=rfl
 rw[h]
 unfold qpf
 rw[qas]
 cases qms a0 a1 c.f<;>rfl
def qmu (x:Arg)(i:Nat)(f:Tr zA):Option zA:=match x.ev f with
  |.tuple vs=>qc0 vs i
  |_=>none
def qpg (a0:Arg)(a1:Nat)(_:Env)(c:Cfg):R:=qaF (qmu a0 a1 c.f) fun v=>some (v,c)
theorem qmv (a0:Arg)(a1:Nat)(e:Env)(c:Cfg):qpg a0 a1 e c=qaf e c (.ext a0 a1):=by
 have h:qaf e c (.ext a0 a1)=(qmu a0 a1 c.f).map fun v=>(v,c):=rfl
 rw[h]
 unfold qpg
 rw[qas]
 cases qmu a0 a1 c.f<;>rfl
def qph (f:Nat)(args:List Arg)(e:Env)(c:Cfg):R:=cond (e.pure f) ((e.call f (args.map (Arg.ev c.f)) c.s).map fun(r,_)=>(r,c)) none
def qr3 (sz:Nat)(bytes:Nat)(s:Arg)(x:Arg)(e:Env)(c:Cfg):R:=(qcm (x.ev c.f)).bind fun(m,new)=>
  match s.ev c.f with
  |.sl n cs tk=>
   cond (Nat.ble ((n+m)*bytes) 140737488355328&&Nat.beq new.length (m*sz))
    (cond (Nat.beq m 0) (some (.sl n cs tk,c)) (match tk with
     |.full=>cond (Nat.beq cs.length (n*sz)) (some (.sl (n+m) (cs++new) (.own c.s.ntok),{c with s:={c.s with ntok:=c.s.ntok+1,toks:=(c.s.ntok,n+m,sz)::c.s.toks}})) none
     |.own t=>match qap c.s.toks t with
      |some (k,z)=>cond (Nat.beq k n&&Nat.beq z sz) ((qbO c.s.toks t (n+m,sz)).map fun ts=>(.sl (n+m) (cs++new) (.own t),{c with s:={c.s with toks:=ts}})) none
      |none=>none)) none
  |_=>none
def qqx (sz:Nat)(bytes:Nat)(s:Arg)(x:Arg)(e:Env)(c:Cfg):R:=(qjn e.E c.s sz (x.ev c.f)).bind fun(m,new)=>cond (Nat.beq new.length (m*sz)&&new.all qaG)
   ((qrA c.s sz bytes (s.ev c.f) m new).map fun(v,s)=>(v,{c with s:=s})) none
def qmw (st:Bool)(x:Arg)(f:Tr zA):Option zA:=cond st (match x.ev f with
  |.p (.str s)=>some (.p (.int .i64 (.ofNat (qaJ s))))
  |.sym _ _ n=>some (.p (.int .i64 (.ofNat n)))
  |_=>none) (match x.ev f with
  |.hs _ _ n .. =>some (.p (.int .i64 (.ofNat n)))
  |.row n _=>some (.p (.int .i64 (.ofNat n)))
  |v=>(qcm v).map fun r=> .p (.int .i64 (.ofNat r.1)))
def qpi (a0:Bool)(a1:Arg)(_:Env)(c:Cfg):R:=qaF (qmw a0 a1 c.f) fun v=>some (v,c)
theorem qmx (a0:Bool)(a1:Arg)(e:Env)(c:Cfg):qpi a0 a1 e c=qaf e c (.len a0 a1):=by
 have h:qaf e c (.len a0 a1)=(qmw a0 a1 c.f).map fun v=>(v,c):=rfl
 rw[h]
 unfold qpi
 rw[qas]
 cases qmw a0 a1 c.f<;>rfl
def qfK (mx:Bool)(x:Arg)(y:Arg)(f:Tr zA):Option zA:=match x.ev f,y.ev f with
  |.p (.int k a),.p (.int _ b)=>some (.p (.int k (cond mx (cond (ilt a b) b a) (cond (ilt b a) b a))))
  |_,_=>none
def qfL (a0:Bool)(a1:Arg)(a2:Arg)(_:Env)(c:Cfg):R:=qaF (qfK a0 a1 a2 c.f) fun v=>some (v,c)
theorem qhg (a0:Bool)(a1:Arg)(a2:Arg)(e:Env)(c:Cfg):qfL a0 a1 a2 e c=qaf e c (.minmax a0 a1 a2):=by
 have h:qaf e c (.minmax a0 a1 a2)=(qfK a0 a1 a2 c.f).map fun v=>(v,c):=rfl
 rw[h]
 unfold qfL
 rw[qas]
 cases qfK a0 a1 a2 c.f<;>rfl
def qpj (e:Env)(c:Cfg):R:=some (.map c.s.next,{c with s:=qaw c.s (.map [])})
def qmy (kd:Nat)(ks:List Nat)(m:Arg)(k:Arg)(x:Arg)(e:Env)(c:Cfg):R:=(zA.pureW (k.ev c.f)).bind fun k=>match m.ev c.f with
  |.map l=>match qaH c.s.heap l with
   |some (.map es)=>cond (qdK kd ks k&&qaV (x.ev c.f)) ((qhD kd ks es k (x.ev c.f)).bind fun es=>(qaM c.s.heap l (.map es)).map fun h=>(qag,{c with s:={c.s with heap:=h}})) none
   |_=>none
  |_=>none
def qqy (kd:Nat)(ks:List Nat)(z:zA)(ok:Bool)(m:Arg)(k:Arg)(e:Env)(c:Cfg):R:=(zA.pureW (k.ev c.f)).bind fun k=>(qf1 e.E c.s (m.ev c.f)).bind fun es=>cond (qdK kd ks k) ((findKey kd ks k es 0).map fun r=>
   match r with
   |some (_,x)=>(cond ok (.tuple [x,.p (.bool true)]) x,c)
   |none=>(cond ok (.tuple [z,.p (.bool false)]) z,c)) none
def qqz (kd:Nat)(ks:List Nat)(z:zA)(m:Arg)(k:Arg)(e:Env)(c:Cfg):R:=(zA.pureW (k.ev c.f)).bind fun k=>match m.ev c.f with
  |.map l=>match qaH c.s.heap l with
   |some (.map es)=>cond (qdK kd ks k&&qaV z) ((findKey kd ks k es 0).bind fun r=>
    match r with
    |some (j,x)=>(qaM c.s.heap l (.map (qhC es j (k,x)))).map fun h=>(.tuple [x,.p (.int .i64 (.ofNat j))],{c with s:={c.s with heap:=h}})
    |none=>(qaM c.s.heap l (.map (es++[(k,z)]))).map fun h=>(.tuple [z,.p (.int .i64 (.ofNat es.length))],{c with s:={c.s with heap:=h}})) none
   |_=>none
  |_=>none
def qqA (m:Arg)(j:Arg)(x:Arg)(e:Env)(c:Cfg):R:=(qbe (j.ev c.f)).bind fun j=>match m.ev c.f with
  |.map l=>match qaH c.s.heap l with
   |some (.map es)=>cond (qaV (x.ev c.f)) ((qc0 es j).bind fun p=>(qaM c.s.heap l (.map (qhC es j (p.1,x.ev c.f)))).map fun h=>(qag,{c with s:={c.s with heap:=h}})) none
   |_=>none
  |_=>none
def qqB (m:Arg)(e:Env)(c:Cfg):R:=(qf1 e.E c.s (m.ev c.f)).map fun es=>(.p (.int .i64 (.ofNat es.length)),c)
def qr4 (m:Arg)(e:Env)(c:Cfg):R:=match m.ev c.f with
  |.map l=>match qaH c.s.heap l with
   |some (.map es)=>some (.ptr c.s.next 0,{c with s:=qaw c.s (.iter l es.length es.length [])})
   |_=>none
  |_=>none
def qr5 (x:Arg)(e:Env)(c:Cfg):R:=match x.ev c.f with
  |.ptr q 0=>match qaH c.s.heap q with
   |some (.iter l since last seen)=>match qaH c.s.heap l with
    |some (.map es)=>cond (seen.isEmpty||Nat.blt 0 last) (match qd1 seen es 0 with
     |[]=>some (.tuple [.p (.bool false)],c)
     |[(i,k,v)]=>cond (Nat.blt i since) ((qaM c.s.heap q (.iter l since es.length (seen++[i]))).map fun h=>(.tuple [.p (.bool true),k.whole,v],{c with s:={c.s with heap:=h}})) none
     |_=>none) none
    |_=>none
   |_=>none
  |_=>none
def qr6 (x:Arg)(e:Env)(c:Cfg):R:=match x.ev c.f with
  |.ptr q 0=>match qaH c.s.heap q with
   |some (.iter l _ last seen)=>match qaH c.s.heap l with
    |some (.map es)=>cond (Nat.beq es.length last) (seen.getLast?.bind fun i=>(qc0 es i).map fun(k,v)=>(.tuple [k.whole,v],c)) none
    |_=>none
   |_=>none
  |_=>none
def qr7 (g:Nat)(n:Nat)(sz:Nat)(i:Arg)(e:Env)(c:Cfg):R:=(qbe (i.ev c.f)).bind fun i=>cond (Nat.blt i n) (match e.E (PB+g) with
  |some (.cells cs)=>(qcJ cs).map fun ps=>(.elem ps (i*sz),c)
  |_=>none) none
def qgC (o:Ins):Env->Cfg->R:=
 Ins.rec (motive:=fun _=>Env->Cfg->R) iMov qoG qqt qkk qrT ql7 qiK qqu (fun a0 a1 e c=>qaf e c (.hbld a0 a1)) qhd qoK qoM qoH qkh qoO qrU qoQ qoS qoT qoV qoW qoY qo0 qrV qrW qrX qo2 qo4 qo5 qkm qo7 qrY qrZ qqv qo9 qpb qpd qqw qr0 qr1 qhf qko iFa qr2 qpf qpg qoI qkj qph qr3 qqx qpi qfL qpj qmy qqy qqz qqA qqB qr4 qr5 qr6 qr7 o
theorem qdg (o:Ins)(e:Env)(c:Cfg):qgC o e c=qaf e c o:=by
 cases o
 case build a0 a1=>exact qiL a0 a1 e c
 case mks a0 a1 a2=>exact ql8 a0 a1 a2 e c
 case mkr a0 a1 a2=>exact ql9 a0 a1 a2 e c
 case nck a0=>exact qma a0 e c
 case eqv a0 a1 a2 a3=>exact qmb a0 a1 a2 a3 e c
 case eqs a0 a1 a2 a3=>exact qmc a0 a1 a2 a3 e c
 case not a0=>exact qme a0 e c
 case shf a0 a1 a2=>exact qmf a0 a1 a2 e c
 case cvt a0 a1=>exact qmh a0 a1 e c
 case i2s a0=>exact qmi a0 e c
 case s2s a0=>exact qmj a0 e c
 case iaA a0 a1 a2 a3=>exact qmk a0 a1 a2 a3 e c
 case cap a0=>exact qml a0 e c
 case fld a0 a1 a2=>exact qmn a0 a1 a2 e c
 case idxa a0 a1 a2 a3=>exact qkn a0 a1 a2 a3 e c
 case eqn a0 a1=>exact qmo a0 a1 e c
 case mkf a0 a1 a2=>exact qmp a0 a1 a2 e c
 case mki a0 a1=>exact qmq a0 a1 e c
 case tas a0 a1 a2 a3=>exact qmr a0 a1 a2 a3 e c
 case slice a0 a1 a2 a3=>exact qiM a0 a1 a2 a3 e c
 case sstr a0 a1 a2=>exact qkp a0 a1 a2 e c
 case ia a0 a1 a2=>exact qpe a0 a1 a2 e c
 case idx a0 a1=>exact qmt a0 a1 e c
 case ext a0 a1=>exact qmv a0 a1 e c
 case len a0 a1=>exact qmx a0 a1 e c
 case minmax a0 a1 a2=>exact qhg a0 a1 a2 e c
 all_goals try rfl
 case mov x=>show some (evA x c.f,c)=_;rw[qcy];rfl
 case pick b x y=>
  show qoG b x y e c=_
  unfold qoG
  simp only[qcy,qaf,qai]
  split<;>simp_all
 case box i n x=>
  show qrT i n x e c=_
  unfold qrT
  simp only[qcy,qas,qfH,qaf]
 case load n a=>
  show qoH n a e c=_
  unfold qoH
  simp only[qcy,qas,qaf,qgA]
  congr 1
  funext cs
  cases zA.ofCells n cs<;>rfl
 case store n a x=>
  show qkh n a x e c=_
  unfold qkh
  simp only[qcy,qas,qaf,qhb]
  congr 1
  funext cs
  cases qbm c (a.ev c.f) cs<;>rfl
 case bin o x y=>
  show qrU o x y e c=_
  unfold qrU
  simp only[qcy,qas,qaf,qai]
  cases qeM o (x.ev c.f) (y.ev c.f)<;>rfl
 case fa off x=>
  show faA off c (evA x c.f)=_
  rw[qcy]
  simp only[qaf,qai]
  cases x.ev c.f<;>rfl
 case call f args=>
  show qoI f args e c=_
  unfold qoI
  simp only[qki,qas,qaf]
  cases e.call f (args.map (Arg.ev c.f)) c.s<;>rfl
 case callv f args=>
  show qkj f args e c=_
  unfold qkj
  simp only[qki,qcy,qas,qaf]
  cases e.callv (f.ev c.f) (args.map (Arg.ev c.f)) c.s<;>rfl
def qrG (d:Option Nat)(v:zA)(c:Cfg):Cfg:=Option.rec (motive:=fun _=>Cfg) c (fun t=>{c with f:=ql5 c.f t v}) d
theorem qkq (d:Option Nat)(v:zA)(c:Cfg):qrG d v c=c.put d v:=by
 cases d with
 |none=>rfl
 |some t=>show({c with f:=ql5 c.f t v}:Cfg)=_;rw[qfH];rfl
def goF (o:COp)(e:Env)(c:Cfg):Option Cfg:=qaF (qgC o.op e c) fun r=>some (qrG o.dst r.1 r.2)
def qiN (e:Env)(c:Cfg)(o:COp):Option Cfg:=Option.rec (motive:=fun _=>Option Cfg) (goF o e c) (fun _=>qaF (wanted c.f o.guard) fun b=>bF b (goF o e c) (some (qrG o.dst qag c))) o.guard
theorem qib (e:Env)(c:Cfg)(o:COp):qiN e c o=qgU e c o:=by
 have hg:goF o e c=(qaf e c o.op).map fun(v,c)=>c.put o.dst v:=by
  unfold goF
  rw[qas,qdg]
  cases qaf e c o.op with
  |none=>rfl
  |some r=>simp[qkq]
 unfold qiN qgU
 cases h:o.guard with
 |none=>
  show goF o e c=_
  rw[hg]
  rfl
 |some g=>
  show qaF (wanted c.f (some g)) (fun b=>bF b (goF o e c) (some (qrG o.dst qag c)))=_
  rw[qas,hg,qkq]
  congr 1
  funext b
  cases b<;>rfl
def qic (e:Env)(l:List COp):Cfg->Option Cfg:=List.rec (motive:=fun _=>Cfg->Option Cfg) (fun c=>some c) (fun o _ ih c=>qaF (qiN e c o) ih) l
theorem qkr (e:Env)(l:List COp):∀c,qic e l c=qc5 e l c:=by
 induction l with
 |nil=>intro c;rfl
 |cons o l ih=>
  intro c
  show qaF (qiN e c o) (qic e l)=_
  rw[qas,qib,qc5]
  congr 1
  funext c
  exact ih c
def qfM (e:Env)(l:List COp):Cfg->Option (List Cfg):=List.rec (motive:=fun _=>Cfg->Option (List Cfg)) (fun c=>some [c]) (fun o _ ih c=>qaF (qiN e c o) fun c'=>qaF (ih c') fun t=>some (c::t)) l
theorem qhh (e:Env)(l:List COp):∀c,qfM e l c=qa2 e l c:=by
 induction l with
 |nil=>intro c;rfl
 |cons o l ih=>
  intro c
  show qaF (qiN e c o) (fun c'=>qaF (qfM e l c') fun t=>some (c::t))=_
  rw[qas,qib,qa2]
  congr 1
  funext c'
  rw[qas,ih]
  cases qa2 e l c'<;>rfl
abbrev RC:=Option (EX×Cfg)
def cReg (ops:List COp)(e:Env)(_:Nat)(c:Cfg):RC:=qaF (qic e ops c) fun c=>some (.normal,c)
def qpk (pre hpre:List (Nat×List zA))(ops:List COp)(chk:List Chk)(e:Env)(_:Nat)(c:Cfg):RC:=
 match preH c.s hpre with
  |(s,h)=>qaF (qfM e ops {c with l:=preL c.l pre,h:=h,s:=s}) fun tr=>
   match qbl c tr with
   |last=>cond (chk.all (qeO e tr last)) (some (.normal,last)) none
def cSeq (_ _:CC)(a b:Env->Nat->Cfg->RC)(e:Env)(n:Nat)(c:Cfg):RC:=qaF (a e n c) fun r=>xF r.1 (b e n r.2) (fun i=>some (.exit i,r.2)) (some (.ret,r.2))
def qpl (v:zA)(a b:RC):RC:=match v with
  |.p (.bool t)=>bF t a b
  |_=>none
def qr8 (x:Arg)(_ _:CC)(a b:Env->Nat->Cfg->RC)(e:Env)(n:Nat)(c:Cfg):RC:=qpl (evA x c.f) (a e n c) (b e n c)
def qqC (id:Nat)(_:CC)(a:Env->Nat->Cfg->RC)(e:Env)(n:Nat)(c:Cfg):RC:=qaF (a e n c) fun r=>some (xF r.1 .normal (fun i=>bF (Nat.beq i id) .normal (.exit i)) .ret,r.2)
def qr9 (_:CC)(a:Env->Nat->Cfg->RC)(e:Env)(n:Nat)(c:Cfg):RC:=
 Nat.rec (motive:=fun _=>Cfg->RC) (fun _=>none) (fun _ ih c=>qaF (a e n c) fun r=>xF r.1 (ih r.2) (fun i=>some (.exit i,r.2)) (some (.ret,r.2))) n c
def qeS (cc:CC):Env->Nat->Cfg->RC:=
 CC.rec (motive:=fun _=>Env->Nat->Cfg->RC) (fun _ _ c=>some (.normal,c)) cReg qpk cSeq qr8 qqC qr9 (fun f ps a b _ _ e n c=>qaZ e n (.rangeFunc f ps a b) c) (fun i _ _ c=>some (.exit i,c)) (fun _ _ c=>some (.ret,c)) (fun _ _ _=>none) cc
theorem qid (cc:CC)(e:Env)(n:Nat):∀c,qeS cc e n c=qaZ e n cc c:=by
 induction cc with
 |skip=>intro c;rfl
 |reg ops=>
  intro c
  show qaF (qic e ops c) (fun c=>some (EX.normal,c))=_
  rw[qas,qkr,qaZ]
  cases qc5 e ops c<;>rfl
 |regd pre hpre ops chk=>
  intro c
  show qpk pre hpre ops chk e n c=_
  unfold qpk
  simp only[qas,qhh,qaZ]
 |seq a b iha ihb=>
  intro c
  show qaF (qeS a e n c) (fun r=>xF r.1 (qeS b e n r.2) (fun i=>some (EX.exit i,r.2)) (some (EX.ret,r.2)))=_
  rw[qas,iha,qaZ]
  congr 1
  funext r
  obtain⟨x,c'⟩:=r
  cases x with
  |normal=>exact ihb c'
  |exit i=>rfl
  |ret=>rfl
 |cond x a b iha ihb=>
  intro c
  show qpl (evA x c.f) (qeS a e n c) (qeS b e n c)=_
  rw[qcy,iha,ihb,qaZ]
  unfold qpl
  cases x.ev c.f with
  |p v=>cases v with
   |bool t=>cases t<;>rfl
   |_=>rfl
  |_=>rfl
 |block id a iha=>
  intro c
  show qaF (qeS a e n c) (fun r=>some (xF r.1 EX.normal (fun i=>bF (Nat.beq i id) EX.normal (EX.exit i)) EX.ret,r.2))=_
  rw[qas,iha,qaZ]
  cases qaZ e n a c with
  |none=>rfl
  |some r=>
   obtain⟨x,c'⟩:=r
   cases x with
   |normal=>rfl
   |exit i=>
    show some (bF (Nat.beq i id) EX.normal (EX.exit i),c')=some (cond (Nat.beq i id) EX.normal (EX.exit i),c')
    cases Nat.beq i id<;>rfl
   |ret=>rfl
 |loop a iha=>
  intro c
  rw[qaZ]
  have:∀k c,Nat.rec (motive:=fun _=>Cfg->RC) (fun _=>none) (fun _ ih c=>qaF (qeS a e n c) fun r=>xF r.1 (ih r.2) (fun i=>some (.exit i,r.2)) (some (.ret,r.2))) k c=qfg k (qaZ e n a) c:=by
   intro k
   induction k with
   |zero=>intro c;rfl
   |succ k ih=>
    intro c
    show qaF (qeS a e n c) _=(qaZ e n a c).bind _
    rw[qas,iha]
    congr 1
    funext r
    obtain⟨x,c'⟩:=r
    cases x with
    |normal=>exact ih c'
    |exit i=>rfl
    |ret=>rfl
  exact this n c
 |rangeFunc f ps a b _ _=>intro c;rfl
 |exit i=>intro c;rfl
 |ret=>intro c;rfl
 |bad=>intro c;rfl
def qpm (e:Env)(n:Nat)(cf:CF)(args:List zA)(s:ASt):Option zA:=
 qaF (qeS cf.body e n ⟨qdU args (mkF qag cf.depth) 0,mkF (0,[]) cf.ldepth,[],none,{s with heap:=qiv,toks:=[]}⟩) fun r=>qfh e cf r
theorem qmz:qpm=qnD:=by
 funext e n cf args s
 unfold qpm qnD
 rw[qas,qid,qev,qkg,qkg]
def aGo (env:Rom->Env)(n:Nat)(E:Rom)(args:List zA)(s:ASt)(cf:CF):Option (zA×ASt):=
 bF cf.pure
  (qaF (qpm (env (qlv s.heap E)) n cf args s) fun v=>bF (plain s.next (qbT v)) (some (qbT v,s)) none)
  (qaF (qeS cf.body (env E) n ⟨qdU args (mkF qag cf.depth) 0,mkF (0,[]) cf.ldepth,[],none,s⟩) fun r=>
   qaF (qfh (env E) cf r) fun v=>match cond cf.keepR v (qbT v) with
    |v=>bF (qjt v) (some (v,r.2.s)) none)
def qhi (CP:Nat->Option CF)(env:Rom->Env)(n:Nat)(E:Rom)(f:Nat)(args:List zA)(s:ASt):Option (zA×ASt):=
 qaF (CP f) fun cf=>bF (Nat.beq args.length cf.np&&args.all qaV)
  (bF (cf.clone&&qeX (args.map qbT)) (qd3 CP env n E f args s) (aGo env n E (cond cf.keepA args (args.map qbT)) s cf)) none
theorem qdh {α:Type}(b:Bool)(x y:α):bF b x y=cond b x y:=by cases b<;>rfl
theorem qiO:qhi=qd3:=by
 funext CP env n E f args s
 unfold qhi qd3
 rw[qas]
 cases h:CP f with
 |none=>rfl
 |some cf=>
  simp only[zar,qdh]
  cases Nat.beq args.length cf.np&&args.all qaV with
  |false=>rfl
  |true=>
   simp only[cond_true]
   cases h2:cf.clone&&qeX (args.map qbT) with
   |true=>
    simp only[cond_true]
   |false=>
    simp only[cond_false]
    unfold aGo
    simp only[qdh,qas,qmz,qid,qev,qkg]
def qgD (CP:Nat->Option CF)(sp:Sp)(env:Rom->Env)(n:Nat)(E:Rom)(f:Nat)(args:List zA)(s:ASt):Option (zA×ASt):=
 Option.rec (motive:=fun _=>Option (zA×ASt)) (qhi CP env n E f args s) (fun r=>some r) (sp (env E) f args s)
theorem qgE:qgD=qf3:=by
 funext CP sp env n E f args s
 unfold qgD qf3
 rw[qiO]
 cases sp (env E) f args s<;>rfl
def qie (CP:Nat->Option CF)(sp:Sp)(env:Rom->Env)(n:Nat)(E:Rom)(f:Nat)(args:List zA)(s:ASt):Option (zA×ASt):=
 Option.rec (motive:=fun _=>Option (zA×ASt)) none (fun _=>qgD CP sp env n E f args s) (CP f)
theorem qks:qie=qf4:=by
 funext CP sp env n E f args s
 unfold qie qf4
 rw[qgE]
 cases CP f<;>rfl
def qah (CP:Nat->Option CF)(sp:Sp)(n:Nat):Rom->Env:=
 Nat.rec (fun E=>{E:=E,pure:=qa3 CP,call:=fun _ _ _=>none,callv:=fun _ _ _=>none})
  (fun n env E=>{E:=E,pure:=qa3 CP,call:=qgD CP sp env n E,callv:=qdD (qie CP sp env n E) env n E}) n
theorem qew (CP:Nat->Option CF)(sp:Sp)(n:Nat):qah CP sp n=qbG CP sp n:=by
 induction n with
 |zero=>rfl
 |succ n ih=>
  funext E
  show({E:=E,pure:=qa3 CP,call:=qgD CP sp (qah CP sp n) n E,callv:=qdD (qie CP sp (qah CP sp n) n E) (qah CP sp n) n E}:Env)=_
  rw[ih,qgE,qks]
  rfl
end
end Go.AI
namespace Go.AI
open Go.Proofs
variable {P:Program} {E:Rom} {U pd:Nat->Option (List zA)} {l:Tr (Nat×List zA)} {s:ASt} {G:Gh} {w w':World}
def qmA:zP->Bool
 |.bool _=>true
 |.int .. =>true
 |.str _=>true
 |_=>false
theorem PR.lit {S S':Nat->Nat->Prop}{c:zP}{v:Value}(hl:qmA c=true)(h:PR S w c v):PR S' w' c v:=by
 cases h<;>first|(cases hl;done)|constructor
def Gh.still (G:Gh):Gh:={own:=(G.fix 0).own,bOf:=fun _=>none,lam:=fun _ _=>none,nt:=0,lo:=0}
def qex (k:Nat)(ps:List zP):Rom:=fun i=>cond (Nat.beq i k) (some (.cells (ps.map .p))) none
theorem qmB (h:MR P E U pd l s G w){g:Nat}{ps:List zP}{cs:List zA}(hE:E (PB+g)=some (.cells cs))(hcs:qcJ cs=some ps)(hlit:ps.all qmA=true):
  MR P (qex (PB+g) ps) (fun _=>none) (fun _=>none) .nil s00 G.still w:=by
 refine⟨fun b hb=>h.own b (qg5 (lo:=0) rfl hb),fun k b h=>(by cases h),zaf _,fun k zs h=>(by cases h),fun i zs h=>(by cases h),rfl,fun i g cs h hg _=>(by cases h;exact absurd rfl hg),fun i g b h=>(by cases h),fun k o h=>(by rw[show qaH s00.heap k=none from qdN k] at h;cases h),?_,
  fun t n sz h=>(by cases h),fun b t n sz h=>(qcU (lo:=0) h).elim,fun b b' t n n' sz sz' h=>(qcU (lo:=0) h).elim⟩
 intro k o hk
 unfold qex at hk
 cases hb:Nat.beq k (PB+g) with
 |false=>rw[hb] at hk;cases hk
 |true=>
  rw[hb] at hk
  simp only[cond_true,zaa] at hk
  subst hk
  have:=beq_iff.1 hb
  subst this
  refine⟨fun h2=>absurd h2 (by omega),fun _=>?_⟩
  obtain⟨j,hown,cs',ecs,hj,_,c,T,fr,hfr,h3,h5⟩:=(h.ro _ _ hE).2 (Nat.le_add_right _ _)
  simp only[zH.cells.injEq] at ecs
  subst ecs
  obtain⟨hl,hpure⟩:=qcC hcs
  refine⟨j,?_,ps.map .p,rfl,by simp;omega,?_,c,T,fr,hfr,by simp;omega,fun i a v ha hv=>?_⟩
  ·show(G.fix 0).own _=_
   unfold Gh.fix
   simp only[hown]
  ·simp only[zaj]
   intro a ha
   obtain⟨p,_,rfl⟩:=List.mem_map.1 ha
   rfl
  ·simp only[zaw,zab] at ha
   obtain⟨p,hp,rfl⟩:=ha
   have hi:i<cs.length:=by rw[<-hl];exact(zah.1 hp).1
   have hv2:=h5 i _ v (zai hi) hv
   exact .p _ _ (PR.lit (zaj.1 hlit p (zaF hp)) (qcB (hpure i _ p (zai hi) hp) hv2).1)
def qrH (es:List (zP×zP)):List (zP×zA):=es.map fun x=>(x.1,.p x.2)
def qkt (fw g:Nat)(tbl:List zP)(es:List (zP×zP)):Sp:=fun e f args s=>cond (Nat.beq f fw) (match args with
 |[]=>match e.E (PB+g) with
  |some (.cells cs)=>match qcJ cs with
   |some ps=>cond (qbP ps tbl) (some (.map s.next,qaw s (.map (qrH es)))) none
   |none=>none
  |_=>none
 |_=>none) none
def isMap (es:List (zP×zP)):Option (zA×ASt)->Bool
 |some (.map l,s)=>match qaH s.heap l with
  |some (.map ds)=>match puresV ds with
   |some qs=>qbP (es.flatMap fun x=>[x.1,x.2]) qs
   |none=>false
  |_=>false
 |_=>false
where puresV:List (zP×zA)->Option (List zP)
 |[]=>some []
 |(k,.p v)::r=>(puresV r).map fun t=>k::v::t
 |_=>none
theorem qgF:∀{ds:List (zP×zA)} {qs:List zP} {es:List (zP×zP)},isMap.puresV ds=some qs->(es.flatMap fun x=>[x.1,x.2])=qs->ds=qrH es
 |[],qs,es,h,he=>by
  simp only[isMap.puresV,zaa] at h
  subst h
  match es,he with
  |[],_=>rfl
  |_::_,he=>simp at he
 |(k,.p v)::r,qs,es,h,he=>by
  simp only[isMap.puresV,zab] at h
  obtain⟨t,ht,rfl⟩:=h
  match es,he with
  |[],he=>simp at he
  |(a,b)::es2,hx=>
   simp only[List.flatMap_cons,List.cons_append,List.nil_append,List.cons.injEq] at hx
   obtain⟨ha,hb,hy⟩:=hx
   rw[qgF (es:=es2) ht hy,<-ha,<-hb]
   rfl
 |(k,.sl ..)::r,qs,es,h,he=>by simp[isMap.puresV] at h
 |(k,.lptr ..)::r,qs,es,h,he=>by simp[isMap.puresV] at h
 |(k,.ptr ..)::r,qs,es,h,he=>by simp[isMap.puresV] at h
 |(k,.elem ..)::r,qs,es,h,he=>by simp[isMap.puresV] at h
 |(k,.row ..)::r,qs,es,h,he=>by simp[isMap.puresV] at h
 |(k,.rel ..)::r,qs,es,h,he=>by simp[isMap.puresV] at h
 |(k,.func ..)::r,qs,es,h,he=>by simp[isMap.puresV] at h
 |(k,.yield ..)::r,qs,es,h,he=>by simp[isMap.puresV] at h
 |(k,.map ..)::r,qs,es,h,he=>by simp[isMap.puresV] at h
 |(k,.hs ..)::r,qs,es,h,he=>by simp[isMap.puresV] at h
 |(k,.iface ..)::r,qs,es,h,he=>by simp[isMap.puresV] at h
 |(k,.agg ..)::r,qs,es,h,he=>by simp[isMap.puresV] at h
 |(k,.tuple ..)::r,qs,es,h,he=>by simp[isMap.puresV] at h
 |(k,.sym ..)::r,qs,es,h,he=>by simp[isMap.puresV] at h
 |(k,.junk)::r,qs,es,h,he=>by simp[isMap.puresV] at h
def qnO (CP:Nat->Option CF)(sp:Sp)(fw g:Nat)(tbl:List zP)(es:List (zP×zP)):Prop:=
 (∃n,isMap es ((qbG CP sp n (qex (PB+g) tbl)).call fw [] s00)=true)/\tbl.all qmA=true/\es.all (fun x=>qmA x.1&&qmA x.2)=true/\qa3 CP fw=false
theorem qmC {CP:Nat->Option CF}{sp:Sp}(pk:ProgOK P CP)(sk:SpOK P CP sp){fw g:Nat}{tbl:List zP}{es:List (zP×zP)}(hr:qnO CP sp fw g tbl es):SpOK P CP (qkt fw g tbl es) where
 ok:=fun {e} se {f args s v s'} h=>by
  obtain⟨⟨n,hrun⟩,hlit,hes,hpf⟩:=hr
  unfold qkt at h
  cases h1:Nat.beq f fw with
  |false=>rw[h1] at h;cases h
  |true=>
  rw[h1] at h
  simp only[cond_true] at h
  have ef:=beq_iff.1 h1
  subst ef
  split at h<;>try (cases h;done)
  split at h<;>try (cases h;done)
  rename_i cs hE
  split at h<;>try (cases h;done)
  rename_i ps hps
  obtain⟨hsm,h⟩:=qac h
  simp only[zaa,zad] at h
  obtain⟨rfl,rfl⟩:=h
  have:=qa4 _ _ hsm
  subst this
  refine⟨fun h2=>(by rw[hpf] at h2;cases h2),fun {U pd l G w vs} mr ha=>?_⟩
  generalize hx:(qbG CP sp n (qex (PB+g) ps)).call f [] s00=x at hrun
  unfold isMap at hrun
  split at hrun<;>try (cases hrun;done)
  rename_i q s1
  split at hrun<;>try (cases hrun;done)
  rename_i ds hds
  split at hrun<;>try (cases hrun;done)
  rename_i qs hqs
  have e1:=qgF hqs (qa4 _ _ hrun)
  subst e1
  have mr0:=qmB mr hE hps hlit
  rw[<-qbN CP sp n (qex (PB+g) ps)] at mr0
  have hvs:vs= #[]:=by
   have:=ha.1
   simp at this
   exact Array.eq_empty_of_size_eq_zero this.symm
  subst hvs
  refine((qh7 pk sk n (qex (PB+g) ps)).call hx mr0 VRs.nil).mono fun u w' ⟨G',x1,mr',hv⟩=>?_
  have k:Keep w w':=⟨x1.size,x1.os,x1.tape,x1.output,fun b hb=>(x1.still b hb (qbL G 0 b)).1⟩
  cases hv with|map _ b hb=>
  rcases(mr'.heap q _ hds).2 with e|⟨b',h2,h3,h4⟩
  ·rw[hb] at e;cases e
  rw[hb] at h2
  cases h2
  obtain⟨⟨ents,g1,g2,g3⟩,g4⟩:=h4
  have hlt:b<w'.heap.size:=(zag.1 g1).1
  have hge:w.heap.size<=b:=by
   rcases Nat.lt_or_ge b w.heap.size with h5|h5
   ·have:=(x1.still b h5 (qbL G 0 b)).2
    rw[h3] at this
    have h6:=qbL G 0 b
    rw[show(G.fix 0).own b=.loc q from this.symm] at h6
    exact h6.elim
   ·exact h5
  have x':=mr.ext_addH k (q:=s.next) hge mr.bOf_next mr.lo_
  refine⟨_,x',mr.addH k hge hlt (o:=.map (qrH es)) ⟨⟨ents,g1,g2,fun j kk y e he hen=>?_⟩,g4⟩,.map _ _ (by simp[Gh.addH,qav])⟩
  obtain⟨p1,p2,p3⟩:=g3 j kk y e he hen
  unfold qrH at he
  rw[zaw,zab] at he
  obtain⟨z,hz,he⟩:=he
  simp only[zad] at he
  obtain⟨rfl,rfl⟩:=he
  have hlz:=zaj.1 hes z (zaF hz)
  rw[zae] at hlz
  refine⟨PR.lit hlz.1 p1,?_,p3⟩
  cases p2 with|p _ _ hp=>
  exact .p _ _ (PR.lit hlz.2 hp)
noncomputable def ixB (c:Nat) (l:List UInt8):Int:=List.rec (motive:=fun _=>Int) (-1) (fun b _ ih=>bF (Nat.beq b.toNat c) 0 (match ih with|.ofNat n=> .ofNat (n+1)|.negSucc m=> .negSucc m)) l
theorem qnP {c:Nat}(hc:c<256):∀(l:List UInt8),ixB c l=Lib.indexByte l c.toUInt8
 |[]=>rfl
 |b::r=>by
  have ih:=qnP hc r
  show bF (Nat.beq b.toNat c) (0:Int) (match ixB c r with|.ofNat n=>Int.ofNat (n+1)|.negSucc m=>Int.negSucc m)=_
  unfold Lib.indexByte
  rw[qdh,ih]
  have hb:(b==c.toUInt8)=Nat.beq b.toNat c:=by
   rw[Bool.eq_iff_iff,beq_iff,beq_iff_eq,<-UInt8.toNat_inj]
   simp only[Nat.toUInt8,UInt8.toNat_ofNat']
   omega
  rw[hb]
  cases Nat.beq b.toNat c with
  |true=>rfl
  |false=>
   simp only[cond_false,zaA,if_false]
   have hge:=Lib.indexByte_ge r c.toUInt8
   generalize Lib.indexByte r c.toUInt8=z at hge
   cases z with
   |ofNat n=>
    have:((Int.ofNat n== -1)=false):=by simp
    rw[this]
    rfl
   |negSucc m=>
    have:m=0:=by omega
    subst this
    rfl
noncomputable def qpn (fi:Nat):Sp:=fun e f args s=>cond (Nat.beq f fi) (match args with
 |[.p (.str a),.p (.int .u8 (.ofNat c))]=>cond (Nat.blt c 256) (some (.p (.int .i64 (ixB c a.data.toList)),s)) none
 |_=>none) none
def qqD (P:Program)(fi:Nat):Prop:=∀(s:ByteArray) (c:Int) (w:World),(callFunc fi #[.string s,.int .u8 c]).run P w=.ok (.value (.int .i64 (Lib.indexByte s.data.toList c.toNat.toUInt8))) w
theorem qqE {fi:Nat}{fn:Func}(hf:P.funcs[fi]? =some fn)(hname:(fn.name== "runtime.NumGoroutine")=false)(hb:fn.body.isNone=true)(hn:Extern.findNext fn=none)(he:Extern.find fn=some Extern.BytealgIndexByte.indexByte):qqD P fi:=fun s c w=>by
 rw[run_callFunc_extern hf hname hb hn he,Lib.run_indexByteString]
 rfl
theorem qmD {CP:Nat->Option CF}{fi:Nat}(hi:qqD P fi):SpOK P CP (qpn fi) where
 ok:=fun {e} se {f args s v s'} h=>by
  unfold qpn at h
  cases h1:Nat.beq f fi with
  |false=>rw[h1] at h;cases h
  |true=>
  rw[h1] at h
  simp only[cond_true] at h
  have ef:=beq_iff.1 h1
  subst ef
  split at h<;>try (cases h;done)
  rename_i a c
  obtain⟨hc,h⟩:=qac h
  simp only[zaa,zad] at h
  obtain⟨rfl,rfl⟩:=h
  refine⟨fun _=>rfl,fun {U pd l G w vs} mr ha=>?_⟩
  obtain⟨u1,u2,rfl,a1,a2⟩:=qpN (args:=[]) ha
  have e1:=a1.str_inv
  have e2:u2=.int .u8 (.ofNat c):=by
   cases a2 with|p _ _ hv=>
   cases hv
   rfl
  subst e1;subst e2
  rw[hi a (.ofNat c) w,qnP (blt_iff.1 hc)]
  exact⟨G,Ext.refl G _,mr,.p _ _ (.int _ _)⟩
end Go.AI
namespace Go.AI
open Go.Proofs
variable {P:Program} {E:Rom} {U pd:Nat->Option (List zA)} {l:Tr (Nat×List zA)} {s:ASt} {G G':Gh} {w w':World}
theorem qdy {P:Program}{w:World}{a:Addr}{v z:Value}(h1:v.oneCell'=true)(hc:w.cell? a=some z)(hf:w.frozen? a=false):(storeCells a [v]).run P w=.ok () (w.setCell a v):=by
 simp only[storeCells,Sem.run_bind,Sem.run_pure]
 have hadd:a.add 0=a:=by unfold Addr.add;simp
 rw[hadd,run_store P w _ v _ h1,hc]
 simp[hf]
def tw3 (t0 t1 t2:TypeId)(w:World):World:=((w.alloc (.cells #[.pointer none] t0 (0,0))).alloc (.cells #[.int .i64 0] t1 (0,0))).alloc (.cells #[.bool false] t2 (0,0))
def qku (P:Program)(ft:Nat)(t0 t1 t2:TypeId):Prop:=∀(rv:Value) (fn:Nat) (first cap:Array Value) (w:World) (Q:Value->World->Prop),
  (callFunc fn (first++cap)).run P (tw3 t0 t1 t2 w)=.ok (.enter fn (first++cap)) (tw3 t0 t1 t2 w)->
  Calls P fn (first++cap) (tw3 t0 t1 t2 w) (fun e w2=>∃v,e=.returned v/\Q v w2)->
  (∀v w2,Q v w2->v.oneCell'=true/\∀i,i<3->(∃z,w2.cell? ⟨w.heap.size+i,0,none⟩=some z)/\w2.frozen? ⟨w.heap.size+i,0,none⟩=false)->
  Calls P ft #[rv,.func (.func fn) first cap] w fun e w'=>∃v w2,Q v w2/\e=.returned (.tuple #[v,.int .i64 0,.bool true])/\w'=((w2.setCell ⟨w.heap.size,0,none⟩ v).setCell ⟨w.heap.size+1,0,none⟩ (.int .i64 0)).setCell ⟨w.heap.size+2,0,none⟩ (.bool true)
def try3 (s:ASt):ASt:=qaw (qaw (qaw s (.cells [.p .nilp])) (.cells [.p (.int .i64 0)])) (.cells [.p (.bool false)])
def qey:Option zH->Bool
 |some (.cells [_])=>true
 |_=>false
def qpo (ft:Nat):Sp:=fun e f args s=>cond (Nat.beq f ft) (match args with
 |[_,fv]=>cond (qpL fv) ((e.callv fv [] (try3 s)).bind fun(v,s2)=>match v with
  |.ptr q o=>cond (qey (qaH s2.heap s.next)&&(qey (qaH s2.heap (s.next+1))&&qey (qaH s2.heap (s.next+2)))) ((qaM s2.heap s.next (.cells [.ptr q o])).bind fun h1=>(qaM h1 (s.next+1) (.cells [.p (.int .i64 0)])).bind fun h2=>(qaM h2 (s.next+2) (.cells [.p (.bool true)])).map fun h3=>(.tuple [.ptr q o,.p (.int .i64 0),.p (.bool true)],{s2 with heap:=h3})) none
  |_=>none) none
 |_=>none) none
theorem qdz {o:Option zH}(h:qey o=true):∃a,o=some (.cells [a]):=by
 unfold qey at h
 split at h
 ·exact⟨_,rfl⟩
 ·cases h
theorem qsa (h:MR P E U pd l s G w)(a:zA)(z:Value)(t:TypeId)(ha:qaG a=true)(hz:z.oneCell'=true)(hv:∀G w,VR G w a z):
  Ext G w (G.addH w.heap.size s.next) (w.alloc (.cells #[z] t (0,0)))/\MR P E U pd l (qaw s (.cells [a])) (G.addH w.heap.size s.next) (w.alloc (.cells #[z] t (0,0))):=by
 have kp:=Keep.alloc w (.cells #[z] t (0,0))
 refine⟨h.ext_addH kp (b:=w.heap.size) (q:=s.next) (zaf _) h.bOf_next h.lo_,h.addH kp (zaf _) (qa7 w _) (o:=.cells [a]) ⟨⟨#[z],t,⟨(0,0),heap_alloc_new w _,Thaw.none _⟩,by simp,by simp[hz],fun j x v hx hv2=>?_⟩,by simp[ha]⟩⟩
 match j with
 |0=>simp at hx hv2;subst hx;subst hv2;exact hv _ _
 |j+1=>simp at hx
theorem qez (h:MR P E U pd l s G w){q b off:Nat}{cs:List zA}(hb:G.bOf q=some b)(hold:qaH s.heap q=some (.cells cs))(hc:off<cs.length):w.frozen? ⟨b,off,none⟩=false:=by
 rcases(h.heap q _ hold).2 with e|⟨b',g1,g2,g3,_⟩
 ·rw[hb] at e;cases e
 ·rw[hb] at g1
  cases g1
  obtain⟨c,T,⟨fr,h1,ht⟩,h2,_,h4⟩:=g3
  have:=ht off (by omega)
  simp[World.frozen?,h1]
  omega
theorem qmE {CP:Nat->Option CF}{ft t0 t1 t2:Nat}(hd:qku P ft t0 t1 t2)(hen:∀args w,(callFunc ft args).run P w=.ok (.enter ft args) w)(p1:qa3 CP ft=false):SpOK P CP (qpo ft) where
 ok:=fun {e} se {f args s v s'} h=>by
  unfold qpo at h
  obtain⟨hf,h'⟩:=qac h
  clear h
  have ef:=beq_iff.1 hf
  subst ef
  refine⟨(fun hp=>by rw[p1] at hp;cases hp),fun {U pd l G w vs} mr ha=>?_⟩
  split at h'<;>try (cases h';done)
  rename_i rv fv
  obtain⟨hfn,h⟩:=qac h'
  clear h'
  simp only[zac] at h
  obtain⟨⟨r,s2⟩,hcall,h⟩:=h
  simp only at h
  split at h<;>try (cases h;done)
  rename_i q o
  obtain⟨hcs,h⟩:=qac h
  simp only[zae] at hcs
  obtain⟨⟨a0,c0⟩,⟨a1,c1⟩,⟨a2,c2⟩⟩:(∃a,_=_)/\(∃a,_=_)/\∃a,_=_:=⟨qdz hcs.1,qdz hcs.2.1,qdz hcs.2.2⟩
  simp only[zac,zab,zad] at h
  obtain⟨h1,hs1,h2,hs2,h3,hs3,rfl,rfl⟩:=h
  obtain⟨u1,u2,rfl,_,av⟩:=qpN (args:=[]) ha
  obtain⟨x0,m0⟩:=qsa mr (.p .nilp) (.pointer none) t0 rfl rfl fun _ _=> .p _ _ .nilp
  obtain⟨x1,m1⟩:=qsa m0 (.p (.int .i64 0)) (.int .i64 0) t1 rfl rfl fun _ _=> .p _ _ (.int _ _)
  obtain⟨x2,m2⟩:=qsa m1 (.p (.bool false)) (.bool false) t2 rfl rfl fun _ _=> .p _ _ (.bool _)
  have X:=x0.trans (x1.trans x2)
  have hsz1:(w.alloc (.cells #[.pointer none] t0 (0,0))).heap.size=w.heap.size+1:=by simp
  have hsz2:((w.alloc (.cells #[.pointer none] t0 (0,0))).alloc (.cells #[.int .i64 0] t1 (0,0))).heap.size=w.heap.size+2:=by simp
  generalize hG0:G.addH w.heap.size s.next=G0 at*
  generalize hG1:G0.addH (w.alloc (.cells #[.pointer none] t0 (0,0))).heap.size (qaw s (.cells [.p .nilp])).next=G1 at*
  generalize hG2:G1.addH ((w.alloc (.cells #[.pointer none] t0 (0,0))).alloc (.cells #[.int .i64 0] t1 (0,0))).heap.size (qaw (qaw s (.cells [.p .nilp])) (.cells [.p (.int .i64 0)])).next=G2 at*
  have b0:G2.bOf s.next=some w.heap.size:=x2.bOf _ _ (x1.bOf _ _ (by rw[<-hG0];simp[Gh.addH,qav]))
  have b1:G2.bOf (s.next+1)=some (w.heap.size+1):=x2.bOf _ _ (by rw[<-hG1];simp[Gh.addH,qav,qaw])
  have b2:G2.bOf (s.next+2)=some (w.heap.size+2):=by rw[<-hG2];simp[Gh.addH,qav,qaw]
  have av':=av.ext X
  obtain⟨fn,first,cap,rfl,hent⟩:=se.callf hcall hfn m2 av' (vs:= #[]) VRs.nil
  have hn:=se.callv hcall m2 av' (vs:= #[]) VRs.nil
  let Q:Value->World->Prop:=fun u w2=>qba P e.E U pd G2 (tw3 t0 t1 t2 w) l s2 (.ptr q o) u w2
  have hcf:Calls P fn (first++cap) (tw3 t0 t1 t2 w) fun e2 w2=>∃v,e2=.returned v/\Q v w2:=by
   have hent':(callFunc fn (first++ #[]++cap)).run P (tw3 t0 t1 t2 w)=.ok (.enter fn (first++ #[]++cap)) (tw3 t0 t1 t2 w):=hent
   have e1:(do let d <-Deferred.ofValue (.func (.func fn) first cap) #[];invoke d.target d.args:Sem Next).run P (tw3 t0 t1 t2 w)=(callFunc fn (first++ #[]++cap)).run P (tw3 t0 t1 t2 w):=by
    simp[Deferred.ofValue,invoke]
   have hn':NextP P (qba P e.E U pd G2 (tw3 t0 t1 t2 w) l s2 (.ptr q o)) ((do let d <-Deferred.ofValue (.func (.func fn) first cap) #[];invoke d.target d.args:Sem Next).run P (tw3 t0 t1 t2 w)):=hn
   rw[e1,hent'] at hn'
   have h2:=callsIn_wide.1 hn'
   rw[Array.append_empty] at h2
   exact h2.mono fun e2 w2 ⟨u,he,hu⟩=>⟨u,he,hu⟩
  have hent2:(callFunc fn (first++cap)).run P (tw3 t0 t1 t2 w)=.ok (.enter fn (first++cap)) (tw3 t0 t1 t2 w):=by
   have:=hent
   rw[Array.append_empty] at this
   exact this
  refine qaX (hen _ _) ((hd _ fn first cap w Q hent2 hcf fun u w2 hq=>?_).mono ?_)
  ·obtain⟨G3,x3,m3,hv⟩:=hq
   refine⟨by cases hv with|ptr=>rfl,fun i hi=>?_⟩
   match i,hi with
   |0,_=>exact⟨qdf m3 (x3.bOf _ _ b0) c0 (by simp),qez m3 (x3.bOf _ _ b0) c0 (by simp)⟩
   |1,_=>exact⟨qdf m3 (x3.bOf _ _ b1) c1 (by simp),qez m3 (x3.bOf _ _ b1) c1 (by simp)⟩
   |2,_=>exact⟨qdf m3 (x3.bOf _ _ b2) c2 (by simp),qez m3 (x3.bOf _ _ b2) c2 (by simp)⟩
  ·rintro e2 w' ⟨u,w2,hq,rfl,rfl⟩
   obtain⟨G3,x3,m3,hv⟩:=hq
   have hu1:u.oneCell'=true:=by cases hv with|ptr=>rfl
   obtain⟨x4,m4⟩:=qcH (off:=0) m3 (x3.bOf _ _ b0) c0 (new:=[.ptr q o]) rfl rfl hv hu1 hs1
   have d1:qaH h1 (s.next+1)=some (.cells [a1]):=by rw[qb0 hs1,if_neg (by omega)];exact c1
   obtain⟨x5,m5⟩:=qcH (off:=0) m4 (x3.bOf _ _ b1) d1 (new:=[.p (.int .i64 0)]) rfl rfl (VR.int (G:=G3) (w:=w2.setCell ⟨w.heap.size,0,none⟩ u) .i64 0) rfl hs2
   have d2:qaH h2 (s.next+2)=some (.cells [a2]):=by rw[qb0 hs2,if_neg (by omega)];rw[qb0 hs1,if_neg (by omega)];exact c2
   obtain⟨x6,m6⟩:=qcH (off:=0) m5 (x3.bOf _ _ b2) d2 (new:=[.p (.bool true)]) rfl rfl (.p _ _ (.bool true)) rfl hs3
   have Y:=x4.trans (x5.trans x6)
   exact⟨_,rfl,G3,X.trans (x3.trans Y),m6,.tuple _ _ rfl fun i c v hc hv2=>by
    match i with
    |0=>cases hc;cases hv2;exact hv.ext Y
    |1=>cases hc;cases hv2;exact .p _ _ (.int _ _)
    |2=>cases hc;cases hv2;exact .p _ _ (.bool _)
    |i+3=>simp at hc⟩
end Go.AI
namespace Go.AI
variable {P:Program}
noncomputable def qsb (P:Program) (t:Tr (Option Flag)) (n:Nat):Option CF:=
 (t.get none n).bind fun fl=>(P.funcs[n]?).bind fun fn=>cond (fn.name== "runtime.NumGoroutine") none (qjE P fl fn)
theorem qpp {t:Tr (Option Flag)}(h:P.follows .mixedOrders=true):ProgOK P (qsb P t):=
 ⟨h,fun f cf hf=>by
  unfold qsb at hf
  obtain⟨fl,_,hf⟩:=zac.1 hf
  obtain⟨fn,h2,hf⟩:=zac.1 hf
  cases h3:fn.name== "runtime.NumGoroutine" with
  |true=>rw[h3,cond_true] at hf;cases hf
  |false=>rw[h3,cond_false] at hf;exact⟨fn,fl,h2,hf,h3⟩⟩
end Go.AI
namespace Go.AI
abbrev FL:=List (Nat×zA)
abbrev LL:=List (Nat×(Nat×List zA))
abbrev HH:=List (Nat×Nat)
abbrev Res:=Option (zA×ASt)
def tb (m i:Nat):Bool:=Nat.beq (Nat.mod (Nat.shiftRight m i) 2) 1
def bit (i:Nat):Nat:=Nat.shiftLeft 1 i
def qaL (m:Nat):Nat->Nat->List Nat
 |_,0=>[]
 |i,k+1=>cond (tb m i) (i::qaL m (i+1) k) (qaL m (i+1) k)
def qeA (a b:Nat):Nat:=Nat.xor a (Nat.land a b)
def qsc:Arg->Nat
 |.t n=>bit n
 |.c _=>0
def qqF (xs:List Arg):Nat:=xs.foldr (fun x m=>zaM (qsc x) m) 0
def qfc:Option Nat->Nat
 |some t=>bit t
 |none=>0
def qpq:List COp->Nat->Nat
 |[],out=>out
 |o::r,out=>zaM (zaM (qeA (qpq r out) (qfc o.dst)) (qqF o.op.args)) (match o.guard with|some (t,_)=>bit t|none=>0)
def rvM:List RV->Nat
 |[]=>0
 |.t n::r=>zaM (bit n) (rvM r)
 |.l a _::r=>zaM (bit a) (rvM r)
def qsd (ks:List Chk)(out:Nat):Nat:=ks.foldr (fun k m=>zaM (qqF k.op.args) m) out
def exL:CC->List Nat
 |.seq a b=>exL a++exL b
 |.cond _ a b=>exL a++exL b
 |.block id a=>(exL a).filter fun i=>!Nat.beq i id
 |.loop a=>exL a
 |.exit i=>[i]
 |_=>[]
def exB (b:CC):Nat:=match exL b with
 |[]=>99999
 |i::_=>i
def qjp:CC->Nat->List (Nat×Nat)->Nat->Nat
 |.skip,nrm,_,_=>nrm
 |.reg ops,nrm,_,_=>qpq ops nrm
 |.regd _ _ ops chk,nrm,_,_=>qpq ops (qsd chk nrm)
 |.seq a b,nrm,ex,rt=>qjp a (qjp b nrm ex rt) ex rt
 |.cond x a b,nrm,ex,rt=>zaM (qsc x) (zaM (qjp a nrm ex rt) (qjp b nrm ex rt))
 |.block id a,nrm,ex,rt=>qjp a nrm ((id,nrm)::ex) rt
 |.loop a,_,ex,rt=>qjp a (qjp a 0 ex rt) ex rt
 |.rangeFunc f ps a b,nrm,ex,rt=>zaM (qsc f) (zaM (qeA (qjp a (qjp b 0 [] 0) [] 0) (ps.foldr (fun p m=>zaM (bit p) m) 0)) (zaM nrm (zaM rt (ex.foldr (fun p m=>zaM p.2 m) 0))))
 |.exit id,_,ex,_=>match qap ex id with|some m=>m|none=>0
 |.ret,_,_,rt=>rt
 |.bad,_,_,_=>0
def qkv:List COp->Nat->Nat
 |[],m=>m
 |o::r,m=>qkv r (match o.dst with
  |none=>m
  |some d=>match o.op with
   |.alloc .. =>zaM m (bit d)
   |.alloced _=>zaM m (bit d)
   |.box .. =>zaM m (bit d)
   |.fa _ (.t x)=>cond (tb m x) (zaM m (bit d)) m
   |.nck (.t x)=>cond (tb m x) (zaM m (bit d)) m
   |.mov (.t x)=>cond (tb m x) (zaM m (bit d)) m
   |.iaA _ _ (.t x) _=>cond (tb m x) (zaM m (bit d)) m
   |_=>m)
def qgG:CC->Nat->Nat
 |.reg ops,m=>qkv ops m
 |.regd _ _ ops _,m=>qkv ops m
 |.seq a b,m=>qgG b (qgG a m)
 |.cond _ a b,m=>qgG b (qgG a m)
 |.block _ a,m=>qgG a m
 |.loop a,m=>qgG a m
 |_,m=>m
structure Ef where
 d:Nat
 al:Nat
 st:Bool
 cs:Bool
def Ef.or (a b:Ef):Ef:=⟨zaM a.d b.d,zaM a.al b.al,a.st||b.st,a.cs||b.cs⟩
def qfN (loc:Nat):Arg->Bool
 |.t n=>tb loc n
 |.c _=>false
def qly (loc:Nat)(o:COp):Ef:=
 match o.op with
 |.alloc i _=>⟨qfc o.dst,bit i,false,false⟩
 |.box i _ _=>⟨qfc o.dst,bit i,false,false⟩
 |.store _ a _=>cond (qfN loc a) ⟨qfc o.dst,0,true,false⟩ ⟨qfc o.dst,0,false,true⟩
 |.alloced _=>⟨qfc o.dst,0,false,false⟩
 |.halloced _=>⟨qfc o.dst,0,false,false⟩
 |p=>cond (qaU p||qbz p) ⟨qfc o.dst,0,false,false⟩ ⟨qfc o.dst,0,false,true⟩
def qgH (loc:Nat):List COp->Ef
 |[]=>⟨0,0,false,false⟩
 |o::r=>(qly loc o).or (qgH loc r)
def qpr (l:List (Nat×List zA)):Nat:=l.foldr (fun x m=>zaM (bit x.1) m) 0
def qhj (loc:Nat):CC->Ef
 |.reg ops=>qgH loc ops
 |.regd pre hpre ops _=>(qgH loc ops).or ⟨0,qpr pre,false,!hpre.isEmpty⟩
 |.seq a b=>(qhj loc a).or (qhj loc b)
 |.cond _ a b=>(qhj loc a).or (qhj loc b)
 |.block _ a=>qhj loc a
 |.loop a=>qhj loc a
 |.rangeFunc _ _ a b=>⟨0,zaM (qhj loc a).al (qhj loc b).al,false,true⟩
 |_=>⟨0,0,false,false⟩
def qeB:CC->Bool
 |.seq a b=>qeB a&&qeB b
 |.cond _ a b=>qeB a||qeB b
 |.block id a=>qeB a||hasEx id a
 |.loop _=>false
 |.exit _=>false
 |.ret=>false
 |.bad=>false
 |_=>true
where
 hasEx (id:Nat):CC->Bool
 |.seq a b=>hasEx id a||hasEx id b
 |.cond _ a b=>hasEx id a||hasEx id b
 |.block _ a=>hasEx id a
 |.loop a=>hasEx id a
 |.exit j=>Nat.beq id j
 |_=>false
def exN (id:Nat):CC->Nat
 |.seq a b=>exN id a+exN id b
 |.cond _ a b=>exN id a+exN id b
 |.block _ a=>exN id a
 |.loop a=>exN id a
 |.exit j=>cond (Nat.beq id j) 1 0
 |.rangeFunc _ _ _ b=>cond (Nat.beq id (exB b)) 1 0
 |_=>0
def qeC:List COp->Bool
 |[]=>false
 |o::r=>(match o.guard with|some _=>true|none=>false)||qeC r
def Fn (α:Type):Nat->Type->Type
 |0,T=>T
 |k+1,T=>α->Fn α k T
def qjq {α T:Type}:(k:Nat)->(List α->T)->Fn α k T
 |0,g=>g []
 |k+1,g=>fun v=>qjq k fun l=>g (v::l)
def qfO {α T:Type}(z:α):(k:Nat)->Fn α k T->List α->T
 |0,f,_=>f
 |k+1,f,v::l=>qfO z k (f v) l
 |k+1,f,[]=>qfO z k (f z) []
def FnS:Bool->Type->Type
 |true,T=>ASt->T
 |false,T=>T
def qrI {T:Type}(s0:ASt):(b:Bool)->(ASt->T)->FnS b T
 |true,g=>g
 |false,g=>g s0
def qpO {T:Type}:(b:Bool)->FnS b T->ASt->T
 |true,f,s=>f s
 |false,f,_=>f
def jn {α β:Type}(x:α)(f:α->β):β:=f x
def lp {T:Type}(z:T)(f:T->T)(n:Nat):T:=Nat.rec (motive:=fun _=>T) z (fun _ ih=>f ih) n
def qif (F:FL):List Nat->Option (List zA)
 |[]=>some []
 |t::r=>match qap F t with
  |some v=>match qif F r with
   |some l=>some (v::l)
   |none=>none
  |none=>none
def qgV (L:LL):List Nat->Option (List Nat)
 |[]=>some []
 |i::r=>match qap L i with
  |some p=>match qgV L r with
   |some l=>some (p.1::l)
   |none=>none
  |none=>none
def qgW (L:LL):List Nat->Option (List (List zA))
 |[]=>some []
 |i::r=>match qap L i with
  |some p=>match qgW L r with
   |some l=>some (p.2::l)
   |none=>none
  |none=>none
def qfP (m:Nat)(F:FL):List Nat->FL
 |[]=>[]
 |t::r=>match qap F t with
  |some v=>cond (tb m t) ((t,v)::qfP m F r) (qfP m F r)
  |none=>qfP m F r
def qps:List Nat->List zA->FL->FL
 |t::r,v::l,F=>(t,v)::qps r l F
 |_,_,F=>F
def qpt:List Nat->List Nat->List (Nat×Nat)
 |i::r,g::gs=>(i,g)::qpt r gs
 |_,_=>[]
def qlz (L:LL)(al:Nat)(gm:List (Nat×Nat)):List Nat->List (List zA)->LL
 |i::r,c::cs=>cond (tb al i) (match qap gm i with
   |some g=>(i,(g,c))::qlz L al gm r cs
   |none=>qlz L al gm r cs) (match qap L i with
   |some p=>(i,(p.1,c))::qlz L al gm r cs
   |none=>qlz L al gm r cs)
 |_,_=>[]
def qgI (al:Nat):LL->LL
 |[]=>[]
 |(i,p)::r=>cond (tb al i) (qgI al r) ((i,p)::qgI al r)
def Arg.o (F:FL):Arg->Option zA
 |.t n=>qap F n
 |.c v=>some v
def qig (F:FL)(x:Arg):Option Arg:=match x with
 |.t n=>match qap F n with
  |some v=>some (.c v)
  |none=>none
 |.c v=>some (.c v)
def qgJ (F:FL):List Arg->Option (List Arg)
 |[]=>some []
 |x::r=>match qig F x with
  |some y=>match qgJ F r with
   |some l=>some (y::l)
   |none=>none
  |none=>none
def qdG (F:FL):List (Nat×Option Nat×Arg)->Option (List (Nat×Option Nat×Arg))
 |[]=>some []
 |(o,n,x)::r=>match qig F x with
  |some y=>match qdG F r with
   |some l=>some ((o,n,y)::l)
   |none=>none
  |none=>none
def qkw (F:FL):Option Arg->Option (Option Arg)
 |none=>some none
 |some x=>match qig F x with
  |some y=>some (some y)
  |none=>none
def o1 (F:FL)(x:Arg)(k:Arg->Ins):Option Ins:=match qig F x with|some y=>some (k y)|none=>none
def o2 (F:FL)(x y:Arg)(k:Arg->Arg->Ins):Option Ins:=match qig F x with
 |some x=>match qig F y with
  |some y=>some (k x y)
  |none=>none
 |none=>none
def o3 (F:FL)(x y z:Arg)(k:Arg->Arg->Arg->Ins):Option Ins:=match qig F x with
 |some x=>match qig F y with
  |some y=>match qig F z with
   |some z=>some (k x y z)
   |none=>none
  |none=>none
 |none=>none
def oP (F:FL)(ps:List (Nat×Option Nat×Arg))(k:List (Nat×Option Nat×Arg)->Ins):Option Ins:=match qdG F ps with|some ps=>some (k ps)|none=>none
def oL (F:FL)(xs:List Arg)(k:List Arg->Ins):Option Ins:=match qgJ F xs with|some l=>some (k l)|none=>none
def o1L (F:FL)(x:Arg)(xs:List Arg)(k:Arg->List Arg->Ins):Option Ins:=match qig F x with
 |some x=>match qgJ F xs with
  |some l=>some (k x l)
  |none=>none
 |none=>none
def oLL (F:FL)(xs ys:List Arg)(k:List Arg->List Arg->Ins):Option Ins:=match qgJ F xs with
 |some a=>match qgJ F ys with
  |some b=>some (k a b)
  |none=>none
 |none=>none
def oSl (F:FL)(x:Arg)(lo hi:Option Arg)(k:Arg->Option Arg->Option Arg->Ins):Option Ins:=match qig F x with
 |some x=>match qkw F lo with
  |some lo=>match qkw F hi with
   |some hi=>some (k x lo hi)
   |none=>none
  |none=>none
 |none=>none
def Ins.o (F:FL):Ins->Option Ins
 |.mov x=>o1 F x .mov
 |.pick a b c=>o3 F a b c .pick
 |.alloc i z=>some (.alloc i z)
 |.alloced i=>some (.alloced i)
 |.box i n x=>o1 F x (.box i n)
 |.halloc z=>some (.halloc z)
 |.halloced d=>some (.halloced d)
 |.hbox n x=>o1 F x (.hbox n)
 |.hbld T e=>some (.hbld T e)
 |.build z ps=>oP F ps (.build z)
 |.mks n z ps=>oP F ps (.mks n z)
 |.mkr n z ps=>oP F ps (.mkr n z)
 |.load n a=>o1 F a (.load n)
 |.store n a x=>o2 F a x (.store n)
 |.nck x=>o1 F x .nck
 |.bin o x y=>o2 F x y (.bin o)
 |.eqv k n x y=>o2 F x y (.eqv k n)
 |.eqs k n x y=>o2 F x y (.eqs k n)
 |.not x=>o1 F x .not
 |.shf l x y=>o2 F x y (.shf l)
 |.cvt k x=>o1 F x (.cvt k)
 |.i2s x=>o1 F x .i2s
 |.s2s x=>o1 F x .s2s
 |.b2s x=>o1 F x .b2s
 |.inv t x a=>o1L F x a (.inv t)
 |.s2b x=>o1 F x .s2b
 |.iaA n z x i=>o2 F x i (.iaA n z)
 |.cap x=>o1 F x .cap
 |.fld o n x=>o1 F x (.fld o n)
 |.idxa m n x i=>o2 F x i (.idxa m n)
 |.eqn g x=>o1 F x (.eqn g)
 |.cpy z d x=>o2 F d x (.cpy z)
 |.clr z zs x=>o1 F x (.clr z zs)
 |.appz z b zs x y=>o2 F x y (.appz z b zs)
 |.mkf fn a b=>oLL F a b (.mkf fn)
 |.mki t x=>o1 F x (.mki t)
 |.tas t z k x=>o1 F x (.tas t z k)
 |.mksl sz b c=>o1 F c (.mksl sz b)
 |.mkh sz b z l c=>o2 F l c (.mkh sz b z)
 |.mkl n sz z ps=>oP F ps (.mkl n sz z)
 |.slice sz x lo hi=>oSl F x lo hi (.slice sz)
 |.sstr x lo hi=>oSl F x lo hi .sstr
 |.fa off x=>o1 F x (.fa off)
 |.ia sz x i=>o2 F x i (.ia sz)
 |.idx x i=>o2 F x i .idx
 |.ext x i=>o1 F x (.ext · i)
 |.call f args=>oL F args (.call f)
 |.callv f args=>o1L F f args .callv
 |.pcall f args=>oL F args (.pcall f)
 |.app sz b x y=>o2 F x y (.app sz b)
 |.apph sz b x y=>o2 F x y (.apph sz b)
 |.len st x=>o1 F x (.len st)
 |.minmax mx x y=>o2 F x y (.minmax mx)
 |.mkmap=>some .mkmap
 |.insert kd ks m k v=>o3 F m k v (.insert kd ks)
 |.look kd ks z ok m k=>o2 F m k (.look kd ks z ok)
 |.ment kd ks z m k=>o2 F m k (.ment kd ks z)
 |.mest m j v=>o3 F m j v .mest
 |.mlen m=>o1 F m .mlen
 |.rng m=>o1 F m .rng
 |.nxt x=>o1 F x .nxt
 |.ent x=>o1 F x .ent
 |.gla g n z i=>o1 F i (.gla g n z)
def c0 (s:ASt):Cfg:=⟨.nil,.nil,[],none,s⟩
def e0:Env:=⟨fun _=>none,fun _=>false,fun _ _ _=>none,fun _ _ _=>none⟩
noncomputable section
def s0:ASt:=⟨0,qiv,0,[]⟩
def tlF {α:Type}(l:List α):List α:=List.rec (motive:=fun _=>List α) [] (fun _ t _=>t) l
def qmF {α:Type}(l:List α)(n:Nat):List α:=Nat.rec (motive:=fun _=>List α) l (fun _ ih=>tlF ih) n
def qmG {α:Type}(n:Nat):List α->Option (List α):=Nat.rec (motive:=fun _=>List α->Option (List α)) (fun _=>some [])
 (fun _ ih l=>List.rec (motive:=fun _=>Option (List α)) none (fun x r _=>Option.rec (motive:=fun _=>Option (List α)) none (fun t=>some (x::t)) (ih r)) l) n
def qpu {α:Type}(xs:List α)(off n:Nat):Option (List α):=bF (Nat.beq n 0) (cut xs off n) (qmG n (qmF xs off))
def qqG {α:Type}(d:α)(t:Tr α):Nat->α:=
 Tr.rec (motive:=fun _=>Nat->α) (fun _=>d) (fun v _ _ a b i=>bF (Nat.beq i 0) v (bF (Nat.beq (Nat.mod i 2) 1) (a (Nat.div i 2)) (b (Nat.sub (Nat.div i 2) 1)))) t
def qmH (h:Heap)(k:Nat):Option zH:=bF (Nat.blt k 1048575) (qqG none h.t k) (qaH h k)
def qkx (E:Rom)(s:ASt)(l:Nat):Option (List zA):=Option.rec (motive:=fun _=>Option (List zA)) (qbS E s l)
 (fun o=>match o with
  |.cells cs=>some cs
  |_=>none) (qmH s.heap l)
def qky {α:Type}(p:α->Bool)(l:List α):Bool:=List.rec (motive:=fun _=>Bool) true (fun x _ ih=>bF (p x) ih false) l
def qnQ (v:zA):Bool:=match v with
 |.p _=>true
 |.sl .. =>true
 |.ptr .. =>true
 |.hs .. =>true
 |.map _=>true
 |.elem .. =>true
 |v=>qaG v
def qrJ (v:zA):Bool:=match v with
 |.p _=>true
 |.sl .. =>true
 |.ptr .. =>true
 |.hs .. =>true
 |.map _=>true
 |.elem .. =>true
 |.agg cs=>qky qnQ cs
 |v=>qaV v
def awG (v:zA):Bool:=match v with
 |.p _=>true
 |.sl .. =>true
 |.ptr .. =>true
 |.hs .. =>true
 |.map _=>true
 |.elem .. =>true
 |.tuple vs=>qky qrJ vs
 |v=>qaV v
def qrK {α:Type}(ys:List α):List α->Option (List α):=List.rec (motive:=fun _=>List α->Option (List α)) (fun xs=>some xs)
 (fun y _ ih xs=>List.rec (motive:=fun _=>Option (List α)) none (fun _ t _=>Option.rec (motive:=fun _=>Option (List α)) none (fun t=>some (y::t)) (ih t)) xs) ys
def qal {α:Type}(xs:List α)(off:Nat)(ys:List α):Option (List α):=Nat.rec (motive:=fun _=>List α->Option (List α)) (fun xs=>qrK ys xs)
 (fun _ ih xs=>List.rec (motive:=fun _=>Option (List α)) none (fun x t _=>Option.rec (motive:=fun _=>Option (List α)) none (fun t=>some (x::t)) (ih t)) xs) off xs
def qiP (ps:List (Nat×Option Nat×Arg)):List zA->Option (List zA):=List.rec (motive:=fun _=>List zA->Option (List zA)) (fun zs=>some zs)
 (fun p _ ih zs=>Option.rec (motive:=fun _=>Option (List zA)) none (fun cs=>Option.rec (motive:=fun _=>Option (List zA)) none (fun zs=>ih zs) (qal zs p.1 cs)) (zA.cells p.2.1 (evA p.2.2 .nil))) ps
def qsx (k k':IntKind):Bool:=Nat.beq (IntKind.ctorIdx k) (IntKind.ctorIdx k')
def qmI (k:IntKind)(n:Int):Int:=match k with
 |.i64=>match n with
  |.ofNat m=>bF (Nat.blt m 9223372036854775808) n (IntKind.wrap k n)
  |.negSucc m=>bF (Nat.blt m 9223372036854775808) n (IntKind.wrap k n)
 |k=>qdJ k n
def bnI (o:BinOp)(k:IntKind)(a b:Int):Option zA:=match o with
 |.add=>some (.p (.int k (qmI k (a+b))))
 |.sub=>some (.p (.int k (qmI k (a-b))))
 |.eql=>some (.p (.bool (ieq a b)))
 |.lss=>some (.p (.bool (ilt a b)))
 |.gtr=>some (.p (.bool (ilt b a)))
 |o=>(qd0 o k a b).map .p
def bn (o:BinOp)(x y:zA):Option zA:=match x with
 |.p (.int k a)=>match y with
  |.p (.int k' b)=>bF (qsx k k') (bnI o k a b) none
  |y=>(qeM o (.p (.int k a)) y).map .p
 |x=>(qeM o x y).map .p
def ln (st:Bool)(x:zA):Option zA:=qmw st (.c x) .nil
def ex (x:zA)(i:Nat):Option zA:=qmu (.c x) i .nil
def fl (o:Nat)(n:Option Nat)(x:zA):Option zA:=qmm o n (.c x) .nil
def nt (x:zA):Option zA:=qmd (.c x) .nil
def cv (k:IntKind)(x:zA):Option zA:=qmg k (.c x) .nil
def iaq (sz:Nat)(x i:zA):Option zA:=qrF sz (.c x) (.c i) .nil
def ix (x i:zA):Option zA:=qms (.c x) (.c i) .nil
def cl (e:Env)(f:Nat)(xs:List zA)(s:ASt):Option (zA×ASt):=e.call f xs s
def clv (e:Env)(f:zA)(xs:List zA)(s:ASt):Option (zA×ASt):=e.callv f xs s
def pu (o:Ins):Option zA:=Option.rec (motive:=fun _=>Option zA) none (fun r=>some r.1) (qgC o e0 (c0 s0))
def stV (e:Env)(s:ASt)(o:Ins):Option (zA×ASt):=Option.rec (motive:=fun _=>Option (zA×ASt)) none (fun r=>some (r.1,r.2.s)) (qgC o e (c0 s))
def bd (zs:List zA)(ps:List (Nat×Option Nat×Arg)):Option zA:=Option.rec (motive:=fun _=>Option zA) none (fun cs=>some (.agg cs)) (qiP ps zs)
def qaA (n:Nat)(zs:List zA)(ps:List (Nat×Option Nat×Arg)):Option zA:=Option.rec (motive:=fun _=>Option zA) none (fun cs=>some (.row n cs)) (qiP ps zs)
def ss (x:zA)(lo hi:Option Arg):Option zA:=match x with
 |.p (.str s)=>Option.rec (motive:=fun _=>Option zA) none (fun a=>Option.rec (motive:=fun _=>Option zA) none (fun b=>
   bF (Nat.ble a b) (bF (Nat.ble b (qnN s.data.toList)) (Option.rec (motive:=fun _=>Option zA) none (fun l=>some (.p (.str ⟨⟨l⟩⟩))) (qmG (Nat.sub b a) (qmF s.data.toList a))) none) none) (qaY (qnN s.data.toList) .nil hi)) (qaY 0 .nil lo)
 |_=>none
def puF (o:Ins):Option zA:=match o with
 |.build zs ps=>bd zs ps
 |.mkr n zs ps=>qaA n zs ps
 |.sstr (.c x) lo hi=>ss x lo hi
 |o=>pu o
def qfd (n sz:Nat)(zs:List zA)(ps:List (Nat×Option Nat×Arg))(s:ASt):Res:=Option.rec (motive:=fun _=>Res) none (fun cs=>bF (qky qnQ cs) (some (.hs s.next 0 n n sz false,qaw s (.cells cs))) none) (qiP ps zs)
def hbq (n:Option Nat)(x:zA)(s:ASt):Res:=Option.rec (motive:=fun _=>Res) none (fun cs=>bF (qky qnQ cs) (some (.ptr s.next 0,qaw s (.cells cs))) none) (zA.cells n x)
def qdH (zs:List zA)(s:ASt):Res:=bF (qky qnQ zs) (some (.ptr s.next 0,qaw s (.cells zs))) none
def stF (e:Env)(s:ASt)(o:Ins):Res:=match o with
 |.mkl n sz zs ps=>qfd n sz zs ps s
 |.hbox n (.c x)=>hbq n x s
 |.halloc zs=>qdH zs s
 |o=>stV e s o
def rdV (e:Env)(s:ASt)(o:Ins):Option zA:=Option.rec (motive:=fun _=>Option zA) none (fun r=>some r.1) (qgC o e (c0 s))
def qaa {α β γ:Type}(x:Option (α×β))(k:α->β->Option γ):Option γ:=x.bind fun r=>k r.1 r.2
def up1 {α:Type}(x:α):α:=x
def up2 {α:Type}(x:α):α:=up1 x
abbrev cnd {α:Type}(b:Bool)(x y:α):α:=match b with
 |true=>x
 |false=>y
theorem qaT {α:Type}(b:Bool)(x y:α):cnd b x y=cond b x y:=by cases b<;>rfl
abbrev qab (v:zA)(a b:Res):Res:=match v with
 |.p (.bool true)=>a
 |.p (.bool false)=>b
 |_=>none
theorem qeD {v:zA}{a b:Res}{r:zA×ASt}(h:qab v a b=some r):∃t,v=.p (.bool t)/\cond t a b=some r:=by
 unfold qab at h
 split at h
 ·exact⟨true,rfl,h⟩
 ·exact⟨false,rfl,h⟩
 ·cases h
def ldL (cs:List zA)(off:Nat):Option Nat->Option zA
 |none=>match qpu cs off 1 with
  |some [v]=>some v
  |_=>none
 |some n=>match qpu cs off n with
  |some l=>some (.agg l)
  |none=>none
def ldH (e:Env)(s:ASt)(a:zA)(n:Option Nat):Option zA:=match a with
 |.ptr l off=>Option.rec (motive:=fun _=>Option zA) none (fun cs=>Option.rec (motive:=fun _=>Option zA) none (fun cs=>zA.ofCells n cs) (qpu cs off (cnt n))) (qkx e.E s l)
 |.elem cs off=>Option.rec (motive:=fun _=>Option zA) none (fun cs=>zA.ofCells n (qrD cs)) (qpu cs off (cnt n))
 |.rel cs off=>Option.rec (motive:=fun _=>Option zA) none (fun cs=>zA.ofCells n cs) (qpu cs off (cnt n))
 |_=>none
def stH (s:ASt)(a:zA)(cs:List zA):Option ASt:=match a with
 |.ptr l off=>Option.rec (motive:=fun _=>Option ASt) none (fun o=>match o with
  |.cells old=>bF (qky qnQ cs) (Option.rec (motive:=fun _=>Option ASt) none (fun new=>some ⟨s.next,qfW s.heap l (some (.cells new)),s.ntok,s.toks⟩) (qal old off cs)) none
  |_=>none) (qmH s.heap l)
 |_=>none
def faK (off:Nat)(v:zA)(k:zA->Res):Res:=up2 (match v with
 |.lptr i g o=>k (.lptr i g (o+off))
 |.ptr l o=>k (.ptr l (o+off))
 |.elem cs o=>k (.elem cs (o+off))
 |.rel cs o=>k (.rel cs (o+off))
 |_=>none)
def qaq (v:zA)(k:zA->Res):Res:=up2 (match v with
 |.ptr l o=>k (.ptr l o)
 |.lptr i g o=>k (.lptr i g o)
 |.elem cs o=>k (.elem cs o)
 |.rel cs o=>k (.rel cs o)
 |_=>none)
def qdk (n sz:Nat)(v i:zA)(k:zA->Res):Res:=(qbe i).bind fun i=>cnd (Nat.blt i n) (faK (i*sz) v k) none
def qiQ (F:FL):List Arg->Option (List zA)
 |[]=>some []
 |x::r=>match x.o F with
  |some v=>match qiQ F r with
   |some l=>some (v::l)
   |none=>none
  |none=>none
abbrev q1 (F:FL)(x:Arg)(g:zA->Option zA)(k:zA->Res):Res:=match x.o F with
 |some v=>(g v).bind k
 |none=>none
abbrev q2 (F:FL)(x y:Arg)(g:zA->zA->Option zA)(k:zA->Res):Res:=match x.o F with
 |some v=>match y.o F with
  |some u=>(g v u).bind k
  |none=>none
 |none=>none
abbrev KO:=zA->LL->ASt->Res
def opK (loc:Nat)(e:Env)(F:FL)(L:LL)(h:HH)(s:ASt)(o:Ins)(k:KO):Res:=
 match o with
 |.mov x=>match x.o F with
  |some v=>k v L s
  |none=>none
 |.fa off x=>match x.o F with
  |some v=>faK off v fun v=>k v L s
  |none=>none
 |.nck x=>match x.o F with
  |some v=>qaq v fun v=>k v L s
  |none=>none
 |.alloc i zs=>match qap L i with
  |some p=>k (.lptr i (p.1+1) 0) ((i,(p.1+1,zs))::L) s
  |none=>none
 |.alloced i=>match qap L i with
  |some p=>k (.lptr i p.1 0) L s
  |none=>none
 |.box i n x=>match x.o F with
  |some v=>match qap L i with
   |some p=>(zA.cells n v).bind fun cs=>k (.lptr i (p.1+1) 0) ((i,(p.1+1,cs))::L) s
   |none=>none
  |none=>none
 |.halloced d=>match qap h d with
  |some l=>k (.ptr l 0) L s
  |none=>none
 |.load n a=>match a.o F with
  |some v=>cnd (qfN loc a) (match v with
   |.lptr i g off=>match qap L i with
    |some p=>cnd (Nat.beq g p.1) ((ldL p.2 off n).bind fun v=>k v L s) none
    |none=>none
   |_=>none) ((ldH e s v n).bind fun v=>k v L s)
  |none=>none
 |.store n a x=>match a.o F with
  |some v=>match x.o F with
   |some x=>(zA.cells n x).bind fun cs=>cnd (qfN loc a) (match v with
    |.lptr i g off=>match qap L i with
     |some p=>cnd (Nat.beq g p.1) ((qal p.2 off cs).bind fun new=>k qag ((i,(p.1,new))::L) s) none
     |none=>none
    |_=>none) ((stH s v cs).bind fun s=>k qag L s)
   |none=>none
  |none=>none
 |.iaA n sz x i=>match x.o F with
  |some x=>match i.o F with
   |some i=>qdk n sz x i fun v=>k v L s
   |none=>none
  |none=>none
 |.bin o x y=>q2 F x y (fun x y=>bn o x y) fun v=>k v L s
 |.len st x=>q1 F x (fun x=>ln st x) fun v=>k v L s
 |.ext x i=>q1 F x (fun x=>ex x i) fun v=>k v L s
 |.fld o n x=>q1 F x (fun x=>fl o n x) fun v=>k v L s
 |.not x=>q1 F x (fun x=>nt x) fun v=>k v L s
 |.cvt kd x=>q1 F x (fun x=>cv kd x) fun v=>k v L s
 |.ia sz x i=>q2 F x i (fun x i=>iaq sz x i) fun v=>k v L s
 |.idx x i=>q2 F x i (fun x i=>ix x i) fun v=>k v L s
 |.call f xs=>match qiQ F xs with
  |some l=>qaa (cl e f l s) fun v s=>k v L s
  |none=>none
 |.callv f xs=>match f.o F with
  |some f=>match qiQ F xs with
   |some l=>qaa (clv e f l s) fun v s=>k v L s
   |none=>none
  |none=>none
 |_=>match o.o F with
  |some i=>cnd (qaU o) ((puF i).bind fun v=>k v L s) (cnd (qbz o) ((rdV e s i).bind fun v=>k v L s) (qaa (stF e s i) fun v s=>k v L s))
  |none=>none
abbrev TrL:=List (LL×ASt)
def qiR (nt:Nat)(d:Option Nat)(v:zA)(F:FL):Option FL:=match d with
 |none=>some F
 |some t=>cnd (Nat.blt t nt) (some ((t,v)::F)) none
def qhk (m:Nat):Option Nat->Nat
 |some t=>qeA m (bit t)
 |none=>m
def qhl (loc nt:Nat)(e:Env):List COp->Nat->FL->LL->HH->ASt->(FL->LL->ASt->TrL->Res)->Res
 |[],_,F,L,_,s,k=>k F L s [(L,s)]
 |o::r,U,F,L,h,s,k=>
  match o.guard with
  |none=>opK loc e F L h s o.op fun v L' s'=>match qiR nt o.dst v F with
   |some F=>qhl loc nt e r (qhk U o.dst) F L' h s' fun F1 L1 s1 tr=>k F1 L1 s1 ((L,s)::tr)
   |none=>none
  |some (t,b)=>cnd (tb U t)
   (match qiR nt o.dst qag F with
    |some F=>qhl loc nt e r (zaM U (qfc o.dst)) F L h s fun F1 L1 s1 tr=>k F1 L1 s1 ((L,s)::tr)
    |none=>none)
   (match qap F t with
   |none=>none
   |some gv=>
    qab gv
     (cnd b (opK loc e ((t,.p (.bool true))::F) L h s o.op fun v L' s'=>match qiR nt o.dst v ((t,.p (.bool true))::F) with
       |some F=>qhl loc nt e r (qhk U o.dst) F L' h s' fun F1 L1 s1 tr=>k F1 L1 s1 ((L,s)::tr)
       |none=>none)
      (match qiR nt o.dst qag ((t,.p (.bool true))::F) with
       |some F=>qhl loc nt e r (zaM U (qfc o.dst)) F L h s fun F1 L1 s1 tr=>k F1 L1 s1 ((L,s)::tr)
       |none=>none))
     (cnd b (match qiR nt o.dst qag ((t,.p (.bool false))::F) with
       |some F=>qhl loc nt e r (zaM U (qfc o.dst)) F L h s fun F1 L1 s1 tr=>k F1 L1 s1 ((L,s)::tr)
       |none=>none)
      (opK loc e ((t,.p (.bool false))::F) L h s o.op fun v L' s'=>match qiR nt o.dst v ((t,.p (.bool false))::F) with
       |some F=>qhl loc nt e r (qhk U o.dst) F L' h s' fun F1 L1 s1 tr=>k F1 L1 s1 ((L,s)::tr)
       |none=>none)))
def qkz (e:Env)(L:LL)(s:ASt)(a:zA)(n:Nat):Option (List zA):=match a with
 |.lptr i g off=>match qap L i with
  |some p=>cond (Nat.beq g p.1) (cut p.2 off n) none
  |none=>none
 |.ptr l off=>qay e.E .nil s (.ptr l off) n
 |_=>none
def ldC (n:Option Nat)(x:Option (List zA)):Option zA:=match x with
 |some cs=>zA.ofCells n cs
 |none=>none
def okJ (e:Env)(tr:TrL)(a:zA)(n:Option Nat)(b:Bool)(j:Nat):Bool:=b||(match qc0 tr j with
 |some c=>match qc0 tr (j+1) with
  |some c'=>qch (ldC n (qkz e c.1 c.2 a (cnt n))) (ldC n (qkz e c'.1 c'.2 a (cnt n)))
  |none=>false
 |none=>false)
def okV (e:Env)(tr:TrL)(a:zA)(n:Option Nat)(js:List (Nat×Nat)):Bool:=
 match a with
 |.lptr i g o=>js.all fun x=>okJ e tr (.lptr i g o) n (Nat.blt 0 x.2) x.1
 |.tuple []=>true
 |_=>false
def okS (e:Env)(ss:List ASt)(i:Ins)(j:Nat):Bool:=match qc0 ss j with
 |some c=>match qc0 ss (j+1) with
  |some c'=>qch (rdV e c i) (rdV e c' i)
  |none=>false
 |none=>false
def okQ (e:Env)(ss:List ASt)(i:Ins)(js:List (Nat×Nat)):Bool:=js.all fun x=>okS e ss i x.1
def okW (e:Env)(ss:List ASt)(a:zA)(n:Option Nat)(js:List (Nat×Nat)):Bool:=
 match a with
 |.ptr l o=>okQ e ss (.load n (.c (.ptr l o))) js
 |.elem _ _=>true
 |.rel _ _=>true
 |.tuple []=>true
 |_=>false
def okC (loc:Nat)(e:Env)(tr:TrL)(F:FL)(k:Chk):Bool:=
 match k.op with
 |.load n a=>match a.o F with
  |some v=>cnd (qfN loc a) (okV e tr v n k.js) (okW e (tr.map fun x=>x.2) v n k.js)
  |none=>false
 |op=>cnd (qbz op) (match op.o F with
  |some i=>okQ e (tr.map fun x=>x.2) i k.js
  |none=>false) false
def qpP:List (Nat×List zA)->LL->Option LL
 |[],L=>some L
 |(i,zs)::r,L=>match qap L i with
  |some p=>qpP r ((i,(p.1+1,zs))::L)
  |none=>none
abbrev KN:=FL->LL->HH->ASt->Res
abbrev KC:=EX->FL->LL->HH->ASt->Res
def qiS (nt nl:Nat)(ef:Ef)(lv:Nat)(F:FL)(L:LL)(s:ASt)(kn:KN)(body:KN→Res):Res:=
 match qaL (Nat.land lv ef.d) 0 nt with
 |vs=>match qaL ef.al 0 nl with
  |gl=>match cond ef.st (qaL (qpr (L.map fun x=>(x.1,[]))) 0 nl) gl with
   |cl=>match qfP (qeA lv ef.d) F (qaL lv 0 nt) with
    |F0=>
     jn (qjq (α:=zA) vs.length fun xs=>qjq (α:=Nat) gl.length fun gs=>qjq (α:=List zA) cl.length fun cs=>qrI s ef.cs fun s=>kn (qps vs xs F0) (qlz L ef.al (qpt gl gs) cl cs++cond ef.st [] (qgI ef.al L)) [] s)
      fun j=>body fun F1 L1 _ s1=>match qif F1 vs with
       |some xs=>match qgV L1 gl with
        |some gs=>match qgW L1 cl with
         |some cs=>qpO ef.cs (qfO [] cl.length (qfO 0 gl.length (qfO qag vs.length j xs) gs) cs) s1
         |none=>none
        |none=>none
       |none=>none
def qpv (nt nl n:Nat)(ef:Ef)(lv:Nat)(F:FL)(L:LL)(s:ASt)(body:FL→LL→ASt→KN→Res):Res:=
 match qaL (Nat.land lv ef.d) 0 nt with
 |vs=>match qaL ef.al 0 nl with
  |gl=>match cond ef.st (qaL (qpr (L.map fun x=>(x.1,[]))) 0 nl) gl with
   |cl=>match qfP (qeA lv ef.d) F (qaL lv 0 nt) with
    |F0=>match qif F vs with
     |some xs=>match qgV L gl with
      |some gs=>match qgW L cl with
       |some cs=>
        qpO ef.cs (qfO [] cl.length (qfO 0 gl.length (qfO qag vs.length
         (lp (qjq (α:=zA) vs.length fun _=>qjq (α:=Nat) gl.length fun _=>qjq (α:=List zA) cl.length fun _=>qrI s ef.cs fun _=>(none:Res))
          (fun ih=>qjq (α:=zA) vs.length fun xs=>qjq (α:=Nat) gl.length fun gs=>qjq (α:=List zA) cl.length fun cs=>qrI s ef.cs fun s=>
           body (qps vs xs F0) (qlz L ef.al (qpt gl gs) cl cs++cond ef.st [] (qgI ef.al L)) s fun F1 L1 _ s1=>match qif F1 vs with
            |some xs=>match qgV L1 gl with
             |some gs=>match qgW L1 cl with
              |some cs=>qpO ef.cs (qfO [] cl.length (qfO 0 gl.length (qfO qag vs.length ih xs) gs) cs) s1
              |none=>none
             |none=>none
            |none=>none) n) xs) gs) cs) s
       |none=>none
      |none=>none
     |none=>none
def qeT (loc nt nl:Nat)(e:Env)(n:Nat):CC->Nat->List (Nat×Nat)->Nat->FL->LL->HH->ASt->KC->Res
 |.skip,_,_,_,F,L,h,s,k=>k .normal F L h s
 |.reg ops,nrm,_,_,F,L,h,s,k=>
  cnd (qeC ops)
   (qiS nt nl (qgH loc ops) nrm F L s (k .normal) fun j=>qhl loc nt e ops 0 F L h s fun F L s _=>j F L h s)
   (qhl loc nt e ops 0 F L h s fun F L s _=>k .normal F L h s)
 |.regd pre hpre ops chk,nrm,_,_,F,L,_,s,k=>
  match qpP pre L with
  |none=>none
  |some L0=>match preH s hpre with
   |(s0,h0)=>
    cnd (qeC ops)
     (qiS nt nl (qgH loc ops) nrm F L0 s0 (k .normal) fun j=>qhl loc nt e ops 0 F L0 h0 s0 fun F L s tr=>cnd (chk.all (okC loc e tr F)) (j F L h0 s) none)
     (qhl loc nt e ops 0 F L0 h0 s0 fun F L s tr=>cnd (chk.all (okC loc e tr F)) (k .normal F L h0 s) none)
 |.seq a b,nrm,ex,rt,F,L,h,s,k=>
  qeT loc nt nl e n a (qjp b nrm ex rt) ex rt F L h s fun x F L h s=>match x with
   |.normal=>qeT loc nt nl e n b nrm ex rt F L h s k
   |x=>k x F L h s
 |.cond x a b,nrm,ex,rt,F,L,h,s,k=>
  match x.o F with
  |none=>none
  |some v=>cnd (qeB a&&qeB b)
   (qiS nt nl ((qhj loc a).or (qhj loc b)) nrm F L s (k .normal) fun j=>
    qab v (qeT loc nt nl e n a nrm ex rt F L h s fun x F L h s=>match x with
      |.normal=>j F L h s
      |x=>k x F L h s)
     (qeT loc nt nl e n b nrm ex rt F L h s fun x F L h s=>match x with
      |.normal=>j F L h s
      |x=>k x F L h s))
   (qab v (qeT loc nt nl e n a nrm ex rt F L h s k) (qeT loc nt nl e n b nrm ex rt F L h s k))
 |.block id a,nrm,ex,rt,F,L,h,s,k=>
  cnd (Nat.blt 1 (exN id a+cnd (qeB a) 1 0))
   (qiS nt nl (qhj loc a) nrm F L s (k .normal) fun j=>
    qeT loc nt nl e n a nrm ((id,nrm)::ex) rt F L h s fun x F L h s=>match x with
     |.normal=>j F L h s
     |.exit i=>cnd (Nat.beq i id) (j F L h s) (k (.exit i) F L h s)
     |.ret=>k .ret F L h s)
   (qeT loc nt nl e n a nrm ((id,nrm)::ex) rt F L h s fun x F L h s=>match x with
     |.normal=>k .normal F L h s
     |.exit i=>cnd (Nat.beq i id) (k .normal F L h s) (k (.exit i) F L h s)
     |.ret=>k .ret F L h s)
 |.loop a,_,ex,rt,F,L,_,s,k=>
  match qjp a (qjp a 0 ex rt) ex rt with
  |lv=>qpv nt nl n (qhj loc a) lv F L s fun F L s j=>qeT loc nt nl e n a lv ex rt F L [] s fun x F L h s=>match x with
   |.normal=>j F L h s
   |x=>k x F L h s
 |.rangeFunc _ _ _ _,_,_,_,_,_,_,_,_=>none
 |.exit id,_,_,_,F,L,h,s,k=>k (.exit id) F L h s
 |.ret,_,_,_,F,L,h,s,k=>k .ret F L h s
 |.bad,_,_,_,_,_,_,_,_=>none
def eqv (k:Nat)(n:Bool)(x y:zA):Option zA:=pu (.eqv k n (.c x) (.c y))
def eqs (k:List Nat)(n:Bool)(x y:zA):Option zA:=pu (.eqs k n (.c x) (.c y))
def pk (c a b:zA):Option zA:=pu (.pick (.c c) (.c a) (.c b))
def sl (sz:Nat)(x:zA)(lo hi:Option Arg):Option zA:=pu (.slice sz (.c x) lo hi)
def mm (mx:Bool)(x y:zA):Option zA:=pu (.minmax mx (.c x) (.c y))
def aph (e:Env)(sz b:Nat)(x y:zA)(s:ASt):Option (zA×ASt):=stV e s (.apph sz b (.c x) (.c y))
def rvK (loc:Nat)(e:Env)(F:FL)(L:LL)(s:ASt):List RV->(List zA->Res)->Res
 |[],k=>k []
 |.t n::r,k=>match qap F n with
  |some v=>rvK loc e F L s r fun l=>k (v::l)
  |none=>none
 |.l a n::r,k=>match qap F a with
  |some v=>cnd (tb loc a) (match v with
   |.lptr i g off=>match qap L i with
    |some p=>cnd (Nat.beq g p.1) ((ldL p.2 off n).bind fun v=>rvK loc e F L s r fun l=>k (v::l)) none
    |none=>none
   |_=>none) ((ldH e s v n).bind fun v=>rvK loc e F L s r fun l=>k (v::l))
  |none=>none
def qqH (i:Nat):List zA->FL
 |[]=>[]
 |v::r=>(i,v)::qqH (i+1) r
def qad (cf:CF)(e:Env)(n:Nat)(args:List zA)(s:ASt):Res:=
 match qgG cf.body 0 with
 |loc=>match qhj loc cf.body with
  |ef=>qeT loc (2^cf.depth-1) (2^cf.ldepth-1) e n cf.body 0 [] (rvM cf.res) (qqH 0 args) ((qaL ef.al 0 (2^cf.ldepth-1)).map fun i=>(i,(0,[]))) [] s fun x F L _ s=>match x with
   |.exit _=>none
   |_=>rvK loc e F L s cf.res fun l=>some (qeW l,s)
end
end Go.AI
namespace Go.AI
abbrev i64 (n:Int):zA:=.p (.int .i64 n)
abbrev u8 (n:Int):zA:=.p (.int .u8 n)
abbrev bl (b:Bool):zA:=.p (.bool b)
abbrev un:zA:=.tuple []
end Go.AI
namespace Go.AI
theorem qeE (m i:Nat):tb m i=m.testBit i:=by
 unfold tb
 have e:Nat.shiftRight m i=m/2^i:=Nat.shiftRight_eq_div_pow m i
 rw[Nat.testBit_eq_decide_div_mod_eq,e]
 cases h:Nat.beq (Nat.mod (m/2^i) 2) 1 with
 |true=>exact(decide_eq_true (Nat.eq_of_beq_eq_true h)).symm
 |false=>exact(decide_eq_false (fun h2=>by rw[show Nat.mod (m/2^i) 2=1 from h2] at h;cases h)).symm
theorem qgK (a b i:Nat):tb (zaM a b) i=(tb a i||tb b i):=by
 rw[qeE,qeE,qeE]
 exact Nat.testBit_or a b i
theorem qih (t i:Nat):tb (bit t) i=decide (t=i):=by
 rw[qeE]
 unfold bit
 show(1<<<t).testBit i=_
 rw[Nat.one_shiftLeft,Nat.testBit_two_pow]
theorem qdA (i:Nat):tb 0 i=false:=by rw[qeE];exact Nat.zero_testBit i
structure AG (nt:Nat)(F:FL)(L:LL)(h:HH)(c:Cfg):Prop where
 f:∀t v,qap F t=some v->c.f.get qag t=v
 l:∀i p,qap L i=some p->c.l.get (0,[]) i=p/\c.l.has i=true
 h:∀d l,qap h d=some l->qap c.h d=some l
 hf:∀t,t<nt->c.f.has t=true
structure KP (ef:Ef)(c c':Cfg):Prop where
 f:∀t,tb ef.d t=false->c'.f.get qag t=c.f.get qag t
 g:∀i,tb ef.al i=false->(c'.l.get (0,[]) i).1=(c.l.get (0,[]) i).1
 l:ef.st=false->∀i,tb ef.al i=false->c'.l.get (0,[]) i=c.l.get (0,[]) i
 s:ef.cs=false->c'.s=c.s
 rd:c'.rd=c.rd
 hf:∀t,c'.f.has t=c.f.has t
 hl:∀i,c'.l.has i=c.l.has i
theorem KP.refl (ef:Ef)(c:Cfg):KP ef c c:=⟨fun _ _=>rfl,fun _ _=>rfl,fun _ _ _=>rfl,fun _=>rfl,rfl,fun _=>rfl,fun _=>rfl⟩
theorem KP.left {a b:Ef}{c c':Cfg}(h:KP a c c'):KP (a.or b) c c':=by
 refine⟨fun t ht=>h.f t ?_,fun i hi=>h.g i ?_,fun hs i hi=>h.l ?_ i ?_,fun hs=>h.s ?_,h.rd,h.hf,h.hl⟩
 ·simp only[Ef.or,qgK,zaG] at ht;exact ht.1
 ·simp only[Ef.or,qgK,zaG] at hi;exact hi.1
 ·simp only[Ef.or,zaG] at hs;exact hs.1
 ·simp only[Ef.or,qgK,zaG] at hi;exact hi.1
 ·simp only[Ef.or,zaG] at hs;exact hs.1
theorem KP.right {a b:Ef}{c c':Cfg}(h:KP b c c'):KP (a.or b) c c':=by
 refine⟨fun t ht=>h.f t ?_,fun i hi=>h.g i ?_,fun hs i hi=>h.l ?_ i ?_,fun hs=>h.s ?_,h.rd,h.hf,h.hl⟩
 ·simp only[Ef.or,qgK,zaG] at ht;exact ht.2
 ·simp only[Ef.or,qgK,zaG] at hi;exact hi.2
 ·simp only[Ef.or,zaG] at hs;exact hs.2
 ·simp only[Ef.or,qgK,zaG] at hi;exact hi.2
 ·simp only[Ef.or,zaG] at hs;exact hs.2
theorem KP.trans {a:Ef}{c c1 c2:Cfg}(h:KP a c c1)(k:KP a c1 c2):KP a c c2:=
 ⟨fun t ht=>(k.f t ht).trans (h.f t ht),fun i hi=>(k.g i hi).trans (h.g i hi),fun hs i hi=>(k.l hs i hi).trans (h.l hs i hi),fun hs=>(k.s hs).trans (h.s hs),k.rd.trans h.rd,fun t=>(k.hf t).trans (h.hf t),fun i=>(k.hl i).trans (h.hl i)⟩
section
variable {F:FL} {f:Tr zA} (hF:∀t v,qap F t=some v->f.get qag t=v)
include hF
theorem qdB {x:Arg}{v:zA}(h:x.o F=some v):x.ev f=v:=by
 cases x with
 |t n=>exact hF n v h
 |c u=>
  simp only[Arg.o,zaa] at h
  exact h
theorem qbx {x y:Arg}(h:qig F x=some y):y.ev .nil=x.ev f/\∃v,y=.c v:=by
 cases x with
 |t n=>
  simp only[qig] at h
  split at h
  ·rename_i v hv
   simp only[zaa] at h
   subst h
   exact⟨(hF n v hv).symm,v,rfl⟩
  ·cases h
 |c u=>
  simp only[qig,zaa] at h
  subst h
  exact⟨rfl,u,rfl⟩
theorem qdi:∀{xs ys:List Arg},qgJ F xs=some ys->ys.map (Arg.ev .nil)=xs.map (Arg.ev f)
 |[],ys,h=>by
  simp only[qgJ,zaa] at h
  subst h;rfl
 |x::xs,ys,h=>by
  simp only[qgJ] at h
  split at h
  ·rename_i y hy
   split at h
   ·rename_i l hl
    simp only[zaa] at h
    subst h
    simp only[zaC,(qbx hF hy).1,qdi hl]
   ·cases h
  ·cases h
theorem qnR:∀{ps qs:List (Nat×Option Nat×Arg)} (zs:List zA),qdG F ps=some qs->qbv zs .nil qs=qbv zs f ps
 |[],qs,zs,h=>by
  simp only[qdG,zaa] at h
  subst h;rfl
 |(o,n,x)::r,qs,zs,h=>by
  simp only[qdG] at h
  split at h
  ·rename_i y hy
   split at h
   ·rename_i l hl
    simp only[zaa] at h
    subst h
    simp only[qbv,(qbx hF hy).1]
    congr 1;funext cs
    congr 1;funext zs
    exact qnR zs hl
   ·cases h
  ·cases h
theorem qnS:∀{ps qs:List (Nat×Option Nat×Arg)} (zs:List zP),qdG F ps=some qs->qc4 zs .nil qs=qc4 zs f ps
 |[],qs,zs,h=>by
  simp only[qdG,zaa] at h
  subst h;rfl
 |(o,n,x)::r,qs,zs,h=>by
  simp only[qdG] at h
  split at h
  ·rename_i y hy
   split at h
   ·rename_i l hl
    simp only[zaa] at h
    subst h
    simp only[qc4,(qbx hF hy).1]
    congr 1;funext cs
    congr 1;funext cs
    congr 1;funext zs
    exact qnS zs hl
   ·cases h
  ·cases h
theorem qii {x y:Option Arg}(h:qkw F x=some y)(d:Nat):qaY d .nil y=qaY d f x:=by
 cases x with
 |none=>
  simp only[qkw,zaa] at h
  subst h;rfl
 |some x=>
  simp only[qkw] at h
  split at h
  ·rename_i z hz
   simp only[zaa] at h
   subst h
   simp only[qaY,(qbx hF hz).1]
  ·cases h
theorem qbE {x:Arg}{k:Arg->Ins}{i:Ins}(h:o1 F x k=some i):∃y,i=k y/\y.ev .nil=x.ev f:=by
 unfold o1 at h
 split at h
 ·rename_i y hy
  simp only[zaa] at h
  exact⟨y,h.symm,(qbx hF hy).1⟩
 ·cases h
theorem qcL {x y:Arg}{k:Arg->Arg->Ins}{i:Ins}(h:o2 F x y k=some i):∃x' y',i=k x' y'/\x'.ev .nil=x.ev f/\y'.ev .nil=y.ev f:=by
 unfold o2 at h
 split at h
 ·rename_i x' hx
  split at h
  ·rename_i y' hy
   simp only[zaa] at h
   exact⟨x',y',h.symm,(qbx hF hx).1,(qbx hF hy).1⟩
  ·cases h
 ·cases h
theorem qpw {x y z:Arg}{k:Arg->Arg->Arg->Ins}{i:Ins}(h:o3 F x y z k=some i):∃x' y' z',i=k x' y' z'/\x'.ev .nil=x.ev f/\y'.ev .nil=y.ev f/\z'.ev .nil=z.ev f:=by
 unfold o3 at h
 split at h
 ·rename_i x' hx
  split at h
  ·rename_i y' hy
   split at h
   ·rename_i z' hz
    simp only[zaa] at h
    exact⟨x',y',z',h.symm,(qbx hF hx).1,(qbx hF hy).1,(qbx hF hz).1⟩
   ·cases h
  ·cases h
 ·cases h
theorem qmJ {ps:List (Nat×Option Nat×Arg)}{k:List (Nat×Option Nat×Arg)->Ins}{i:Ins}(h:oP F ps k=some i):∃qs,i=k qs/\(∀zs,qbv zs .nil qs=qbv zs f ps)/\∀zs,qc4 zs .nil qs=qc4 zs f ps:=by
 unfold oP at h
 split at h
 ·rename_i qs hq
  simp only[zaa] at h
  exact⟨qs,h.symm,fun zs=>qnR hF zs hq,fun zs=>qnS hF zs hq⟩
 ·cases h
theorem qqI {xs:List Arg}{k:List Arg->Ins}{i:Ins}(h:oL F xs k=some i):∃ys,i=k ys/\ys.map (Arg.ev .nil)=xs.map (Arg.ev f):=by
 unfold oL at h
 split at h
 ·rename_i ys hy
  simp only[zaa] at h
  exact⟨ys,h.symm,qdi hF hy⟩
 ·cases h
theorem qnT {x:Arg}{xs:List Arg}{k:Arg->List Arg->Ins}{i:Ins}(h:o1L F x xs k=some i):∃y ys,i=k y ys/\y.ev .nil=x.ev f/\ys.map (Arg.ev .nil)=xs.map (Arg.ev f):=by
 unfold o1L at h
 split at h
 ·rename_i y hy
  split at h
  ·rename_i ys hys
   simp only[zaa] at h
   exact⟨y,ys,h.symm,(qbx hF hy).1,qdi hF hys⟩
  ·cases h
 ·cases h
theorem qqJ {xs zs:List Arg}{k:List Arg->List Arg->Ins}{i:Ins}(h:oLL F xs zs k=some i):∃ys ws,i=k ys ws/\ys.map (Arg.ev .nil)=xs.map (Arg.ev f)/\ws.map (Arg.ev .nil)=zs.map (Arg.ev f):=by
 unfold oLL at h
 split at h
 ·rename_i y hy
  split at h
  ·rename_i ys hys
   simp only[zaa] at h
   exact⟨y,ys,h.symm,qdi hF hy,qdi hF hys⟩
  ·cases h
 ·cases h
theorem qnU {x:Arg}{lo hi:Option Arg}{k:Arg->Option Arg->Option Arg->Ins}{i:Ins}(h:oSl F x lo hi k=some i):∃y l u,i=k y l u/\y.ev .nil=x.ev f/\(∀d,qaY d .nil l=qaY d f lo)/\∀d,qaY d .nil u=qaY d f hi:=by
 unfold oSl at h
 split at h
 ·rename_i y hy
  split at h
  ·rename_i l hl
   split at h
   ·rename_i u hu
    simp only[zaa] at h
    exact⟨y,l,u,h.symm,(qbx hF hy).1,qii hF hl,qii hF hu⟩
   ·cases h
  ·cases h
 ·cases h
theorem qse {o i:Ins}(hp:qaU o=true)(h:o.o F=some i):qaU i=true/\qai .nil i=qai f o:=by
 cases o<;>simp only[qaU,zaA] at hp<;>simp only[Ins.o] at h
 case mov x=>obtain⟨y,rfl,hy⟩:=qbE hF h;exact⟨rfl,by simp only[qai,hy]⟩
 case nck x=>obtain⟨y,rfl,hy⟩:=qbE hF h;exact⟨rfl,by simp only[qai,hy]⟩
 case not x=>obtain⟨y,rfl,hy⟩:=qbE hF h;exact⟨rfl,by simp only[qai,hy]⟩
 case cvt k x=>obtain⟨y,rfl,hy⟩:=qbE hF h;exact⟨rfl,by simp only[qai,hy]⟩
 case i2s x=>obtain⟨y,rfl,hy⟩:=qbE hF h;exact⟨rfl,by simp only[qai,hy]⟩
 case s2s x=>obtain⟨y,rfl,hy⟩:=qbE hF h;exact⟨rfl,by simp only[qai,hy]⟩
 case cap x=>obtain⟨y,rfl,hy⟩:=qbE hF h;exact⟨rfl,by simp only[qai,hy]⟩
 case fld o n x=>obtain⟨y,rfl,hy⟩:=qbE hF h;exact⟨rfl,by simp only[qai,hy]⟩
 case eqn g x=>obtain⟨y,rfl,hy⟩:=qbE hF h;exact⟨rfl,by simp only[qai,hy]⟩
 case mki t x=>obtain⟨y,rfl,hy⟩:=qbE hF h;exact⟨rfl,by simp only[qai,hy]⟩
 case tas t z k x=>obtain⟨y,rfl,hy⟩:=qbE hF h;exact⟨rfl,by simp only[qai,hy]⟩
 case fa off x=>obtain⟨y,rfl,hy⟩:=qbE hF h;exact⟨rfl,by simp only[qai,hy]⟩
 case ext x i=>obtain⟨y,rfl,hy⟩:=qbE hF h;exact⟨rfl,by simp only[qai,hy]⟩
 case len st x=>obtain⟨y,rfl,hy⟩:=qbE hF h;exact⟨rfl,by simp only[qai,hy]⟩
 case bin o x y=>obtain⟨x',y',rfl,hx,hy⟩:=qcL hF h;exact⟨rfl,by simp only[qai,hx,hy]⟩
 case eqv k n x y=>obtain⟨x',y',rfl,hx,hy⟩:=qcL hF h;exact⟨rfl,by simp only[qai,hx,hy]⟩
 case eqs k n x y=>obtain⟨x',y',rfl,hx,hy⟩:=qcL hF h;exact⟨rfl,by simp only[qai,hx,hy]⟩
 case shf l x y=>obtain⟨x',y',rfl,hx,hy⟩:=qcL hF h;exact⟨rfl,by simp only[qai,hx,hy]⟩
 case iaA n z x i=>obtain⟨x',y',rfl,hx,hy⟩:=qcL hF h;exact⟨rfl,by simp only[qai,hx,hy]⟩
 case idxa m n x i=>obtain⟨x',y',rfl,hx,hy⟩:=qcL hF h;exact⟨rfl,by simp only[qai,hx,hy]⟩
 case ia sz x i=>obtain⟨x',y',rfl,hx,hy⟩:=qcL hF h;exact⟨rfl,by simp only[qai,hx,hy]⟩
 case idx x i=>obtain⟨x',y',rfl,hx,hy⟩:=qcL hF h;exact⟨rfl,by simp only[qai,hx,hy]⟩
 case minmax m x y=>obtain⟨x',y',rfl,hx,hy⟩:=qcL hF h;exact⟨rfl,by simp only[qai,hx,hy]⟩
 case pick a b c=>obtain⟨x,y,z,rfl,hx,hy,hz⟩:=qpw hF h;exact⟨rfl,by simp only[qai,hx,hy,hz]⟩
 case build z ps=>obtain⟨qs,rfl,h1,h2⟩:=qmJ hF h;exact⟨rfl,by simp only[qai,h1,h2]⟩
 case mks n z ps=>obtain⟨qs,rfl,h1,h2⟩:=qmJ hF h;exact⟨rfl,by simp only[qai,h1,h2]⟩
 case mkr n z ps=>obtain⟨qs,rfl,h1,h2⟩:=qmJ hF h;exact⟨rfl,by simp only[qai,h1,h2]⟩
 case mkf fn a b=>obtain⟨ys,ws,rfl,h1,h2⟩:=qqJ hF h;exact⟨rfl,by simp only[qai,h1,h2]⟩
 case slice sz x lo hi=>obtain⟨y,l,u,rfl,h1,h2,h3⟩:=qnU hF h;exact⟨rfl,by simp only[qai,h1,h2,h3]⟩
 case sstr x lo hi=>obtain⟨y,l,u,rfl,h1,h2,h3⟩:=qnU hF h;exact⟨rfl,by simp only[qai,h1,h2,h3]⟩
end
theorem qkA {e:Env}{c:Cfg}{o:Ins}(hp:qaU o=true):qaf e c o=(qai c.f o).map fun v=>(v,c):=by
 cases o<;>simp only[qaU,zaA] at hp<;>rfl
def qpx:Ins->Bool
 |.alloc .. |.alloced _|.box .. |.halloced _|.load .. |.store .. =>true
 |_=>false
def Rl (c:Cfg)(x y:Option (zA×Cfg)):Prop:=∀v c',y=some (v,c')->x=some (v,{c with s:=c'.s})
theorem Rl.none {c:Cfg}{x:Option (zA×Cfg)}:Rl c x .none:=fun _ _ h=>by cases h
theorem Rl.some {c:Cfg}{v:zA}{c1 c2:Cfg}(h:c1={c with s:=c2.s}):Rl c (.some (v,c1)) (.some (v,c2)):=fun u c' h2=>by
 simp only[zaa,zad] at h2
 obtain⟨rfl,rfl⟩:=h2
 rw[h]
theorem Rl.bind {c:Cfg}{α:Type}{q:Option α}{k k':α->Option (zA×Cfg)}(h:∀a,Rl c (k a) (k' a)):Rl c (q.bind k) (q.bind k'):=fun v c' hv=>by
 cases q with
 |none=>cases hv
 |some a=>exact h a v c' hv
theorem Rl.map {c:Cfg}{α:Type}{q:Option α}{k k':α->zA×Cfg}(h:∀a,Rl c (.some (k a)) (.some (k' a))):Rl c (q.map k) (q.map k'):=fun v c' hv=>by
 cases q with
 |none=>cases hv
 |some a=>exact h a v c' hv
theorem Rl.cond {c:Cfg}{b:Bool}{x y x' y':Option (zA×Cfg)}(h:Rl c x x')(k:Rl c y y'):Rl c (cond b x y) (cond b x' y'):=by
 cases b with
 |true=>exact h
 |false=>exact k
section
variable {F:FL} {f:Tr zA} (hF:∀t v,qap F t=some v->f.get qag t=v)
include hF
theorem qnV {e:Env}{c:Cfg}(hc:c.f=f){o i:Ins}(hl:qpx o=false)(hp:qaU o=false)(h:o.o F=some i):Rl c (qaf e c o) (qaf e (c0 c.s) i):=by
 subst hc
 cases o<;>simp only[qpx,qaU,Bool.true_eq_false] at hl hp<;>simp only[Ins.o] at h
 case halloc zs=>
  simp only[zaa] at h
  subst h
  simp only[qaf,c0]
  repeat' (first|exact Rl.none|exact Rl.some rfl|refine Rl.bind fun _=>?_|refine Rl.map fun _=>?_|refine Rl.cond ?_ ?_|(split<;>try dsimp only))
 case hbld T e=>
  simp only[zaa] at h
  subst h
  simp only[qaf,c0]
  repeat' (first|exact Rl.none|exact Rl.some rfl|refine Rl.bind fun _=>?_|refine Rl.map fun _=>?_|refine Rl.cond ?_ ?_|(split<;>try dsimp only))
 case mkmap=>
  simp only[zaa] at h
  subst h
  simp only[qaf,c0]
  repeat' (first|exact Rl.none|exact Rl.some rfl|refine Rl.bind fun _=>?_|refine Rl.map fun _=>?_|refine Rl.cond ?_ ?_|(split<;>try dsimp only))
 case hbox n x=>
  obtain⟨y,rfl,h1⟩:=qbE hF h
  simp only[qaf,c0,h1]
  repeat' (first|exact Rl.none|exact Rl.some rfl|refine Rl.bind fun _=>?_|refine Rl.map fun _=>?_|refine Rl.cond ?_ ?_|(split<;>try dsimp only))
 case mksl sz b x=>
  obtain⟨y,rfl,h1⟩:=qbE hF h
  simp only[qaf,c0,h1]
  repeat' (first|exact Rl.none|exact Rl.some rfl|refine Rl.bind fun _=>?_|refine Rl.map fun _=>?_|refine Rl.cond ?_ ?_|(split<;>try dsimp only))
 case mkh sz b z l k=>
  obtain⟨y,z',rfl,h1,h2⟩:=qcL hF h
  simp only[qaf,c0,h1,h2]
  repeat' (first|exact Rl.none|exact Rl.some rfl|refine Rl.bind fun _=>?_|refine Rl.map fun _=>?_|refine Rl.cond ?_ ?_|(split<;>try dsimp only))
 case mkl n sz z ps=>
  obtain⟨qs,rfl,h1,h2⟩:=qmJ hF h
  simp only[qaf,c0,h1]
  repeat' (first|exact Rl.none|exact Rl.some rfl|refine Rl.bind fun _=>?_|refine Rl.map fun _=>?_|refine Rl.cond ?_ ?_|(split<;>try dsimp only))
 case call g args=>
  obtain⟨ys,rfl,h1⟩:=qqI hF h
  simp only[qaf,c0,h1]
  repeat' (first|exact Rl.none|exact Rl.some rfl|refine Rl.bind fun _=>?_|refine Rl.map fun _=>?_|refine Rl.cond ?_ ?_|(split<;>try dsimp only))
 case pcall g args=>
  obtain⟨ys,rfl,h1⟩:=qqI hF h
  simp only[qaf,c0,h1]
  repeat' (first|exact Rl.none|exact Rl.some rfl|refine Rl.bind fun _=>?_|refine Rl.map fun _=>?_|refine Rl.cond ?_ ?_|(split<;>try dsimp only))
 case inv t x args=>
  obtain⟨y,ys,rfl,h1,h2⟩:=qnT hF h
  simp only[qaf,c0,h1,h2]
  repeat' (first|exact Rl.none|exact Rl.some rfl|refine Rl.bind fun _=>?_|refine Rl.map fun _=>?_|refine Rl.cond ?_ ?_|(split<;>try dsimp only))
 case callv g args=>
  obtain⟨y,ys,rfl,h1,h2⟩:=qnT hF h
  simp only[qaf,c0,h1,h2]
  repeat' (first|exact Rl.none|exact Rl.some rfl|refine Rl.bind fun _=>?_|refine Rl.map fun _=>?_|refine Rl.cond ?_ ?_|(split<;>try dsimp only))
 case app sz b x y=>
  obtain⟨y,z',rfl,h1,h2⟩:=qcL hF h
  simp only[qaf,c0,h1,h2]
  repeat' (first|exact Rl.none|exact Rl.some rfl|refine Rl.bind fun _=>?_|refine Rl.map fun _=>?_|refine Rl.cond ?_ ?_|(split<;>try dsimp only))
 case apph sz b x y=>
  obtain⟨y,z',rfl,h1,h2⟩:=qcL hF h
  simp only[qaf,c0,h1,h2]
  repeat' (first|exact Rl.none|exact Rl.some rfl|refine Rl.bind fun _=>?_|refine Rl.map fun _=>?_|refine Rl.cond ?_ ?_|(split<;>try dsimp only))
 case b2s x=>
  obtain⟨y,rfl,h1⟩:=qbE hF h
  simp only[qaf,c0,h1]
  repeat' (first|exact Rl.none|exact Rl.some rfl|refine Rl.bind fun _=>?_|refine Rl.map fun _=>?_|refine Rl.cond ?_ ?_|(split<;>try dsimp only))
 case cpy z d x=>
  obtain⟨y,z',rfl,h1,h2⟩:=qcL hF h
  simp only[qaf,c0,h1,h2]
  repeat' (first|exact Rl.none|exact Rl.some rfl|refine Rl.bind fun _=>?_|refine Rl.map fun _=>?_|refine Rl.cond ?_ ?_|(split<;>try dsimp only))
 case clr z zs x=>
  obtain⟨y,rfl,h1⟩:=qbE hF h
  simp only[qaf,c0,h1]
  repeat' (first|exact Rl.none|exact Rl.some rfl|refine Rl.bind fun _=>?_|refine Rl.map fun _=>?_|refine Rl.cond ?_ ?_|(split<;>try dsimp only))
 case s2b x=>
  obtain⟨y,rfl,h1⟩:=qbE hF h
  simp only[qaf,c0,h1]
  repeat' (first|exact Rl.none|exact Rl.some rfl|refine Rl.bind fun _=>?_|refine Rl.map fun _=>?_|refine Rl.cond ?_ ?_|(split<;>try dsimp only))
 case appz z b zs x y=>
  obtain⟨y,z',rfl,h1,h2⟩:=qcL hF h
  simp only[qaf,c0,h1,h2]
  repeat' (first|exact Rl.none|exact Rl.some rfl|refine Rl.bind fun _=>?_|refine Rl.map fun _=>?_|refine Rl.cond ?_ ?_|(split<;>try dsimp only))
 case insert kd ks m k v=>
  obtain⟨y,z',w',rfl,h1,h2,h3⟩:=qpw hF h
  simp only[qaf,c0,h1,h2,h3]
  repeat' (first|exact Rl.none|exact Rl.some rfl|refine Rl.bind fun _=>?_|refine Rl.map fun _=>?_|refine Rl.cond ?_ ?_|(split<;>try dsimp only))
 case look kd ks z ok m k=>
  obtain⟨y,z',rfl,h1,h2⟩:=qcL hF h
  simp only[qaf,c0,h1,h2]
  repeat' (first|exact Rl.none|exact Rl.some rfl|refine Rl.bind fun _=>?_|refine Rl.map fun _=>?_|refine Rl.cond ?_ ?_|(split<;>try dsimp only))
 case ment kd ks z m k=>
  obtain⟨y,z',rfl,h1,h2⟩:=qcL hF h
  simp only[qaf,c0,h1,h2]
  repeat' (first|exact Rl.none|exact Rl.some rfl|refine Rl.bind fun _=>?_|refine Rl.map fun _=>?_|refine Rl.cond ?_ ?_|(split<;>try dsimp only))
 case mest m j v=>
  obtain⟨y,z',w',rfl,h1,h2,h3⟩:=qpw hF h
  simp only[qaf,c0,h1,h2,h3]
  repeat' (first|exact Rl.none|exact Rl.some rfl|refine Rl.bind fun _=>?_|refine Rl.map fun _=>?_|refine Rl.cond ?_ ?_|(split<;>try dsimp only))
 case mlen m=>
  obtain⟨y,rfl,h1⟩:=qbE hF h
  simp only[qaf,c0,h1]
  repeat' (first|exact Rl.none|exact Rl.some rfl|refine Rl.bind fun _=>?_|refine Rl.map fun _=>?_|refine Rl.cond ?_ ?_|(split<;>try dsimp only))
 case rng m=>
  obtain⟨y,rfl,h1⟩:=qbE hF h
  simp only[qaf,c0,h1]
  repeat' (first|exact Rl.none|exact Rl.some rfl|refine Rl.bind fun _=>?_|refine Rl.map fun _=>?_|refine Rl.cond ?_ ?_|(split<;>try dsimp only))
 case nxt x=>
  obtain⟨y,rfl,h1⟩:=qbE hF h
  simp only[qaf,c0,h1]
  repeat' (first|exact Rl.none|exact Rl.some rfl|refine Rl.bind fun _=>?_|refine Rl.map fun _=>?_|refine Rl.cond ?_ ?_|(split<;>try dsimp only))
 case ent x=>
  obtain⟨y,rfl,h1⟩:=qbE hF h
  simp only[qaf,c0,h1]
  repeat' (first|exact Rl.none|exact Rl.some rfl|refine Rl.bind fun _=>?_|refine Rl.map fun _=>?_|refine Rl.cond ?_ ?_|(split<;>try dsimp only))
 case gla g n z i=>
  obtain⟨y,rfl,h1⟩:=qbE hF h
  simp only[qaf,c0,h1]
  repeat' (first|exact Rl.none|exact Rl.some rfl|refine Rl.bind fun _=>?_|refine Rl.map fun _=>?_|refine Rl.cond ?_ ?_|(split<;>try dsimp only))
end
end Go.AI
namespace Go.AI
theorem qhm {a b i:Nat}(h:tb (zaM a b) i=false):tb a i=false/\tb b i=false:=by
 rw[qgK,zaG] at h;exact h
theorem qbd {t i:Nat}(h:tb (bit t) i=false):t≠i:=by
 rw[qih] at h
 exact of_decide_eq_false h
def LA (L:LL)(l:Tr (Nat×List zA)):Prop:=∀i p,qap L i=some p->l.get (0,[]) i=p/\l.has i=true
theorem LA.set {L:LL}{l:Tr (Nat×List zA)}(h:LA L l){i:Nat}(hi:l.has i=true)(p:Nat×List zA):LA ((i,p)::L) (l.set i p):=by
 intro j q hj
 rw[qak] at hj
 rw[Tr.has_set]
 split at hj
 ·rename_i e
  simp only[zaa] at hj
  subst e;subst hj
  exact⟨Tr.get_set_eq _ _ _ _ hi,hi⟩
 ·rename_i e
  rw[Tr.get_set_ne _ _ _ _ _ e]
  exact h j q hj
def efI (loc:Nat)(o:Ins):Ef:=qly loc ⟨none,none,o⟩
theorem qkB (loc:Nat)(o:COp):qly loc o=(efI loc o.op).or ⟨qfc o.dst,0,false,false⟩:=by
 have z:∀a:Nat,zaM 0 a=a:=Nat.zero_or
 have z':∀a:Nat,zaM a 0=a:=Nat.or_zero
 obtain⟨d,g,op⟩:=o
 cases op<;>simp only[qly,efI,Ef.or,qfc,z,z',Bool.or_false,qaU,qbz,Bool.or_true,Bool.true_or,Bool.false_or,cond_true,cond_false]
 case store n a x=>cases qfN loc a<;>simp[z,z']
theorem qqK {loc:Nat}{o:Ins}(hl:qpx o=false)(hp:qaU o=false)(hr:qbz o=false):(efI loc o).cs=true:=by
 cases o<;>first|rfl|(cases hl;done)|(cases hp;done)|(cases hr;done)
theorem qmK {i:Ins}(hp:qaU i=true):pu i=qai .nil i:=by
 unfold pu
 rw[qdg,qkA hp]
 cases h:qai (c0 s0).f i<;>exact h.symm▸rfl
theorem qij (e:Env)(s:ASt)(i:Ins):stV e s i=(qaf e (c0 s) i).map fun r=>(r.1,r.2.s):=by
 unfold stV
 rw[qdg]
 cases qaf e (c0 s) i<;>rfl
theorem qkC (e:Env)(s:ASt)(i:Ins):rdV e s i=(qaf e (c0 s) i).map fun r=>r.1:=by
 unfold rdV
 rw[qdg]
 cases qaf e (c0 s) i<;>rfl
theorem qqL {α:Type}(l:List α):tlF l=l.drop 1:=by cases l<;>rfl
theorem qfQ {α:Type}(l:List α):∀n,qmF l n=l.drop n
 |0=>rfl
 |n+1=>by
  show tlF (qmF l n)=_
  rw[qqL,qfQ l n,List.drop_drop]
theorem qfR {α:Type}:∀(n:Nat) (l:List α),qmG n l=if n<=l.length then some (l.take n) else none
 |0,l=>by
  rw[if_pos (Nat.zero_le _)];rfl
 |n+1,[]=>by
  rw[if_neg (by simp)];rfl
 |n+1,x::r=>by
  show Option.rec (motive:=fun _=>Option (List α)) none (fun t=>some (x::t)) (qmG n r)=_
  rw[qfR n r]
  by_cases h:n<=r.length
  ·rw[if_pos h,if_pos (by simp;omega)];simp
  ·rw[if_neg h,if_neg (by simp;omega)]
theorem qeF {α:Type}(xs:List α)(off n:Nat):qpu xs off n=cut xs off n:=by
 unfold qpu
 rw[qdh]
 cases hn:Nat.beq n 0 with
 |true=>rfl
 |false=>
  have h0:n≠0:=fun h=>by subst h;cases hn
  rw[cond_false]
  unfold cut
  rw[qfR,qfQ,qbC,qbq]
  by_cases h:off+n<=xs.length
  ·rw[ble_iff.2 h,cond_true,if_pos (by simp;omega)]
  ·have:Nat.ble (off+n) xs.length=false:=by
    cases hb:Nat.ble (off+n) xs.length with
    |false=>rfl
    |true=>exact absurd (ble_iff.1 hb) h
   rw[this,cond_false,if_neg (by simp;omega)]
theorem qcX {α:Type}(p:α->Bool)(l:List α):qky p l=l.all p:=by
 induction l with
 |nil=>rfl
 |cons x xs ih=>
  show bF (p x) (qky p xs) false=_
  rw[ih,List.all_cons,qdh]
  cases p x<;>rfl
theorem qeG:qnQ=qaG:=by funext v;cases v<;>rfl
theorem qkD:qrJ=qaV:=by
 funext v
 cases v<;>first|rfl|(simp only[qrJ,qaV,qcX,qeG])
theorem qqM (v:zA):awG v=qjt v:=by
 cases v<;>first|rfl|(simp only[awG,qjt,qcX,qkD])
theorem qfS {α:Type}(xs:List α)(off:Nat)(ys:List α):over xs off ys=if off+ys.length<=xs.length then some (xs.take off++(ys++xs.drop (off+ys.length))) else none:=by
 unfold over
 rw[qbC,qbq]
 by_cases h:off+ys.length<=xs.length
 ·rw[ble_iff.2 h,cond_true,if_pos h]
 ·have:Nat.ble (off+ys.length) xs.length=false:=by
   cases hb:Nat.ble (off+ys.length) xs.length with
   |false=>rfl
   |true=>exact absurd (ble_iff.1 hb) h
  rw[this,cond_false,if_neg h]
theorem qkE {α:Type}:∀(ys xs:List α),qrK ys xs=if ys.length<=xs.length then some (ys++xs.drop ys.length) else none
 |[],xs=>by simp;rfl
 |y::ys,[]=>by rw[if_neg (by simp)];rfl
 |y::ys,x::xs=>by
  show Option.rec (motive:=fun _=>Option (List α)) none (fun t=>some (y::t)) (qrK ys xs)=_
  rw[qkE ys xs]
  by_cases h:ys.length<=xs.length
  ·rw[if_pos h,if_pos (by simp;omega)];simp
  ·rw[if_neg h,if_neg (by simp;omega)]
theorem qdV {α:Type}(ys:List α):∀(off:Nat) (xs:List α),qal xs off ys=over xs off ys
 |0,xs=>by
  rw[qfS]
  show qrK ys xs=_
  rw[qkE];simp
 |n+1,[]=>by
  rw[qfS,if_neg (by simp)];rfl
 |n+1,x::xs=>by
  show Option.rec (motive:=fun _=>Option (List α)) none (fun t=>some (x::t)) (qal xs n ys)=_
  rw[qdV ys n xs,qfS,qfS]
  by_cases h:n+ys.length<=xs.length
  ·rw[if_pos h,if_pos (by simp;omega)];simp[Nat.add_right_comm]
  ·rw[if_neg h,if_neg (by simp;omega)]
theorem qdW:∀(ps:List (Nat×Option Nat×Arg)) (zs:List zA),qiP ps zs=qbv zs .nil ps
 |[],_=>rfl
 |(off,n,x)::ps,zs=>by
  show Option.rec (motive:=fun _=>Option (List zA)) none (fun cs=>Option.rec (motive:=fun _=>Option (List zA)) none (fun zs=>qiP ps zs) (qal zs off cs)) (zA.cells n (evA x .nil))=_
  unfold qbv
  rw[qcy]
  cases zA.cells n (x.ev .nil) with
  |none=>rfl
  |some cs=>
   rw[zar]
   show Option.rec (motive:=fun _=>Option (List zA)) none (fun zs=>qiP ps zs) (qal zs off cs)=_
   rw[qdV]
   cases over zs off cs with
   |none=>rfl
   |some zs'=>exact qdW ps zs'
theorem qsf (zs:List zA)(ps:List (Nat×Option Nat×Arg)):bd zs ps=pu (.build zs ps):=by
 rw[qmK rfl]
 unfold bd
 rw[qdW]
 simp only[qai]
 cases qbv zs .nil ps<;>rfl
theorem qpy (n:Nat)(zs:List zA)(ps:List (Nat×Option Nat×Arg)):qaA n zs ps=pu (.mkr n zs ps):=by
 rw[qmK rfl]
 unfold qaA
 rw[qdW]
 simp only[qai]
 cases qbv zs .nil ps<;>rfl
theorem qsg (x:zA)(lo hi:Option Arg):ss x lo hi=pu (.sstr (.c x) lo hi):=by
 rw[qmK rfl]
 show _=qgB (.c x) lo hi .nil
 unfold ss qgB
 simp only[Arg.ev]
 split
 ·rename_i s
  rw[qfI]
  show _=(qaY 0 .nil lo).bind _
  cases qaY 0 .nil lo with
  |none=>rfl
  |some a=>
   rw[zar]
   show _=(qaY (qaJ s) .nil hi).bind _
   show Option.rec (motive:=fun _=>Option zA) none _ (qaY (qaJ s) .nil hi)=_
   cases qaY (qaJ s) .nil hi with
   |none=>rfl
   |some b=>
    rw[zar]
    show bF (Nat.ble a b) (bF (Nat.ble b (qaJ s)) _ none) none=_
    rw[qdh,qdh]
    cases h1:Nat.ble a b with
    |false=>rfl
    |true=>
     cases h2:Nat.ble b (qaJ s) with
     |false=>rfl
     |true=>
      have hab:=ble_iff.1 h1
      have hb:=ble_iff.1 h2
      rw[qfR,qfQ,if_pos (by unfold qaJ at hb;simp only[zaK];exact Nat.sub_le_sub_right hb a),qbq,qbC]
      rfl
 ·rename_i hx
  first
  |rfl
  |(split
    ·rename_i s2;exact absurd rfl (hx s2)
    ·rfl)
theorem qqN (o:Ins):puF o=pu o:=by
 unfold puF
 split
 ·exact qsf _ _
 ·exact qpy _ _ _
 ·exact qsg _ _ _
 ·rfl
theorem qqO (e:Env)(s:ASt)(o:Ins):stF e s o=stV e s o:=by
 unfold stF
 split
 ·rename_i n sz zs ps
  rw[qij]
  show qfd n sz zs ps s=((qbv zs .nil ps).bind fun cs=>cond (cs.all qaG) (some (zA.hs s.next 0 n n sz false,{(c0 s) with s:=qaw s (.cells cs)})) none).map _
  unfold qfd
  rw[qdW]
  cases qbv zs .nil ps with
  |none=>rfl
  |some cs=>
   rw[zar]
   show bF (qky qnQ cs) _ none=_
   rw[qdh,qcX,qeG]
   cases cs.all qaG<;>rfl
 ·rename_i n x
  rw[qij]
  show hbq n x s=((zA.cells n x).bind fun cs=>cond (cs.all qaG) (some (zA.ptr s.next 0,{(c0 s) with s:=qaw s (.cells cs)})) none).map _
  unfold hbq
  cases zA.cells n x with
  |none=>rfl
  |some cs=>
   rw[zar]
   show bF (qky qnQ cs) _ none=_
   rw[qdh,qcX,qeG]
   cases cs.all qaG<;>rfl
 ·rename_i zs
  rw[qij]
  show qdH zs s=(cond (zs.all qaG) (some (zA.ptr s.next 0,{(c0 s) with s:=qaw s (.cells zs)})) none).map _
  unfold qdH
  rw[qdh,qcX,qeG]
  cases zs.all qaG<;>rfl
 ·rfl
theorem qkF {α:Type}(d:α)(t:Tr α):∀i,qqG d t i=t.get d i:=by
 induction t with
 |nil=>intro i;rfl
 |node v l r ihl ihr=>
  intro i
  show bF (Nat.beq i 0) v (bF (Nat.beq (i%2) 1) (qqG d l (i/2)) (qqG d r (i/2-1)))=_
  unfold Tr.get
  rw[ihl,ihr]
  cases Nat.beq i 0<;>cases Nat.beq (i%2) 1<;>rfl
theorem qik (h:Heap)(k:Nat):qmH h k=qaH h k:=by
 unfold qmH
 rw[qkF]
 unfold qaH
 cases Nat.blt k 1048575<;>rfl
theorem qkG (E:Rom)(s:ASt)(l:Nat):qkx E s l=qbS E s l:=by
 unfold qkx
 rw[qik]
 cases h:qaH s.heap l with
 |none=>rfl
 |some o=>
  unfold qbS
  rw[h]
  cases o<;>rfl
theorem qpz (k k':IntKind):qsx k k'=keq k k':=by cases k<;>cases k'<;>rfl
theorem qmL (k:IntKind)(n:Int):qmI k n=qdJ k n:=by
 unfold qmI
 cases k<;>try rfl
 cases n<;>simp only[qdJ,qdh]
theorem qqP (o:BinOp)(k:IntKind)(a b:Int):bnI o k a b=(qd0 o k a b).map .p:=by
 cases o<;>simp only[bnI,qd0,zao,qmL]
theorem qsh (o:BinOp)(x y:zA):bn o x y=(qeM o x y).map .p:=by
 unfold bn
 split
 ·rename_i k a
  split
  ·rename_i k' b
   rw[qpz,qdh,qqP]
   simp only[qeM]
   cases keq k k'<;>rfl
  ·rfl
 ·rfl
theorem qdX {α β:Type}(x:Option α)(k:α->Option β):Option.rec (motive:=fun _=>Option β) none k x=x.bind k:=by cases x<;>rfl
theorem qnW {e:Env}{l:Tr (Nat×List zA)}{s:ASt}{a:zA}{n:Option Nat}{v:zA}(h:ldH e s a n=some v):(qay e.E l s a (cnt n)).bind (zA.ofCells n)=some v:=by
 unfold ldH at h
 split at h
 ·simp only[qdX,qeF,qkG] at h
  simp only[qay]
  rw[Option.bind_assoc]
  exact h
 ·simp only[qdX,qeF,qkf] at h
  simp only[qay]
  rw[Option.bind_map]
  exact h
 ·simp only[qdX,qeF] at h
  exact h
 ·cases h
theorem qfT {F:FL}{f:Tr zA}(hF:∀t v,qap F t=some v->f.get qag t=v):∀{xs:List Arg} {l:List zA},qiQ F xs=some l->xs.map (Arg.ev f)=l
 |[],l,h=>by
  simp only[qiQ,zaa] at h
  subst h;rfl
 |x::xs,l,h=>by
  simp only[qiQ] at h
  split at h
  ·rename_i v hv
   split at h
   ·rename_i r hr
    simp only[zaa] at h
    subst h
    rw[zaC,qdB hF hv,qfT hF hr]
   ·cases h
  ·cases h
theorem qpA {e:Env}{c c':Cfg}{o:Ins}{v:zA}(hl:qpx o=false)(hr:qbz o=true)(h:qaf e c o=some (v,c')):c'=c:=by
 cases o<;>first|(cases hl;done)|(cases hr;done)|skip
 case pcall f args=>
  simp only[qaf] at h
  obtain⟨_,h⟩:=qac h
  simp only[zab,zad] at h
  obtain⟨_,_,_,h⟩:=h
  exact h.symm
 case b2s x=>
  simp only[qaf,zab,zad] at h
  obtain⟨_,_,_,h⟩:=h
  exact h.symm
 case mlen x=>
  simp only[qaf,zab,zad] at h
  obtain⟨_,_,_,h⟩:=h
  exact h.symm
 case look kd ks z ok m k=>
  simp only[qaf,zac] at h
  obtain⟨_,_,_,_,h⟩:=h
  obtain⟨_,h⟩:=qac h
  simp only[zab] at h
  obtain⟨r,_,h⟩:=h
  cases r<;>simp only[zad] at h<;>exact h.2.symm
theorem KP.of {loc:Nat}{o:Ins}{c c1:Cfg}(hf:c1.f=c.f)(hrd:c1.rd=c.rd)(hl:∀i,c1.l.has i=c.l.has i)
  (hg:∀i,tb (efI loc o).al i=false->(c1.l.get (0,[]) i).1=(c.l.get (0,[]) i).1)
  (hc:(efI loc o).st=false->∀i,tb (efI loc o).al i=false->c1.l.get (0,[]) i=c.l.get (0,[]) i)(hs:(efI loc o).cs=false->c1.s=c.s):KP (efI loc o) c c1:=
 ⟨fun _ _=>by rw[hf],hg,hc,hs,hrd,fun _=>by rw[hf],hl⟩
theorem KP.same {loc:Nat}{o:Ins}{c:Cfg}{s':ASt}(hs:(efI loc o).cs=false->s'=c.s):KP (efI loc o) c {c with s:=s'}:=
 KP.of rfl rfl (fun _=>rfl) (fun _ _=>rfl) (fun _ _ _=>rfl) hs
theorem qhn {e:Env}{c:Cfg}{n:Option Nat}{a:Arg}{u:zA}(h:(qay e.E c.l c.s (a.ev c.f) (cnt n)).bind (zA.ofCells n)=some u):qaf e c (.load n a)=some (u,c):=by
 simp only[qaf]
 simp only[zac] at h
 obtain⟨cs,hcs,hu⟩:=h
 rw[hcs,zar,hu]
 rfl
theorem qqQ {loc nt:Nat}{e:Env}{F:FL}{L:LL}{h:HH}{c:Cfg}{o:Ins}{k:KO}{r:zA×ASt}(ag:AG nt F L h c)(hk:opK loc e F L h c.s o k=some r):
  ∃v c1 L1,qaf e c o=some (v,c1)/\c1.f=c.f/\c1.h=c.h/\LA L1 c1.l/\k v L1 c1.s=some r/\KP (efI loc o) c c1:=by
 have gen:qpx o=false->(match o.o F with
  |some i=>cnd (qaU o) ((puF i).bind fun v=>k v L c.s) (cnd (qbz o) ((rdV e c.s i).bind fun v=>k v L c.s) (qaa (stF e c.s i) fun v s=>k v L s))
  |none=>none)=some r->∃v c1 L1,qaf e c o=some (v,c1)/\c1.f=c.f/\c1.h=c.h/\LA L1 c1.l/\k v L1 c1.s=some r/\KP (efI loc o) c c1:=by
  intro hl hk
  split at hk<;>try (cases hk;done)
  rename_i i hi
  simp only[qaT,qqN,qqO] at hk
  cases hp:qaU o with
  |true=>
   rw[hp] at hk
   simp only[cond_true,zac] at hk
   obtain⟨v,hv,hk⟩:=hk
   obtain⟨h0,h1⟩:=qse ag.f hp hi
   rw[qmK h0,h1] at hv
   exact⟨v,c,L,by rw[qkA hp,hv];rfl,rfl,rfl,ag.l,hk,KP.refl _ _⟩
  |false=>
   rw[hp] at hk
   simp only[cond_false] at hk
   have con:=qnV (e:=e) (c:=c) ag.f rfl hl hp hi
   cases hr:qbz o with
   |true=>
    rw[hr] at hk
    simp only[cond_true,zac] at hk
    obtain⟨v,hv,hk⟩:=hk
    rw[qkC,zab] at hv
    obtain⟨⟨v',c'⟩,hv,rfl⟩:=hv
    have h1:=con v' c' hv
    have h2:=qpA hl hr h1
    rw[h2] at h1
    exact⟨v',c,L,h1,rfl,rfl,ag.l,hk,KP.refl _ _⟩
   |false=>
    rw[hr] at hk
    simp only[cond_false,qaa,zac] at hk
    obtain⟨⟨v,s'⟩,hv,hk⟩:=hk
    rw[qij,zab] at hv
    obtain⟨⟨v',c'⟩,hv,he⟩:=hv
    simp only[zad] at he
    obtain⟨rfl,rfl⟩:=he
    exact⟨v',{c with s:=c'.s},L,con v' c' hv,rfl,rfl,ag.l,hk,KP.same fun h=>by rw[qqK hl hp hr] at h;cases h⟩
 have stk:∀s',(efI loc o).cs=true->KP (efI loc o) c {c with s:=s'}:=fun s' hs=>KP.same fun e=>by rw[hs] at e;cases e
 cases o
 case mov x=>
  simp only[opK,qaT] at hk
  split at hk<;>try (cases hk;done)
  rename_i v hv
  refine⟨v,c,L,?_,rfl,rfl,ag.l,hk,KP.refl _ _⟩
  simp only[qaf,qai,qdB ag.f hv,zao]
 case fa off x=>
  simp only[opK,qaT] at hk
  split at hk<;>try (cases hk;done)
  rename_i v hv
  unfold faK at hk
  split at hk<;>try (cases hk;done)
  all_goals (refine⟨_,c,L,?_,rfl,rfl,ag.l,hk,KP.refl _ _⟩;simp only[qaf,qai,qdB ag.f hv,zao])
 case nck x=>
  simp only[opK,qaT] at hk
  split at hk<;>try (cases hk;done)
  rename_i v hv
  unfold qaq at hk
  split at hk<;>try (cases hk;done)
  all_goals (refine⟨_,c,L,?_,rfl,rfl,ag.l,hk,KP.refl _ _⟩;simp only[qaf,qai,qdB ag.f hv,zao])
 case alloc i zs=>
  simp only[opK,qaT] at hk
  split at hk<;>try (cases hk;done)
  rename_i p hp
  obtain⟨h1,h2⟩:=ag.l i p hp
  refine⟨_,{c with l:=c.l.set i (p.1+1,zs)},_,?_,rfl,rfl,LA.set ag.l h2 _,hk,KP.of rfl rfl (fun _=>Tr.has_set _ _ _ _) (fun j hj=>?_) (fun _ j hj=>?_) (fun _=>rfl)⟩
  ·simp only[qaf,h1]
  ·rw[show({c with l:=c.l.set i (p.1+1,zs)}:Cfg).l=c.l.set i (p.1+1,zs) from rfl,Tr.get_set_ne _ _ _ _ _ (qbd hj)]
  ·rw[show({c with l:=c.l.set i (p.1+1,zs)}:Cfg).l=c.l.set i (p.1+1,zs) from rfl,Tr.get_set_ne _ _ _ _ _ (qbd hj)]
 case alloced i=>
  simp only[opK,qaT] at hk
  split at hk<;>try (cases hk;done)
  rename_i p hp
  obtain⟨h1,h2⟩:=ag.l i p hp
  refine⟨_,c,L,?_,rfl,rfl,ag.l,hk,KP.refl _ _⟩
  simp only[qaf,h1]
 case box i n x=>
  simp only[opK,qaT] at hk
  split at hk<;>try (cases hk;done)
  rename_i v hv
  split at hk<;>try (cases hk;done)
  rename_i p hp
  simp only[zac] at hk
  obtain⟨cs,hcs,hk⟩:=hk
  obtain⟨h1,h2⟩:=ag.l i p hp
  refine⟨_,{c with l:=c.l.set i (p.1+1,cs)},_,?_,rfl,rfl,LA.set ag.l h2 _,hk,KP.of rfl rfl (fun _=>Tr.has_set _ _ _ _) (fun j hj=>?_) (fun _ j hj=>?_) (fun _=>rfl)⟩
  ·simp only[qaf,h1,qdB ag.f hv,hcs,zar]
  ·rw[show({c with l:=c.l.set i (p.1+1,cs)}:Cfg).l=c.l.set i (p.1+1,cs) from rfl,Tr.get_set_ne _ _ _ _ _ (qbd hj)]
  ·rw[show({c with l:=c.l.set i (p.1+1,cs)}:Cfg).l=c.l.set i (p.1+1,cs) from rfl,Tr.get_set_ne _ _ _ _ _ (qbd hj)]
 case halloced d=>
  simp only[opK,qaT] at hk
  split at hk<;>try (cases hk;done)
  rename_i l hl
  refine⟨_,c,L,?_,rfl,rfl,ag.l,hk,KP.refl _ _⟩
  simp only[qaf,ag.h d l hl,zao]
 case load n a=>
  simp only[opK,qaT] at hk
  split at hk<;>try (cases hk;done)
  rename_i v hv
  cases hl:qfN loc a with
  |true=>
   rw[hl] at hk
   simp only[cond_true] at hk
   split at hk<;>try (cases hk;done)
   rename_i i g off
   split at hk<;>try (cases hk;done)
   rename_i p hp
   obtain⟨hg,hk⟩:=qac hk
   simp only[zac] at hk
   obtain⟨u,hu,hk⟩:=hk
   obtain⟨h1,h2⟩:=ag.l i p hp
   refine⟨u,c,L,qhn ?_,rfl,rfl,ag.l,hk,KP.refl _ _⟩
   ·rw[qdB ag.f hv]
    simp only[qay,h1,hg,cond_true]
    unfold ldL at hu
    simp only[qeF] at hu
    cases n with
    |none=>
     simp only at hu
     split at hu<;>try (cases hu;done)
     rename_i w hw
     simp only[zaa] at hu
     subst hu
     rw[show cut p.2 off (cnt none)=some [w] from hw]
     rfl
    |some m=>
     simp only at hu
     split at hu<;>try (cases hu;done)
     rename_i w hw
     simp only[zaa] at hu
     subst hu
     rw[show cut p.2 off (cnt (some m))=some w from hw]
     rfl
  |false=>
   rw[hl] at hk
   simp only[cond_false,zac] at hk
   obtain⟨u,hu,hk⟩:=hk
   refine⟨u,c,L,qhn ?_,rfl,rfl,ag.l,hk,KP.refl _ _⟩
   ·rw[qdB ag.f hv]
    exact qnW hu
 case store n a x=>
  simp only[opK,qaT] at hk
  split at hk<;>try (cases hk;done)
  rename_i v hv
  split at hk<;>try (cases hk;done)
  rename_i y hy
  simp only[zac] at hk
  obtain⟨cs,hcs,hk⟩:=hk
  cases hl:qfN loc a with
  |true=>
   rw[hl] at hk
   simp only[cond_true] at hk
   split at hk<;>try (cases hk;done)
   rename_i i g off
   split at hk<;>try (cases hk;done)
   rename_i p hp
   obtain⟨hg,hk⟩:=qac hk
   simp only[zac] at hk
   obtain⟨new,hnew,hk⟩:=hk
   rw[qdV] at hnew
   obtain⟨h1,h2⟩:=ag.l i p hp
   have hgp:g=p.1:=beq_iff.1 hg
   refine⟨qag,{c with l:=c.l.set i (p.1,new)},_,?_,rfl,rfl,LA.set ag.l h2 _,hk,KP.of rfl rfl (fun _=>Tr.has_set _ _ _ _) (fun j hj=>?_) (fun hst=>?_) (fun _=>rfl)⟩
   ·simp only[qaf,qdB ag.f hv,qdB ag.f hy,hcs,zar,qbm,h1,hg,cond_true,hnew,zao]
   ·rw[show({c with l:=c.l.set i (p.1,new)}:Cfg).l=c.l.set i (p.1,new) from rfl,Tr.get_set _ _ _ _ _ h2]
    split
    ·rename_i e;subst e;rw[h1]
    ·rfl
   ·simp only[efI,qly,hl,cond_true,reduceCtorEq] at hst
  |false=>
   rw[hl] at hk
   simp only[cond_false,zac] at hk
   obtain⟨s',hs',hk⟩:=hk
   refine⟨qag,{c with s:=s'},L,?_,rfl,rfl,ag.l,hk,stk _ (by simp only[efI,qly,hl,cond_false])⟩
   have:qbm c v cs=some {c with s:=s'}:=by
    unfold stH at hs'
    split at hs'<;>try (cases hs';done)
    rename_i l o
    simp only[qdX,zac] at hs'
    obtain⟨ho,hho,hs'⟩:=hs'
    rw[qik] at hho
    split at hs'<;>try (cases hs';done)
    rename_i old
    rw[qdh,qcX,qeG] at hs'
    obtain⟨ha,hs'⟩:=qac hs'
    simp only[zac,qdV,zaa] at hs'
    obtain⟨new,hn,rfl⟩:=hs'
    simp only[qbm,hho,ha,cond_true,hn,zar,qaM,zao]
   simp only[qaf,qdB ag.f hv,qdB ag.f hy,hcs,zar,this,zao]
 case iaA n sz x i=>
  simp only[opK,qaT] at hk
  split at hk<;>try (cases hk;done)
  rename_i v hv
  split at hk<;>try (cases hk;done)
  rename_i j hj
  simp only[qdk,qaT,zac] at hk
  obtain⟨m,hm,hk⟩:=hk
  obtain⟨hb,hk⟩:=qac hk
  unfold faK at hk
  split at hk<;>try (cases hk;done)
  all_goals (refine⟨_,c,L,?_,rfl,rfl,ag.l,hk,KP.refl _ _⟩;simp only[qaf,qai,qdB ag.f hv,qdB ag.f hj,hm,zar,hb,cond_true,zao])
 case bin o x y=>
  simp only[opK,q2] at hk
  split at hk<;>try (cases hk;done)
  rename_i v hv
  split at hk<;>try (cases hk;done)
  rename_i u hu
  simp only[zac] at hk
  obtain⟨z,hz,hk⟩:=hk
  rw[qsh] at hz
  refine⟨z,c,L,?_,rfl,rfl,ag.l,hk,KP.refl _ _⟩
  have:qai c.f (.bin o x y)=some z:=by simp only[qai,qdB ag.f hv,qdB ag.f hu];exact hz
  simp only[qaf,this,zao]
 case len st x=>
  simp only[opK,q1] at hk
  split at hk<;>try (cases hk;done)
  rename_i v hv
  simp only[zac] at hk
  obtain⟨z,hz,hk⟩:=hk
  refine⟨z,c,L,?_,rfl,rfl,ag.l,hk,KP.refl _ _⟩
  have e1:=qdB ag.f hv
  subst e1
  exact congrArg (Option.map fun v=>(v,c)) hz
 case ext x i=>
  simp only[opK,q1] at hk
  split at hk<;>try (cases hk;done)
  rename_i v hv
  simp only[zac] at hk
  obtain⟨z,hz,hk⟩:=hk
  refine⟨z,c,L,?_,rfl,rfl,ag.l,hk,KP.refl _ _⟩
  have e1:=qdB ag.f hv
  subst e1
  exact congrArg (Option.map fun v=>(v,c)) hz
 case fld o n x=>
  simp only[opK,q1] at hk
  split at hk<;>try (cases hk;done)
  rename_i v hv
  simp only[zac] at hk
  obtain⟨z,hz,hk⟩:=hk
  refine⟨z,c,L,?_,rfl,rfl,ag.l,hk,KP.refl _ _⟩
  have e1:=qdB ag.f hv
  subst e1
  exact congrArg (Option.map fun v=>(v,c)) hz
 case not x=>
  simp only[opK,q1] at hk
  split at hk<;>try (cases hk;done)
  rename_i v hv
  simp only[zac] at hk
  obtain⟨z,hz,hk⟩:=hk
  refine⟨z,c,L,?_,rfl,rfl,ag.l,hk,KP.refl _ _⟩
  have e1:=qdB ag.f hv
  subst e1
  exact congrArg (Option.map fun v=>(v,c)) hz
 case cvt kd x=>
  simp only[opK,q1] at hk
  split at hk<;>try (cases hk;done)
  rename_i v hv
  simp only[zac] at hk
  obtain⟨z,hz,hk⟩:=hk
  refine⟨z,c,L,?_,rfl,rfl,ag.l,hk,KP.refl _ _⟩
  have e1:=qdB ag.f hv
  subst e1
  exact congrArg (Option.map fun v=>(v,c)) hz
 case ia sz x i=>
  simp only[opK,q2] at hk
  split at hk<;>try (cases hk;done)
  rename_i v hv
  split at hk<;>try (cases hk;done)
  rename_i u hu
  simp only[zac] at hk
  obtain⟨z,hz,hk⟩:=hk
  refine⟨z,c,L,?_,rfl,rfl,ag.l,hk,KP.refl _ _⟩
  have e1:=qdB ag.f hv
  have e2:=qdB ag.f hu
  subst e1;subst e2
  exact congrArg (Option.map fun v=>(v,c)) hz
 case idx x i=>
  simp only[opK,q2] at hk
  split at hk<;>try (cases hk;done)
  rename_i v hv
  split at hk<;>try (cases hk;done)
  rename_i u hu
  simp only[zac] at hk
  obtain⟨z,hz,hk⟩:=hk
  refine⟨z,c,L,?_,rfl,rfl,ag.l,hk,KP.refl _ _⟩
  have e1:=qdB ag.f hv
  have e2:=qdB ag.f hu
  subst e1;subst e2
  exact congrArg (Option.map fun v=>(v,c)) hz
 case call g xs=>
  simp only[opK] at hk
  split at hk<;>try (cases hk;done)
  rename_i l hl
  simp only[qaa,zac] at hk
  obtain⟨⟨v,s'⟩,hv,hk⟩:=hk
  refine⟨v,{c with s:=s'},L,?_,rfl,rfl,ag.l,hk,stk _ rfl⟩
  have hv':e.call g l c.s=some (v,s'):=hv
  simp only[qaf,qfT ag.f hl,hv',zao]
 case callv g xs=>
  simp only[opK] at hk
  split at hk<;>try (cases hk;done)
  rename_i gv hg
  split at hk<;>try (cases hk;done)
  rename_i l hl
  simp only[qaa,zac] at hk
  obtain⟨⟨v,s'⟩,hv,hk⟩:=hk
  refine⟨v,{c with s:=s'},L,?_,rfl,rfl,ag.l,hk,stk _ rfl⟩
  have hv':e.callv gv l c.s=some (v,s'):=hv
  simp only[qaf,qdB ag.f hg,qfT ag.f hl,hv',zao]
 all_goals exact gen rfl hk
end Go.AI
namespace Go.AI
theorem put_s (c:Cfg)(d:Option Nat)(v:zA):(c.put d v).s=c.s:=by cases d<;>rfl
theorem put_l (c:Cfg)(d:Option Nat)(v:zA):(c.put d v).l=c.l:=by cases d<;>rfl
theorem put_h (c:Cfg)(d:Option Nat)(v:zA):(c.put d v).h=c.h:=by cases d<;>rfl
theorem qnX {nt:Nat}{F F':FL}{L:LL}{h:HH}{c:Cfg}{d:Option Nat}{v:zA}(hp:qiR nt d v F=some F')(ag:AG nt F L h c):AG nt F' L h (c.put d v):=by
 cases d with
 |none=>
  simp only[qiR,zaa] at hp
  subst hp
  exact ag
 |some t=>
  simp only[qiR,qaT] at hp
  obtain⟨ht,hp⟩:=qac hp
  simp only[zaa] at hp
  subst hp
  have hh:=ag.hf t (blt_iff.1 ht)
  refine⟨fun u x hx=>?_,fun i p hi=>ag.l i p hi,fun d l hd=>ag.h d l hd,fun u hu=>?_⟩
  ·rw[qak] at hx
   show(c.f.set t v).get qag u=x
   split at hx
   ·rename_i e
    simp only[zaa] at hx
    subst e;subst hx
    exact Tr.get_set_eq _ _ _ _ hh
   ·rename_i e
    rw[Tr.get_set_ne _ _ _ _ _ e]
    exact ag.f u x hx
  ·show(c.f.set t v).has u=true
   rw[Tr.has_set]
   exact ag.hf u hu
theorem qnY (c:Cfg)(d:Option Nat)(v:zA):KP ⟨qfc d,0,false,false⟩ c (c.put d v):=by
 cases d with
 |none=>exact KP.refl _ _
 |some t=>exact⟨fun u hu=>Tr.get_set_ne _ _ _ _ _ (qbd hu),fun _ _=>rfl,fun _ _ _=>rfl,fun _=>rfl,rfl,fun _=>Tr.has_set _ _ _ _,fun _=>rfl⟩
theorem AG.known {nt:Nat}{F:FL}{L:LL}{h:HH}{c:Cfg}{t:Nat}{v:zA}(ag:AG nt F L h c)(hv:qap F t=some v):AG nt ((t,v)::F) L h c:=by
 refine⟨fun u x hx=>?_,ag.l,ag.h,ag.hf⟩
 rw[qak] at hx
 split at hx
 ·rename_i e
  simp only[zaa] at hx
  subst e;subst hx
  exact ag.f _ _ hv
 ·exact ag.f u x hx
theorem qsi {loc nt:Nat}{e:Env}{F:FL}{L:LL}{h:HH}{c:Cfg}{o:COp}{kk:FL->LL->ASt->Res}{r:zA×ASt}(ag:AG nt F L h c)
  (hk:opK loc e F L h c.s o.op (fun v L' s'=>match qiR nt o.dst v F with
   |some F=>kk F L' s'
   |none=>none)=some r):
  ∃c1 F' L',(qaf e c o.op).map (fun(v,c)=>c.put o.dst v)=some c1/\AG nt F' L' h c1/\kk F' L' c1.s=some r/\KP (qly loc o) c c1/\c1.h=c.h:=by
 obtain⟨v,c1,L1,h1,h2,h3,h4,h5,h6⟩:=qqQ ag hk
 split at h5<;>try (cases h5;done)
 rename_i F' hF
 have ag1:AG nt F L1 h c1:=⟨fun t v ht=>by rw[h2];exact ag.f t v ht,h4,fun d l hd=>by rw[h3];exact ag.h d l hd,fun t ht=>by rw[h2];exact ag.hf t ht⟩
 refine⟨c1.put o.dst v,F',L1,?_,qnX hF ag1,by rw[put_s];exact h5,?_,by rw[put_h,h3]⟩
 ·rw[h1];rfl
 ·rw[qkB]
  exact h6.left.trans (qnY _ _ _).right
theorem qsj {loc nt:Nat}{F:FL}{L:LL}{h:HH}{c:Cfg}{o:COp}{kk:FL->Res}{r:zA×ASt}(ag:AG nt F L h c)
  (hk:(match qiR nt o.dst qag F with
   |some F=>kk F
   |none=>none)=some r):∃F',AG nt F' L h (c.put o.dst qag)/\kk F'=some r/\KP (qly loc o) c (c.put o.dst qag):=by
 split at hk<;>try (cases hk;done)
 rename_i F' hF
 refine⟨F',qnX hF ag,hk,?_⟩
 rw[qkB]
 exact(qnY _ _ _).right
def TA (tr:TrL)(cs:List Cfg):Prop:=tr.length=cs.length/\∀(j:Nat) p c,tr[j]? =some p->cs[j]? =some c->LA p.1 c.l/\p.2=c.s
theorem TA.cons {tr:TrL}{cs:List Cfg}(h:TA tr cs){L:LL}{c:Cfg}(hL:LA L c.l):TA ((L,c.s)::tr) (c::cs):=by
 refine⟨by simp[h.1],fun j p d hp hd=>?_⟩
 cases j with
 |zero=>
  simp only[zak,zaa] at hp hd
  subst hp;subst hd
  exact⟨hL,rfl⟩
 |succ j=>exact h.2 j p d (by simpa using hp) (by simpa using hd)
theorem qmM {U t:Nat}{d:Option Nat}(h:tb (qhk U d) t=true):tb U t=true/\d≠some t:=by
 cases d with
 |none=>exact⟨h,fun e=>by cases e⟩
 |some u=>
  simp only[qhk] at h
  have:tb (qeA U (bit u)) t=(tb U t&&!tb (bit u) t):=by
   rw[qeE,qeE,qeE]
   unfold qeA
   show(U^^^(U&&&bit u)).testBit t=_
   rw[Nat.testBit_xor,Nat.testBit_and]
   cases U.testBit t<;>cases(bit u).testBit t<;>rfl
  rw[this,zae,zaH,qih] at h
  exact⟨h.1,fun e=>by cases e;simp at h⟩
theorem qkH (c:Cfg){d:Option Nat}{t:Nat}(h:d≠some t)(v:zA):(c.put d v).f.get qag t=c.f.get qag t:=by
 cases d with
 |none=>rfl
 |some u=>exact Tr.get_set_ne _ _ _ _ _ (fun e=>h (by rw[e]))
theorem qmN (c:Cfg)(t:Nat):(c.put (some t) qag).f.get qag t=qag:=by
 cases h:c.f.has t with
 |true=>exact Tr.get_set_eq _ _ _ _ h
 |false=>
  show(c.f.set t qag).get qag t=qag
  refine Classical.byContradiction fun h2=>?_
  have:=qcF (t:=c.f.set t qag) (i:=t) (d:=qag) rfl h2
  rw[Tr.has_set,h] at this
  cases this
theorem qqR (loc:Nat)(o:COp):(qly loc o).d=qfc o.dst:=by
 obtain⟨d,g,op⟩:=o
 cases op<;>try rfl
 case store n a x=>simp only[qly];cases qfN loc a<;>rfl
theorem qdC {loc nt:Nat}{e:Env}:∀(ops:List COp) {U:Nat} {F:FL} {L:LL} {h:HH} {c:Cfg} {k:FL->LL->ASt->TrL->Res} {r:zA×ASt},AG nt F L h c->(∀t,tb U t=true->c.f.get qag t=qag)->qhl loc nt e ops U F L h c.s k=some r->
  ∃cN tr F1 L1 trl,qc5 e ops c=some cN/\qa2 e ops c=some tr/\qbl c tr=cN/\(∀d,qbl d tr=cN)/\AG nt F1 L1 h cN/\k F1 L1 cN.s trl=some r/\KP (qgH loc ops) c cN/\cN.h=c.h/\TA trl tr
 |[],U,F,L,h,c,k,r,ag,hU,hk=>by
  simp only[qhl] at hk
  refine⟨c,[c],F,L,[(L,c.s)],rfl,rfl,rfl,fun _=>rfl,ag,hk,KP.refl _ _,rfl,rfl,fun j p d hp hd=>?_⟩
  cases j with
  |zero=>
   simp only[zak,zaa] at hp hd
   subst hp;subst hd
   exact⟨ag.l,rfl⟩
  |succ j=>simp at hp
 |o::rr,U,F,L,h,c,k,r,ag,hU,hk=>by
  have go:∀{F:FL},AG nt F L h c->opK loc e F L h c.s o.op (fun v L' s'=>match qiR nt o.dst v F with
     |some F=>qhl loc nt e rr (qhk U o.dst) F L' h s' fun F1 L1 s1 tr=>k F1 L1 s1 ((L,c.s)::tr)
     |none=>none)=some r->wanted c.f o.guard=some true->
    ∃cN tr F1 L1 trl,qc5 e (o::rr) c=some cN/\qa2 e (o::rr) c=some tr/\qbl c tr=cN/\(∀d,qbl d tr=cN)/\AG nt F1 L1 h cN/\k F1 L1 cN.s trl=some r/\KP (qgH loc (o::rr)) c cN/\cN.h=c.h/\TA trl tr:=by
   intro F ag hk hw
   obtain⟨c1,F',L',h1,h2,h3,h4,h5⟩:=qsi ag hk
   have hU':∀t,tb (qhk U o.dst) t=true->c1.f.get qag t=qag:=by
    intro t ht
    obtain⟨k1,k2⟩:=qmM ht
    rw[h4.f t]
    ·exact hU t k1
    ·rw[qqR]
     cases hd:o.dst with
     |none=>exact qdA t
     |some u=>
      show tb (bit u) t=false
      rw[qih]
      exact decide_eq_false fun e=>k2 (by rw[hd,e])
   obtain⟨cN,tr,F1,L1,trl,k1,k2,k3,k3',k4,k5,k6,k7,k8⟩:=qdC rr h2 hU' h3
   have hop:qgU e c o=some c1:=by
    unfold qgU
    rw[hw,zar,cond_true]
    exact h1
   refine⟨cN,c::tr,F1,L1,(L,c.s)::trl,?_,?_,?_,?_,k4,k5,?_,k7.trans h5,k8.cons ag.l⟩
   ·rw[qc5,hop,zar,k1]
   ·rw[qa2,hop,zar,k2];rfl
   ·exact k3' c
   ·intro d;exact k3' c
   ·exact h4.left.trans k6.right
  have skip:∀{F:FL},AG nt F L h c->(match qiR nt o.dst qag F with
     |some F=>qhl loc nt e rr (zaM U (qfc o.dst)) F L h c.s fun F1 L1 s1 tr=>k F1 L1 s1 ((L,c.s)::tr)
     |none=>none)=some r->wanted c.f o.guard=some false->
    ∃cN tr F1 L1 trl,qc5 e (o::rr) c=some cN/\qa2 e (o::rr) c=some tr/\qbl c tr=cN/\(∀d,qbl d tr=cN)/\AG nt F1 L1 h cN/\k F1 L1 cN.s trl=some r/\KP (qgH loc (o::rr)) c cN/\cN.h=c.h/\TA trl tr:=by
   intro F ag hk hw
   obtain⟨F',h2,h3,h4⟩:=qsj (loc:=loc) ag hk
   rw[<-put_s c o.dst qag] at h3
   have hU':∀t,tb (zaM U (qfc o.dst)) t=true->(c.put o.dst qag).f.get qag t=qag:=by
    intro t ht
    by_cases e:o.dst=some t
    ·rw[e];exact qmN c t
    ·rw[qkH _ e]
     rw[qgK,zaE] at ht
     rcases ht with ht|ht
     ·exact hU t ht
     ·cases hd:o.dst with
      |none=>rw[hd] at ht;simp only[qfc,qdA] at ht;cases ht
      |some u=>
       rw[hd] at ht
       simp only[qfc,qih,decide_eq_true_eq] at ht
       exact absurd (by rw[hd,ht]) e
   obtain⟨cN,tr,F1,L1,trl,k1,k2,k3,k3',k4,k5,k6,k7,k8⟩:=qdC rr h2 hU' h3
   have hop:qgU e c o=some (c.put o.dst qag):=by
    unfold qgU
    rw[hw,zar,cond_false]
   refine⟨cN,c::tr,F1,L1,(L,c.s)::trl,?_,?_,?_,?_,k4,by rw[put_s] at k5;exact k5,?_,k7.trans (put_h _ _ _),k8.cons ag.l⟩
   ·rw[qc5,hop,zar,k1]
   ·rw[qa2,hop,zar,k2];rfl
   ·exact k3' c
   ·intro d;exact k3' c
   ·exact h4.left.trans k6.right
  rw[qhl] at hk
  cases hg:o.guard with
  |none=>
   rw[hg] at hk
   exact go ag hk (by rw[hg];rfl)
  |some g=>
   obtain⟨t,b⟩:=g
   rw[hg] at hk
   simp only[qaT] at hk
   cases hu:tb U t with
   |true=>
    rw[hu] at hk
    simp only[cond_true] at hk
    refine skip ag hk ?_
    rw[hg]
    simp only[wanted,hU t hu]
    rfl
   |false=>
   rw[hu] at hk
   simp only[cond_false] at hk
   split at hk<;>try (cases hk;done)
   rename_i gv hgv
   obtain⟨x,hcv,hk⟩:=qeD hk
   subst hcv
   have hx:c.f.get qag t=.p (.bool x):=ag.f t _ hgv
   have hw:wanted c.f o.guard=some (cond x b (!b)):=by
    rw[hg]
    simp only[wanted,hx]
   have ag':=ag.known hgv
   cases x with
   |true=>
    simp only[cond_true] at hk hw
    cases b with
    |true=>exact go ag' hk hw
    |false=>exact skip ag' hk hw
   |false=>
    simp only[cond_false] at hk hw
    cases b with
    |true=>exact skip ag' hk hw
    |false=>exact go ag' hk hw
end Go.AI
namespace Go.AI
theorem qa5 {α T:Type}(z:α):∀(k:Nat) (g:List α->T) (l:List α),l.length=k->qfO z k (qjq k g) l=g l
 |0,g,l,h=>by
  have:l=[]:=zav.1 h
  subst this;rfl
 |k+1,g,[],h=>by cases h
 |k+1,g,v::l,h=>by
  show qfO z k (qjq k fun l=>g (v::l)) l=g (v::l)
  exact qa5 z k _ l (by simpa using h)
theorem qmO (a b i:Nat):tb (qeA a b) i=(tb a i&&!tb b i):=by
 rw[qeE,qeE,qeE]
 unfold qeA
 show(a^^^(a&&&b)).testBit i=_
 rw[Nat.testBit_xor,Nat.testBit_and]
 cases a.testBit i<;>cases b.testBit i<;>rfl
theorem qho {F1 F0:FL}:∀{vs:List Nat} {xs:List zA},qif F1 vs=some xs->xs.length=vs.length/\∀t v,qap (qps vs xs F0) t=some v->qap F1 t=some v\/qap F0 t=some v
 |[],xs,h=>by
  simp only[qif,zaa] at h
  subst h
  exact⟨rfl,fun t v h=> .inr h⟩
 |u::r,xs,h=>by
  simp only[qif] at h
  split at h<;>try (cases h;done)
  rename_i x hx
  split at h<;>try (cases h;done)
  rename_i l hl
  simp only[zaa] at h
  subst h
  obtain⟨h1,h2⟩:=qho (F0:=F0) hl
  refine⟨by simp[h1],fun t v hv=>?_⟩
  simp only[qps] at hv
  rw[qak] at hv
  split at hv
  ·rename_i e
   simp only[zaa] at hv
   subst e;subst hv
   exact .inl hx
  ·exact h2 t v hv
theorem qhp {L1:LL}:∀{gl gs:List Nat},qgV L1 gl=some gs->gs.length=gl.length/\∀i g,qap (qpt gl gs) i=some g->∃p,qap L1 i=some p/\p.1=g
 |[],gs,h=>by
  simp only[qgV,zaa] at h
  subst h
  exact⟨rfl,fun i g h=>by cases h⟩
 |u::r,gs,h=>by
  simp only[qgV] at h
  split at h<;>try (cases h;done)
  rename_i x hx
  split at h<;>try (cases h;done)
  rename_i l hl
  simp only[zaa] at h
  subst h
  obtain⟨h1,h2⟩:=qhp hl
  refine⟨by simp[h1],fun i g hv=>?_⟩
  simp only[qpt] at hv
  rw[qak] at hv
  split at hv
  ·rename_i e
   simp only[zaa] at hv
   subst e
   exact⟨x,hx,hv⟩
  ·exact h2 i g hv
theorem qhq {L L1:LL}{al:Nat}{gm:List (Nat×Nat)}:∀{cl:List Nat} {cs:List (List zA)},qgW L1 cl=some cs->cs.length=cl.length/\
  ∀i p,qap (qlz L al gm cl cs) i=some p->(∃q,qap L1 i=some q/\p.2=q.2)/\((tb al i=true/\qap gm i=some p.1)\/(tb al i=false/\∃q,qap L i=some q/\q.1=p.1))
 |[],cs,h=>by
  simp only[qgW,zaa] at h
  subst h
  exact⟨rfl,fun i p h=>by cases h⟩
 |u::r,cs,h=>by
  simp only[qgW] at h
  split at h<;>try (cases h;done)
  rename_i x hx
  split at h<;>try (cases h;done)
  rename_i l hl
  simp only[zaa] at h
  subst h
  obtain⟨h1,h2⟩:=qhq (L:=L) (al:=al) (gm:=gm) hl
  refine⟨by simp[h1],fun i p hv=>?_⟩
  simp only[qlz] at hv
  cases hb:tb al u with
  |true=>
   rw[hb] at hv
   simp only[cond_true] at hv
   split at hv
   ·rename_i g hg
    rw[qak] at hv
    split at hv
    ·rename_i e
     simp only[zaa] at hv
     subst e;subst hv
     exact⟨⟨x,hx,rfl⟩,.inl ⟨hb,hg⟩⟩
    ·exact h2 i p hv
   ·exact h2 i p hv
  |false=>
   rw[hb] at hv
   simp only[cond_false] at hv
   split at hv
   ·rename_i q hq
    rw[qak] at hv
    split at hv
    ·rename_i e
     simp only[zaa] at hv
     subst e;subst hv
     exact⟨⟨x,hx,rfl⟩,.inr ⟨hb,q,hq,rfl⟩⟩
    ·exact h2 i p hv
   ·exact h2 i p hv
theorem qdY {m:Nat}{F:FL}:∀{ts:List Nat} {t:Nat} {v:zA},qap (qfP m F ts) t=some v->tb m t=true/\qap F t=some v
 |[],t,v,h=>by cases h
 |u::r,t,v,h=>by
  simp only[qfP] at h
  split at h
  ·rename_i x hx
   cases hb:tb m u with
   |true=>
    rw[hb] at h
    simp only[cond_true] at h
    rw[qak] at h
    split at h
    ·rename_i e
     simp only[zaa] at h
     subst e;subst h
     exact⟨hb,hx⟩
    ·exact qdY h
   |false=>
    rw[hb] at h
    exact qdY h
  ·exact qdY h
theorem qfU {al:Nat}:∀{L:LL} {i:Nat} {p:Nat×List zA},qap (qgI al L) i=some p->tb al i=false/\qap L i=some p
 |[],i,p,h=>by cases h
 |(j,q)::r,i,p,h=>by
  simp only[qgI] at h
  cases hb:tb al j with
  |true=>
   rw[hb] at h
   simp only[cond_true] at h
   obtain⟨h1,h2⟩:=qfU h
   refine⟨h1,?_⟩
   rw[qak,if_neg (fun e=>by subst e;rw[hb] at h1;cases h1)]
   exact h2
  |false=>
   rw[hb] at h
   simp only[cond_false] at h
   rw[qak] at h⊢
   split at h
   ·rename_i e
    subst e
    rw[if_pos rfl]
    exact⟨hb,h⟩
   ·rename_i e
    rw[if_neg e]
    exact qfU h
theorem qgL {α:Type}:∀{l m:List (Nat×α)} {n:Nat} {v:α},qap (l++m) n=some v->qap l n=some v\/qap m n=some v
 |[],m,n,v,h=> .inr h
 |(k,x)::r,m,n,v,h=>by
  rw[List.cons_append,qak] at h
  rw[qak]
  split at h
  ·rename_i e
   rw[if_pos e]
   exact .inl h
  ·rename_i e
   rw[if_neg e]
   exact qgL h
theorem qkI {nt:Nat}{ef:Ef}{lv:Nat}{F F1:FL}{L L1:LL}{h h1:HH}{c c1:Cfg}{vs ts gl cl:List Nat}{xs:List zA}{gs:List Nat}{cs:List (List zA)}(ag:AG nt F L h c)(ag1:AG nt F1 L1 h1 c1)(kp:KP ef c c1)
  (hx:qif F1 vs=some xs)(hg:qgV L1 gl=some gs)(hc:qgW L1 cl=some cs):
  AG nt (qps vs xs (qfP (qeA lv ef.d) F ts)) (qlz L ef.al (qpt gl gs) cl cs++cond ef.st [] (qgI ef.al L)) [] c1:=by
 refine⟨fun t v hv=>?_,fun i p hp=>?_,fun d l hd=>(by cases hd),ag1.hf⟩
 ·rcases(qho hx).2 t v hv with h|h
  ·exact ag1.f t v h
  ·obtain⟨h2,h3⟩:=qdY h
   rw[qmO,zae,zaH] at h2
   rw[kp.f t h2.2]
   exact ag.f t v h3
 ·rcases qgL hp with h|h
  ·obtain⟨⟨q,hq,e⟩,h2⟩:=(qhq hc).2 i p h
   obtain⟨h3,h4⟩:=ag1.l i q hq
   refine⟨?_,h4⟩
   have:p.1=q.1:=by
    rcases h2 with⟨_,h2⟩|⟨h2,q',hq',e'⟩
    ·obtain⟨p',hp',e'⟩:=(qhp hg).2 i _ h2
     rw[hq] at hp'
     cases hp'
     exact e'.symm
    ·rw[<-e',<-h3,kp.g i h2,(ag.l i q' hq').1]
   rw[h3]
   exact Prod.ext this.symm e.symm
  ·cases hs:ef.st with
   |true=>rw[hs] at h;cases h
   |false=>
    rw[hs] at h
    simp only[cond_false] at h
    obtain⟨h2,h3⟩:=qfU h
    obtain⟨h4,h5⟩:=ag.l i p h3
    exact⟨by rw[kp.l hs i h2,h4],by rw[kp.hl];exact h5⟩
theorem qgM {ef:Ef}{c c1:Cfg}(kp:KP ef c c1){T:Type}(g:ASt->T):qpO ef.cs (qrI c.s ef.cs g) c1.s=g c1.s:=by
 cases h:ef.cs with
 |true=>rfl
 |false=>
  show g c.s=g c1.s
  rw[kp.s h]
theorem qdZ {nt nl:Nat}{ef:Ef}{lv:Nat}{F:FL}{L:LL}{h:HH}{c:Cfg}{kn:KN}{body:KN->Res}{r:zA×ASt}(ag:AG nt F L h c)(hk:qiS nt nl ef lv F L c.s kn body=some r):
  ∃j:KN,body j=some r/\∀{F1:FL} {L1:LL} {h1:HH} {c1:Cfg} {r':zA×ASt},AG nt F1 L1 h1 c1->KP ef c c1->j F1 L1 h1 c1.s=some r'->∃F2 L2,AG nt F2 L2 [] c1/\kn F2 L2 [] c1.s=some r':=by
 unfold qiS at hk
 simp only[jn] at hk
 refine⟨_,hk,?_⟩
 intro F1 L1 h1 c1 r' ag1 kp hj
 split at hj<;>try (cases hj;done)
 rename_i xs hx
 split at hj<;>try (cases hj;done)
 rename_i gs hg
 split at hj<;>try (cases hj;done)
 rename_i cs hc
 rw[qa5 _ _ _ _ (qho (F0:=[]) hx).1,qa5 _ _ _ _ (qhp hg).1,qa5 _ _ _ _ (qhq (L:=[]) (al:=0) (gm:=[]) hc).1,qgM kp] at hj
 exact⟨_,_,qkI ag ag1 kp hx hg hc,hj⟩
end Go.AI
namespace Go.AI
theorem qcI {tr:TrL}{cs:List Cfg}(h:TA tr cs){j:Nat}{p:LL×ASt}(hp:qc0 tr j=some p):∃c,qc0 cs j=some c/\LA p.1 c.l/\p.2=c.s:=by
 rw[qbn] at hp
 have hj:j<tr.length:=by
  rcases Nat.lt_or_ge j tr.length with h|h
  ·exact h
  ·rw[List.getElem?_eq_none h] at hp;cases hp
 obtain⟨c,hc⟩:∃c,cs[j]? =some c:=⟨cs[j]'(by rw[<-h.1];exact hj),zai _⟩
 obtain⟨h1,h2⟩:=h.2 j p c hp hc
 exact⟨c,by rw[qbn,hc],h1,h2⟩
theorem qmP {e:Env}{L:LL}{c:Cfg}(hL:LA L c.l){a:zA}{n:Nat}{cs:List zA}(h:qkz e L c.s a n=some cs):qay e.E c.l c.s a n=some cs:=by
 unfold qkz at h
 split at h
 ·rename_i i g off
  split at h<;>try (cases h;done)
  rename_i p hp
  obtain⟨h1,_⟩:=hL i p hp
  simp only[qay,h1]
  exact h
 ·exact h
 ·cases h
theorem qnZ {e:Env}{L:LL}{c:Cfg}(hL:LA L c.l){a:zA}{n:Option Nat}{v:zA}(h:ldC n (qkz e L c.s a (cnt n))=some v):(qay e.E c.l c.s a (cnt n)).bind (zA.ofCells n)=some v:=by
 unfold ldC at h
 split at h<;>try (cases h;done)
 rename_i cs hcs
 rw[qmP hL hcs]
 exact h
theorem qkJ {e:Env}{f:Tr zA}{n:Option Nat}{a:Arg}{c:Cfg}{v:zA}(h:(qay e.E c.l c.s (a.ev f) (cnt n)).bind (zA.ofCells n)=some v):rdv e f (.load n a) c.l c.s=some v:=by
 unfold rdv
 rw[qhn (c:=⟨f,c.l,[],none,c.s⟩) h]
 rfl
theorem qeH {a b:Option zA}(h:qch a b=true):∃x y,a=some x/\b=some y:=by
 unfold qch at h
 split at h
 ·exact⟨_,_,rfl,rfl⟩
 ·cases h
theorem qqS {e:Env}{tr:TrL}{cs:List Cfg}(h:TA tr cs){f:Tr zA}{a:Arg}{v:zA}(hv:a.ev f=v){n:Option Nat}{b:Bool}{j:Nat}(hk:okJ e tr v n b j=true):b=true\/qf2 e cs f (.load n a) j=true:=by
 unfold okJ at hk
 rw[zaE] at hk
 rcases hk with hk|hk
 ·exact .inl hk
 ·right
  split at hk<;>try (cases hk;done)
  rename_i p hp
  split at hk<;>try (cases hk;done)
  rename_i p' hp'
  obtain⟨c,hc,hl,hs⟩:=qcI h hp
  obtain⟨c',hc',hl',hs'⟩:=qcI h hp'
  unfold qf2
  rw[hc,hc']
  simp only
  rw[hs,hs'] at hk
  obtain⟨x,y,hx,hy⟩:=qeH hk
  rw[hx,hy] at hk
  subst hv
  rw[qkJ (qnZ hl hx),qkJ (qnZ hl' hy)]
  exact hk
theorem qn0 {e:Env}{tr:TrL}{cs:List Cfg}(h:TA tr cs){f:Tr zA}{o i:Ins}(key:∀{c:Cfg} {v:zA},rdV e c.s i=some v->rdv e f o c.l c.s=some v){j:Nat}(hk:okS e (tr.map fun x=>x.2) i j=true):qf2 e cs f o j=true:=by
 unfold okS at hk
 split at hk<;>try (cases hk;done)
 rename_i p hp1
 split at hk<;>try (cases hk;done)
 rename_i p' hp'
 have at1:∀{j s},qc0 (tr.map fun x=>x.2) j=some s->∃q,qc0 tr j=some q/\q.2=s:=by
  intro j s hj
  rw[qbn,zaw,zab] at hj
  obtain⟨q,hq,e⟩:=hj
  exact⟨q,by rw[qbn,hq],e⟩
 obtain⟨q,hq,rfl⟩:=at1 hp1
 obtain⟨q',hq',rfl⟩:=at1 hp'
 obtain⟨c,hc,_,hs⟩:=qcI h hq
 obtain⟨c',hc',_,hs'⟩:=qcI h hq'
 unfold qf2
 rw[hc,hc']
 simp only
 rw[hs,hs'] at hk
 obtain⟨x,y,hx,hy⟩:=qeH hk
 rw[hx,hy] at hk
 rw[key hx,key hy]
 exact hk
theorem qqT {e:Env}{F:FL}{f:Tr zA}(hF:∀t v,qap F t=some v->f.get qag t=v){o i:Ins}(hl:qpx o=false)(hp:qaU o=false)(hi:o.o F=some i){c:Cfg}{v:zA}(hv:rdV e c.s i=some v):rdv e f o c.l c.s=some v:=by
 rw[qkC,zab] at hv
 obtain⟨⟨u,c1⟩,hv,rfl⟩:=hv
 unfold rdv
 rw[qnV hF (c:=⟨f,c.l,[],none,c.s⟩) rfl hl hp hi u c1 hv]
 rfl
theorem qqU {e:Env}{f:Tr zA}{n:Option Nat}{a:Arg}{l o:Nat}(ha:a.ev f=.ptr l o){c:Cfg}{v:zA}(hv:rdV e c.s (.load n (.c (.ptr l o)))=some v):rdv e f (.load n a) c.l c.s=some v:=by
 rw[qkC,zab] at hv
 obtain⟨⟨u,c1⟩,hv,rfl⟩:=hv
 refine qkJ ?_
 rw[ha]
 simp only[qaf,zac,zab] at hv⊢
 obtain⟨cs,h1,w,h2,h3⟩:=hv
 simp only[zad] at h3
 exact⟨cs,h1,by rw[h2,h3.1]⟩
theorem qqV {loc:Nat}{e:Env}{nt:Nat}{tr:TrL}{cs:List Cfg}(h:TA tr cs){F:FL}{L:LL}{hh:HH}{c:Cfg}(ag:AG nt F L hh c){k:Chk}(hk:okC loc e tr F k=true):qeO e cs c k=true:=by
 unfold okC at hk
 unfold qeO
 split at hk
 ·rename_i n a hop
  rw[hop]
  split at hk<;>try (cases hk;done)
  rename_i u ha
  have hu:=qdB ag.f ha
  simp only[qjw,hu]
  simp only[qaT] at hk
  cases hloc:qfN loc a with
  |true=>
   rw[hloc] at hk
   simp only[cond_true] at hk
   unfold okV at hk
   split at hk
   ·simp only[zaj] at hk⊢
    intro ⟨j,kd⟩ hj
    rcases qqS h hu (hk ⟨j,kd⟩ hj) with h1|h1
    ·simp only at h1
     simp only[h1,Bool.true_or]
    ·simp only at h1
     simp only[h1,Bool.or_true]
   ·rfl
   ·cases hk
  |false=>
   rw[hloc] at hk
   simp only[cond_false] at hk
   unfold okW at hk
   split at hk
   ·unfold okQ at hk
    simp only[zaj] at hk⊢
    intro ⟨j,kd⟩ hj
    have:=qn0 h (qqU hu) (hk ⟨j,kd⟩ hj)
    simp only at this
    simp only[this,Bool.or_true]
   ·rfl
   ·rfl
   ·rfl
   ·cases hk
 ·rename_i op hno
  simp only[qaT] at hk
  cases hr:qbz k.op with
  |false=>rw[hr] at hk;cases hk
  |true=>
   rw[hr] at hk
   simp only[cond_true] at hk
   split at hk<;>try (cases hk;done)
   rename_i i hi
   have hlp:qpx k.op=false/\qaU k.op=false:=by
    cases ho:k.op<;>rw[ho] at hr hno<;>first|exact⟨rfl,rfl⟩|(cases hr;done)|exact absurd rfl (hno _ _)
   have had:qjw c.f k.op=2:=by
    cases ho:k.op<;>rw[ho] at hr hno<;>first|rfl|(cases hr;done)|exact absurd rfl (hno _ _)
   rw[had]
   unfold okQ at hk
   simp only[zaj] at hk⊢
   intro ⟨j,kd⟩ hj
   have:=qn0 h (qqT ag.f hlp.1 hlp.2 hi) (hk ⟨j,kd⟩ hj)
   simp only at this
   simp only[this,Bool.or_true]
theorem qkK {al:Nat}:∀{pre:List (Nat×List zA)} {L L0:LL} {l:Tr (Nat×List zA)},qpP pre L=some L0->LA L l->
  LA L0 (preL l pre)/\(∀i,(preL l pre).has i=l.has i)/\∀i,tb (qpr pre) i=false->(preL l pre).get (0,[]) i=l.get (0,[]) i
 |[],L,L0,l,h,hl=>by
  simp only[qpP,zaa] at h
  subst h
  exact⟨hl,fun _=>rfl,fun _ _=>rfl⟩
 |(i,zs)::r,L,L0,l,h,hl=>by
  simp only[qpP] at h
  split at h<;>try (cases h;done)
  rename_i p hp
  obtain⟨h1,h2⟩:=hl i p hp
  have hl':=LA.set hl h2 (p.1+1,zs)
  obtain⟨k1,k2,k3⟩:=qkK (al:=al) h hl'
  have e:preL l ((i,zs)::r)=preL (l.set i (p.1+1,zs)) r:=by
   simp only[preL,h1]
  rw[e]
  refine⟨k1,fun j=>by rw[k2,Tr.has_set],fun j hj=>?_⟩
  simp only[qpr,List.foldr_cons] at hj
  obtain⟨h3,h4⟩:=qhm hj
  rw[k3 j h4,Tr.get_set_ne _ _ _ _ _ (qbd h3)]
theorem KP.sub {a b:Ef}{c c':Cfg}(h:KP a c c')(h1:∀t,tb b.d t=false->tb a.d t=false)(h2:∀t,tb b.al t=false->tb a.al t=false)(h3:b.st=false->a.st=false)(h4:b.cs=false->a.cs=false):KP b c c':=
 ⟨fun t ht=>h.f t (h1 t ht),fun i hi=>h.g i (h2 i hi),fun hs i hi=>h.l (h3 hs) i (h2 i hi),fun hs=>h.s (h4 hs),h.rd,h.hf,h.hl⟩
theorem qqW {nt:Nat}{pre hpre:List (Nat×List zA)}{F:FL}{L L0:LL}{h:HH}{c:Cfg}{s0:ASt}{h0:HH}(ag:AG nt F L h c)(hp:qpP pre L=some L0)(hh:preH c.s hpre=(s0,h0)):
  AG nt F L0 h0 {c with l:=preL c.l pre,h:=h0,s:=s0}/\KP ⟨0,qpr pre,false,!hpre.isEmpty⟩ c {c with l:=preL c.l pre,h:=h0,s:=s0}:=by
 obtain⟨h1,h2,h3⟩:=qkK (al:=0) hp ag.l
 refine⟨⟨ag.f,h1,fun _ _ h=>h,ag.hf⟩,⟨fun _ _=>rfl,fun i hi=>by rw[show({c with l:=preL c.l pre,h:=h0,s:=s0}:Cfg).l=preL c.l pre from rfl,h3 i hi],fun _ i hi=>h3 i hi,fun hs=>?_,rfl,fun _=>rfl,h2⟩⟩
 simp only[Bool.not_eq_false',List.isEmpty_iff] at hs
 subst hs
 simp only[preH,zad] at hh
 exact hh.1.symm
theorem qil {e:Env}{n:Nat}{a:CC}{nt:Nat}{ef:Ef}{k:KC}{r:zA×ASt}{T:Type}{base:Cfg}{z:T}{f:T->T}{enter:T->Cfg->Res}
  (hz:∀c r',enter z c≠some r')
  (hf:∀ih c,KP ef base c->enter (f ih) c=some r->∃x c',qaZ e n a c=some (x,c')/\KP ef base c'/\((x=.normal/\enter ih c'=some r)\/(x≠.normal/\∃F L h,AG nt F L h c'/\k x F L h c'.s=some r))):
  ∀m c,KP ef base c->enter (lp z f m) c=some r->∃x c',qfg m (qaZ e n a) c=some (x,c')/\KP ef base c'/\x≠.normal/\∃F L h,AG nt F L h c'/\k x F L h c'.s=some r
 |0,c,_,h=>absurd h (hz c r)
 |m+1,c,kp,h=>by
  obtain⟨x,c',h1,h2,h3⟩:=hf (lp z f m) c kp h
  have e1:qfg (m+1) (qaZ e n a) c=(qaZ e n a c).bind fun r=>match r with
   |(.normal,c)=>qfg m (qaZ e n a) c
   |r=>some r:=rfl
  rw[e1,h1]
  rcases h3 with⟨rfl,h4⟩|⟨hx,h4⟩
  ·exact qil hz hf m c' h2 h4
  ·cases x with
   |normal=>exact absurd rfl hx
   |exit i=>exact⟨.exit i,c',rfl,h2,hx,h4⟩
   |ret=>exact⟨.ret,c',rfl,h2,hx,h4⟩
theorem qim {F:FL}{g:Nat->zA}(hF:∀t v,qap F t=some v->g t=v):∀{vs:List Nat} {xs:List zA},qif F vs=some xs->xs=vs.map g
 |[],xs,h=>by
  simp only[qif,zaa] at h
  subst h;rfl
 |u::r,xs,h=>by
  simp only[qif] at h
  split at h<;>try (cases h;done)
  rename_i x hx
  split at h<;>try (cases h;done)
  rename_i l hl
  simp only[zaa] at h
  subst h
  rw[qim hF hl,zaC,hF u x hx]
theorem qin {L:LL}{g:Nat->Nat×List zA}(hL:∀t v,qap L t=some v->g t=v):∀{vs:List Nat} {xs:List Nat},qgV L vs=some xs->xs=vs.map fun i=>(g i).1
 |[],xs,h=>by
  simp only[qgV,zaa] at h
  subst h;rfl
 |u::r,xs,h=>by
  simp only[qgV] at h
  split at h<;>try (cases h;done)
  rename_i x hx
  split at h<;>try (cases h;done)
  rename_i l hl
  simp only[zaa] at h
  subst h
  rw[qin hL hl,zaC,hL u x hx]
theorem qio {L:LL}{g:Nat->Nat×List zA}(hL:∀t v,qap L t=some v->g t=v):∀{vs:List Nat} {xs:List (List zA)},qgW L vs=some xs->xs=vs.map fun i=>(g i).2
 |[],xs,h=>by
  simp only[qgW,zaa] at h
  subst h;rfl
 |u::r,xs,h=>by
  simp only[qgW] at h
  split at h<;>try (cases h;done)
  rename_i x hx
  split at h<;>try (cases h;done)
  rename_i l hl
  simp only[zaa] at h
  subst h
  rw[qio hL hl,zaC,hL u x hx]
theorem qip {L:LL}:∀{vs:List Nat} {xs:List Nat},qgV L vs=some xs->∀t∈vs,∃v,qap L t=some v
 |[],_,_,t,ht=>by cases ht
 |u::r,xs,h,t,ht=>by
  simp only[qgV] at h
  split at h<;>try (cases h;done)
  rename_i x hx
  split at h<;>try (cases h;done)
  rename_i l hl
  rcases zaO.1 ht with rfl|ht
  ·exact⟨x,hx⟩
  ·exact qip hl t ht
theorem qiq {L:LL}:∀{vs:List Nat} {xs:List (List zA)},qgW L vs=some xs->∀t∈vs,∃v,qap L t=some v
 |[],_,_,t,ht=>by cases ht
 |u::r,xs,h,t,ht=>by
  simp only[qgW] at h
  split at h<;>try (cases h;done)
  rename_i x hx
  split at h<;>try (cases h;done)
  rename_i l hl
  rcases zaO.1 ht with rfl|ht
  ·exact⟨x,hx⟩
  ·exact qiq hl t ht
theorem qdj {α:Type}(g:Nat->α):∀{us:List Nat} {t:Nat},t∈us->qap (us.map fun t=>(t,g t)) t=some (g t)
 |[],t,h=>by cases h
 |u::r,t,h=>by
  rw[zaC,qak]
  split
  ·rename_i e;subst e;rfl
  ·rename_i e
   rcases zaO.1 h with h|h
   ·exact absurd h.symm e
   ·exact qdj g h
theorem qcO {α:Type}(g:Nat->α):∀{us:List Nat} {t:Nat} {v:α},qap (us.map fun t=>(t,g t)) t=some v->g t=v
 |[],t,v,h=>by cases h
 |u::r,t,v,h=>by
  rw[zaC,qak] at h
  split at h
  ·rename_i e
   simp only[zaa] at h
   subst e;exact h
  ·exact qcO g h
theorem qir {F:FL}{g:Nat->zA}:∀{us:List Nat},(∀t∈us,qap F t=some (g t))->qif F us=some (us.map g)
 |[],_=>rfl
 |u::r,h=>by
  simp only[qif,h u (List.mem_cons_self ..),qir fun t ht=>h t (List.mem_cons_of_mem _ ht),zaC]
theorem qis {L:LL}{g:Nat->Nat×List zA}:∀{us:List Nat},(∀t∈us,qap L t=some (g t))->qgV L us=some (us.map fun i=>(g i).1)
 |[],_=>rfl
 |u::r,h=>by
  simp only[qgV,h u (List.mem_cons_self ..),qis fun t ht=>h t (List.mem_cons_of_mem _ ht),zaC]
theorem qit {L:LL}{g:Nat->Nat×List zA}:∀{us:List Nat},(∀t∈us,qap L t=some (g t))->qgW L us=some (us.map fun i=>(g i).2)
 |[],_=>rfl
 |u::r,h=>by
  simp only[qgW,h u (List.mem_cons_self ..),qit fun t ht=>h t (List.mem_cons_of_mem _ ht),zaC]
theorem qcY (g:Nat->Nat×List zA):∀{L:LL} {t:Nat} {p:Nat×List zA},qap L t=some p->qap (L.map fun p=>(p.1,g p.1)) t=some (g t)
 |[],t,p,h=>by cases h
 |(u,q)::r,t,p,h=>by
  rw[qak] at h
  rw[zaC,qak]
  split at h
  ·rename_i e
   simp only
   rw[if_pos e,e]
  ·rename_i e
   rw[if_neg e]
   exact qcY g h
theorem qeI (g:Nat->Nat×List zA):∀{L:LL} {t:Nat} {q:Nat×List zA},qap (L.map fun p=>(p.1,g p.1)) t=some q->(∃p,qap L t=some p)/\q=g t
 |[],t,q,h=>by cases h
 |(u,p)::r,t,q,h=>by
  rw[zaC,qak] at h
  rw[qak]
  split at h
  ·rename_i e
   simp only[zaa] at h
   simp only at e
   subst e
   exact⟨⟨p,by rw[if_pos rfl]⟩,h.symm⟩
  ·rename_i e
   rw[if_neg e]
   exact qeI g h
theorem qmQ {nt nl n:Nat}{ef:Ef}{lv:Nat}{F:FL}{L:LL}{h:HH}{c:Cfg}{body:FL->LL->ASt->KN->Res}{r:zA×ASt}{e:Env}{a:CC}{k:KC}(ag:AG nt F L h c)(hk:qpv nt nl n ef lv F L c.s body=some r)
  (hb:∀{F1 L1 c1} {j:KN},AG nt F1 L1 [] c1->KP ef c c1->body F1 L1 c1.s j=some r->∃x c' F2 L2 h2,qaZ e n a c1=some (x,c')/\KP ef c1 c'/\AG nt F2 L2 h2 c'/\((x=.normal/\j F2 L2 h2 c'.s=some r)\/(x≠.normal/\k x F2 L2 h2 c'.s=some r))):
  ∃x c',qfg n (qaZ e n a) c=some (x,c')/\KP ef c c'/\x≠.normal/\∃F2 L2 h2,AG nt F2 L2 h2 c'/\k x F2 L2 h2 c'.s=some r:=by
 unfold qpv at hk
 simp only at hk
 generalize hvs:qaL (Nat.land lv ef.d) 0 nt=vs at hk
 generalize hgl:qaL ef.al 0 nl=gl at hk
 generalize hcl:cond ef.st (qaL (qpr (L.map fun x=>(x.1,[]))) 0 nl) gl=cl at hk
 generalize hF0:qfP (qeA lv ef.d) F (qaL lv 0 nt)=F0 at hk
 split at hk<;>try (cases hk;done)
 rename_i xs hx
 split at hk<;>try (cases hk;done)
 rename_i gs hg
 split at hk<;>try (cases hk;done)
 rename_i cs hc
 let enter:Fn zA vs.length (Fn Nat gl.length (Fn (List zA) cl.length (FnS ef.cs Res)))->Cfg->Res:=fun f c1=>
  match (vs.map fun t=>c1.f.get qag t,gl.map fun i=>(c1.l.get (0,[]) i).1,cl.map fun i=>(c1.l.get (0,[]) i).2) with
  |(xs,gs,cs)=>qpO ef.cs (qfO [] cl.length (qfO 0 gl.length (qfO qag vs.length f xs) gs) cs) c1.s
 have same:∀{F1 L1 h1 c1 xs gs cs},AG nt F1 L1 h1 c1->qif F1 vs=some xs->qgV L1 gl=some gs->qgW L1 cl=some cs->∀f,qpO ef.cs (qfO [] cl.length (qfO 0 gl.length (qfO qag vs.length f xs) gs) cs) c1.s=enter f c1:=by
  intro F1 L1 h1 c1 xs gs cs ag1 h1 h2 h3 f
  have e1:=qim (g:=fun t=>c1.f.get qag t) ag1.f h1
  have e2:=qin (g:=fun i=>c1.l.get (0,[]) i) (fun i p hi=>(ag1.l i p hi).1) h2
  have e3:=qio (g:=fun i=>c1.l.get (0,[]) i) (fun i p hi=>(ag1.l i p hi).1) h3
  subst e1;subst e2;subst e3
  rfl
 rw[same ag hx hg hc] at hk
 have head:∀{c1},KP ef c c1->∃xs' gs' cs',xs'=vs.map (fun t=>c1.f.get qag t)/\gs'=gl.map (fun i=>(c1.l.get (0,[]) i).1)/\cs'=cl.map (fun i=>(c1.l.get (0,[]) i).2)/\
   AG nt (qps vs xs' F0) (qlz L ef.al (qpt gl gs') cl cs'++cond ef.st [] (qgI ef.al L)) [] c1:=by
  intro c1 kp
  refine⟨_,_,_,rfl,rfl,rfl,?_⟩
  subst hF0
  refine qkI (F1:=vs.map fun t=>(t,c1.f.get qag t)) (L1:=L.map fun p=>(p.1,c1.l.get (0,[]) p.1)) (h1:=[]) ag ⟨fun t v hv=>qcO _ hv,fun i p hp=>?_,fun d l hd=>(by cases hd),fun t ht=>by rw[kp.hf];exact ag.hf t ht⟩ kp
   (qir fun t ht=>qdj _ ht) (qis fun t ht=>?_) (qit fun t ht=>?_)
  ·obtain⟨⟨q,hq⟩,e⟩:=qeI _ hp
   exact⟨e.symm,by rw[kp.hl];exact(ag.l i q hq).2⟩
  ·obtain⟨p,hp⟩:=qip hg t ht
   exact qcY (fun i=>c1.l.get (0,[]) i) hp
  ·obtain⟨p,hp⟩:=qiq hc t ht
   exact qcY (fun i=>c1.l.get (0,[]) i) hp
 refine qil (z:=_) (f:=_) (enter:=enter) ?_ ?_ n c (KP.refl _ _) hk
 ·intro c1 r' h
  simp only[enter] at h
  rw[qa5 _ _ _ _ (by simp),qa5 _ _ _ _ (by simp),qa5 _ _ _ _ (by simp)] at h
  cases hs:ef.cs with
  |true=>rw[hs] at h;cases h
  |false=>rw[hs] at h;cases h
 ·intro ih c1 kp h
  obtain⟨xs',gs',cs',e1,e2,e3,ag1⟩:=head kp
  simp only[enter] at h
  rw[<-e1,<-e2,<-e3,qa5 _ _ _ _ (by rw[e1];simp),qa5 _ _ _ _ (by rw[e2];simp),qa5 _ _ _ _ (by rw[e3];simp),qgM kp] at h
  obtain⟨x,c',F2,L2,h2,k1,k2,k3,k4⟩:=hb ag1 kp h
  refine⟨x,c',k1,kp.trans k2,?_⟩
  rcases k4 with⟨rfl,k4⟩|⟨hx',k4⟩
  ·left
   refine⟨rfl,?_⟩
   split at k4<;>try (cases k4;done)
   rename_i ys hy
   split at k4<;>try (cases k4;done)
   rename_i zs hz
   split at k4<;>try (cases k4;done)
   rename_i ws hw
   rw[same k3 hy hz hw] at k4
   exact k4
  ·exact .inr ⟨hx',F2,L2,h2,k3,k4⟩
end Go.AI
namespace Go.AI
theorem qbX {loc nt nl:Nat}{e:Env}{n:Nat}:∀(cc:CC) {nrm:Nat} {ex:List (Nat×Nat)} {rt:Nat} {F:FL} {L:LL} {h:HH} {c:Cfg} {k:KC} {r:zA×ASt},AG nt F L h c->qeT loc nt nl e n cc nrm ex rt F L h c.s k=some r->
  ∃x c' F' L' h',qaZ e n cc c=some (x,c')/\KP (qhj loc cc) c c'/\AG nt F' L' h' c'/\k x F' L' h' c'.s=some r
 |.skip,nrm,ex,rt,F,L,h,c,k,r,ag,hk=>by
  simp only[qeT,qaT] at hk
  exact⟨.normal,c,F,L,h,rfl,KP.refl _ _,ag,hk⟩
 |.reg ops,nrm,ex,rt,F,L,h,c,k,r,ag,hk=>by
  simp only[qeT,qaT] at hk
  cases hg:qeC ops with
  |true=>
   rw[hg] at hk
   simp only[cond_true] at hk
   obtain⟨j,hj,hjn⟩:=qdZ ag hk
   obtain⟨cN,tr,F1,L1,trl,k1,k2,k3,k3',k4,k5,k6,k7,k8⟩:=qdC ops ag (fun t ht=>by rw[qdA] at ht;cases ht) hj
   obtain⟨F2,L2,k9,k10⟩:=hjn k4 k6 k5
   exact⟨.normal,cN,F2,L2,[],by rw[qaZ,k1];rfl,k6,k9,k10⟩
  |false=>
   rw[hg] at hk
   simp only[cond_false] at hk
   obtain⟨cN,tr,F1,L1,trl,k1,k2,k3,k3',k4,k5,k6,k7,k8⟩:=qdC ops ag (fun t ht=>by rw[qdA] at ht;cases ht) hk
   exact⟨.normal,cN,F1,L1,h,by rw[qaZ,k1];rfl,k6,k4,k5⟩
 |.regd pre hpre ops chk,nrm,ex,rt,F,L,h,c,k,r,ag,hk=>by
  simp only[qeT,qaT] at hk
  split at hk<;>try (cases hk;done)
  rename_i L0 hL0
  generalize hph:preH c.s hpre=sh at hk
  obtain⟨s0,h0⟩:=sh
  simp only at hk
  obtain⟨ag0,kp0⟩:=qqW ag hL0 hph
  have e0:qaZ e n (.regd pre hpre ops chk) c=(qa2 e ops {c with l:=preL c.l pre,h:=h0,s:=s0}).bind fun tr=>match qbl c tr with
   |last=>cond (chk.all (qeO e tr last)) (some (.normal,last)) none:=by
   rw[qaZ,hph]
  have fin:∀{cN tr F1 L1 trl},qa2 e ops {c with l:=preL c.l pre,h:=h0,s:=s0}=some tr->(∀d,qbl d tr=cN)->AG nt F1 L1 h0 cN->TA trl tr->chk.all (okC loc e trl F1)=true->qaZ e n (.regd pre hpre ops chk) c=some (.normal,cN):=by
   intro cN tr F1 L1 trl k2 k3 k4 k8 hc
   rw[e0,k2,zar,k3]
   have:chk.all (qeO e tr cN)=true:=by
    rw[zaj] at hc⊢
    exact fun q hq=>qqV k8 k4 (hc q hq)
   show cond (chk.all (qeO e tr cN)) (some (EX.normal,cN)) none=_
   rw[this,cond_true]
  cases hg:qeC ops with
  |true=>
   rw[hg] at hk
   simp only[cond_true] at hk
   obtain⟨j,hj,hjn⟩:=qdZ ag0 hk
   obtain⟨cN,tr,F1,L1,trl,k1,k2,k3,k3',k4,k5,k6,k7,k8⟩:=qdC ops ag0 (fun t ht=>by rw[qdA] at ht;cases ht) hj
   obtain⟨hc,k5⟩:=qac k5
   obtain⟨F2,L2,k9,k10⟩:=hjn k4 k6 k5
   exact⟨.normal,cN,F2,L2,[],fin k2 k3' k4 k8 hc,kp0.right.trans k6.left,k9,k10⟩
  |false=>
   rw[hg] at hk
   simp only[cond_false] at hk
   obtain⟨cN,tr,F1,L1,trl,k1,k2,k3,k3',k4,k5,k6,k7,k8⟩:=qdC ops ag0 (fun t ht=>by rw[qdA] at ht;cases ht) hk
   obtain⟨hc,k5⟩:=qac k5
   exact⟨.normal,cN,F1,L1,h0,fin k2 k3' k4 k8 hc,kp0.right.trans k6.left,k4,k5⟩
 |.seq a b,nrm,ex,rt,F,L,h,c,k,r,ag,hk=>by
  simp only[qeT,qaT] at hk
  obtain⟨x,c1,F1,L1,h1,k1,k2,k3,k4⟩:=qbX a ag hk
  cases x with
  |normal=>
   obtain⟨y,c2,F2,L2,h2,k5,k6,k7,k8⟩:=qbX b k3 k4
   exact⟨y,c2,F2,L2,h2,by rw[qaZ,k1];exact k5,k2.left.trans k6.right,k7,k8⟩
  |exit i=>exact⟨.exit i,c1,F1,L1,h1,by rw[qaZ,k1];rfl,k2.left,k3,k4⟩
  |ret=>exact⟨.ret,c1,F1,L1,h1,by rw[qaZ,k1];rfl,k2.left,k3,k4⟩
 |.cond x a b,nrm,ex,rt,F,L,h,c,k,r,ag,hk=>by
  simp only[qeT,qaT] at hk
  split at hk<;>try (cases hk;done)
  rename_i v hv
  have hx:=qdB ag.f hv
  cases hf:(qeB a&&qeB b) with
  |true=>
   rw[hf] at hk
   simp only[cond_true] at hk
   obtain⟨j,hj,hjn⟩:=qdZ ag hk
   obtain⟨t,hcv,hj⟩:=qeD hj
   subst hcv
   cases t with
   |true=>
    try simp only[cond_true] at hj
    obtain⟨y,c1,F1,L1,h1,k1,k2,k3,k4⟩:=qbX a ag hj
    cases y with
    |normal=>
     obtain⟨F2,L2,k5,k6⟩:=hjn k3 k2.left k4
     exact⟨.normal,c1,F2,L2,[],by rw[qaZ,hx];exact k1,k2.left,k5,k6⟩
    |exit i=>exact⟨.exit i,c1,F1,L1,h1,by rw[qaZ,hx];exact k1,k2.left,k3,k4⟩
    |ret=>exact⟨.ret,c1,F1,L1,h1,by rw[qaZ,hx];exact k1,k2.left,k3,k4⟩
   |false=>
    try simp only[cond_false] at hj
    obtain⟨y,c1,F1,L1,h1,k1,k2,k3,k4⟩:=qbX b ag hj
    cases y with
    |normal=>
     obtain⟨F2,L2,k5,k6⟩:=hjn k3 k2.right k4
     exact⟨.normal,c1,F2,L2,[],by rw[qaZ,hx];exact k1,k2.right,k5,k6⟩
    |exit i=>exact⟨.exit i,c1,F1,L1,h1,by rw[qaZ,hx];exact k1,k2.right,k3,k4⟩
    |ret=>exact⟨.ret,c1,F1,L1,h1,by rw[qaZ,hx];exact k1,k2.right,k3,k4⟩
  |false=>
   rw[hf] at hk
   simp only[cond_false] at hk
   obtain⟨t,hcv,hk⟩:=qeD hk
   subst hcv
   cases t with
   |true=>
    try simp only[cond_true] at hk
    obtain⟨y,c1,F1,L1,h1,k1,k2,k3,k4⟩:=qbX a ag hk
    exact⟨y,c1,F1,L1,h1,by rw[qaZ,hx];exact k1,k2.left,k3,k4⟩
   |false=>
    try simp only[cond_false] at hk
    obtain⟨y,c1,F1,L1,h1,k1,k2,k3,k4⟩:=qbX b ag hk
    exact⟨y,c1,F1,L1,h1,by rw[qaZ,hx];exact k1,k2.right,k3,k4⟩
 |.block id a,nrm,ex,rt,F,L,h,c,k,r,ag,hk=>by
  simp only[qeT,qaT] at hk
  cases hf:Nat.blt 1 (exN id a+cond (qeB a) 1 0) with
  |true=>
   rw[hf] at hk
   simp only[cond_true] at hk
   obtain⟨j,hj,hjn⟩:=qdZ ag hk
   obtain⟨y,c1,F1,L1,h1,k1,k2,k3,k4⟩:=qbX a ag hj
   cases y with
   |normal=>
    obtain⟨F2,L2,k5,k6⟩:=hjn k3 k2 k4
    exact⟨.normal,c1,F2,L2,[],by rw[qaZ,k1];rfl,k2,k5,k6⟩
   |exit i=>
    simp only at k4
    cases hi:Nat.beq i id with
    |true=>
     rw[hi] at k4
     obtain⟨F2,L2,k5,k6⟩:=hjn k3 k2 k4
     exact⟨.normal,c1,F2,L2,[],by rw[qaZ,k1];simp only[zao,hi,cond_true],k2,k5,k6⟩
    |false=>
     rw[hi] at k4
     exact⟨.exit i,c1,F1,L1,h1,by rw[qaZ,k1];simp only[zao,hi,cond_false],k2,k3,k4⟩
   |ret=>exact⟨.ret,c1,F1,L1,h1,by rw[qaZ,k1];rfl,k2,k3,k4⟩
  |false=>
   rw[hf] at hk
   simp only[cond_false] at hk
   obtain⟨y,c1,F1,L1,h1,k1,k2,k3,k4⟩:=qbX a ag hk
   cases y with
   |normal=>exact⟨.normal,c1,F1,L1,h1,by rw[qaZ,k1];rfl,k2,k3,k4⟩
   |exit i=>
    simp only at k4
    cases hi:Nat.beq i id with
    |true=>
     rw[hi] at k4
     exact⟨.normal,c1,F1,L1,h1,by rw[qaZ,k1];simp only[zao,hi,cond_true],k2,k3,k4⟩
    |false=>
     rw[hi] at k4
     exact⟨.exit i,c1,F1,L1,h1,by rw[qaZ,k1];simp only[zao,hi,cond_false],k2,k3,k4⟩
   |ret=>exact⟨.ret,c1,F1,L1,h1,by rw[qaZ,k1];rfl,k2,k3,k4⟩
 |.loop a,nrm,ex,rt,F,L,h,c,k,r,ag,hk=>by
  simp only[qeT,qaT] at hk
  obtain⟨x,c',k1,k2,k3,F2,L2,h2,k4,k5⟩:=qmQ (e:=e) (a:=a) (k:=k) ag hk (by
   intro F1 L1 c1 j ag1 kp hj
   obtain⟨y,c2,F2,L2,h2,m1,m2,m3,m4⟩:=qbX a ag1 hj
   refine⟨y,c2,F2,L2,h2,m1,m2,m3,?_⟩
   cases y with
   |normal=>exact .inl ⟨rfl,m4⟩
   |exit i=>exact .inr ⟨(fun e=>by cases e),m4⟩
   |ret=>exact .inr ⟨(fun e=>by cases e),m4⟩)
  exact⟨x,c',F2,L2,h2,by rw[qaZ];exact k1,k2,k4,k5⟩
 |.rangeFunc f ps a b,nrm,ex,rt,F,L,h,c,k,r,ag,hk=>by cases hk
 |.exit id,nrm,ex,rt,F,L,h,c,k,r,ag,hk=>by
  simp only[qeT,qaT] at hk
  exact⟨.exit id,c,F,L,h,rfl,KP.refl _ _,ag,hk⟩
 |.ret,nrm,ex,rt,F,L,h,c,k,r,ag,hk=>by
  simp only[qeT,qaT] at hk
  exact⟨.ret,c,F,L,h,rfl,KP.refl _ _,ag,hk⟩
 |.bad,nrm,ex,rt,F,L,h,c,k,r,ag,hk=>by
  simp only[qeT,qaT] at hk;cases hk
theorem qqX {cs:List zA}{off:Nat}{n:Option Nat}{v:zA}(h:ldL cs off n=some v):∃ds,cut cs off (cnt n)=some ds/\zA.ofCells n ds=some v:=by
 unfold ldL at h
 simp only[qeF] at h
 cases n with
 |none=>
  simp only at h
  split at h<;>try (cases h;done)
  rename_i w hw
  exact⟨[w],hw,h⟩
 |some m=>
  simp only at h
  split at h<;>try (cases h;done)
  rename_i w hw
  exact⟨w,hw,h⟩
theorem qiu {loc nt:Nat}{e:Env}{F:FL}{L:LL}{h:HH}{c:Cfg}(ag:AG nt F L h c):∀(rs:List RV) {k:List zA->Res} {r:zA×ASt},rvK loc e F L c.s rs k=some r->∃l,rvs e c rs=some l/\k l=some r
 |[],k,r,hk=>⟨[],rfl,hk⟩
 |.t n::rs,k,r,hk=>by
  simp only[rvK,qaT] at hk
  split at hk<;>try (cases hk;done)
  rename_i v hv
  obtain⟨l,h1,h2⟩:=qiu ag rs hk
  exact⟨v::l,by rw[rvs,h1,ag.f n v hv];rfl,h2⟩
 |.l a n::rs,k,r,hk=>by
  simp only[rvK,qaT] at hk
  split at hk<;>try (cases hk;done)
  rename_i v hv
  have hav:=ag.f a v hv
  have fin:∀{u},(qay e.E c.l c.s v (cnt n)).bind (zA.ofCells n)=some u->rvK loc e F L c.s rs (fun l=>k (u::l))=some r->∃l,rvs e c (.l a n::rs)=some l/\k l=some r:=by
   intro u hu hk
   obtain⟨l,h1,h2⟩:=qiu ag rs hk
   refine⟨u::l,?_,h2⟩
   simp only[zac] at hu
   obtain⟨cs,hcs,hu⟩:=hu
   rw[rvs,hav,hcs,zar,hu,zar,h1]
   rfl
  cases hl:tb loc a with
  |true=>
   rw[hl] at hk
   simp only[cond_true] at hk
   split at hk<;>try (cases hk;done)
   rename_i i g off
   split at hk<;>try (cases hk;done)
   rename_i p hp
   obtain⟨hg,hk⟩:=qac hk
   simp only[zac] at hk
   obtain⟨u,hu,hk⟩:=hk
   obtain⟨ds,h1,h2⟩:=qqX hu
   refine fin ?_ hk
   simp only[qay,(ag.l i p hp).1,hg,cond_true,h1,zar,h2]
  |false=>
   rw[hl] at hk
   simp only[cond_false,zac] at hk
   obtain⟨u,hu,hk⟩:=hk
   exact fin (qnW hu) hk
theorem qeJ (d:Nat):∀(args:List zA) (f:Tr zA) (i:Nat),(∀j,j<i+args.length->f.has j=true)->(∀t v,qap (qqH i args) t=some v->(qaQ f i args).get qag t=v)/\(∀t,t<i->(qaQ f i args).get qag t=f.get qag t)/\∀t,(qaQ f i args).has t=f.has t
 |[],f,i,_=>⟨fun t v h=>(by cases h),fun _ _=>rfl,fun _=>rfl⟩
 |v::r,f,i,hh=>by
  obtain⟨h1,h2,h3⟩:=qeJ d r (f.set i v) (i+1) fun j hj=>by
   rw[Tr.has_set]
   exact hh j (by simp only[List.length_cons];omega)
  refine⟨fun t x hx=>?_,fun t ht=>?_,fun t=>?_⟩
  ·simp only[qqH] at hx
   rw[qak] at hx
   split at hx
   ·rename_i e
    simp only[zaa] at hx
    subst e;subst hx
    show(qaQ (f.set i v) (i+1) r).get qag i=v
    rw[h2 i (by omega)]
    exact Tr.get_set_eq _ _ _ _ (hh i (by simp only[List.length_cons];omega))
   ·exact h1 t x hx
  ·show(qaQ (f.set i v) (i+1) r).get qag t=_
   rw[h2 t (by omega),Tr.get_set_ne _ _ _ _ _ (by omega)]
  ·show(qaQ (f.set i v) (i+1) r).has t=_
   rw[h3,Tr.has_set]
theorem qcZ {m:Nat}:∀{k i x:Nat},x∈qaL m i k->x<i+k
 |0,i,x,h=>by cases h
 |k+1,i,x,h=>by
  simp only[qaL] at h
  cases hb:tb m i with
  |true=>
   rw[hb] at h
   rcases zaO.1 h with h|h
   ·omega
   ·have:=qcZ h;omega
  |false=>
   rw[hb] at h
   have:=qcZ h;omega
theorem qiT {al k:Nat}{i:Nat}{p:Nat×List zA}(h:qap ((qaL al 0 k).map fun i=>(i,((0,[]):Nat×List zA))) i=some p):p=(0,[])/\i<k:=by
 have:∀(us:List Nat),qap (us.map fun i=>(i,((0,[]):Nat×List zA))) i=some p->p=(0,[])/\i∈us:=by
  intro us hu
  induction us with
  |nil=>cases hu
  |cons u r ih=>
   rw[zaC,qak] at hu
   split at hu
   ·rename_i e
    simp only[zaa] at hu
    exact⟨hu.symm,by rw[<-e];exact List.mem_cons_self ..⟩
   ·obtain⟨h1,h2⟩:=ih hu
    exact⟨h1,List.mem_cons_of_mem _ h2⟩
 obtain⟨h1,h2⟩:=this _ h
 have:=qcZ h2
 exact⟨h1,by omega⟩
theorem qmR {cf:CF}{e:Env}{n:Nat}{args:List zA}{s s':ASt}{v:zA}(hn:args.length<2^cf.depth)(h:qad cf e n args s=some (v,s')):
  ∃r,qaZ e n cf.body ⟨qaQ (Tr.mk qag cf.depth) 0 args,Tr.mk (0,[]) cf.ldepth,[],none,s⟩=some r/\qfh e cf r=some v/\r.2.s=s':=by
 unfold qad at h
 have hm:∀j,j<2^cf.depth-1->(Tr.mk qag cf.depth).has j=true:=fun j hj=>Tr.has_mk _ _ _ (by omega)
 obtain⟨k1,k2,k3⟩:=qeJ 0 args (Tr.mk qag cf.depth) 0 fun j hj=>hm j (by omega)
 let c0:Cfg:=⟨qaQ (Tr.mk qag cf.depth) 0 args,Tr.mk (0,[]) cf.ldepth,[],none,s⟩
 have ag:AG (2^cf.depth-1) (qqH 0 args) ((qaL (qhj (qgG cf.body 0) cf.body).al 0 (2^cf.ldepth-1)).map fun i=>(i,(0,[]))) [] c0:=by
  refine⟨k1,fun i p hp=>?_,fun d l hd=>(by cases hd),fun t ht=>by rw[show c0.f=qaQ (Tr.mk qag cf.depth) 0 args from rfl,k3];exact hm t ht⟩
  obtain⟨e1,e2⟩:=qiT hp
  subst e1
  exact⟨Tr.get_mk _ _ _,Tr.has_mk _ _ _ (by omega)⟩
 obtain⟨x,c1,F1,L1,h1,m1,m2,m3,m4⟩:=qbX (c:=c0) cf.body ag h
 refine⟨(x,c1),m1,?_⟩
 cases x with
 |exit i=>cases m4
 |normal=>
  obtain⟨l,h2,h3⟩:=qiu m3 cf.res m4
  simp only[zaa,zad] at h3
  exact⟨by simp only[qfh,h2,zao,h3.1],h3.2⟩
 |ret=>
  obtain⟨l,h2,h3⟩:=qiu m3 cf.res m4
  simp only[zaa,zad] at h3
  exact⟨by simp only[qfh,h2,zao,h3.1],h3.2⟩
end Go.AI
namespace Go.AI
variable {P:Program}
abbrev Bd:=Env->List zA->ASt->Res
noncomputable def qkL (bd:Nat->Option Bd):Sp:=fun e f args s=>match bd f with
 |some b=>bF (qky qrJ args) ((b e args s).bind fun r=>bF (awG r.1) (some r) none) none
 |none=>none
def qkM (c:Option CF)(np:Nat):Bool:=match c with
 |some cf=>!cf.pure&&(!cf.clone&&(cf.keepA&&(cf.keepR&&(Nat.beq np cf.np&&Nat.blt np (2^cf.depth)))))
 |none=>false
def qae (c:Option CF):CF:=match c with
 |some cf=>cf
 |none=>⟨0,0,0,false,false,false,false,.bad,[]⟩
theorem qkN {c:Option CF}{np:Nat}(h:qkM c np=true):∃cf,c=some cf/\qae c=cf/\cf.pure=false/\cf.clone=false/\cf.keepA=true/\cf.keepR=true/\np=cf.np/\np<2^cf.depth:=by
 unfold qkM at h
 split at h
 ·rename_i cf
  simp only[zae,zaH] at h
  obtain⟨h1,h2,h3,h4,h5,h6⟩:=h
  exact⟨cf,rfl,rfl,h1,h2,h3,h4,beq_iff.1 h5,blt_iff.1 h6⟩
 ·cases h
def qaj (CP:Nat->Option CF)(f:Nat)(b:Bd):Prop:=∃np,qkM (CP f) np=true/\∀e args s r,b e args s=some r->args.length=np/\∃n,qad (qae (CP f)) e n args s=some r
theorem qfV {CP:Nat->Option CF}(pk:ProgOK P CP){bd:Nat->Option Bd}(hb:∀f b,bd f=some b->qaj CP f b):SpOK P CP (qkL bd):=⟨by
 intro e se f args s v s' h
 unfold qkL at h
 split at h<;>try (cases h;done)
 rename_i b hbf
 obtain⟨np,hok,hb2⟩:=hb f b hbf
 obtain⟨cf,hcf,hcf2,hp,hcl,hkA,hkR,hnp,hdep⟩:=qkN hok
 simp only[qdh,qcX,qkD,qqM] at h
 obtain⟨haw,h⟩:=qac h
 simp only[zac] at h
 obtain⟨⟨v1,s1⟩,hrun,h⟩:=h
 obtain⟨hpl,h⟩:=qac h
 simp only[zaa,zad] at h
 obtain⟨rfl,rfl⟩:=h
 obtain⟨hlen,n,hbody⟩:=hb2 e args s _ hrun
 rw[hcf2] at hbody
 subst hnp
 refine⟨fun h2=>?_,?_⟩
 ·unfold qa3 at h2
  rw[hcf] at h2
  simp only[hp] at h2
  cases h2
 ·intro U pd l G w vs mr ha
  obtain⟨fn,fl,hf,hc,hname⟩:=pk.code f cf hcf
  obtain⟨body,hb,_⟩:=qb5 hc
  rw[qbc hf hb hname vs w]
  obtain⟨r,hr,hu,hs⟩:=qmR (by rw[hlen];exact hdep) hbody
  have h0:∀i,(Tr.mk ((0,[]):Nat×List zA) cf.ldepth).get (0,[]) i=(0,[]):=fun i=>Tr.get_mk _ _ _
  have mr0:=mr.sub h0
  refine CallsIn.mono (qj8 se pk.orders hf hc hlen mr0 ⟨ha.1,fun i c x hci hx=>moves_sub.atC (ha.2 i c x hci hx) (qaS haw hci)⟩ hr hu) fun ex w' ⟨x,h1,G',h2,h3,h4⟩=>⟨x,h1,?_⟩
  rw[hs] at h3
  exact qfy mr h2 h3 h4 hpl⟩
abbrev NL:Nat:=1000000
def B0 (g:Env->Nat->ASt->Res):Bd:=fun e l s=>match l with|[]=>g e NL s|_=>none
def B1 (g:Env->Nat->zA->ASt->Res):Bd:=fun e l s=>match l with|[a]=>g e NL a s|_=>none
def B2 (g:Env->Nat->zA->zA->ASt->Res):Bd:=fun e l s=>match l with|[a,b]=>g e NL a b s|_=>none
def B3 (g:Env->Nat->zA->zA->zA->ASt->Res):Bd:=fun e l s=>match l with|[a,b,c]=>g e NL a b c s|_=>none
def B4 (g:Env->Nat->zA->zA->zA->zA->ASt->Res):Bd:=fun e l s=>match l with|[a,b,c,d]=>g e NL a b c d s|_=>none
def B5 (g:Env->Nat->zA->zA->zA->zA->zA->ASt->Res):Bd:=fun e l s=>match l with|[a,b,c,d,x]=>g e NL a b c d x s|_=>none
def B6 (g:Env->Nat->zA->zA->zA->zA->zA->zA->ASt->Res):Bd:=fun e l s=>match l with|[a,b,c,d,x,y]=>g e NL a b c d x y s|_=>none
def B7 (g:Env->Nat->zA->zA->zA->zA->zA->zA->zA->ASt->Res):Bd:=fun e l s=>match l with|[a,b,c,d,x,y,z]=>g e NL a b c d x y z s|_=>none
section
variable {CP:Nat->Option CF} {f:Nat}
theorem qsk {g:Env->Nat->zA->zA->zA->zA->zA->zA->zA->ASt->Res}(h:qkM (CP f) 7=true)(k:∀e n a b c d x y z s,qad (qae (CP f)) e n [a,b,c,d,x,y,z] s=g e n a b c d x y z s):qaj CP f (B7 g):=⟨7,h,fun e args s r hr=>by
 unfold B7 at hr;split at hr
 ·exact⟨rfl,NL,by rw[k];exact hr⟩
 ·cases hr⟩
theorem qdM {g:Env->Nat->ASt->Res}(h:qkM (CP f) 0=true)(k:∀e n s,qad (qae (CP f)) e n [] s=g e n s):qaj CP f (B0 g):=⟨0,h,fun e args s r hr=>by
 unfold B0 at hr;split at hr
 ·exact⟨rfl,NL,by rw[k];exact hr⟩
 ·cases hr⟩
theorem qam {g:Env->Nat->zA->ASt->Res}(h:qkM (CP f) 1=true)(k:∀e n a s,qad (qae (CP f)) e n [a] s=g e n a s):qaj CP f (B1 g):=⟨1,h,fun e args s r hr=>by
 unfold B1 at hr;split at hr
 ·exact⟨rfl,NL,by rw[k];exact hr⟩
 ·cases hr⟩
theorem qao {g:Env->Nat->zA->zA->ASt->Res}(h:qkM (CP f) 2=true)(k:∀e n a b s,qad (qae (CP f)) e n [a,b] s=g e n a b s):qaj CP f (B2 g):=⟨2,h,fun e args s r hr=>by
 unfold B2 at hr;split at hr
 ·exact⟨rfl,NL,by rw[k];exact hr⟩
 ·cases hr⟩
theorem qby {g:Env->Nat->zA->zA->zA->ASt->Res}(h:qkM (CP f) 3=true)(k:∀e n a b c s,qad (qae (CP f)) e n [a,b,c] s=g e n a b c s):qaj CP f (B3 g):=⟨3,h,fun e args s r hr=>by
 unfold B3 at hr;split at hr
 ·exact⟨rfl,NL,by rw[k];exact hr⟩
 ·cases hr⟩
theorem qcM {g:Env->Nat->zA->zA->zA->zA->ASt->Res}(h:qkM (CP f) 4=true)(k:∀e n a b c d s,qad (qae (CP f)) e n [a,b,c,d] s=g e n a b c d s):qaj CP f (B4 g):=⟨4,h,fun e args s r hr=>by
 unfold B4 at hr;split at hr
 ·exact⟨rfl,NL,by rw[k];exact hr⟩
 ·cases hr⟩
theorem qgN {g:Env->Nat->zA->zA->zA->zA->zA->ASt->Res}(h:qkM (CP f) 5=true)(k:∀e n a b c d x s,qad (qae (CP f)) e n [a,b,c,d,x] s=g e n a b c d x s):qaj CP f (B5 g):=⟨5,h,fun e args s r hr=>by
 unfold B5 at hr;split at hr
 ·exact⟨rfl,NL,by rw[k];exact hr⟩
 ·cases hr⟩
theorem qpB {g:Env->Nat->zA->zA->zA->zA->zA->zA->ASt->Res}(h:qkM (CP f) 6=true)(k:∀e n a b c d x y s,qad (qae (CP f)) e n [a,b,c,d,x,y] s=g e n a b c d x y s):qaj CP f (B6 g):=⟨6,h,fun e args s r hr=>by
 unfold B6 at hr;split at hr
 ·exact⟨rfl,NL,by rw[k];exact hr⟩
 ·cases hr⟩
inductive OptBd (CP:Nat->Option CF)(f:Nat):Option Bd->Prop where
 |none:OptBd CP f Option.none
 |some {b:Bd} (h:qaj CP f b):OptBd CP f (Option.some b)
end
def qgO (CP:Nat->Option CF):Tr (Option Bd)->(i st:Nat)->Prop
 |.node v l r,i,st=>OptBd CP i v/\qgO CP l (i+st) (2*st)/\qgO CP r (i+2*st) (2*st)
 |.nil,_,_=>True
theorem qeK {CP:Nat->Option CF}:∀(t:Tr (Option Bd)) (i st:Nat),qgO CP t i st->∀j,OptBd CP (i+st*j) (t.get Option.none j)
 |.nil,_,_,_,_=> .none
 |.node v l r,i,st,⟨h1,h2,h3⟩,j=>by
  unfold Tr.get
  cases e1:Nat.beq j 0 with
  |true=>
   rw[beq_iff.1 e1]
   exact h1
  |false=>
   have h0:j≠0:=fun e=>by rw[qaB e] at e1;cases e1
   cases e2:Nat.beq (j%2) 1 with
   |true=>
    have h4:j%2=1:=beq_iff.1 e2
    have:=qeK l _ _ h2 (j/2)
    have e3:i+st+2*st*(j/2)=i+st*j:=by
     have:j=2*(j/2)+1:=by omega
     calc i+st+2*st*(j/2)=i+st*(2*(j/2)+1):=by rw[Nat.mul_add,Nat.mul_one,<-Nat.mul_assoc,Nat.mul_comm st 2];omega
      _=i+st*j:=by rw[<-this]
    rw[e3] at this
    exact this
   |false=>
    have h4:j%2≠1:=fun e=>by rw[qaB e] at e2;cases e2
    have:=qeK r _ _ h3 (j/2-1)
    have e3:i+2*st+2*st*(j/2-1)=i+st*j:=by
     have:j=2*(j/2-1)+2:=by omega
     calc i+2*st+2*st*(j/2-1)=i+st*(2*(j/2-1)+2):=by rw[Nat.mul_add,<-Nat.mul_assoc,Nat.mul_comm st 2];omega
      _=i+st*j:=by rw[<-this]
    rw[e3] at this
    exact this
theorem qiU {CP:Nat->Option CF}{t:Tr (Option Bd)}(h:qgO CP t 0 1)(f:Nat)(b:Bd)(hb:t.get Option.none f=some b):qaj CP f b:=by
 have:=qeK t 0 1 h f
 rw[hb,zaI,Nat.one_mul] at this
 cases this with|some h=>exact h
end Go.AI
namespace Go.AI
open Go.Proofs Go.RowKit Go.Shelf
variable {P:Program} {E:Rom} {U pd:Nat->Option (List zA)} {l:Tr (Nat×List zA)} {s:ASt} {G:Gh} {w w':World}
def qmS (vs:List (Nat×List zP)):Rom:=fun k=>match qap vs (k-PB) with
 |some ps=>cond (Nat.ble PB k) (some (.cells (ps.map .p))) none
 |none=>none
theorem qkO {vs:List (Nat×List zP)}{k:Nat}{o:zH}(h:qmS vs k=some o):PB<=k/\∃ps,(k-PB,ps)∈vs/\o=.cells (ps.map .p):=by
 unfold qmS at h
 split at h
 ·rename_i ps hps
  obtain⟨h1,h2⟩:=qac h
  simp only[zaa] at h2
  exact⟨ble_iff.1 h1,ps,qd8 hps,h2.symm⟩
 ·cases h
theorem qkP (h:MR P E U pd l s G w){vs:List (Nat×List zP)}(hE:∀g ps,(g,ps)∈vs->ps.all qmA=true/\∃cs,E (PB+g)=some (.cells cs)/\qcJ cs=some ps):
  MR P (qmS vs) (fun _=>none) (fun _=>none) .nil s00 G.still w:=by
 refine⟨fun b hb=>h.own b (qg5 (lo:=0) rfl hb),fun k b h=>(by cases h),zaf _,fun k zs h=>(by cases h),fun i zs h=>(by cases h),rfl,fun i g cs h hg _=>(by cases h;exact absurd rfl hg),fun i g b h=>(by cases h),fun k o h=>(by rw[show qaH s00.heap k=none from qdN k] at h;cases h),?_,
  fun t n sz h=>(by cases h),fun b t n sz h=>(qcU (lo:=0) h).elim,fun b b' t n n' sz sz' h=>(qcU (lo:=0) h).elim⟩
 intro k o hk
 obtain⟨hge,ps,hmem,rfl⟩:=qkO hk
 obtain⟨hlit,cs,hc,hcs⟩:=hE _ _ hmem
 have ek:PB+(k-PB)=k:=by omega
 rw[ek] at hc
 refine⟨fun h2=>absurd h2 (by omega),fun _=>?_⟩
 obtain⟨j,hown,cs',ecs,hj,_,c,T,fr,hfr,h3,h5⟩:=(h.ro _ _ hc).2 hge
 simp only[zH.cells.injEq] at ecs
 subst ecs
 obtain⟨hl,hpure⟩:=qcC hcs
 refine⟨j,?_,ps.map .p,rfl,by simp;omega,?_,c,T,fr,hfr,by simp;omega,fun i a v ha hv=>?_⟩
 ·show(G.fix 0).own _=_
  unfold Gh.fix
  simp only[hown]
 ·simp only[zaj]
  intro a ha
  obtain⟨p,_,rfl⟩:=List.mem_map.1 ha
  rfl
 ·simp only[zaw,zab] at ha
  obtain⟨p,hp,rfl⟩:=ha
  have hi:i<cs.length:=by rw[<-hl];exact(zah.1 hp).1
  have hv2:=h5 i _ v (zai hi) hv
  exact .p _ _ (PR.lit (zaj.1 hlit p (zaF hp)) (qcB (hpure i _ p (zai hi) hp) hv2).1)
def isT:Option (zA×ASt)->Bool
 |some (.p (.bool true),_)=>true
 |_=>false
theorem qn1 {x:Option (zA×ASt)}(h:isT x=true):∃s,x=some (.p (.bool true),s):=by
 unfold isT at h
 split at h
 ·exact⟨_,rfl⟩
 ·cases h
def spT (fa g1 g2:Nat)(tbl:List zP):Sp:=fun e f args s=>cond (Nat.beq f fa) (match args with
 |[]=>match e.E (PB+g1) with
  |some (.cells cs)=>match qcJ cs with
   |some ps=>cond (qbP ps tbl) (match e.E (PB+g2) with
    |some (.cells [.p (.int .i64 _)])=>some (.p (.bool true),s)
    |_=>none) none
   |none=>none
  |_=>none
 |_=>none) none
def qsy (CP:Nat->Option CF)(sp:Sp)(fa g1 g2:Nat)(tbl:List zP):Prop:=
 (∀m,∃n,isT ((qbG CP sp n (qmS [(g1,tbl),(g2,[.int .i64 m])])).call fa [] s00)=true)/\tbl.all qmA=true/\qa3 CP fa=false
theorem qqY {CP:Nat->Option CF}{sp:Sp}(pk:ProgOK P CP)(sk:SpOK P CP sp){fa g1 g2:Nat}{tbl:List zP}(hr:qsy CP sp fa g1 g2 tbl):SpOK P CP (spT fa g1 g2 tbl) where
 ok:=fun {e} se {f args s v s'} h=>by
  obtain⟨hrun,hlit,hpf⟩:=hr
  unfold spT at h
  cases h1:Nat.beq f fa with
  |false=>rw[h1] at h;cases h
  |true=>
  rw[h1] at h
  simp only[cond_true] at h
  have ef:=beq_iff.1 h1
  subst ef
  split at h<;>try (cases h;done)
  split at h<;>try (cases h;done)
  rename_i cs hE
  split at h<;>try (cases h;done)
  rename_i ps hps
  obtain⟨hsm,h⟩:=qac h
  split at h<;>try (cases h;done)
  rename_i m hE2
  simp only[zaa,zad] at h
  obtain⟨rfl,rfl⟩:=h
  have:=qa4 _ _ hsm
  subst this
  refine⟨fun _=>rfl,fun {U pd l G w vs} mr ha=>?_⟩
  obtain⟨n,hn⟩:=hrun m
  obtain⟨s1,hx⟩:=qn1 hn
  have mr0:=qkP (vs:=[(g1,ps),(g2,[.int .i64 m])]) mr fun g qs hm=>by
   simp only[zaO,zad,List.not_mem_nil,or_false] at hm
   rcases hm with⟨rfl,rfl⟩|⟨rfl,rfl⟩
   ·exact⟨hlit,cs,hE,hps⟩
   ·exact⟨rfl,_,hE2,rfl⟩
  rw[<-qbN CP sp n (qmS _)] at mr0
  have hvs:vs= #[]:=by
   have:=ha.1
   simp at this
   exact Array.eq_empty_of_size_eq_zero this.symm
  subst hvs
  refine((qh7 pk sk n _).call hx mr0 VRs.nil).mono fun u w' ⟨G',x1,mr',hv⟩=>?_
  have k:Keep w w':=⟨x1.size,x1.os,x1.tape,x1.output,fun b hb=>(x1.still b hb (qbL G 0 b)).1⟩
  refine⟨G,k.ext G,mr.keep k,?_⟩
  cases hv with|p _ _ hp=>
  cases hp
  exact .p _ _ (.bool _)
def Gv (vs:List (Nat×List zP)):Gh:=⟨fun b=>match qap vs b with|some ps=> .ro ps.length|none=> .free,fun _=>none,fun _ _=>none,0,0⟩
def qkQ (vs:List (Nat×List zP))(w:World):Prop:=∀g ps,qap vs g=some ps->ps.all qmA=true/\0<ps.length/\∀(i:Nat) p,ps[i]? =some p->∃v,w.cell? ⟨g,i,none⟩=some v/\∀S w,PR S w p v
theorem mrV {vs:List (Nat×List zP)}(hv:qkQ vs w):MR P (qmS vs) (fun _=>none) (fun _=>none) .nil s00 (Gv vs) w:=by
 have row:∀g ps,qap vs g=some ps->∃c T fr,w.heap[g]? =some (.cells c T fr)/\ps.length<=c.size/\∀(i:Nat) p v,ps[i]? =some p->c[i]? =some v->∀S w,PR S w p v:=by
  intro g ps hg
  obtain⟨_,h0,h1⟩:=hv g ps hg
  obtain⟨v0,hv0,_⟩:=h1 0 ps[0] (zai h0)
  have hcell:∃c T fr,w.heap[g]? =some (.cells c T fr):=by
   unfold World.cell? at hv0
   simp only at hv0
   split at hv0
   ·rename_i c T fr hh;exact⟨c,T,fr,hh⟩
   ·cases hv0
  obtain⟨c,T,fr,hh⟩:=hcell
  have at1:∀(i:Nat),w.cell? ⟨g,i,none⟩=c[i]?:=by
   intro i
   simp[World.cell?,hh]
  refine⟨c,T,fr,hh,?_,fun i p v hp hc=>?_⟩
  ·rcases Nat.lt_or_ge c.size ps.length with h|h
   ·obtain⟨v,hv1,_⟩:=h1 c.size ps[c.size] (zai h)
    rw[at1] at hv1
    simp at hv1
   ·exact h
  ·obtain⟨v',hv1,hp1⟩:=h1 i p hp
   rw[at1,hc] at hv1
   cases hv1
   exact hp1
 refine⟨fun b hb=>?_,fun k b h=>(by cases h),zaf _,fun k zs h=>(by cases h),fun i zs h=>(by cases h),rfl,fun i g cs h hg _=>(by cases h;exact absurd rfl hg),fun i g b h=>(by cases h),fun k o h=>(by rw[show qaH s00.heap k=none from qdN k] at h;cases h),?_,
  fun t n sz h=>(by cases h),fun b t n sz h=>?_,fun b b' t n n' sz sz' h=>?_⟩
 ·cases ha:qap vs b with
  |none=>exact absurd (by simp only[Gv,ha]) hb
  |some ps=>
   obtain⟨c,T,fr,hh,_⟩:=row b ps ha
   exact(zag.1 hh).1
 ·intro k o hk
  unfold qmS at hk
  split at hk<;>try (cases hk;done)
  rename_i ps hps
  obtain⟨h1,h2⟩:=qac hk
  simp only[zaa] at h2
  subst h2
  have hge:=ble_iff.1 h1
  refine⟨fun h2=>absurd h2 (by omega),fun _=>?_⟩
  obtain⟨c,T,fr,hh,hsz,hc⟩:=row _ _ hps
  refine⟨ps.length,by simp only[Gv,hps],ps.map .p,rfl,by simp,zaj.2 fun a ha=>(by obtain⟨p,_,rfl⟩:=List.mem_map.1 ha;rfl),c,T,fr,hh,by simpa using hsz,fun i a v ha hv=>?_⟩
  simp only[zaw,zab] at ha
  obtain⟨p,hp,rfl⟩:=ha
  exact .p _ _ (hc i p v hp hv _ _)
 ·simp only[Gv] at h
  split at h<;>cases h
 ·simp only[Gv] at h
  split at h<;>cases h
theorem qpC {CP:Nat->Option CF}{sp:Sp}(pk:ProgOK P CP)(sk:SpOK P CP sp){n f:Nat}{vs:List (Nat×List zP)}{args:List zA}(h:isT ((qah CP sp n (qmS vs)).call f args s00)=true)(hf:(CP f).isSome=true)(hv:qkQ vs w){us:Array Value}
  (ha:∀G w,VRs G w args us.toList):Calls P f us w fun e w'=>e=.returned (.bool true)/\Below w.heap.size w w':=by
 rw[qew] at h
 obtain⟨s1,hx⟩:=qn1 h
 refine Calls.mono (qoA pk sk hx hf (mrV hv) (ha _ _)) fun e w' ⟨u,he,G',x,_,hvr⟩=>⟨by rw[he,hvr.bool_inv],?_⟩
 have hs:∀b,((Gv vs).own b).still:=fun b=>by
  simp only[Gv]
  split<;>trivial
 exact⟨x.os,x.tape,x.output,x.size,fun i hi=>(x.still i hi (hs i)).1⟩
end Go.AI
namespace Go.Proofs
open Go.Shelf
def Tryz.lays154_ren:Go.Shelf.Ren:=⟨fun|154=>28|167=>276|138=>59|165=>60|143=>61|166=>62|197=>63|169=>64|195=>115|218=>116|240=>117|241=>118|219=>119|260=>120|276=>180|277=>181|217=>182|225=>183|224=>184|267=>185|266=>236|314=>237|n=>n,fun|9=>9|3=>3|4=>4|72=>107|0=>0|76=>110|105=>112|21=>21|5=>5|70=>104|20=>20|37=>105|75=>109|127=>177|164=>214|46=>217|119=>218|139=>221|138=>220|146=>280|51=>126|80=>114|n=>n,fun|1=>0|3=>1|4=>2|n=>n⟩
theorem Tryz.lays154:Go.Proofs.Lays.n154 Tryz.prog Tryz.lays154_ren:={
 mixed:=by kernel_rfl
 f138:=Tryz.func59.trans (congrArg some (by kernel_rfl))
 f143:=Tryz.func61.trans (congrArg some (by kernel_rfl))
 f154:=Tryz.func28.trans (congrArg some (by kernel_rfl))
 f165:=Tryz.func60.trans (congrArg some (by kernel_rfl))
 f166:=Tryz.func62.trans (congrArg some (by kernel_rfl))
 f169:=Tryz.func64.trans (congrArg some (by kernel_rfl))
 f195:=Tryz.func115.trans (congrArg some (by kernel_rfl))
 f197:=Tryz.func63.trans (congrArg some (by kernel_rfl))
 f217:=Tryz.func182.trans (congrArg some (by kernel_rfl))
 f218:=Tryz.func116.trans (congrArg some (by kernel_rfl))
 f219:=Tryz.func119.trans (congrArg some (by kernel_rfl))
 f224:=Tryz.func184.trans (congrArg some (by kernel_rfl))
 f225:=Tryz.func183.trans (congrArg some (by kernel_rfl))
 f240:=Tryz.func117.trans (congrArg some (by kernel_rfl))
 f241:=Tryz.func118.trans (congrArg some (by kernel_rfl))
 f260:=Tryz.func120.trans (congrArg some (by kernel_rfl))
 f266:=Tryz.func236.trans (congrArg some (by kernel_rfl))
 f267:=Tryz.func185.trans (congrArg some (by kernel_rfl))
 f276:=Tryz.func180.trans (congrArg some (by kernel_rfl))
 f277:=Tryz.func181.trans (congrArg some (by kernel_rfl))
 f314:=Tryz.func237.trans (congrArg some (by kernel_rfl))
 t0:=Tryz.underlying0
 a0:=Tryz.isAgg0
 z0:=Tryz.sizeOf0
 v0:=Tryz.zeroValue0
 t3:=Tryz.underlying3
 a3:=Tryz.isAgg3
 z3:=Tryz.sizeOf3
 v3:=Tryz.zeroValue3
 t4:=Tryz.underlying4
 a4:=Tryz.isAgg4
 z4:=Tryz.sizeOf4
 v4:=Tryz.zeroValue4
 t5:=Tryz.underlying5
 a5:=Tryz.isAgg5
 z5:=Tryz.sizeOf5
 v5:=Tryz.zeroValue5
 t9:=Tryz.underlying9
 a9:=Tryz.isAgg9
 z9:=Tryz.sizeOf9
 v9:=Tryz.zeroValue9
 t20:=Tryz.underlying20
 a20:=Tryz.isAgg20
 z20:=Tryz.sizeOf20
 v20:=Tryz.zeroValue20
 t21:=Tryz.underlying21
 a21:=Tryz.isAgg21
 z21:=Tryz.sizeOf21
 v21:=Tryz.zeroValue21
 t37:=Tryz.underlying105
 a37:=Tryz.isAgg105
 z37:=Tryz.sizeOf105
 v37:=Tryz.zeroValue105
 t46:=Tryz.underlying217
 a46:=Tryz.isAgg217
 z46:=Tryz.sizeOf217
 v46:=Tryz.zeroValue217
 t51:=Tryz.underlying126
 a51:=Tryz.isAgg126
 z51:=Tryz.sizeOf126
 v51:=Tryz.zeroValue126
 t70:=Tryz.underlying104
 a70:=Tryz.isAgg104
 z70:=Tryz.sizeOf104
 v70:=Tryz.zeroValue104
 t72:=Tryz.underlying107
 a72:=Tryz.isAgg107
 z72:=Tryz.sizeOf107
 v72:=Tryz.zeroValue107
 t75:=Tryz.underlying109
 a75:=Tryz.isAgg109
 z75:=Tryz.sizeOf109
 v75:=Tryz.zeroValue109
 t76:=Tryz.underlying110
 a76:=Tryz.isAgg110
 z76:=Tryz.sizeOf110
 v76:=Tryz.zeroValue110
 t105:=Tryz.underlying112
 a105:=Tryz.isAgg112
 z105:=Tryz.sizeOf112
 v105:=Tryz.zeroValue112
 t119:=Tryz.underlying218
 a119:=Tryz.isAgg218
 z119:=Tryz.sizeOf218
 t127:=Tryz.underlying177
 a127:=Tryz.isAgg177
 z127:=Tryz.sizeOf177
 v127:=Tryz.zeroValue177
 t138:=Tryz.underlying220
 a138:=Tryz.isAgg220
 z138:=Tryz.sizeOf220
 v138:=Tryz.zeroValue220
 t139:=Tryz.underlying221
 a139:=Tryz.isAgg221
 z139:=Tryz.sizeOf221
 v139:=Tryz.zeroValue221
 t146:=Tryz.underlying280
 a146:=Tryz.isAgg280
 z146:=Tryz.sizeOf280
 v146:=Tryz.zeroValue280
 t164:=Tryz.underlying214
 a164:=Tryz.isAgg214
 z164:=Tryz.sizeOf214
 v164:=Tryz.zeroValue214
 g1:=by kernel_rfl
 g3:=by kernel_rfl
 g4:=by kernel_rfl}
theorem Tryz.Builder_Extra_154:Builder.Extra Tryz.prog Tryz.lays154_ren:={
 sizeBuilder:=by kernel_rfl
 liesBuilder:=by kernel_rfl
 t5:=Tryz.underlying5
 a5:=Tryz.isAgg5
 z5:=Tryz.sizeOf5
 v5:=Tryz.zeroValue5
 infoByte:=by kernel_rfl
 cellsByte:=by kernel_rfl
 sizeByte:=by kernel_rfl
 neB5:=by decide}
theorem Tryz.lays138:Go.Proofs.Lays.n138 Tryz.prog Tryz.lays154_ren:={Tryz.lays154 with}
theorem Tryz.lays166:Go.Proofs.Lays.n166 Tryz.prog Tryz.lays154_ren:={Tryz.lays154 with}
theorem Tryz.lays169:Go.Proofs.Lays.n169 Tryz.prog Tryz.lays154_ren:={Tryz.lays154 with}
theorem Tryz.lays167:Go.Proofs.Lays.n167 Tryz.prog Tryz.lays154_ren:={Tryz.lays154 with
 f167:=Tryz.func276.trans (congrArg some (by kernel_rfl))}
end Go.Proofs
namespace Go.AI.Tryz
open Go Go.Proofs
theorem disable (w:World):(callFunc 288 #[]).run Tryz.prog w=.ok (.value (.tuple #[])) w:=run_call_mark0 Tryz.func288 (by kernel_rfl) (by kernel_rfl) (by kernel_rfl) .disable (by kernel_rfl) w
theorem enable (w:World):(callFunc 290 #[]).run Tryz.prog w=.ok (.value (.tuple #[])) w:=run_call_mark0 Tryz.func290 (by kernel_rfl) (by kernel_rfl) (by kernel_rfl) .enable (by kernel_rfl) w
theorem acquire (a:Addr)(w:World):(callFunc 291 #[.pointer (some a)]).run Tryz.prog w=.ok (.value (.tuple #[])) w:=run_call_marked Tryz.func291 (by kernel_rfl) (by kernel_rfl) (by kernel_rfl) .acquire (by kernel_rfl) a w
theorem releaseMerge (a:Addr)(w:World):(callFunc 293 #[.pointer (some a)]).run Tryz.prog w=.ok (.value (.tuple #[])) w:=run_call_marked Tryz.func293 (by kernel_rfl) (by kernel_rfl) (by kernel_rfl) .releaseMerge (by kernel_rfl) a w
set_option maxRecDepth 100000 in
set_option maxHeartbeats 1600000 in
theorem qeU (a:Addr)(x:Value)(u:FrameMode)(w:World)(hc:w.cell? a=some x)(hz:w.frozen? a=false):
  CallsD Tryz.prog 208 #[.pointer (some a),.bool true] u w fun e u' w'=>u'=u/\(e=.returned (.tuple #[])/\w'=w.drew.setCell a (.int .u32 1)):=by
 have hc':w.drew.cell? a=some x:=by go_simp
 have hz':w.drew.frozen? a=false:=by go_simp
 have hst:=run_call_store (P:=Tryz.prog) Tryz.func258 (by kernel_rfl) (by kernel_rfl) (by kernel_rfl) (by kernel_rfl) (k:=.u32) (y:=1) hc' hz'
 go_enter_d Tryz.func208,Tryz.ntmps208
 go_wp2
 go_region_calls
 all_goals (go_end0;exact⟨rfl,rfl⟩)
set_option maxRecDepth 100000 in
set_option maxHeartbeats 1600000 in
theorem qeL (a:Addr)(u:FrameMode)(w:World)(hc:w.cell? a=some (.int .i32 1))(hz:w.frozen? a=false):
  CallsD Tryz.prog 207 #[.pointer (some a)] u w fun e u' w'=>u'=u/\(e=.returned (.tuple #[])/\w'=w.setCell a (.int .i32 0)):=by
 have hd:=disable
 have he:=enable
 have hr:=releaseMerge
 have hadd:=run_call_add (P:=Tryz.prog) Tryz.func294 (by kernel_rfl) (by kernel_rfl) (by kernel_rfl) .i32 (by kernel_rfl) (y:= -1) (s:=0) hc hz (by simp[go_sem];rfl)
 have hcv:=run_convert_to_unsafe (P:=Tryz.prog) (src:=337) (dst:=214) Tryz.underlying337 Tryz.underlying214 (by kernel_rfl) hc
 go_enter_d Tryz.func207,Tryz.ntmps207
 go_wp2
 go_end0
 go_wp2
 go_end0
 exact⟨rfl,rfl⟩
set_option maxRecDepth 100000 in
set_option maxHeartbeats 1600000 in
theorem qkR (a:Addr)(w:World)(hc:w.cell? a=some (.int .i32 0))(hz:w.frozen? a=false):
  Calls Tryz.prog 206 #[.pointer (some a)] w fun e w'=>e=.returned (.tuple #[])/\w'=w.setCell a (.int .i32 1):=by
 have hd:=disable
 have he:=enable
 have ha:=acquire
 have hcas:=run_call_cas_hit (P:=Tryz.prog) Tryz.func289 (by kernel_rfl) (by kernel_rfl) (by kernel_rfl) .i32 (by kernel_rfl) (y:=1) hc hz
 have hc':(w.setCell a (.int .i32 1)).cell? a=some (.int .i32 1):=World.cell?_setCell_same w a _ hc
 have hcv:=run_convert_to_unsafe (P:=Tryz.prog) (src:=337) (dst:=214) Tryz.underlying337 Tryz.underlying214 (by kernel_rfl) hc'
 go_enter Tryz.func206,Tryz.ntmps206
 go_wp2
 first|go_end0|(simp only[Exit.inBlock,Exit.then];refine bodyPost_ret (results_none rfl _ _ _) rfl ?_)|refine bodyPost_ret (results_none rfl _ _ _) rfl ?_
 go_wp2
 go_end0
 exact⟨rfl,rfl⟩
set_option maxRecDepth 100000 in
set_option maxHeartbeats 1600000 in
theorem qmT (b off:Nat)(fn:Nat)(first cap:Array Value)(w:World)(Q:World->Prop)
  (h0:w.cell? ⟨b,off,none⟩=some (.int .u32 0))(h1:w.cell? ⟨b,off+1,none⟩=some (.int .i32 0))(f0:w.frozen? ⟨b,off,none⟩=false)(f1:w.frozen? ⟨b,off+1,none⟩=false)
  (he:(callFunc fn (first++cap)).run Tryz.prog (w.setCell ⟨b,off+1,none⟩ (.int .i32 1))=.ok (.enter fn (first++cap)) (w.setCell ⟨b,off+1,none⟩ (.int .i32 1)))
  (hf:Calls Tryz.prog fn (first++cap) (w.setCell ⟨b,off+1,none⟩ (.int .i32 1)) fun e w2=>(∃v,e=.returned v)/\Q w2)
  (hQ:∀w2,Q w2->w2.cell? ⟨b,off,none⟩=some (.int .u32 0)/\w2.cell? ⟨b,off+1,none⟩=some (.int .i32 1)/\w2.frozen? ⟨b,off,none⟩=false/\w2.frozen? ⟨b,off+1,none⟩=false):
  Calls Tryz.prog 133 #[.pointer (some ⟨b,off,none⟩),.func (.func fn) first cap] w fun e w'=>e=.returned (.tuple #[])/\∃w2,Q w2/\w'=(w2.drew.setCell ⟨b,off,none⟩ (.int .u32 1)).setCell ⟨b,off+1,none⟩ (.int .i32 0):=by
 have hl:=run_call_load (P:=Tryz.prog) Tryz.func205 (by kernel_rfl) (by kernel_rfl) (by kernel_rfl) .u32 (by kernel_rfl) (w:=w.setCell ⟨b,off+1,none⟩ (.int .i32 1)) (a:=⟨b,off,none⟩) (x:=0) ((World.cell?_setCell_other _ ⟨b,off+1,none⟩ ⟨b,off,none⟩ _ (by simp)).trans h0)
 have hnot:∀(x:Bool) (w:World),(Op.unary .not (.bool x)).run Tryz.prog w=.ok (.bool (!x)) w:=fun _ _=>rfl
 go_enter_defers Tryz.func133,Tryz.ntmps133
 go_wp2_with (go_at_call 206;refine(qkR ⟨b,off+1,none⟩ _ (by go_simp) (by go_simp)).mono ?_;rintro e w' ⟨rfl,rfl⟩)
 go_wp2
 refine hf.mono ?_
 rintro e w2 ⟨⟨v,rfl⟩,hq⟩
 obtain⟨k0,k1,k2,k3⟩:=hQ w2 hq
 go_wp2
 refine leaves_cons (f:=208) (args:= #[.pointer (some ⟨b,off,none⟩),.bool true]) (by simp) (by simp[go_sem]) ?_
 refine(qeU ⟨b,off,none⟩ (.int .u32 0) .returning _ k0 k2).mono ?_
 rintro e u' w'' ⟨rfl,rfl,rfl⟩
 refine leaves_cons (f:=207) (args:= #[.pointer (some ⟨b,off+1,none⟩)]) (by simp[settle]) (by simp[go_sem]) ?_
 refine(qeL ⟨b,off+1,none⟩ _ _ ?_ (by simp[k3])).mono ?_
 ·refine(World.cell?_setCell_other _ ⟨b,off,none⟩ ⟨b,off+1,none⟩ _ (by simp)).trans ?_
  rw[World.cell?_drew]
  exact k1
 rintro e u' w'' ⟨rfl,rfl,rfl⟩
 simp[Leaves,settle,results,Tryz.results133]
 exact⟨w2,hq,rfl⟩
set_option maxRecDepth 100000 in
set_option maxHeartbeats 1600000 in
theorem qpD (b off:Nat)(fn:Nat)(first cap:Array Value)(w:World)(Q:World->Prop)
  (h0:w.cell? ⟨b,off,none⟩=some (.int .u32 0))(h1:w.cell? ⟨b,off+1,none⟩=some (.int .i32 0))(f0:w.frozen? ⟨b,off,none⟩=false)(f1:w.frozen? ⟨b,off+1,none⟩=false)
  (he:(callFunc fn (first++cap)).run Tryz.prog (w.setCell ⟨b,off+1,none⟩ (.int .i32 1))=.ok (.enter fn (first++cap)) (w.setCell ⟨b,off+1,none⟩ (.int .i32 1)))
  (hf:Calls Tryz.prog fn (first++cap) (w.setCell ⟨b,off+1,none⟩ (.int .i32 1)) fun e w2=>(∃v,e=.returned v)/\Q w2)
  (hQ:∀w2,Q w2->w2.cell? ⟨b,off,none⟩=some (.int .u32 0)/\w2.cell? ⟨b,off+1,none⟩=some (.int .i32 1)/\w2.frozen? ⟨b,off,none⟩=false/\w2.frozen? ⟨b,off+1,none⟩=false):
  Calls Tryz.prog 70 #[.pointer (some ⟨b,off,none⟩),.func (.func fn) first cap] w fun e w'=>e=.returned (.tuple #[])/\∃w2,Q w2/\w'=(w2.drew.setCell ⟨b,off,none⟩ (.int .u32 1)).setCell ⟨b,off+1,none⟩ (.int .i32 0):=by
 have hl:=run_call_load (P:=Tryz.prog) Tryz.func205 (by kernel_rfl) (by kernel_rfl) (by kernel_rfl) .u32 (by kernel_rfl) h0
 have hnot:∀(x:Bool) (w:World),(Op.unary .not (.bool x)).run Tryz.prog w=.ok (.bool (!x)) w:=fun _ _=>rfl
 go_enter Tryz.func70,Tryz.ntmps70
 go_wp2_with (first|(go_at_call 133;refine(qmT b off fn first cap _ Q h0 h1 f0 f1 he hf hQ).mono ?_;rintro e w' ⟨rfl,hw⟩)|(go_at_call 132;go_in))
 go_end0
 exact⟨rfl,hw⟩
theorem qqZ:qnL Tryz.prog 70:=fun b off fn first cap w Q h0 h1 f0 f1 he hf hQ=>qpD b off fn first cap w Q h0 h1 f0 f1 he hf hQ
theorem qhr (args:Array Value)(w:World):(callFunc 70 args).run Tryz.prog w=.ok (.enter 70 args) w:=by
 obtain⟨body,hb⟩:∃body,Tryz.f70.body=some body:=⟨_,rfl⟩
 exact qbc Tryz.func70 hb (by kernel_rfl) args w
end Go.AI.Tryz
namespace Go.AI.Tryz
open Go Go.Proofs
set_option maxRecDepth 100000 in
set_option maxHeartbeats 400000 in
theorem qkS (a b c:Addr)(w:World):
  CallsD Tryz.prog 75 #[.pointer (some a),.pointer (some b),.pointer (some c)] .returning w fun e u' w'=>e=.returned (.tuple #[])/\u'=.returning/\w'=w:=by
 refine callsD_of_wpS Tryz.func75 rfl fun c₀ cs hu=>?_
 apply wpS_seq
 apply wpS_region
 simp[wpOpsS,go_sem,recoverD,hu,Tryz.ntmps75,Exit.thenS]
 refine wpS_of_wp (wp_block ?_)
 apply wp_seq
 apply wp_region
 simp[wpOps,go_sem,Exit.then]
 refine .inl (wp_cond (t:=true) (by simp[Act.eval,Array.replicate]) ?_)
 simp only[if_true]
 apply wp_region
 simp[wpOps,go_sem,Exit.inBlock,Exit.then]
 refine .inl ?_
 cases c₀
 simp_all [bodyPostS,results,Tryz.results75]
set_option maxRecDepth 100000 in
set_option maxHeartbeats 1600000 in
theorem qmU (rv:Value)(fn:Nat)(first cap:Array Value)(w:World)(Q:Value->World->Prop)
  (he:(callFunc fn (first++cap)).run Tryz.prog (tw3 84 3 4 w)=.ok (.enter fn (first++cap)) (tw3 84 3 4 w))
  (hf:Calls Tryz.prog fn (first++cap) (tw3 84 3 4 w) fun e w2=>∃v,e=.returned v/\Q v w2)
  (hQ:∀v w2,Q v w2->v.oneCell'=true/\∀i,i<3->(∃z,w2.cell? ⟨w.heap.size+i,0,none⟩=some z)/\w2.frozen? ⟨w.heap.size+i,0,none⟩=false):
  Calls Tryz.prog 38 #[rv,.func (.func fn) first cap] w fun e w'=>∃v w2,Q v w2/\e=.returned (.tuple #[v,.int .i64 0,.bool true])/\w'=((w2.setCell ⟨w.heap.size,0,none⟩ v).setCell ⟨w.heap.size+1,0,none⟩ (.int .i64 0)).setCell ⟨w.heap.size+2,0,none⟩ (.bool true):=by
 unfold tw3 at he hf
 go_enter_defers Tryz.func38,Tryz.ntmps38
 go_wp2
 refine hf.mono ?_
 rintro e w2 ⟨v,rfl,hq⟩
 obtain⟨h1,hQ⟩:=hQ v w2 hq
 obtain⟨⟨z0,k0⟩,f0⟩:=hQ 0 (by omega)
 obtain⟨⟨z1,k1⟩,f1⟩:=hQ 1 (by omega)
 obtain⟨⟨z2,k2⟩,f2⟩:=hQ 2 (by omega)
 rw[Nat.add_zero] at k0 f0
 have s0:=qdy (P:=Tryz.prog) h1 k0 f0
 have s1:=qdy (P:=Tryz.prog) (v:=.int .i64 0) rfl (w:=w2.setCell ⟨w.heap.size,0,none⟩ v) (a:=⟨w.heap.size+1,0,none⟩) ((World.cell?_setCell_other w2 ⟨w.heap.size,0,none⟩ ⟨w.heap.size+1,0,none⟩ v (by simp)).trans k1) (by simp[f1])
 have s2:=qdy (P:=Tryz.prog) (v:=.bool true) rfl (w:=(w2.setCell ⟨w.heap.size,0,none⟩ v).setCell ⟨w.heap.size+1,0,none⟩ (.int .i64 0)) (a:=⟨w.heap.size+1+1,0,none⟩) ((World.cell?_setCell_other _ ⟨w.heap.size+1,0,none⟩ ⟨w.heap.size+1+1,0,none⟩ _ (by simp)).trans ((World.cell?_setCell_other w2 ⟨w.heap.size,0,none⟩ ⟨w.heap.size+1+1,0,none⟩ v (by simp)).trans k2)) (by simp[f2])
 go_wp2
 rw[s0,Result.andThen_ok]
 go_wp2
 have e0:((((w2.setCell ⟨w.heap.size,0,none⟩ v).setCell ⟨w.heap.size+1,0,none⟩ (.int .i64 0)).setCell ⟨w.heap.size+1+1,0,none⟩ (.bool true))).cell? ⟨w.heap.size,0,none⟩=some v:=
  (World.cell?_setCell_other _ ⟨w.heap.size+1+1,0,none⟩ ⟨w.heap.size,0,none⟩ _ (by simp)).trans ((World.cell?_setCell_other _ ⟨w.heap.size+1,0,none⟩ ⟨w.heap.size,0,none⟩ _ (by simp)).trans (World.cell?_setCell_same w2 _ _ k0))
 have e1:((((w2.setCell ⟨w.heap.size,0,none⟩ v).setCell ⟨w.heap.size+1,0,none⟩ (.int .i64 0)).setCell ⟨w.heap.size+1+1,0,none⟩ (.bool true))).cell? ⟨w.heap.size+1,0,none⟩=some (.int .i64 0):=
  (World.cell?_setCell_other _ ⟨w.heap.size+1+1,0,none⟩ ⟨w.heap.size+1,0,none⟩ _ (by simp)).trans (World.cell?_setCell_same _ _ _ ((World.cell?_setCell_other w2 ⟨w.heap.size,0,none⟩ ⟨w.heap.size+1,0,none⟩ v (by simp)).trans k1))
 have e2:((((w2.setCell ⟨w.heap.size,0,none⟩ v).setCell ⟨w.heap.size+1,0,none⟩ (.int .i64 0)).setCell ⟨w.heap.size+1+1,0,none⟩ (.bool true))).cell? ⟨w.heap.size+1+1,0,none⟩=some (.bool true):=
  World.cell?_setCell_same _ _ _ ((World.cell?_setCell_other _ ⟨w.heap.size+1,0,none⟩ ⟨w.heap.size+1+1,0,none⟩ _ (by simp)).trans ((World.cell?_setCell_other w2 ⟨w.heap.size,0,none⟩ ⟨w.heap.size+1+1,0,none⟩ v (by simp)).trans k2))
 refine leaves_cons (f:=75) (args:= #[.pointer (some ⟨w.heap.size,0,none⟩),.pointer (some ⟨w.heap.size+1,0,none⟩),.pointer (some ⟨w.heap.size+1+1,0,none⟩)]) (by simp) (by simp[go_sem]) ?_
 refine(qkS ⟨w.heap.size,0,none⟩ ⟨w.heap.size+1,0,none⟩ ⟨w.heap.size+1+1,0,none⟩ _).mono ?_
 rintro e u' w'' ⟨rfl,rfl,rfl⟩
 generalize hW:((w2.setCell ⟨w.heap.size,0,none⟩ v).setCell ⟨w.heap.size+1,0,none⟩ (.int .i64 0)).setCell ⟨w.heap.size+1+1,0,none⟩ (.bool true)=W at e0 e1 e2⊢
 simp[Leaves,settle,results,Tryz.results38,go_sem,e0,e1,e2]
 exact⟨v,w2,hq,rfl,hW.symm⟩
theorem qpE:qku Tryz.prog 38 84 3 4:=fun rv fn first cap w Q he hf hQ=>qmU rv fn first cap w Q he hf hQ
theorem qgP (args:Array Value)(w:World):(callFunc 38 args).run Tryz.prog w=.ok (.enter 38 args) w:=by
 obtain⟨body,hb⟩:∃body,Tryz.f38.body=some body:=⟨_,rfl⟩
 exact qbc Tryz.func38 hb (by kernel_rfl) args w
end Go.AI.Tryz
