/- Part 5: what the functions of the program compute, function by function. No condition. -/
import Derived.Test.YtgecccghlgpmjaaGreatPd
set_option linter.unusedVariables false
set_option linter.unusedSimpArgs false
open Array renaming getElem?_toList→zaK,length_toList→zba
open Bool renaming and_eq_true→zag,false_eq_true→zai,not_true→zak,not_false→zam,and_self→zat,false_and→zau,true_and→zay,not_eq_true→zaS,and_false→zaT,or_eq_false_iff→zaU,not_eq_true'→za0,or_eq_true→za4,false_or→za6,and_true→za7,true_or→zbk
open Int renaming ofNat_eq_natCast→zaf,reduceEq→zaj
open List renaming getElem?_eq_getElem→zah,map_cons→zal,all_cons→zan,getElem?_eq_some_iff→zap,length_cons→zar,getElem?_cons_zero→zas,mem_cons_self→zav,mem_cons_of_mem→zaw,length_append→zax,drop_eq_getElem_cons→zaz,getElem?_append_right→zaA,length_nil→zaC,mem_cons→zaE,not_mem_nil→zaF,cons_append→zaG,nil_append→zaI,mem_append→zaL,all_eq_true→zaM,getElem?_cons_succ→zaN,getElem?_append_left→zaO,mem_of_getElem?→zaQ,append_assoc→zaR,mem_singleton→zaV,length_map→zaY,length_eq_zero_iff→za1,getElem_mem→za5,mem_range→za8,getElem?_map→zbb,append_nil→zbe,headD_cons→zbh,map_nil→zbm
open Nat renaming le_refl→zao,zero_add→zaH,lt_irrefl→zaZ,zero_le→za3,beq_refl→za9,lt_or_ge→zbi,add_zero→zbj
open Option renaming bind_some→zaa,map_some→zab,map_eq_some_iff→zad,getD_some→zaB,isSome_none→zaD,getD_none→zaJ,isSome_some→zbf
open Option.some renaming injEq→zac
open Prod.mk renaming injEq→zaq
namespace Go.AI.Tryz
theorem qlP (n:Nat)(E:qaS)(l:Nat)(args:List zA)(s:ASt):(qag CP (n+1) E).callv (.yield l) args s=qeO (qcn CP (qag CP n) n E) (qag CP n) n E (.yield l) args s:=rfl
theorem qpL {n nt nl:Nat}{E:qaS}{ly p1 p2:Nat}{fr:Tr zA}{lo:Tr (Nat×List zA)}{a b:CC}{pre HT HT2:qaS}{s s2:ASt}{F0:FL}{L:LL}{v1 v2:zA}{x:EX}
  (hrf:(qcG a&&qcG b)=true)(hcs:(qio (qe4 b (qe4 a 0)) a).cs=false)(h12:p1≠p2)(hp1:p1<nt)(hp2:p2<nt)
  (h:s.heap=pre++(ly,.loop 0 none fr lo [p1,p2] a b)::HT)(hp:∀v∈pre,v.1≠ly)(hF:∀t u,qar F0 t=some u->fr.get qap t=u)(hh:∀t,t<nt->fr.has t=true)(hL:∀i p,qar L i=some p->lo.get (0,[]) i=p/\lo.has i=true)(ha:[v1,v2].all qbI=true)
  (hrun:qs1 nt nl (qag CP n E) n a b (fun s=>{s with heap:=pre++(ly,.loop 1 none fr lo [p1,p2] a b)::HT}) ((p1,v1)::(p2,v2)::F0) L s=some (qkG x,s2))(h2:s2.heap=pre++(ly,.loop 1 none fr lo [p1,p2] a b)::HT2):
  clv (qag CP (n+1) E) (.yield ly) [v1,v2] s=some (bl (qjJ x),{s2 with heap:=pre++(ly,.loop (qqv x) (qfh x) fr lo [p1,p2] a b)::HT2}):=by
 rw[qg7,qlP]
 have hbe:Nat.beq ly ly=true:=qaD rfl
 have g1:∀(o:zH) (H:qaS),qar (pre++(ly,o)::H) ly=some o:=fun o H=>by
  rw[qdQ hp]
  simp only[qar,hbe,cond_true]
 have g2:∀(o o':zH) (H:qaS),qaK (pre++(ly,o)::H) ly o'=some (pre++(ly,o')::H):=fun o o' H=>by
  rw[qdy hp]
  simp only[qaK,hbe,cond_true,zab]
 let f1:=(fr.set p1 v1).set p2 v2
 have hf1:qdJ fr [p1,p2] [v1,v2]=some f1:=rfl
 have ag:AG nt ((p1,v1)::(p2,v2)::F0) L [] ⟨f1,lo,[],some ly,s⟩:=by
  refine⟨fun t u hu=>?_,fun i p hi=>hL i p hi,fun d l hd=>(by cases hd),fun t ht=>?_⟩
  ·show((fr.set p1 v1).set p2 v2).get qap t=u
   rw[Tr.get_set _ _ _ _ _ (by rw[Tr.has_set];exact hh p2 hp2),Tr.get_set _ _ _ _ _ (hh p1 hp1)]
   rw[qao] at hu
   split at hu
   ·rename_i e
    subst e
    rw[if_neg (fun e=>h12 e.symm),if_pos rfl]
    simpa using hu
   ·rename_i e
    rw[qao] at hu
    split at hu
    ·rename_i e2
     rw[if_pos e2]
     simpa using hu
    ·rename_i e2
     rw[if_neg e2,if_neg e]
     exact hF t u hu
  ·show((fr.set p1 v1).set p2 v2).has t=true
   rw[Tr.has_set,Tr.has_set]
   exact hh t ht
 obtain⟨ca,cb,k1,k2,k3,k4⟩:=quV hrf hcs ag hrun
 have k2':ca.s=s:=k2
 simp only[qeO,h,g1,ha,cond_true,hf1,zaa,k1,k2',g2]
 have k3':qbq (qag CP n E) n b {ca with s:={s with heap:=pre++(ly,.loop 1 none fr lo [p1,p2] a b)::HT}}=some (x,cb):=k3
 simp only[k3',zaa,endRound,k4,h2,g1,g2,zab]
theorem qrz (l:Tr (Nat×List zA))(i:Nat):(l.map fun _=>((0,[]):Nat×List zA)).get (0,[]) i=(0,[]):=Tr.get_map (fun _=>((0,[]):Nat×List zA)) (0,[]) l i
theorem qtC (f:Tr zA)(i:Nat):(f.map far).get qap i=far (f.get qap i):=Tr.get_map far qap f i
theorem qvy {n n' nt:Nat}{E:qaS}{l4 l7:Nat}{ps:List Nat}{a b:CC}{F:FL}{L:LL}{s:ASt}{kn kx kr:ASt->Res}{r:zA}(hn:1<=n)
  (hrun:∀(fr:Tr zA) (lo:Tr (Nat×List zA)),(∀t u,qar F t=some u→fr.get qap t=far u)→(∀t,t<nt→fr.has t=true)→(∀i,lo.get (0,[]) i=(0,[]))→(∀i p,qar L i=some p→lo.has i=true)→
   ∃x s' pre' HT s2 r',cl (qag CP n E) 94 [.yield s.next,.ptr l4 0,.ptr l7 0] (qai s (.loop 0 none fr lo ps a b))=some (.tuple [],s')/\s'.heap=pre'++(s.next,.loop (qqv x) (qfh x) fr lo ps a b)::HT/\(∀v∈pre',v.1≠s.next)/\qaF r'=r/\(match x with
    |.normal=>kn {s' with heap:=pre'++(s.next,.gone)::HT}=some (r',s2)
    |.exit i=>i=exB b/\kx {s' with heap:=pre'++(s.next,.gone)::HT}=some (r',s2)
    |.ret=>kr {s' with heap:=pre'++(s.next,.gone)::HT}=some (r',s2))):
  qny (qag CP n E) n' nt (.func 94 [] [.ptr l4 0,.ptr l7 0]) ps a b F L s kn kx kr r:=by
 intro c f hF hL hh hv hs hrd
 obtain⟨x,s',pre',HT,s2,r',h1,h2,h3,her,h4⟩:=hrun (c.f.map far) (c.l.map fun _=>(0,[])) (fun t u hu=>by rw[qtC,hF t u hu]) (fun t ht=>by rw[Tr.has_map];exact hh t ht) (qrz c.l) (fun i p hi=>by rw[Tr.has_map];exact hL i p hi)
 refine⟨x,{s' with heap:=pre'++(s.next,.gone)::HT},s2,r',?_,her,h4⟩
 have hbe:Nat.beq s.next s.next=true:=qaD rfl
 have g1:qar (pre'++(s.next,zH.loop (qqv x) (qfh x) (c.f.map far) (c.l.map fun _=>(0,[])) ps a b)::HT) s.next=some (.loop (qqv x) (qfh x) (c.f.map far) (c.l.map fun _=>(0,[])) ps a b):=by
  rw[qdQ h3]
  simp only[qar,hbe,cond_true]
 have g2:qaK (pre'++(s.next,zH.loop (qqv x) (qfh x) (c.f.map far) (c.l.map fun _=>(0,[])) ps a b)::HT) s.next .gone=some (pre'++(s.next,.gone)::HT):=by
  rw[qdy h3]
  simp only[qaK,hbe,cond_true,zab]
 have hil:qjK c=true:=by unfold qjK;rw[hrd]
 have hcv:(qag CP n E).callv (.func 94 [] [.ptr l4 0,.ptr l7 0]) [.yield s.next] (qai s (.loop 0 none (c.f.map far) (c.l.map fun _=>(0,[])) ps a b))=some (.tuple [],s'):=by
  have:=qhV CP hn E 94 [] [.ptr l4 0,.ptr l7 0] [.yield s.next] (qai s (.loop 0 none (c.f.map far) (c.l.map fun _=>(0,[])) ps a b))
  rw[qg7] at this
  rw[this]
  exact h1
 have hst:Nat.beq (qqv x) 1=false:=by cases x<;>rfl
 unfold qbq
 rw[hil,hv,hs]
 simp only[qup,zat,cond_true,hcv,zaa,h2,g1,hst,cond_false,g2]
 cases x<;>rfl
theorem qmW (d:Nat):∀(F:FL),(∀p∈F,p.1<2^d-1)->∃fr:Tr zA,(∀t u,qar F t=some u->fr.get qap t=u)/\∀t,t<2^d-1->fr.has t=true
 |[],_=>⟨Tr.mk qap d,fun t u h=>(by cases h),fun t ht=>Tr.has_mk _ _ _ (by omega)⟩
 |(k,v)::F,h=>by
  obtain⟨fr,h1,h2⟩:=qmW d F fun p hp=>h p (zaw _ hp)
  refine⟨fr.set k v,fun t u hu=>?_,fun t ht=>by rw[Tr.has_set];exact h2 t ht⟩
  rw[Tr.get_set _ _ _ _ _ (h2 k (h (k,v) (zav ..)))]
  rw[qao] at hu
  split at hu
  ·rename_i e
   rw[if_pos e]
   simpa using hu
  ·rename_i e
   rw[if_neg e]
   exact h1 t u hu
theorem qsn {e:Env}{n nt:Nat}{v:zA}{ps:List Nat}{a b:CC}{F:FL}{L:LL}{s:ASt}{kn kx kr:ASt->Res}{r:zA}(d dl:Nat)(hF:∀p∈F,p.1<2^d-1)(hn:nt<=2^d-1)(hL:∀p∈L,p.1<2^dl-1)(h:qny e n nt v ps a b F L s kn kx kr r):
  rfK e n nt v ps a b F L s kn kx kr=some (r,s):=by
 have hex:∃r,qny e n nt v ps a b F L s kn kx kr r:=⟨r,h⟩
 unfold rfK
 rw[dif_pos hex]
 have h2:=hex.choose_spec
 obtain⟨fr,f1,f2⟩:=qmW d F hF
 have hlo:∀i p,qar L i=some p->(Tr.mk ((0,[]):Nat×List zA) dl).has i=true:=fun i p hi=>Tr.has_mk _ _ _ (by
  have:=hL (i,p) (by
   have:∀(L:LL),qar L i=some p->(i,p)∈L:=by
    intro L
    induction L with
    |nil=>intro h;cases h
    |cons q L ih=>
     intro h
     obtain⟨k,w⟩:=q
     rw[qao] at h
     split at h
     ·rename_i e
      subst e
      simp only[zac] at h
      subst h
      exact zav ..
     ·exact zaw _ (ih h)
   exact this L hi)
  simp only at this
  omega)
 obtain⟨x,s',s2,r',k1,k2,k3⟩:=h ⟨fr,Tr.mk (0,[]) dl,[],none,s⟩ (.c v) f1 hlo (fun t ht=>f2 t (by omega)) rfl rfl rfl
 obtain⟨y,t',t2,q',m1,m2,m3⟩:=h2 ⟨fr,Tr.mk (0,[]) dl,[],none,s⟩ (.c v) f1 hlo (fun t ht=>f2 t (by omega)) rfl rfl rfl
 rw[k1] at m1
 simp only[zac,zaq] at m1
 obtain⟨rfl,hs⟩:=m1
 injection hs with _ _ _ _ hs
 subst hs
 have hq:r'=q':=by
  cases x with
  |normal=>simp only at k3 m3;rw[k3] at m3;simp only[zac,zaq] at m3;exact m3.1
  |exit i=>simp only at k3 m3;have:=k3.2;rw[m3.2] at this;simp only[zac,zaq] at this;exact this.1.symm
  |ret=>simp only at k3 m3;rw[k3] at m3;simp only[zac,zaq] at m3;exact m3.1
 rw[<-k2,<-m2,hq]
end Go.AI.Tryz
namespace Go.AI
theorem qnS {s:ASt}{pre H:qaS}{l o:Nat}{zs cs new:List zA}(h:s.heap=pre++(l,.cells zs)::H)(hp:∀v∈pre,v.1≠l)(ha:cs.all qaY=true)(ho:over zs o cs=some new):stH s (.ptr l o) cs=some {s with heap:=pre++(l,.cells new)::H}:=by
 unfold stH qbO
 have hbe:Nat.beq l l=true:=qaD rfl
 simp only[h,qdQ hp,qdy hp,qar,qaK,hbe,cond_true,ha,ho,zaa,zab]
theorem qd3 {E:qaS}{s:ASt}{pre H:qaS}{l:Nat}{cs:List zA}(h:s.heap=pre++(l,.cells cs)::H)(hp:∀v∈pre,v.1≠l):qas E s l=some cs:=by
 unfold qas
 have hbe:Nat.beq l l=true:=qaD rfl
 simp only[h,qdQ hp,qar,hbe,cond_true]
end Go.AI
namespace Go.AI.Tryz
theorem qso (a:Ar)(t:Tm)(h1:a.ids.length<=100000):PC CP 65 [a.v,t.v] (vw (qaC a) t).v:=by
 refine PC.of2 (cf:=cf65) (np:=2) (args':=[a.v,t.v]) (by kernel_rfl) (by kernel_rfl) rfl (by simp only[zan,qak];rfl) (by simp only[zal,qaj];rfl) (fun _=>rfl) ((Ev.ge (a.ids.length+1)).mono fun n hn E s=>?_)
 let sz:List Int:=a.ids.map fun t=>t.res.n
 let f:Nat->List zP:=fun j=>qaQ qcT (sz.take j)
 have hszl:sz.length=a.ids.length:=by simp only[sz,zaY]
 let fin:zA:=.agg [u8 t.k,i64 t.n,i64 t.m,i64 t.i,kv t.ks,qb8 f s.ntok a.ids.length,i64 (.ofNat a.ids.length)]
 suffices ∃s',s65 (qag CP n E) n a.v t.v s=some (fin,s') by
  obtain⟨s',e⟩:=this
  refine⟨fin,s',(s65_eq _ _ _ _ _).trans e,?_⟩
  have he1:qcm (qb8 f s.ntok a.ids.length)=.p (.sl a.ids.length (f a.ids.length)):=qdh f _ _ rfl
  have he2:(vw (qaC a) t).sz=sz:=by
   simp only[vw,qaC,sz,List.map_map]
   rfl
  have he3:f a.ids.length=qaQ qcT sz:=by
   show qaQ qcT (sz.take a.ids.length)=_
   rw[<-hszl,List.take_length]
  show zA.agg [_,_,_,_,_,qcm (qb8 f s.ntok a.ids.length),_]=zA.agg [_,_,_,_,_,iv (vw (qaC a) t).sz,_]
  rw[he1,he2,he3,iv,hszl]
  rfl
 have hav:zA.cells (some 4) a.v=some [.p (.sl a.ids.length (qaQ Ty.cells a.ids)),bl a.root.cell,i64 a.root.n,bl a.jumps]:=rfl
 have hbd:bd [u8 0,i64 0,i64 0,i64 0,.sl 0 [] .full,.sl 0 [] .full,i64 0] [(0,some 5,.c t.v),(6,none,.c (i64 (.ofNat a.ids.length)))]=some (.agg [u8 t.k,i64 t.n,i64 t.m,i64 t.i,kv t.ks,.sl 0 [] .full,i64 (.ofNat a.ids.length)]):=by rw[Tm.v_eq];rfl
 unfold s65
 simp only[hav,hbd,qbT,qo6,qo7,qah,qaV,zaa,qbB]
 unfold s65_0
 generalize hF:(fun(h21:zA->Nat->List zA->List zA->List zA->List zA->List zA->ASt->Res) (x13:zA) (g14:Nat) (c15 c16 c17 c18 c19:List zA) (s20:ASt)=>_)=F
 have key:∀k (j g:Nat) (c:List zA),j<=a.ids.length->a.ids.length-j<k->∃s',lp (fun _ _ _ _ _ _ _ _=>none) F k (i64 (.ofNat j)) g [.p (.sl a.ids.length (qaQ Ty.cells a.ids)),bl a.root.cell,i64 a.root.n,bl a.jumps] t.c [u8 0,i64 0,i64 0,i64 0,.sl 0 [] .full,.sl 0 [] .full,i64 0]
   [u8 t.k,i64 t.n,i64 t.m,i64 t.i,kv t.ks,qb8 f s.ntok j,i64 (.ofNat a.ids.length)] c (qc9 s 1 j)=some (fin,s'):=by
  intro k
  induction k with
  |zero=>intro j g c _ h;omega
  |succ k ih=>
   intro j g c hj hk
   rcases zbi j a.ids.length with h|h
   ·have hkj:a.ids[j]? =some a.ids[j]:=zah h
    have hld:∀s,ldH (qag CP n E) s (.elem (qaQ Ty.cells a.ids) (j*3)) (some 3)=some a.ids[j].v:=fun s=>qdt (c:=Ty.cells) (sz:=3) (fun _=>rfl) _ s hkj
    have hsj:j<sz.length:=by rw[hszl];exact h
    have hszj:sz[j]=a.ids[j].res.n:=by simp only[sz,List.getElem_map]
    have hap:=qfu (qag CP n E) (sz:=1) (b:=8) (f:=f) (y:=.sl 1 (qcT a.ids[j].res.n) .full) s j rfl rfl (by omega) (by
     have:=qb2 (c:=qcT) hsj
     rw[hszj] at this
     exact this)
    have hms:ms 1 [.int .i64 0] [(0,none,.c (i64 a.ids[j].res.n))]=some (.sl 1 (qcT a.ids[j].res.n) .full):=rfl
    have hcv:zA.cells none (qb8 f s.ntok (j+1))=some [qb8 f s.ntok (j+1)]:=rfl
    have hl5:∀a b c d e f g:zA,ldL [a,b,c,d,e,f,g] 5 none=some f:=fun _ _ _ _ _ _ _=>rfl
    have ho5:∀a b c d e f g h:zA,over [a,b,c,d,e,f,g] 5 [h]=some [a,b,c,d,e,h,g]:=fun _ _ _ _ _ _ _ _=>rfl
    obtain⟨s',e⟩:=ih (j+1) (g+1) [.p (.sl a.ids[j].ps.length (qaQ Bs.cells a.ids[j].ps)),bl a.ids[j].res.cell,i64 a.ids[j].res.n] (by omega) (by omega)
    refine⟨s',?_⟩
    rw[qbh]
    generalize lp _ F k=L at e⊢
    subst hF
    simp only[of_lt.2 h,qcd h,hld,Ty.v_cells3,qlA,za9,hl5,qs3,hms,hap,hcv,ho5,qaP (show j<9223372036854775807 by omega),qad,qaq,qaz,decide_true,qaa,cond_true,zab,zaa,qab,cnd]
    exact e
   ·have:j=a.ids.length:=by omega
    subst this
    have h3:¬(Int.ofNat a.ids.length<Int.ofNat a.ids.length):=fun h=>zaZ _ (of_lt.1 h)
    refine⟨qc9 s 1 a.ids.length,?_⟩
    rw[qbh]
    generalize lp _ F k=L
    subst hF
    simp only[h3,quY,qo6,qo7,qad,qaq,qaz,decide_false,qaa,cond_false,zab,zaa,cnd]
    rfl
 obtain⟨s',e⟩:=key n 0 0 [] (za3 _) (by omega)
 exact⟨s',e⟩
theorem qkT (a:Ar)(t:Tm)(oa:a.Ok)(ok:t.Ok)(h1:a.ids.length<=100000)(hs:t.size<=100000):PC CP 40 [a.v,t.v] (.tuple [(vw (qaC a) t).v,i64 (qbx a t)]):=by
 refine PC.of2 (cf:=cf40) (np:=2) (args':=[a.v,t.v]) (by kernel_rfl) (by kernel_rfl) rfl (by simp only[zan,qak];rfl) (by simp only[zal,qaj];rfl) (fun _=>rfl) (((qso a t h1).and (qtg a t oa ok h1 hs)).mono fun n ⟨h,h'⟩ E s=>⟨.tuple [(vw (qaC a) t).v,i64 (qbx a t)],s,(s40_eq _ _ _ _ _).trans ?_,rfl⟩)
 have hav:zA.cells (some 4) a.v=some [.p (.sl a.ids.length (qaQ Ty.cells a.ids)),bl a.root.cell,i64 a.root.n,bl a.jumps]:=rfl
 have hal:ldL [.p (.sl a.ids.length (qaQ Ty.cells a.ids)),bl a.root.cell,i64 a.root.n,bl a.jumps] 0 (some 4)=some a.v:=rfl
 unfold s40
 simp only[hav,hal,h,h',qah,qaV,qaG,qch,qhU,zaa,qab]
theorem every_u:UC 42 (fun k:Int=>[u8 k]) (fun _ _ _=>True) (fun _=>bl true):=
 UC.of (cf:=cf42) (np:=1) (by kernel_rfl) (by kernel_rfl) (fun _=>rfl) (fun _=>rfl) (fun _=>rfl) (fun _=>Stab.pure _) (fun _ _=>rfl) (Ev.of fun n p E s _=>⟨bl true,s,(s42_eq _ _ _ _).trans rfl,rfl⟩)
theorem qht {a:Ar}{t:Tm}(h:qbx a t=0)(ok:t.Ok)(h1:a.ids.length<=100000)(hs:t.size<=100000):Nd (qaC a) t:=by
 unfold qbx at h
 split at h
 ·rename_i h0;exact absurd h h0
 ·rename_i h0
  have h0:qbU a=0:=by simpa using h0
  split at h
  ·omega
  ·split at h
   ·rename_i hA
    refine⟨.inr ⟨a.root,hA⟩,⟨by simp only[qaC,zaY];omega,by simp only[qaC];omega,by simp only[qaC];omega⟩,ok,fun e he=>?_⟩
    simp only[qaC,List.mem_map] at he
    obtain⟨ty,hty,rfl⟩:=he
    have:qcp ty=true:=by
     unfold qbU at h0
     split at h0
     ·omega
     ·split at h0
      ·omega
      ·rename_i h2
       simp only[zaS,zaU] at h2
       have:=List.any_eq_false.1 h2.2 ty hty
       simpa using this
    simp only[qcp,zag,qbf,decide_eq_true_eq] at this
    exact this.1
   ·omega
end Go.AI.Tryz
namespace Go.AI.Tryz
abbrev Rw:=Int×Int
def rwC (p:Rw):List zP:=[.int .u8 p.1,.int .i64 p.2]
def qeM (tok:Nat):List Rw->zA
 |[]=> .sl 0 [] .full
 |a::r=> .sl (r.length+1) (qaQ rwC (a::r)) (.own tok)
abbrev qn8 (l:List Rw):zA:=.p (.sl l.length (qaQ rwC l))
def qtD (tk:Nat×List (Nat×Nat×Nat))(tok:Nat)(y:List Rw):Prop:=y≠[]->qar tk.2 tok=some (y.length,2)
theorem qtE (e:Env){y:List Rw}{tok:Nat}{s:ASt}(h:qtD (qpI s) tok y)(p:Rw)(hb:y.length<=100000000):
  ∃tok' ts nt',ap e 2 16 (qeM tok y) (.sl 1 (rwC p) .full) s=some (qeM tok' (y++[p]),{s with ntok:=nt',toks:=ts})/\qtD (nt',ts) tok' (y++[p]):=by
 cases y with
 |nil=>
  refine⟨s.ntok,_,_,qfP e (sz:=2) (b:=16) (new:=rwC p) s rfl rfl (by omega),fun _=>?_⟩
  show qar ((s.ntok,1,2)::s.toks) s.ntok=_
  rw[qao,if_pos rfl]
  rfl
 |cons a r=>
  have ht:=h (by simp)
  obtain⟨ts,e1,e2⟩:=qmQ e (sz:=2) (b:=16) (n:=r.length+1) (t:=tok) (cs:=qaQ rwC (a::r)) (new:=rwC p) (y:=.sl 1 (rwC p) .full) ht rfl rfl (by simp only[zar] at hb;omega)
  refine⟨tok,ts,s.ntok,?_,fun _=>?_⟩
  ·have hl:qeM tok (a::r++[p])=.sl (r.length+1+1) (qaQ rwC (a::r)++rwC p) (.own tok):=by
    show zA.sl ((r++[p]).length+1) (qaQ rwC (a::(r++[p]))) (.own tok)=_
    have:=qfw rwC (a::r) p
    rw[zaG] at this
    rw[this,zax]
    rfl
   rw[hl]
   exact e1
  ·show qar ts tok=_
   rw[e2,if_pos rfl]
   simp only[zax,zar,zaC]
theorem qvz (tok:Nat)(y:List Rw):qcm (qeM tok y)=qn8 y:=by cases y<;>rfl
theorem qhu (tok:Nat)(y:List Rw):zA.cells none (qeM tok y)=some [qeM tok y]:=by cases y<;>rfl
theorem qju (tok:Nat)(y:List Rw):[qeM tok y].all qaY=true:=by cases y<;>rfl
theorem qpM (l:List Of):∀(y:List Rw),qby (fun(y:List Rw) (o:Of)=>(y++[(o.1,o.2.1)],true)) y l=(y++l.map fun o=>(o.1,o.2.1),true):=by
 induction l with
 |nil=>intro y;simp only[qby,zbm,zbe]
 |cons o r ih=>intro y;simp only[qby,if_true,ih,zal,zaR,zaG,zaI]
def qc2:Int->Bool:=fun _=>true
def qf1 (a:Ar)(t:Tm):List Of:=qds qc2 0 (qbo t (qaC a))
def qc7 (a:Ar)(t:Tm):List Rw×Int:=if qbx a t=0 then((qf1 a t).map fun o=>(o.1,o.2.1),0) else([],qbx a t)
abbrev K27:=Tr zA×Tr (Nat×List zA)×Nat×qaS
def U27 (x:Vw)(q:K27)(y:List Rw)(E H:qaS)(tk:Nat×List (Nat×Nat×Nat)):Prop:=
 (q.1.get qap 4=.ptr q.2.2.1 0/\(∀t,t<31->q.1.has t=true)/\q.2.1.get (0,[]) 3=(0,[])/\q.2.1.has 3=true)/\
 ∃tok,H=(q.2.2.1+3,.loop 0 none q.1 q.2.1 [19,20] ra27 rb27)::(q.2.2.1+2,.cells [.p (.func 42 [] [])])::(q.2.2.1+1,.cells x.c)::(q.2.2.1,.cells [qeM tok y])::q.2.2.2/\qtD tk tok y
theorem qtF (x:Vw):Ev fun n=>YC (fun q:K27=>q.2.2.1+4) (fun q=> .yield (q.2.2.1+3)) (U27 x) (fun y o=>(y++[(o.1,o.2.1)],true)) (fun _=>True) (fun m y=>y.length+m<=100000000) n:=by
 refine Ev.succ ((Ev.ge 1).mono fun n hn q y E H pre s o m _ hh hpre hN hU hlv=>?_)
 obtain⟨fr,lo,N,H0⟩:=q
 obtain⟨⟨f4,fh,l3,l3h⟩,tok,hH,hok⟩:=hU
 simp only at f4 fh l3 l3h hH hpre hN
 subst hH
 obtain⟨k,at_,t⟩:=o
 have hpl:∀v∈pre,v.1≠N+3:=fun v hv=>by have:=hpre v hv;omega
 let LP:EX->zH:=fun _=> .loop 1 none fr lo [19,20] ra27 rb27
 let u:ASt->ASt:=fun s=>{s with heap:=pre++(N+3,.loop 1 none fr lo [19,20] ra27 rb27)::(N+2,.cells [.p (.func 42 [] [])])::(N+1,.cells x.c)::(N,.cells [qeM tok y])::H0}
 let pre2:qaS:=pre++[(N+3,.loop 1 none fr lo [19,20] ra27 rb27),(N+2,.cells [.p (.func 42 [] [])]),(N+1,.cells x.c)]
 have hp2:∀v∈pre2,v.1≠N:=by
  intro v hv
  simp only[pre2,zaL,zaE,zaF,or_false] at hv
  rcases hv with hv|rfl|rfl|rfl
  ·have:=hpre v hv;omega
  ·simp only;omega
  ·simp only;omega
  ·simp only;omega
 have hu:(u s).heap=pre2++(N,.cells [qeM tok y])::H0:=by simp only[u,pre2,zaR,zaG,zaI]
 obtain⟨tok',ts,nt',e1,e2⟩:=qtE (qag CP n E) (s:=u s) (y:=y) (tok:=tok) hok (k,at_) (by omega)
 have hst:=qnS (s:={u s with ntok:=nt',toks:=ts}) (l:=N) (o:=0) hu hp2 (qju tok' (y++[(k,at_)])) (new:=[qeM tok' (y++[(k,at_)])]) rfl
 have hld:qas (qag CP n E).E (u s) N=some [qeM tok y]:=qd3 hu hp2
 have one:∀v:zA,ldL [v] 0 none=some v:=fun _=>rfl
 let s2:ASt:={u s with ntok:=nt',toks:=ts,heap:=pre2++(N,.cells [qeM tok' (y++[(k,at_)])])::H0}
 have hrun:qs1 31 7 (qag CP n E) n ra27 rb27 u ((19,rwV (k,at_,t))::(20,t.v)::[(4,.ptr N 0)]) [(3,(0,[]))] s=some (qkG .normal,s2):=by
  refine(y27_eq (qag CP n E) n u N (rwV (k,at_,t)) t.v s).trans ?_
  have hc2:zA.cells (some 2) (rwV (k,at_,t))=some [u8 k,i64 at_]:=rfl
  have hms:ms 1 [.int .u8 0,.int .i64 0] [(0,some 2,.c (.agg [u8 k,i64 at_]))]=some (.sl 1 (rwC (k,at_)) .full):=rfl
  unfold y27
  simp only[hc2,qjf,ldP hld,one,qo3,hms,e1,qhu,hst,zaa,qab]
  rfl
 have hs2:s2.heap=pre++(N+3,.loop 1 none fr lo [19,20] ra27 rb27)::(N+2,.cells [.p (.func 42 [] [])])::(N+1,.cells x.c)::(N,.cells [qeM tok' (y++[(k,at_)])])::H0:=by simp only[s2,pre2,zaR,zaG,zaI]
 have hy:=qpL (n:=n) (nt:=31) (nl:=7) (E:=E) (ly:=N+3) (fr:=fr) (lo:=lo) (pre:=pre) (F0:=[(4,.ptr N 0)]) (L:=[(3,(0,[]))]) (v1:=rwV (k,at_,t)) (v2:=t.v) (x:=.normal) (by kernel_rfl) (by kernel_rfl) (by omega) (by omega) (by omega) hh hpl
  (fun t u hu=>by
   rw[qao] at hu
   split at hu
   ·rename_i e;subst e;rw[f4];simpa using hu
   ·cases hu) fh
  (fun i p hi=>by
   rw[qao] at hi
   split at hi
   ·rename_i e;subst e
    simp only[zac] at hi
    subst hi
    exact⟨l3,l3h⟩
   ·cases hi) (by simp only[zan,qak];rfl) hrun hs2
 refine⟨_,_,hy,rfl,rfl,⟨⟨f4,fh,l3,l3h⟩,tok',rfl,e2⟩,fun _=>?_⟩
 simp only[zax,zar,zaC]
 omega
theorem qvA (x:Vw):Ev fun n=>SmC (fun q:K27=>q.2.2.1+4) (fun _=> .p (.func 42 [] [])) (U27 x) qc2 n:=
 (every_u.and (Ev.ge 1)).mono fun n ⟨h,hn⟩ q y E H pre s i _ _ _ _=>by
  rw[qgf CP hn]
  exact h (.ofNat (i+1)) E s trivial
theorem qbH {E H:qaS}{l m:Nat}{o:zH}(h:m≠l):qc1 E ((m,o)::H) l=qc1 E H l:=by
 unfold qc1
 exact qbD rfl h
theorem qeu {E H:qaS}{l:Nat}{cs:List zA}:qc1 E ((l,.cells cs)::H) l=some cs:=qaW (s:=⟨0,(l,.cells cs)::H,0,[]⟩) rfl
theorem qxh (x:Vw)(q:K27)(y:List Rw)(E H:qaS)(tk:Nat×List (Nat×Nat×Nat))(h:U27 x q y E H tk):qc1 E H (q.2.2.1+2)=some [.p (.func 42 [] [])]/\q.2.2.1+2<q.2.2.1+4:=by
 obtain⟨_,tok,rfl,_⟩:=h
 exact⟨by rw[qbH (by omega),qeu],by omega⟩
theorem qxi (x:Vw)(q:K27)(y:List Rw)(E H:qaS)(tk:Nat×List (Nat×Nat×Nat))(h:U27 x q y E H tk):qc1 E H (q.2.2.1+1)=some x.c/\q.2.2.1+1<q.2.2.1+4:=by
 obtain⟨_,tok,rfl,_⟩:=h
 exact⟨by rw[qbH (by omega),qbH (by omega),qeu],by omega⟩
theorem qnT (a:Ar)(t:Tm)(oa:a.Ok)(ok:t.Ok)(h1:a.ids.length<=100000)(hs:t.size<=100000):PC CP 27 [a.v,t.v] (.tuple [qn8 (qc7 a t).1,i64 (qc7 a t).2]):=by
 have hav:zA.cells (some 4) a.v=some [.p (.sl a.ids.length (qaQ Ty.cells a.ids)),bl a.root.cell,i64 a.root.n,bl a.jumps]:=rfl
 have hal:ldL [.p (.sl a.ids.length (qaQ Ty.cells a.ids)),bl a.root.cell,i64 a.root.n,bl a.jumps] 0 (some 4)=some a.v:=rfl
 have hf0:zA.cells none (.sl 0 [] .full)=some [.sl 0 [] .full]:=rfl
 unfold qc7
 by_cases hc:qbx a t=0
 ·have hnd:=qht hc ok h1 hs
  let x:=vw (qaC a) t
  have hoff:=qkS (κ:=K27) (N0:=fun q=>q.2.2.1+4) (l4:=fun q=>q.2.2.1+1) (l7:=fun q=>q.2.2.1+2) (yv:=fun q=> .yield (q.2.2.1+3)) (someV:=fun _=> .p (.func 42 [] [])) (U:=U27 x) (sm:=qc2) (OS:=fun _=>True) (live:=fun m y=>y.length+m<=100000000) hnd (by omega) (fun m y h=>by omega) (fun _=>rfl) (fun _=>rfl) (fun _=>rfl) (fun _=>rfl) (qxh x) (qxi x) (fun _ _ _ _ _ _=>trivial) (qtF x) (qvA x)
  rw[if_pos hc]
  refine PC.of2 (cf:=cf27) (np:=2) (args':=[a.v,t.v]) (by kernel_rfl) (by kernel_rfl) rfl (by simp only[zan,qak];rfl) (by simp only[zal,qaj];rfl) (fun _=>rfl)
   (((qkT a t oa ok h1 hs).and ((qry x (.p (.func 42 [] [])) rfl rfl rfl rfl).and (hoff.and (Ev.ge 1)))).mono fun n ⟨hl,ho,hoff,hn⟩ E s=>?_)
  let N:=s.next
  let s21:=qai (qai (qai s (.cells [.sl 0 [] .full])) (.cells x.c)) (.cells [.p (.func 42 [] [])])
  let Y:=(qf1 a t).map fun o=>((o.1,o.2.1):Rw)
  suffices s27 (qag CP n E) n a.v t.v s=some (.tuple [qn8 Y,i64 0],s21) from⟨_,s21,(s27_eq _ _ _ _ _).trans this,rfl⟩
  have hrf:∀(F:FL) (L:LL) (kn kx kr:ASt->Res),qar F 4=some (.ptr N 0)->(∃p,qar L 3=some p)->(∀s':ASt,∀pre tok H,s'.heap=pre++(N,.cells [qeM tok Y])::H->(∀v∈pre,v.1≠N)->∃s2,kn s'=some (.tuple [qeM tok Y,i64 0],s2))->qny (qag CP n E) n 31 (.func 94 [] [.ptr (N+1) 0,.ptr (N+2) 0]) [19,20] ra27 rb27 F L s21 kn kx kr (.tuple [qn8 Y,i64 0]):=by
   intro F L kn kx kr hF4 ⟨pl3,hL3⟩ hkn
   refine qvy hn fun fr lo hF hh hlo hL=>?_
   have hf4:=hF 4 _ hF4
   have hU:U27 x (fr,lo,N,s.heap) [] E (qai s21 (.loop 0 none fr lo [19,20] ra27 rb27)).heap (qpI (qai s21 (.loop 0 none fr lo [19,20] ra27 rb27))):=⟨⟨hf4,hh,hlo 3,hL 3 _ hL3⟩,0,rfl,fun h=>absurd rfl h⟩
   obtain⟨s',pre',H',e1,e2,e3,e4,⟨_,tok,hH',_⟩⟩:=hoff (fr,lo,N,s.heap) [] E (qai s21 (.loop 0 none fr lo [19,20] ra27 rb27)) (zao _) hU (by show 0+22*t.size<=_;omega)
   rw[qpM,zaI] at hH'
   subst hH'
   have hk:=hkn {s' with heap:=pre'++(s21.next,.gone)::(N+2,.cells [.p (.func 42 [] [])])::(N+1,.cells x.c)::(N,.cells [qeM tok Y])::s.heap} (pre'++[(s21.next,.gone),(N+2,.cells [.p (.func 42 [] [])]),(N+1,.cells x.c)]) tok s.heap (by simp only[zaR,zaG,zaI]) (by
    intro v hv
    simp only[zaL,zaE,zaF,or_false] at hv
    rcases hv with hv|rfl|rfl|rfl
    ·have:=e3 v hv;simp only at this;omega
    ·show N+1+1+1≠N;omega
    ·show N+2≠N;omega
    ·show N+1≠N;omega)
   obtain⟨s2,hk⟩:=hk
   refine⟨.normal,s',pre',_,s2,_,e1,e2,fun v hv=>by have:=e3 v hv;simp only at this;show v.1≠N+1+1+1;omega,?_,hk⟩
   show zA.tuple [qc8 (qeM tok Y),_]=_
   have:qc8 (qeM tok Y)=qcm (qeM tok Y):=by cases Y<;>rfl
   rw[this,qvz]
   rfl
  have one:∀v:zA,ldL [v] 0 none=some v:=fun _=>rfl
  have hlk:∀E s,cl (qag CP n E) 40 [a.v,t.v] s=some (.tuple [x.v,i64 0],s):=by
   intro E s
   have:=hl E s
   rw[hc] at this
   exact this
  unfold s27
  simp only[hav,hal,hlk,ho,qah,qaV,qaG,qch,qhU,qad,qaU,decide_true,zak,qaa,cond_false,zab,zaa,qab,qan,qaw,qax,qa2]
  refine qsn 5 3 ?_ (by omega) ?_ (hrf _ _ _ _ _ rfl ⟨_,rfl⟩ fun s' pre tok H hh hp=>?_)
  ·intro p hp
   simp only[zaE,zaF,or_false] at hp
   rcases hp with rfl|rfl|rfl|rfl|rfl|rfl|rfl|rfl|rfl|rfl|rfl|rfl|rfl|rfl|rfl|rfl|rfl|rfl<;>simp only<;>omega
  ·intro p hp
   simp only[zaE,zaF,or_false] at hp
   rcases hp with rfl|rfl|rfl|rfl|rfl|rfl|rfl|rfl<;>simp only<;>omega
  ·have hld:qas (qag CP n E).E s' s.next=some [qeM tok Y]:=qd3 hh hp
   have hst:=qnS (l:=s.next) (o:=0) hh hp (qju tok Y) (new:=[qeM tok Y]) rfl
   have hld2:qas (qag CP n E).E {s' with heap:=pre++(s.next,.cells [qeM tok Y])::H} s.next=some [qeM tok Y]:=qd3 rfl hp
   refine⟨{s' with heap:=pre++(s.next,.cells [qeM tok Y])::H},?_⟩
   simp only[ldP hld,ldP hld2,one,qhu,hst,zaa]
 ·rw[if_neg hc]
  refine PC.of2 (cf:=cf27) (np:=2) (args':=[a.v,t.v]) (by kernel_rfl) (by kernel_rfl) rfl (by simp only[zan,qak];rfl) (by simp only[zal,qaj];rfl) (fun _=>rfl)
   ((qkT a t oa ok h1 hs).mono fun n hl E s=>⟨.tuple [.sl 0 [] .full,i64 (qbx a t)],qai s (.cells [.sl 0 [] .full]),(s27_eq _ _ _ _ _).trans ?_,rfl⟩)
  have hst:stH (qai s (.cells [.sl 0 [] .full])) (.ptr s.next 0) [.sl 0 [] .full]=some (qai s (.cells [.sl 0 [] .full])):=qkN _ _ _ _ _ rfl rfl
  unfold s27
  simp only[hav,hal,hl,hc,hf0,hst,qcu,qah,qaV,qaG,qhU,qad,qaU,decide_false,zam,qaa,cond_true,zab,zaa,qab,qan,qaw,qax,qa2,qcM]
end Go.AI.Tryz
namespace Go.AI
mutual
def Tm.put1 (u:Tm):Nat->Tm->Tm
 |0,_=>u
 |j+1,.mk k n m i ks=> .mk k n m i (Tm.putL u j ks)
def Tm.putL (u:Tm):Nat->List Tm->List Tm
 |_,[]=>[]
 |j,k::r=>if j<k.size then Tm.put1 u j k::r else k::Tm.putL u (j-k.size) r
end
theorem Tm.put1_succ (u t:Tm)(j:Nat):Tm.put1 u (j+1) t=t.with (Tm.putL u j t.ks):=by
 cases t;rw[Tm.put1];rfl
def qdR (a:Int)(u:Tm):Int->Tm->Int->Int×(Tm×Bool):=fun c t _=>(qbb .i64 (c+1),if qbb .i64 (qbb .i64 (c+1)-1)=a then(u,false) else(t,true))
theorem qmX {a:Int}{u:Tm}{c:Nat}(h:c<=1000000000)(t:Tm)(l:Int):qdR a u (.ofNat c) t l=(.ofNat (c+1),if Int.ofNat c=a then(u,false) else(t,true)):=by
 have h1:qbb .i64 (Int.ofNat c+1)=.ofNat (c+1):=qbs (by simp only[zaf];omega) (by simp only[zaf];omega)
 have h2:qbb .i64 (Int.ofNat (c+1)-1)=.ofNat c:=by
  have:Int.ofNat (c+1)-1=Int.ofNat c:=by simp only[zaf];omega
  rw[this]
  exact qbs (by simp only[zaf];omega) (by simp only[zaf];omega)
 unfold qdR
 rw[h1,h2]
def PutR (a c:Nat)(u:Tm)(sz:Nat){α:Type}(t:α)(put:Nat->α)(r:Int×α):Prop:=
 if c<=a/\a<c+sz then∃c':Nat,r=(.ofNat c',put (a-c))/\a<c'/\c'<=c+sz else r=(.ofNat (c+sz),t)
theorem PutR.inn {a c:Nat}{u:Tm}{sz:Nat}{α:Type}{t:α}{put:Nat->α}{r:Int×α}(h:c<=a/\a<c+sz):PutR a c u sz t put r↔∃c':Nat,r=(.ofNat c',put (a-c))/\a<c'/\c'<=c+sz:=by
 unfold PutR;rw[if_pos h]
theorem PutR.out {a c:Nat}{u:Tm}{sz:Nat}{α:Type}{t:α}{put:Nat->α}{r:Int×α}(h:¬(c<=a/\a<c+sz)):PutR a c u sz t put r↔r=(.ofNat (c+sz),t):=by
 unfold PutR;rw[if_neg h]
theorem Tm.with_ks (t:Tm):t.with t.ks=t:=by cases t;rfl
theorem qmY (a:Nat)(u:Tm):∀(d c:Nat) (t:Tm) (l:Int),t.size<=d->c+t.size<=1000000000->PutR a c u t.size t (fun j=>Tm.put1 u j t) (qc4 (qdR (.ofNat a) u) d (.ofNat c) t l)
 |0,c,t,l,h,_=>by have:=Tm.size_pos t;omega
 |d+1,c,t,l,h,hc=>by
  have hk:∀(lab:Bool) (ks:List Tm) (j c:Nat),(∀u∈ks,u.size<=d)->c+Tm.sizeL ks<=1000000000->PutR a c u (Tm.sizeL ks) ks (fun j=>Tm.putL u j ks) (qfE (qc4 (qdR (.ofNat a) u) d) lab l j (.ofNat c) ks):=by
   intro lab ks
   induction ks with
   |nil=>intro j c _ _;rw[PutR.out (by simp only[Tm.sizeL];omega)];rfl
   |cons w r ih=>
    intro j c hu hc
    simp only[Tm.sizeL] at hc
    have h1:=qmY a u d c w (if lab&&decide (j=0) then l+1 else l) (hu w (zav ..)) (by omega)
    have ih:=fun c' hc'=>ih (j+1) c' (fun v hv=>hu v (zaw _ hv)) hc'
    simp only[qfE,Tm.sizeL,Tm.putL]
    by_cases hin:c<=a/\a<c+w.size
    ·rw[PutR.inn hin] at h1
     obtain⟨c',e,h3,h4⟩:=h1
     have ih:=ih c' (by omega)
     rw[PutR.out (by omega)] at ih
     rw[e]
     simp only
     rw[ih,PutR.inn (by omega)]
     refine⟨c'+Tm.sizeL r,?_,by omega,by omega⟩
     rw[if_pos (by omega)]
    ·rw[PutR.out hin] at h1
     rw[h1]
     simp only
     have ih:=ih (c+w.size) (by omega)
     by_cases hin2:c+w.size<=a/\a<c+w.size+Tm.sizeL r
     ·rw[PutR.inn hin2] at ih
      obtain⟨c',e,h3,h4⟩:=ih
      rw[e,PutR.inn (by omega)]
      refine⟨c',?_,h3,by omega⟩
      rw[if_neg (by omega)]
      have:a-c-w.size=a-(c+w.size):=by omega
      rw[this]
     ·rw[PutR.out hin2] at ih
      rw[ih,PutR.out (by omega)]
      have:c+w.size+Tm.sizeL r=c+(w.size+Tm.sizeL r):=by omega
      rw[this]
  have hsz:=Tm.size_ks t
  have hp:=Tm.size_pos t
  unfold qc4
  rw[qmX (by omega)]
  by_cases ha:c=a
  ·subst ha
   rw[if_pos rfl]
   rw[PutR.inn (by omega)]
   simp only[zai,if_false]
   refine⟨c+1,?_,by omega,by omega⟩
   rw[Nat.sub_self,Tm.put1]
  ·rw[if_neg (fun h=>ha (Int.ofNat.inj h))]
   simp only[if_true]
   have:=hk (decide (t.k=11)) t.ks 0 (c+1) (fun v hv=>by have:=Tm.sizeL_mem hv;omega) (by omega)
   by_cases hin:c+1<=a/\a<c+1+Tm.sizeL t.ks
   ·rw[PutR.inn hin] at this
    obtain⟨c',e,h3,h4⟩:=this
    rw[e,PutR.inn (by omega)]
    refine⟨c',?_,h3,by omega⟩
    simp only
    have:a-c=(a-(c+1))+1:=by omega
    rw[this,Tm.put1_succ]
   ·rw[PutR.out hin] at this
    rw[this,PutR.out (by omega)]
    simp only
    have:c+1+Tm.sizeL t.ks=c+t.size:=by omega
    rw[this,Tm.with_ks]
end Go.AI
namespace Go.AI.Tryz
def RP (a:Int)(u:Tm)(q:Nat×qaS)(c:Int)(_:qaS)(s:ASt):Prop:=s.heap=(q.1+2,.cells [i64 c])::(q.1+1,.cells u.c)::(q.1,.cells [i64 a])::q.2
end Go.AI.Tryz
namespace Go.AI.Tryz
def Lk (x:Sc)(t:Tm)(y:Sc)(t':Tm):Prop:=szF x t=szF y t'/\∀b,qdu szF x t b=qdu szF y t' b
def LkK (sx sy:Nat->Sc):Nat->List Tm->List Tm->Prop
 |_,[],[]=>True
 |j,u::r,w::q=>Lk (sx j) u (sy j) w/\LkK sx sy (j+1) r q
 |_,_,_=>False
theorem qmZ {x:Sc}{t:Tm}(h:t.k≠16)(h2:t.k≠17)(b:Bs):qdu szF x t b=(!b.cell&&is2 (szF x t) b.n):=by
 unfold qdu
 rw[if_neg h,if_neg h2]
 cases b.cell<;>simp
theorem qpN {x:Sc}(i:Int)(b:Bs):qdu szF x (.cel i) b=(b.cell&&(match x.get i with|some e=>e.ty.res.cell&&decide (e.ty.res.n=b.n)|none=>false)):=by
 unfold qdu
 rw[qc0 (.cel i)]
 cases b.cell with
 |true=>simp only[if_true,zay,Tm.k_mk,Tm.i_mk];rfl
 |false=>
  simp only[zai,if_false,qeS,zau]
theorem qlQ {x:Sc}(u w:Tm)(b:Bs):qdu szF x (.obj u w) b=(b.cell&&(is2 (szF x u) b.n&&is2 (szF (x.with ⟨⟨[],⟨false,b.n⟩⟩,true⟩) w) 1)):=by
 unfold qdu
 rw[qc0 (.obj u w)]
 cases b.cell with
 |true=>simp only[if_true,zay,Tm.k_mk,Tm.ks_mk,zaj,if_false]
 |false=>
  simp only[zai,if_false,qdN,zau]
theorem Lk.of_sz {x y:Sc}{t t':Tm}(h:szF x t=szF y t')(h1:t.k≠16/\t.k≠17)(h2:t'.k≠16/\t'.k≠17):Lk x t y t':=by
 refine⟨h,fun b=>?_⟩
 rw[qmZ h1.1 h1.2,qmZ h2.1 h2.2,h]
theorem qum {x:Sc}{t:Tm}(h:(szF x t).2=true):t.k≠16/\t.k≠17:=by
 cases qdf h with
 |cel i=>rw[qeS] at h;cases h
 |obj u w=>rw[qdN] at h;cases h
 |_=>exact⟨by simp[Tm.k],by simp[Tm.k]⟩
theorem Lk.of_ok {x y:Sc}{t t':Tm}(h:szF x t=szF y t')(h1:(szF x t).2=true):Lk x t y t':=Lk.of_sz h (qum h1) (qum (by rw[<-h];exact h1))
theorem LkK.args {x y:Sc}:∀{ks ks':List Tm} (j:Nat) {ps:List Bs},LkK (fun _=>x) (fun _=>y) j ks ks'->qbt (qdu szF x) ks ps=qbt (qdu szF y) ks' ps
 |[],[],_,ps,_=>by cases ps<;>rfl
 |u::r,w::q,j,ps,h=>by
  unfold LkK at h
  cases ps with
  |nil=>rfl
  |cons b ps=>
   simp only[qbt,h.1.2 b]
   rw[LkK.args (j+1) h.2]
 |[],_::_,_,_,h=>h.elim
 |_::_,[],_,_,h=>h.elim
theorem Lk.node {x y:Sc}{t t':Tm}(hs:Sh t)(hs':Sh t')(hk:t'.k=t.k)(hm:t'.m=t.m)(hn:t.k≠12->t'.n=t.n)(h12:t.k=12->qbg t.n x.size=qbg t'.n y.size)(hi:x.get t.i=y.get t'.i)
  (h18:t.k=18->decide (x.top<t.i)=decide (y.top<t'.i))(hks:LkK (x.kid t) (y.kid t') 0 t.ks t'.ks):Lk x t y t':=by
 cases hs<;>cases hs'<;>first|(exfalso;revert hk;simp only[Tm.k_mk,zaj,imp_self];done)|skip
 case num.num n m n' m'=>
  have e1:n'=n:=hn (by simp[Tm.k])
  have e2:m'=m:=hm
  subst e1 e2
  exact Lk.of_sz (by rw[qdx,qdx]) (by simp[Tm.k]) (by simp[Tm.k])
 case use.use i ks i' ks'=>
  have e:x.get i=y.get i':=hi
  have hks:LkK (fun _=>x) (fun _=>y) 0 ks ks':=hks
  refine Lk.of_sz ?_ (by simp[Tm.k]) (by simp[Tm.k])
  rw[qgg,qgg,e,hks.args]
 case get.get i i'=>
  have e:x.get i=y.get i':=hi
  refine Lk.of_sz ?_ (by simp[Tm.k]) (by simp[Tm.k])
  rw[qhl,qhl,e]
 case put.put i u i' u'=>
  have e:x.get i=y.get i':=hi
  have h1:szF x u=szF y u':=hks.1.1
  refine Lk.of_sz ?_ (by simp[Tm.k]) (by simp[Tm.k])
  rw[qeQ,qeQ,e,h1]
 case op.op n m u w n' m' u' w'=>
  have e1:n'=n:=hn (by simp[Tm.k])
  have e2:m'=m:=hm
  subst e1 e2
  have h1:szF x u=szF y u':=hks.1.1
  have h2:szF x w=szF y w':=hks.2.1.1
  refine Lk.of_sz ?_ (by simp[Tm.k]) (by simp[Tm.k])
  rw[qeK,qeK,h1,h2]
 case az.az n u n' u'=>
  have e1:n'=n:=hn (by simp[Tm.k])
  subst e1
  have h1:szF x u=szF y u':=hks.1.1
  refine Lk.of_sz ?_ (by simp[Tm.k]) (by simp[Tm.k])
  rw[qeL,qeL,h1]
 case seq.seq u w u' w'=>
  have h1:szF x u=szF y u':=hks.1.1
  have h2:szF x w=szF y w':=hks.2.1.1
  refine Lk.of_sz ?_ (by simp[Tm.k]) (by simp[Tm.k])
  rw[qb1,qb1,h1,h2]
 case ite.ite c u w c' u' w'=>
  have h0:szF x c=szF y c':=hks.1.1
  have h1:szF x u=szF y u':=hks.2.1.1
  have h2:szF x w=szF y w':=hks.2.2.1.1
  refine Lk.of_sz ?_ (by simp[Tm.k]) (by simp[Tm.k])
  rw[qcx,qcx,h0,h1,h2]
 case whl.whl u w u' w'=>
  have h1:szF x u=szF y u':=hks.1.1
  have h2:szF x w=szF y w':=hks.2.1.1
  refine Lk.of_sz ?_ (by simp[Tm.k]) (by simp[Tm.k])
  rw[qfy,qfy,h1,h2]
 case new.new n m u n' m' u'=>
  have e1:n'=n:=hn (by simp[Tm.k])
  have e2:m'=m:=hm
  subst e1 e2
  have h1:szF (x.with ⟨⟨[],⟨true,n'⟩⟩,false⟩) u=szF (y.with ⟨⟨[],⟨true,n'⟩⟩,false⟩) u':=hks.1.1
  refine Lk.of_sz ?_ (by simp[Tm.k]) (by simp[Tm.k])
  rw[qeR,qeR,h1]
 case lbl.lbl u w u' w'=>
  have h1:szF {x with size:=x.size+1} u=szF {y with size:=y.size+1} u':=hks.1.1
  have h2:szF x w=szF y w':=hks.2.1.1
  refine Lk.of_sz ?_ (by simp[Tm.k]) (by simp[Tm.k])
  rw[qeo,qeo,h1,h2]
 case jmp.jmp n n'=>
  refine Lk.of_sz ?_ (by simp[Tm.k]) (by simp[Tm.k])
  rw[qiu,qiu]
  exact congrArg _ (h12 rfl)
 case cho.cho u w u' w'=>
  have h1:szF x u=szF y u':=hks.1.1
  have h2:szF x w=szF y w':=hks.2.1.1
  refine Lk.of_sz ?_ (by simp[Tm.k]) (by simp[Tm.k])
  rw[qep,qep,h1,h2]
 case hang.hang=>exact Lk.of_sz (by rw[qhn,qhn]) (by simp[Tm.k]) (by simp[Tm.k])
 case val.val i i'=>
  have e:x.get i=y.get i':=hi
  refine Lk.of_sz ?_ (by simp[Tm.k]) (by simp[Tm.k])
  rw[qhm,qhm,e]
 case cel.cel i i'=>
  have e:x.get i=y.get i':=hi
  refine⟨by rw[qeS,qeS],fun b=>?_⟩
  rw[qpN,qpN,e]
 case obj.obj u w u' w'=>
  have h1:szF x u=szF y u':=hks.1.1
  have h2:szF (x.with ⟨⟨[],⟨false,(szF x u).1⟩⟩,true⟩) w=szF (y.with ⟨⟨[],⟨false,(szF y u').1⟩⟩,true⟩) w':=hks.2.1.1
  refine⟨by rw[qdN,qdN],fun b=>?_⟩
  rw[qlQ,qlQ]
  by_cases hb:(szF x u).1=b.n
  ·rw[←h1,hb] at h2
   rw[h1,h2]
  ·have:is2 (szF x u) b.n=false:=by simp only[is2,hb,decide_false,zaT]
   rw[<-h1,this]
   simp only[zau]
 case ntc.ntc n i u n' i' u'=>
  have e1:n'=n:=hn (by simp[Tm.k])
  subst e1
  have e:x.get i=y.get i':=hi
  have h1:szF x u=szF y u':=hks.1.1
  have h3:decide (x.top<i)=decide (y.top<i'):=h18 rfl
  refine Lk.of_sz ?_ (by simp[Tm.k]) (by simp[Tm.k])
  rw[qeq,qeq,h1,e,h3]
theorem qpO {x:Sc}{t:Tm}:Lk x t x t:=⟨rfl,fun _=>rfl⟩
theorem qm0 {sx:Nat->Sc}:∀(j:Nat) (l:List Tm),LkK sx sx j l l
 |_,[]=>trivial
 |j,_::r=>⟨qpO,qm0 (j+1) r⟩
end Go.AI.Tryz
namespace Go.AI.Tryz
theorem qlR {t:Tm}(h:Sh t){ks:List Tm}(hl:ks.length=t.ks.length):Sh (t.with ks):=by
 have h1:=qc0 h
 refine qlM ?_
 rw[<-h1]
 obtain⟨k,n,m,i,l⟩:=t
 simp only[Tm.ks] at hl
 show(match qcr formL k with|none=>false|some f=>(((f.n||decide (n=0))&&(f.m||decide (m=0)))&&(f.i||decide (i=0)))&&(decide (f.k<0)||decide (f.k=Int.ofNat ks.length)))=_
 simp only[hl]
 rfl
theorem qtG {t:Tm}(h:t.Ok){ks:List Tm}(hl:ks.length=t.ks.length)(hk:∀u∈ks,u.Ok):(t.with ks).Ok:=by
 cases h with
 |mk h1 h2 h3 h4 h5 h6=>exact .mk h1 h2 h3 h4 (by simp only[Tm.ks] at hl;omega) hk
theorem qrA {x:Sc}{t:Tm}{ks:List Tm}(h:t.k=17->(szF x (t.ks.headD .z)).1=(szF x (ks.headD .z)).1)(j:Nat):x.kid (t.with ks) j=x.kid t j:=by
 obtain⟨k,n,m,i,l⟩:=t
 simp only[Sc.kid,Tm.with,Tm.k,Tm.n,Tm.ks] at h⊢
 by_cases hk:k=17
 ·rw[h hk]
  rfl
 ·have:¬(k=17∧j=1):=fun h=>hk h.1
  simp only[this,if_false]
  rfl
theorem LkK.hd {sx sy:Nat->Sc}{l m:List Tm}(h:LkK sx sy 0 l m):(szF (sx 0) (l.headD .z)).1=(szF (sy 0) (m.headD .z)).1\/l=[]/\m=[]:=by
 match l,m,h with
 |[],[],_=>exact .inr ⟨rfl,rfl⟩
 |u::r,w::q,h=>exact .inl (by simp only[zbh];rw[h.1.1])
theorem qfc {x:Sc}{t:Tm}(h:t.k=17):x.kid t 0=x:=by
 unfold Sc.kid
 rw[if_neg (by omega),if_neg (by simp),if_neg (by omega)]
theorem Lk.with {x:Sc}{t:Tm}{ks:List Tm}(h:Sh t)(hl:ks.length=t.ks.length)(hk:LkK (x.kid t) (x.kid t) 0 t.ks ks):Lk x t x (t.with ks):=by
 have e:∀j,x.kid (t.with ks) j=x.kid t j:=qrA fun h17=>by
  rcases hk.hd with h|⟨h1,h2⟩
  ·rw[qfc h17] at h;exact h
  ·rw[h1,h2]
 refine Lk.node h (qlR h hl) ?_ ?_ ?_ ?_ ?_ ?_ ?_
 ·cases t;rfl
 ·cases t;rfl
 ·cases t;intro _;rfl
 ·cases t;intro _;rfl
 ·cases t;rfl
 ·cases t;intro _;rfl
 ·rw[show x.kid (t.with ks)=x.kid t from funext e]
  cases t;exact hk
structure PutOk (x:Sc)(t:Tm)(p:Sc×Tm)(u r:Tm):Prop where
 tr:Lk x t x r
 size:r.size+p.2.size=t.size+u.size
 ok:r.Ok
 sh:Sh r
theorem qm1 (u:Tm):∀(ks:List Tm) (j:Nat),(Tm.putL u j ks).length=ks.length
 |[],j=>by cases j<;>rfl
 |k::r,j=>by
  unfold Tm.putL
  split
  ·rfl
  ·simp only[zar,qm1 u r]
theorem qj6 {u:Tm}(hu:u.Ok){p:Sc×Tm}(hp:Lk p.1 p.2 p.1 u)(hsu:Sh u):∀(d:Nat) (t:Tm) (x:Sc) (j:Nat),t.size<=d->(qbo t x)[j]? =some p->Nd x t->PutOk x t p u (Tm.put1 u j t)
 |0,t,_,_,h,_,_=>by have:=Tm.size_pos t;omega
 |d+1,t,x,0,hd,hj,hn=>by
  rw[qcV] at hj
  simp only[zas,zac] at hj
  subst hj
  unfold Tm.put1
  exact⟨hp,by show u.size+t.size=_;omega,hu,hsu⟩
 |d+1,t,x,j+1,hd,hj,hn=>by
  rw[qcV] at hj
  simp only[zaN] at hj
  have hK:∀(r:List Tm) (sc:Nat->Sc) (m j:Nat),(∀w∈r,w.size<=d/\w.Ok)->(∀i w,r[i]? =some w->Nd (sc (m+i)) w)->(qbd sc m r)[j]? =some p->
    LkK sc sc m r (Tm.putL u j r)/\Tm.sizeL (Tm.putL u j r)+p.2.size=Tm.sizeL r+u.size/\∀w∈Tm.putL u j r,w.Ok:=by
   intro r
   induction r with
   |nil=>intro sc m j _ _ h;simp[qbd] at h
   |cons k r ih=>
    intro sc m j hsz hnd h
    simp only[qbd] at h
    unfold Tm.putL
    by_cases hlt:j<k.size
    ·rw[if_pos hlt]
     rw[zaO (by rw[qbN];exact hlt)] at h
     obtain⟨h1,h2,h3,h4⟩:=qj6 hu hp hsu d k (sc m) j (hsz k (zav ..)).1 h (hnd 0 k rfl)
     refine⟨⟨h1,qm0 _ _⟩,by simp only[Tm.sizeL];omega,fun w hw=>?_⟩
     rcases zaE.1 hw with rfl|hw
     ·exact h3
     ·exact(hsz w (zaw _ hw)).2
    ·rw[if_neg hlt]
     rw[zaA (by rw[qbN];omega),qbN] at h
     obtain⟨h1,h2,h3⟩:=ih sc (m+1) (j-k.size) (fun w hw=>hsz w (zaw _ hw)) (fun i w hi=>by
      have:=hnd (i+1) w (by simpa using hi)
      rw[show m+1+i=m+(i+1) by omega]
      exact this) h
     refine⟨⟨qpO,h1⟩,by simp only[Tm.sizeL];omega,fun w hw=>?_⟩
     rcases zaE.1 hw with rfl|hw
     ·exact(hsz w (zav ..)).2
     ·exact h3 w hw
  obtain⟨h1,h2,h3⟩:=hK t.ks (fun j=>x.kid t j) 0 j (fun w hw=>⟨by have:=qa5 hw;omega,hn.ok.kids w hw⟩) (fun i w hi=>by rw[zaH];exact hn.kid hi) hj
  rw[Tm.put1_succ]
  have hl:=qm1 u t.ks j
  refine⟨Lk.with hn.sh hl h1,?_,qtG hn.ok hl h3,qlR hn.sh hl⟩
  have e1:=Tm.size_ks t
  have e2:=Tm.size_ks (t.with (Tm.putL u j t.ks))
  have e3:(t.with (Tm.putL u j t.ks)).ks=Tm.putL u j t.ks:=by cases t;rfl
  rw[e3] at e2
  omega
end Go.AI.Tryz
namespace Go.AI.Tryz
structure Good (x:Sc)(t u:Tm):Prop where
 sz:szF x t=szF x u
 ok2:(szF x t).2=true
 le:u.size<=t.size
 ok:u.Ok
theorem qiy {n m:Int}(h:0<=n/\n<=64)(hm:0<=m/\m<=64):(Tm.num n m).Ok:=.mk (by decide) (by omega) (by omega) (by decide) (by decide) (fun _ h=>by cases h)
theorem ok1_of {k n m i:Int}{a:Tm}(hk:0<=k/\k<256)(hn: -9223372036854775808<=n/\n<=9223372036854775807)(hm: -9223372036854775808<=m/\m<=9223372036854775807)(hi: -9223372036854775808<=i/\i<=9223372036854775807)(ha:a.Ok):(Tm.mk k n m i [a]).Ok:=
 .mk hk hn hm hi (by rw[qbM];simp only[zar,zaC];omega) fun u hu=>by
  simp only[zaE,zaF,or_false] at hu
  subst hu;exact ha
theorem ok2_of {k n m i:Int}{a b:Tm}(hk:0<=k/\k<256)(hn: -9223372036854775808<=n/\n<=9223372036854775807)(hm: -9223372036854775808<=m/\m<=9223372036854775807)(hi: -9223372036854775808<=i/\i<=9223372036854775807)(ha:a.Ok)(hb:b.Ok):(Tm.mk k n m i [a,b]).Ok:=
 .mk hk hn hm hi (by rw[qbM];simp only[zar,zaC];omega) fun u hu=>by
  simp only[zaE,zaF,or_false] at hu
  rcases hu with rfl|rfl
  ·exact ha
  ·exact hb
theorem ok3_of {k n m i:Int}{a b c:Tm}(hk:0<=k/\k<256)(hn: -9223372036854775808<=n/\n<=9223372036854775807)(hm: -9223372036854775808<=m/\m<=9223372036854775807)(hi: -9223372036854775808<=i/\i<=9223372036854775807)(ha:a.Ok)(hb:b.Ok)(hc:c.Ok):(Tm.mk k n m i [a,b,c]).Ok:=
 .mk hk hn hm hi (by rw[qbM];simp only[zar,zaC];omega) fun u hu=>by
  simp only[zaE,zaF,or_false] at hu
  rcases hu with rfl|rfl|rfl
  ·exact ha
  ·exact hb
  ·exact hc
theorem qcf {t:Tm}(h:t.Ok):(0<=t.k/\t.k<256)/\(-9223372036854775808<=t.n/\t.n<=9223372036854775807)/\(-9223372036854775808<=t.m/\t.m<=9223372036854775807)/\(-9223372036854775808<=t.i/\t.i<=9223372036854775807):=by cases h with|mk h1 h2 h3 h4 _ _=>exact⟨h1,h2,h3,h4⟩
theorem z64:(-9223372036854775808:Int)<=0/\(0:Int)<=9223372036854775807:=by decide
theorem o64:(-9223372036854775808:Int)<=1/\(1:Int)<=9223372036854775807:=by decide
theorem qjv {a m:Int}(ha:0<=a)(hm:1<=m):0<=a.tmod m/\a.tmod m<m:=by
 rw[Int.tmod_eq_emod_of_nonneg ha]
 exact⟨Int.emod_nonneg _ (by omega),Int.emod_lt_of_pos _ (by omega)⟩
theorem qvB {n m a b:Int}(hm:1<=m)(ha:0<=a)(hb:0<=b)(hb2:b<m):(n=1\/n=2\/n=3->0<=qgA n m a b/\qgA n m a b<m)/\(n=4\/n=5->0<=qgA n m a b/\qgA n m a b<2):=by
 unfold qgA
 refine⟨fun h=>?_,fun h=>?_⟩
 ·rcases h with rfl|rfl|rfl
  ·exact qjv (by omega) hm
  ·exact qjv (by omega) hm
  ·exact qjv (Int.mul_nonneg ha hb) hm
 ·rcases h with rfl|rfl<;>simp only[zaj,if_false,if_true]
  ·cases decide (a=b)<;>simp
  ·cases decide (a<b)<;>simp
theorem qnU {x:Sc}{t:Tm}{n m:Int}(h:(szF x t).2=true)(hn:qbJ t n m=true):t=.num n m:=by
 simp only[qbJ,zag,decide_eq_true_eq] at hn
 obtain⟨p,q,rfl⟩:=qeD (qdf h) hn.1
 rw[show p=n from hn.2.1,show q=m from hn.2.2]
theorem qtH {x:Sc}{t r:Tm}(h:Nd x t)(e:opR x t=some r):Good x t r:=by
 by_cases hk:t.k=5
 ·have hsz:=h.gd.sz (by omega) (by omega)
  have hok:=h.ok
  have hko:=hok.kids
  have hf:=qcf hok
  have hsc:=h.sc
  cases h.sh with
  |op n m a b=>
   have e:(if qaH a&&qaH b then some (.num (qgA n m a.n b.n) (szF x (.op n m a b)).1) else none)=some r:=e
   split at e
   ·rename_i hab
    simp only[zag] at hab
    simp only[zac] at e
    subst e
    have hs2:=hsz
    rw[qeK] at hs2⊢
    have hin:qbc m=true/\is2 (szF x a) m=true/\is2 (szF x b) m=true:=by
     split at hs2
     ·simpa only[zag] using hs2
     ·split at hs2
      ·simpa only[zag] using hs2
      ·cases hs2
    obtain⟨h1,h2,h3⟩:=hin
    rw[is2_iff] at h2 h3
    have ra:=qdO (x:=x) (by rw[h2]) hab.1
    have rb:=qdO (x:=x) (by rw[h3]) hab.2
    rw[h2] at ra;rw[h3] at rb
    rw[isSize_iff] at h1
    have hr:=qvB (n:=n) (m:=m) (a:=a.n) (b:=b.n) h1.1 ra.1 rb.1 (by have:=rb.2.2.2;simp only at this;omega)
    by_cases hn:n=1\/n=2\/n=3
    ·have hr:=hr.1 hn
     rw[if_pos hn]
     refine⟨?_,hsz,?_,qiy (by omega) (by simp only;omega)⟩
     ·rw[qeK,qdx,if_pos hn,h2,h3]
      simp only[is2,decide_true,za7,isSize_iff.2 h1,isBelow_iff.2 hr]
     ·simp only[Tm.size,Tm.sizeL];omega
    ·rw[if_neg hn] at hs2⊢
     by_cases hn2:n=4\/n=5
     ·have hr:=hr.2 hn2
      rw[if_pos hn2]
      refine⟨?_,hsz,?_,qiy (by omega) (by simp only;omega)⟩
      ·rw[qeK,qdx,if_neg hn,if_pos hn2,h2,h3]
       simp only[is2,decide_true,za7,isSize_iff.2 h1,isBelow_iff.2 hr,isSize_iff.2 (show 1<=(2:Int)/\(2:Int)<=64 by decide)]
      ·simp only[Tm.size,Tm.sizeL];omega
     ·rw[if_neg hn2] at hs2;cases hs2
   ·cases e
  |_=>simp only[Tm.k_mk] at hk;omega
 ·unfold opR at e;rw[if_neg hk] at e;cases e
theorem qtI {x:Sc}{t r:Tm}(h:Nd x t)(e:asR t=some r):Good x t r:=by
 by_cases hk:t.k=6
 ·have hsz:=h.gd.sz (by omega) (by omega)
  have hok:=h.ok
  have hko:=hok.kids
  have hf:=qcf hok
  have hsc:=h.sc
  cases h.sh with
  |az n u=>
   have e:(if qaH u then some (.num (u.n.tmod n) n) else none)=some r:=e
   split at e
   ·rename_i hu
    simp only[zac] at e
    subst e
    have hs2:=hsz
    rw[qeL,zag,isSize_iff] at hs2
    have ra:=qdO (x:=x) hs2.1 hu
    have hr:=qjv ra.1 hs2.2.1
    refine⟨?_,hsz,by simp only[Tm.size,Tm.sizeL];omega,qiy (by omega) (by omega)⟩
    rw[qeL,qdx,hs2.1,isSize_iff.2 hs2.2,isBelow_iff.2 hr]
   ·cases e
  |_=>simp only[Tm.k_mk] at hk;omega
 ·unfold asR at e;rw[if_neg hk] at e;cases e
theorem qpP {x:Sc}{t r:Tm}(h:Nd x t)(e:qhW x t=some r):Good x t r:=by
 by_cases hk:t.k=6
 ·have hsz:=h.gd.sz (by omega) (by omega)
  have hok:=h.ok
  have hko:=hok.kids
  have hf:=qcf hok
  have hsc:=h.sc
  cases h.sh with
  |az n u=>
   have e:(if !qaH u&&decide ((szF x u).1=n) then some u else none)=some r:=e
   split at e
   ·rename_i hu
    simp only[zag,decide_eq_true_eq] at hu
    simp only[zac] at e
    subst e
    have hs2:=hsz
    rw[qeL,zag] at hs2
    refine⟨?_,hsz,by simp only[Tm.size,Tm.sizeL];omega,hko _ (by simp[Tm.ks])⟩
    rw[qeL,hs2.1,hs2.2,<-hu.2,zat,<-hs2.1]
   ·cases e
  |_=>simp only[Tm.k_mk] at hk;omega
 ·unfold qhW at e;rw[if_neg hk] at e;cases e
theorem qkU {x:Sc}{t r:Tm}(h:Nd x t)(e:qcU t=some r):Good x t r:=by
 by_cases hk:t.k=5
 ·have hsz:=h.gd.sz (by omega) (by omega)
  have hok:=h.ok
  have hko:=hok.kids
  have hf:=qcf hok
  have hsc:=h.sc
  cases h.sh with
  |op n m a b=>
   have e:(if(qjE n).isSome&&(!qaH a&&(qaH b&&decide (b.n=(qjE n).getD 0))) then some a else none)=some r:=e
   split at e
   ·rename_i hu
    simp only[zag] at hu
    simp only[zac] at e
    subst e
    have hs2:=hsz
    rw[qeK] at hs2
    have hin:qbc m=true/\is2 (szF x a) m=true/\is2 (szF x b) m=true:=by
     split at hs2
     ·simpa only[zag] using hs2
     ·split at hs2
      ·simpa only[zag] using hs2
      ·cases hs2
    obtain⟨h1,h2,h3⟩:=hin
    have hn:n=1\/n=2\/n=3:=by
     by_cases n1:n=1
     ·exact .inl n1
     ·by_cases n2:n=2
      ·exact .inr (.inl n2)
      ·by_cases n3:n=3
       ·exact .inr (.inr n3)
       ·have:=hu.1
        simp only[qjE,n1,n2,n3,if_false,zaD] at this
        cases this
    refine⟨?_,hsz,by simp only[Tm.size,Tm.sizeL];omega,hko _ (by simp[Tm.ks])⟩
    rw[qeK,if_pos hn,h1,h2,h3]
    rw[is2_iff] at h2
    rw[h2];rfl
   ·cases e
  |_=>simp only[Tm.k_mk] at hk;omega
 ·unfold qcU at e;rw[if_neg hk] at e;cases e
theorem qpQ {x:Sc}{t r:Tm}(h:Nd x t)(e:qhX t=some r):Good x t r:=by
 by_cases hk:t.k=5
 ·have hsz:=h.gd.sz (by omega) (by omega)
  have hok:=h.ok
  have hko:=hok.kids
  have hf:=qcf hok
  have hsc:=h.sc
  cases h.sh with
  |op n m a b=>
   have e:(if(decide (n=1)||(decide (n=3)||decide (n=4)))&&(qaH a&&!qaH b) then some (.op n m b a) else none)=some r:=e
   split at e
   ·simp only[zac] at e
    subst e
    refine⟨?_,hsz,by simp only[Tm.size,Tm.sizeL];omega,ok2_of (by decide) hf.2.1 hf.2.2.1 z64 (hko _ (by simp[Tm.ks])) (hko _ (by simp[Tm.ks]))⟩
    rw[qeK,qeK,Bool.and_comm (is2 (szF x a) m)]
   ·cases e
  |_=>simp only[Tm.k_mk] at hk;omega
 ·unfold qhX at e;rw[if_neg hk] at e;cases e
theorem qtJ {x:Sc}{t r:Tm}(h:Nd x t)(e:ifR t=some r):Good x t r:=by
 by_cases hk:t.k=8
 ·have hsz:=h.gd.sz (by omega) (by omega)
  have hok:=h.ok
  have hko:=hok.kids
  have hf:=qcf hok
  have hsc:=h.sc
  cases h.sh with
  |ite c a b=>
   have e:(if qaH c then some (if c.n=0 then b else a) else none)=some r:=e
   split at e
   ·simp only[zac] at e
    have hs2:=hsz
    rw[qcx,zag,zag,is2_iff] at hs2
    have ha:szF x (.ite c a b)=szF x a:=by
     rw[qcx,hs2.1.1,hs2.1.2,hs2.2]
     simp only[is2,decide_true,za7]
     rw[<-hs2.1.1]
    split at e
    ·subst e
     refine⟨?_,hsz,by simp only[Tm.size,Tm.sizeL];omega,hko _ (by simp[Tm.ks])⟩
     rw[ha,hs2.1.2,<-hs2.1.1]
    ·subst e
     exact⟨ha,hsz,by simp only[Tm.size,Tm.sizeL];omega,hko _ (by simp[Tm.ks])⟩
   ·cases e
  |_=>simp only[Tm.k_mk] at hk;omega
 ·unfold ifR at e;rw[if_neg hk] at e;cases e
theorem qpR {x:Sc}{t r:Tm}(h:Nd x t)(e:qhY t=some r):Good x t r:=by
 by_cases hk:t.k=8
 ·have hsz:=h.gd.sz (by omega) (by omega)
  have hok:=h.ok
  have hko:=hok.kids
  have hf:=qcf hok
  have hsc:=h.sc
  cases h.sh with
  |ite c a b=>
   have e:(if !qaH c&&decide (a=b) then some (.seq (.az 1 c) a) else none)=some r:=e
   split at e
   ·rename_i hu
    simp only[zag,decide_eq_true_eq] at hu
    simp only[zac] at e
    subst e
    have hs2:=hsz
    rw[qcx,zag,zag,is2_iff] at hs2
    refine⟨?_,hsz,?_,ok2_of (by decide) z64 z64 z64 (ok1_of (by decide) o64 z64 z64 (hko _ (by simp[Tm.ks]))) (hko _ (by simp[Tm.ks]))⟩
    ·rw[qcx,qb1,qeL,hs2.1.1,hs2.1.2,hs2.2]
     simp only[is2,decide_true,za7,zay]
     rfl
    ·rw[←hu.2]
     simp only[Tm.size,Tm.sizeL]
     have:=Tm.size_pos a
     omega
   ·cases e
  |_=>simp only[Tm.k_mk] at hk;omega
 ·unfold qhY at e;rw[if_neg hk] at e;cases e
theorem qpS {x:Sc}{t r:Tm}(h:Nd x t)(e:qhZ x t=some r):Good x t r:=by
 by_cases hk:t.k=8
 ·have hsz:=h.gd.sz (by omega) (by omega)
  have hok:=h.ok
  have hko:=hok.kids
  have hf:=qcf hok
  have hsc:=h.sc
  cases h.sh with
  |ite c a b=>
   have e:(if qbJ a 1 2&&(qbJ b 0 2&&(!qaH c&&decide ((szF x c).1=2))) then some c else none)=some r:=e
   split at e
   ·rename_i hu
    simp only[zag,decide_eq_true_eq] at hu
    simp only[zac] at e
    subst e
    have hs2:=hsz
    rw[qcx,zag,zag,is2_iff] at hs2
    have ha:=qnU hs2.1.1 hu.1
    refine⟨?_,hsz,by simp only[Tm.size,Tm.sizeL];omega,hko _ (by simp[Tm.ks])⟩
    have h1:(szF x a).1=2:=by rw[ha,qdx]
    rw[qcx,hs2.1.1,hs2.1.2,hs2.2,h1,<-hu.2.2.2]
    simp only[is2,decide_true,za7]
    rw[<-hs2.2]
   ·cases e
  |_=>simp only[Tm.k_mk] at hk;omega
 ·unfold qhZ at e;rw[if_neg hk] at e;cases e
theorem qpT {x:Sc}{t r:Tm}(h:Nd x t)(e:qh0 t=some r):Good x t r:=by
 by_cases hk:t.k=7
 ·have hsz:=h.gd.sz (by omega) (by omega)
  have hok:=h.ok
  have hko:=hok.kids
  have hf:=qcf hok
  have hsc:=h.sc
  cases h.sh with
  |seq a b=>
   have e:(if qaH a then some b else none)=some r:=e
   split at e
   ·simp only[zac] at e
    subst e
    have hs2:=hsz
    rw[qb1,zag] at hs2
    refine⟨?_,hsz,by simp only[Tm.size,Tm.sizeL];omega,hko _ (by simp[Tm.ks])⟩
    rw[qb1,hs2.2,za7]
   ·cases e
  |_=>simp only[Tm.k_mk] at hk;omega
 ·unfold qh0 at e;rw[if_neg hk] at e;cases e
theorem qpU {x:Sc}{t r:Tm}(h:Nd x t)(e:qfW x t=some r):Good x t r:=by
 by_cases hk:t.k=7
 ·have hsz:=h.gd.sz (by omega) (by omega)
  have hok:=h.ok
  have hko:=hok.kids
  have hf:=qcf hok
  have hsc:=h.sc
  cases h.sh with
  |seq a b=>
   have e:(if a.k=12\/a.k=14 then(if !decide (b=.num 0 (szF x (.seq a b)).1) then some (.seq a (.num 0 (szF x (.seq a b)).1)) else none) else none)=some r:=e
   split at e
   ·split at e
    ·simp only[zac] at e
     subst e
     have hr:=qfA _ (.seq a b) x (zao _) hsc hsz
     have hs2:=hsz
     rw[qb1,zag] at hs2
     refine⟨?_,hsz,?_,ok2_of (by decide) z64 z64 z64 (hko _ (by simp[Tm.ks])) (qiy (by omega) (by omega))⟩
     ·rw[qb1,qb1,qdx,hs2.1,hs2.2]
      rw[qb1] at hr
      rw[isSize_iff.2 hr,isBelow_iff.2 (by omega)];rfl
     ·simp only[Tm.size,Tm.sizeL]
      have:=Tm.size_pos b
      omega
    ·cases e
   ·cases e
  |_=>simp only[Tm.k_mk] at hk;omega
 ·unfold qfW at e;rw[if_neg hk] at e;cases e
theorem qnV {x:Sc}{t r:Tm}(h:Nd x t)(e:qeU t=some r):Good x t r:=by
 by_cases hk:t.k=9
 ·have hsz:=h.gd.sz (by omega) (by omega)
  have hok:=h.ok
  have hko:=hok.kids
  have hf:=qcf hok
  have hsc:=h.sc
  cases h.sh with
  |whl c b=>
   have e:(if qaH c&&decide (c.n=0) then some (.num 0 1) else none)=some r:=e
   split at e
   ·simp only[zac] at e
    subst e
    have hs2:=hsz
    rw[qfy] at hs2
    simp only at hs2
    refine⟨?_,hsz,by simp only[Tm.size,Tm.sizeL];omega,qiy (by decide) (by decide)⟩
    rw[qfy,qdx,hs2];rfl
   ·cases e
  |_=>simp only[Tm.k_mk] at hk;omega
 ·unfold qeU at e;rw[if_neg hk] at e;cases e
theorem qpV {x:Sc}{t r:Tm}(h:Nd x t)(e:qh1 t=some r):Good x t r:=by
 by_cases hk:t.k=11
 ·have hsz:=h.gd.sz (by omega) (by omega)
  have hok:=h.ok
  have hko:=hok.kids
  have hf:=qcf hok
  have hsc:=h.sc
  cases h.sh with
  |lbl u w=>
   have e:(if decide (u.k=12)&&decide (u.n=0) then some w else none)=some r:=e
   split at e
   ·simp only[zac] at e
    subst e
    have hs2:=hsz
    rw[qeo,zag,is2_iff] at hs2
    refine⟨?_,hsz,by simp only[Tm.size,Tm.sizeL];omega,hko _ (by simp[Tm.ks])⟩
    rw[qeo,hs2.1,hs2.2]
    simp only[is2,decide_true,za7]
   ·cases e
  |_=>simp only[Tm.k_mk] at hk;omega
 ·unfold qh1 at e;rw[if_neg hk] at e;cases e
theorem qlS {x:Sc}{t r:Tm}(h:Nd x t)(e:qdE t=some r):Good x t r:=by
 by_cases hk:t.k=13
 ·have hsz:=h.gd.sz (by omega) (by omega)
  have hok:=h.ok
  have hko:=hok.kids
  have hf:=qcf hok
  have hsc:=h.sc
  cases h.sh with
  |cho a b=>
   have e:(if decide (a=b) then some a else none)=some r:=e
   split at e
   ·simp only[zac] at e
    subst e
    have hs2:=hsz
    rw[qep,zag,is2_iff] at hs2
    refine⟨?_,hsz,by simp only[Tm.size,Tm.sizeL];omega,hko _ (by simp[Tm.ks])⟩
    rw[qep,hs2.1,hs2.2]
    simp only[is2,decide_true,za7]
    rw[<-hs2.1]
   ·cases e
  |_=>simp only[Tm.k_mk] at hk;omega
 ·unfold qdE at e;rw[if_neg hk] at e;cases e
theorem qnW {x:Sc}{t r:Tm}(h:Nd x t)(e:qer t=some r):Good x t r:=by
 by_cases hk:t.k=13
 ·have hsz:=h.gd.sz (by omega) (by omega)
  have hok:=h.ok
  have hko:=hok.kids
  have hf:=qcf hok
  have hsc:=h.sc
  cases h.sh with
  |cho a b=>
   have e:(if a.k=14 then some b else if b.k=14 then some a else none)=some r:=e
   have hs2:=hsz
   rw[qep,zag,is2_iff] at hs2
   have ha:szF x (.cho a b)=szF x a:=by
    rw[qep,hs2.1,hs2.2]
    simp only[is2,decide_true,za7]
    rw[<-hs2.1]
   split at e
   ·simp only[zac] at e
    subst e
    refine⟨?_,hsz,by simp only[Tm.size,Tm.sizeL];omega,hko _ (by simp[Tm.ks])⟩
    rw[ha,hs2.2,<-hs2.1]
   ·split at e
    ·simp only[zac] at e
     subst e
     exact⟨ha,hsz,by simp only[Tm.size,Tm.sizeL];omega,hko _ (by simp[Tm.ks])⟩
    ·cases e
  |_=>simp only[Tm.k_mk] at hk;omega
 ·unfold qer at e;rw[if_neg hk] at e;cases e
theorem qlT {x:Sc}{t r:Tm}(h:Nd x t)(e:qdF x t=some r):Good x t r:=by
 by_cases hk:t.k=18
 ·have hsz:=h.gd.sz (by omega) (by omega)
  have hok:=h.ok
  have hko:=hok.kids
  have hf:=qcf hok
  have hsc:=h.sc
  cases h.sh with
  |ntc n i u=>
   have e:(if !u.any (qd1 x.top) 0 then some u else none)=some r:=e
   split at e
   ·simp only[zac] at e
    subst e
    have hs2:=hsz
    rw[qeq,zag] at hs2
    refine⟨?_,hsz,by simp only[Tm.size,Tm.sizeL];omega,hko _ (by simp[Tm.ks])⟩
    rw[qeq,hs2.2,za7]
   ·cases e
  |_=>simp only[Tm.k_mk] at hk;omega
 ·unfold qdF at e;rw[if_neg hk] at e;cases e
theorem qrB {x:Sc}{t r:Tm}(h:Nd x t)(e:qnO t=some r):Good x t r:=by
 by_cases hk:t.k=8
 ·have hsz:=h.gd.sz (by omega) (by omega)
  have hok:=h.ok
  have hko:=hok.kids
  have hf:=qcf hok
  have hsc:=h.sc
  cases h.sh with
  |ite c a b=>
   have e:(if c.k=8 then(match c.ks with|[p,q,r]=>if qbJ q 0 2&&qbJ r 1 2 then some (.ite p b a) else none|_=>none) else none)=some r:=e
   have hs2:=hsz
   rw[qcx,zag,zag,is2_iff] at hs2
   have oc:=hko c (by simp[Tm.ks])
   split at e
   ·rename_i hk
    cases qdf hs2.2 with
    |ite p q r'=>
     have e:(if qbJ q 0 2&&qbJ r' 1 2 then some (.ite p b a) else none)=some r:=e
     split at e
     ·simp only[zac] at e
      subst e
      have hc:=hs2.2
      rw[qcx,zag] at hc
      refine⟨?_,hsz,?_,ok3_of (by decide) z64 z64 z64 (oc.kids p (by simp[Tm.ks])) (hko b (by simp[Tm.ks])) (hko a (by simp[Tm.ks]))⟩
      ·have hA:szF x a=((szF x a).1,true):=by rw[←hs2.1.1]
       have hB:=hs2.1.2
       rw[qcx x (.ite p q r') a b,qcx x p b a,hs2.2,hc.2,hB,hA]
      ·simp only[Tm.size,Tm.sizeL];omega
     ·cases e
    |_=>simp only[Tm.k_mk] at hk;omega
   ·cases e
  |_=>simp only[Tm.k_mk] at hk;omega
 ·unfold qnO at e;rw[if_neg hk] at e;cases e
theorem qpW {x:Sc}{t r:Tm}(h:Nd x t)(e:qfV t=some r):Good x t r:=by
 by_cases hk:t.k=7
 ·have hsz:=h.gd.sz (by omega) (by omega)
  have hok:=h.ok
  have hko:=hok.kids
  have hf:=qcf hok
  have hsc:=h.sc
  cases h.sh with
  |seq a b=>
   have e:(if a.k=7 then(match a.ks with|[p,q]=>some (.seq p (.seq q b))|_=>none) else none)=some r:=e
   have hs2:=hsz
   rw[qb1,zag,is2_iff] at hs2
   have oa:=hko a (by simp[Tm.ks])
   split at e
   ·rename_i hk
    cases qdf (x:=x) (t:=a) (by rw[hs2.2]) with
    |seq p q=>
     have e:some (Tm.seq p (.seq q b))=some r:=e
     simp only[zac] at e
     subst e
     have hc:=hs2.2
     rw[qb1] at hc
     simp only[zaq,zag] at hc
     refine⟨?_,hsz,?_,ok2_of (by decide) z64 z64 z64 (oa.kids p (by simp[Tm.ks])) (ok2_of (by decide) z64 z64 z64 (oa.kids q (by simp[Tm.ks])) (hko b (by simp[Tm.ks])))⟩
     ·have hp:szF x p=(1,true):=is2_iff.1 (by simp only[is2,zag];exact hc.2.2)
      rw[qb1 x (.seq p q) b,hs2.2,qb1 x p,qb1 x q b,hp]
      simp only[is2,hc.1,hc.2.1,decide_true,za7]
     ·simp only[Tm.size,Tm.sizeL];omega
    |_=>simp only[Tm.k_mk] at hk;omega
   ·cases e
  |_=>simp only[Tm.k_mk] at hk;omega
 ·unfold qfV at e;rw[if_neg hk] at e;cases e
theorem qnX {x:Sc}{t r:Tm}(h:Nd x t)(e:qdP x t=some r):Good x t r:=by
 by_cases hk:t.k=7
 ·have hsz:=h.gd.sz (by omega) (by omega)
  have hok:=h.ok
  have hko:=hok.kids
  have hf:=qcf hok
  have hsc:=h.sc
  cases h.sh with
  |seq p q=>
   have e:(if p.k=4 then(match p.ks with|[u]=>if decide (q.k=3)&&(decide (p.i=q.i)&&(decide (x.top<p.i)&&qaH u)) then some (.seq p u) else none|_=>none) else none)=some r:=e
   have hs2:=hsz
   rw[qb1,zag,is2_iff] at hs2
   have op:=hko p (by simp[Tm.ks])
   split at e
   ·rename_i hk
    cases qdf (x:=x) (t:=p) (by rw[hs2.2]) with
    |put i u=>
     have e:(if decide (q.k=3)&&(decide (i=q.i)&&(decide (x.top<i)&&qaH u)) then some (.seq (.put i u) u) else none)=some r:=e
     split at e
     ·rename_i hu
      simp only[zag,decide_eq_true_eq] at hu
      simp only[zac] at e
      subst e
      have hk:=hu.1
      cases qdf hs2.1 with
      |get j=>
       have hij:i=j:=hu.2.1
       subst hij
       have hc:=hs2.2
       rw[qeQ] at hc
       simp only[zaq,zag,true_and] at hc
       have hcu:szF x u=(((x.get i).getD .none).ty.res.n,true):=is2_iff.1 (by simp only[is2,zag];exact hc.2)
       refine⟨?_,hsz,?_,ok2_of (by decide) z64 z64 z64 op (op.kids u (by simp[Tm.ks]))⟩
       ·rw[qb1,qb1,hs2.2,qhl,hcu,hc.1]
       ·simp only[Tm.size,Tm.sizeL]
        obtain⟨n,m,rfl⟩:=qeD (qdf (x:=x) (t:=u) (by rw[hcu])) hu.2.2.2
        simp only[Tm.size,Tm.sizeL];omega
      |_=>simp only[Tm.k_mk] at hk;omega
     ·cases e
    |_=>simp only[Tm.k_mk] at hk;omega
   ·cases e
  |_=>simp only[Tm.k_mk] at hk;omega
 ·unfold qdP at e;rw[if_neg hk] at e;cases e
end Go.AI.Tryz
namespace Go.AI.Tryz
abbrev up (x:Sc):Sc:={x with size:=x.size+1}
theorem qgB (g:Tm->Int->Tm)(lab:Bool)(l:Int):∀(ks:List Tm) (j:Nat),(Tm.chgK g lab l j ks).length=ks.length
 |[],_=>by simp only[Tm.chgK]
 |u::r,j=>by simp only[Tm.chgK,zar,qgB g lab l r]
theorem qm2 (g:Tm->Int->Tm)(lab:Bool)(l:Int):∀(ks:List Tm) (j:Nat) (w:Tm),w∈Tm.chgK g lab l j ks->∃u∈ks,∃l',w=Tm.chg g u l'/\(l'=l\/l'=l+1)
 |[],_,w,h=>by simp only[Tm.chgK] at h;cases h
 |u::r,j,w,h=>by
  simp only[Tm.chgK] at h
  rcases zaE.1 h with rfl|h
  ·exact⟨u,zav ..,_,rfl,by split<;>simp⟩
  ·obtain⟨v,hv,l',e⟩:=qm2 g lab l r (j+1) w h
   exact⟨v,zaw _ hv,l',e⟩
theorem qlU {is:Tm->Int->Bool}{lab:Bool}{l:Int}:∀{ks:List Tm} {j i:Nat} {w:Tm},Tm.anyK is lab l j ks=false->ks[i]? =some w->Tm.any is w (if lab&&decide (j+i=0) then l+1 else l)=false
 |[],_,i,w,_,h=>by simp at h
 |u::r,j,0,w,h,hi=>by
  simp only[Tm.anyK,zaU] at h
  simp only[zas,zac] at hi
  subst hi
  exact h.1
 |u::r,j,i+1,w,h,hi=>by
  simp only[Tm.anyK,zaU] at h
  have:=qlU h.2 (show r[i]? =some w by simpa using hi)
  rw[show j+(i+1)=j+1+i by omega]
  exact this
theorem LkK.chg {g:Tm->Int->Tm}{lab:Bool}{l:Int}{sx sy:Nat->Sc}:∀(ks:List Tm) (j:Nat),(∀i w,ks[i]? =some w->Lk (sx (j+i)) w (sy (j+i)) (Tm.chg g w (if lab&&decide (j+i=0) then l+1 else l)))->LkK sx sy j ks (Tm.chgK g lab l j ks)
 |[],_,_=>by simp only[Tm.chgK];exact trivial
 |u::r,j,h=>by
  simp only[Tm.chgK]
  refine⟨h 0 u rfl,LkK.chg r (j+1) fun i w hi=>?_⟩
  have:=h (i+1) w (by simpa using hi)
  rw[show j+1+i=j+(i+1) by omega]
  exact this
theorem qm3 (g:Tm->Int->Tm):∀(d:Nat) (t:Tm) (l:Int),t.size<=d->(Tm.chg g t l).size=t.size
 |0,t,_,h=>by have:=Tm.size_pos t;omega
 |d+1,t,l,h=>by
  have hk:∀(ks:List Tm) (lab:Bool) (j:Nat),(∀w∈ks,w.size<=d)->Tm.sizeL (Tm.chgK g lab l j ks)=Tm.sizeL ks:=by
   intro ks
   induction ks with
   |nil=>intro lab j _;simp only[Tm.chgK]
   |cons u r ih=>
    intro lab j hs
    simp only[Tm.chgK,Tm.sizeL]
    rw[qm3 g d u _ (hs u (zav ..)),ih lab (j+1) fun w hw=>hs w (zaw _ hw)]
  have h1:=Tm.size_ks t
  have h2:=Tm.size_ks (Tm.chg g t l)
  have h3:(Tm.chg g t l).ks=Tm.chgK g (decide (t.k=11)) l 0 t.ks:=by rw[Tm.chg_eq];rfl
  rw[h3,hk t.ks _ 0 fun w hw=>by have:=qa5 hw;omega] at h2
  omega
theorem qsp:∀(d:Nat) (t:Tm) (l:Int),t.size<=d->0<=l->t.Ok->(Tm.chg qcK t l).Ok
 |0,t,_,h,_,_=>by have:=Tm.size_pos t;omega
 |d+1,t,l,h,hl,hok=>by
  have hf:=qcf hok
  rw[Tm.chg_eq]
  have hn: -9223372036854775808<=(qcK t l).n/\(qcK t l).n<=9223372036854775807:=by
   unfold qcK
   split
   ·simp only[Tm.n_mk];omega
   ·exact hf.2.1
  have hm:(qcK t l).m=t.m:=by unfold qcK;split<;>rfl
  have hi:(qcK t l).i=t.i:=by unfold qcK;split<;>rfl
  refine .mk ?_ hn ?_ ?_ ?_ ?_
  ·rw[(qhp t l).2];exact hf.1
  ·rw[hm];exact hf.2.2.1
  ·rw[hi];exact hf.2.2.2
  ·rw[qgB];exact hok.len
  ·intro w hw
   obtain⟨u,hu,l',rfl,hl'⟩:=qm2 _ _ _ _ _ _ hw
   exact qsp d u l' (by have:=qa5 hu;omega) (by omega) (hok.kids u hu)
theorem qvC {x:Sc}{t t':Tm}(hk:t'.k=t.k)(hn:t.k≠12->t'.n=t.n)(h17:t.k=17->(szF (up x) (t.ks.headD .z)).1=(szF x (t'.ks.headD .z)).1)(j:Nat):(up x).kid t j=up (x.kid t' j)/\(x.kid t' j).size=if decide (t.k=11)&&decide (j=0) then x.size+1 else x.size:=by
 unfold Sc.kid
 rw[hk]
 by_cases h10:t.k=10
 ·have h11:¬t.k=11:=by omega
  rw[if_pos h10,if_pos h10,hn (by omega)]
  exact⟨rfl,by simp only[h11,decide_false,zau,zai,if_false];rfl⟩
 ·rw[if_neg h10,if_neg h10]
  by_cases h17':t.k=17/\j=1
  ·have h11:¬t.k=11:=by omega
   rw[if_pos h17',if_pos h17',h17 h17'.1]
   exact⟨rfl,by simp only[h11,decide_false,zau,zai,if_false];rfl⟩
  ·rw[if_neg h17',if_neg h17']
   by_cases h11:t.k=11/\j=0
   ·rw[if_pos h11,if_pos h11]
    exact⟨rfl,by simp only[h11.1,h11.2,decide_true,zat,if_true]⟩
   ·rw[if_neg h11,if_neg h11]
    refine⟨rfl,?_⟩
    rw[if_neg (by simpa using h11)]
theorem qsq:∀(d:Nat) (t:Tm) (x:Sc) (l:Int),t.size<=d->Nd (up x) t->t.any qcy l=false->0<=l->l<=x.size->Lk (up x) t x (Tm.chg qcK t l)
 |0,t,_,_,h,_,_,_,_=>by have:=Tm.size_pos t;omega
 |d+1,t,x,l,hd,hn,ha,hl,hlx=>by
  rw[Tm.any_eq,zaU] at ha
  have hk':(Tm.chg qcK t l).k=t.k:=by rw[Tm.chg_eq];exact(qhp t l).2
  have hks':(Tm.chg qcK t l).ks=Tm.chgK qcK (decide (t.k=11)) l 0 t.ks:=by rw[Tm.chg_eq];rfl
  have hn':t.k≠12->(Tm.chg qcK t l).n=t.n:=fun h=>by
   rw[Tm.chg_eq]
   show(qcK t l).n=_
   unfold qcK
   rw[if_neg (fun h'=>h h'.1)]
  have hm':(Tm.chg qcK t l).m=t.m:=by rw[Tm.chg_eq];show(qcK t l).m=_;unfold qcK;split<;>rfl
  have hi':(Tm.chg qcK t l).i=t.i:=by rw[Tm.chg_eq];show(qcK t l).i=_;unfold qcK;split<;>rfl
  have IH:∀i w,t.ks[i]? =some w->∀z,(up x).kid t i=up z->z.size=(if decide (t.k=11)&&decide (i=0) then x.size+1 else x.size)->Lk ((up x).kid t i) w z (Tm.chg qcK w (if decide (t.k=11)&&decide (i=0) then l+1 else l)):=by
   intro i w hi z hz hzs
   have h1:=hn.kid hi
   have h2:=qlU ha.2 hi
   rw[zaH] at h2
   rw[hz] at h1⊢
   refine qsq d w z _ (by have:=qa5 (zaQ hi);omega) h1 h2 ?_ ?_
   ·split<;>omega
   ·rw[hzs];split<;>omega
  have h17:t.k=17->(szF (up x) (t.ks.headD .z)).1=(szF x ((Tm.chg qcK t l).ks.headD .z)).1:=fun h17=>by
   rw[hks']
   have h11:¬t.k=11:=by omega
   cases hks:t.ks with
   |nil=>
    have:=hn.sh
    cases this<;>simp[Tm.k,Tm.ks] at h17 hks
   |cons u r=>
    have:=IH 0 u (by rw[hks];rfl) x (qfc h17) (by simp only[h11,decide_false,zau,zai,if_false])
    rw[qfc h17] at this
    simp only[h11,decide_false,zau,zai,if_false] at this
    simp only[Tm.chgK,zbh,h11,decide_false,zau,zai,if_false]
    rw[this.1]
  have hku:=fun j=>qvC (x:=x) hk' hn' h17 j
  refine Lk.node hn.sh ?_ hk' hm' hn' ?_ ?_ ?_ ?_
  ·refine qlM ?_
   have h1:=qc0 hn.sh
   by_cases h12:t.k=12
   ·cases hn.sh with
    |jmp n=>
     rw[Tm.chg_eq]
     have:(qcK (.jmp n) l).k=12/\(qcK (.jmp n) l).m=0/\(qcK (.jmp n) l).i=0:=by unfold qcK;split<;>exact⟨rfl,rfl,rfl⟩
     rw[this.1,this.2.1,this.2.2]
     exact qc0 (.jmp _)
    |_=>simp only[Tm.k_mk] at h12;omega
   ·have e:Tm.chg qcK t l=t.with (Tm.chgK qcK (decide (t.k=11)) l 0 t.ks):=by
     rw[Tm.chg_eq]
     unfold qcK
     rw[if_neg (fun h'=>h12 h'.1)]
     rfl
    rw[e]
    exact qc0 (qlR hn.sh (qgB ..))
  ·intro h12
   have hle:qcy t l=false:=ha.1
   simp only[qcy,h12,decide_true,zay,decide_eq_false_iff_not] at hle
   rw[Tm.chg_eq]
   show qbg t.n (x.size+1)=qbg (qcK t l).n x.size
   unfold qcK
   rw[Bool.eq_iff_iff,isBelow_iff,isBelow_iff]
   split
   ·rename_i h;simp only[Tm.n_mk];omega
   ·rename_i h
    have:¬l<t.n:=fun h'=>h ⟨h12,h'⟩
    omega
  ·rw[hi'];rfl
  ·intro _;rw[hi']
  ·rw[hks']
   refine LkK.chg t.ks 0 fun i w hi=>?_
   rw[zaH]
   exact IH i w hi _ (hku i).1 (hku i).2
theorem qnY {x:Sc}{t r:Tm}(h:Nd x t)(e:qeV t=some r):Good x t r:=by
 by_cases hk:t.k=11
 ·have hsz:=h.gd.sz (by omega) (by omega)
  have hok:=h.ok
  have hko:=hok.kids
  have hB:=h.b
  cases hs:h.sh with
  |lbl u w=>
   have e:(if !qkQ u then some (Tm.unl u) else none)=some r:=e
   split at e
   ·rename_i hu
    simp only[zac] at e
    subst e
    have hs2:=hsz
    rw[qeo,zag,is2_iff] at hs2
    have hnu:Nd (up x) u:=h.kid (t:=.lbl u w) (u:=u) (j:=0) rfl
    have htr:=qsq u.size u x 0 (zao _) hnu (by simpa[qkQ] using hu) (by decide) hB.2.1
    refine⟨?_,hsz,?_,qsp u.size u 0 (zao _) (by decide) (hko u (by simp[Tm.ks]))⟩
    ·show _=szF x (Tm.chg qcK u 0)
     rw[qeo,hs2.1,hs2.2,<-htr.1]
     simp only[is2,decide_true,za7]
     rw[<-hs2.1]
    ·show(Tm.chg qcK u 0).size≤_
     rw[qm3 qcK u.size u 0 (zao _)]
     simp only[Tm.size,Tm.sizeL];omega
   ·cases e
  |_=>simp only[Tm.k_mk] at hk;omega
 ·unfold qeV at e;rw[if_neg hk] at e;cases e
end Go.AI.Tryz
namespace Go.AI.Tryz
structure Rm (N id:Int)(X Y:Sc):Prop where
 ex:∃A B,X.ids=A++(⟨⟨[],⟨true,N⟩⟩,false⟩:Se)::B/\Y.ids=A++B/\id=Int.ofNat A.length+1
 top:Y.top=X.top
 size:Y.size=X.size
 lt:X.top<id
abbrev sh1 (id i:Int):Int:=if id<i then i-1 else i
theorem Rm.pos {N id:Int}{X Y:Sc}(h:Rm N id X Y):1<=id:=by
 obtain⟨A,B,_,_,e⟩:=h.ex
 have:(0:Int)<=Int.ofNat A.length:=Int.natCast_nonneg _
 omega
theorem Rm.get {N id:Int}{X Y:Sc}(h:Rm N id X Y){i:Int}(hi:i≠id):X.get i=Y.get (sh1 id i):=by
 obtain⟨A,B,hX,hY,he⟩:=h.ex
 have hp:=h.pos
 simp only[zaf] at he
 unfold Sc.get sh1
 by_cases h1:i<1
 ·rw[if_pos h1,if_neg (show¬id<i by omega),if_pos h1]
 ·by_cases h2:id<i
  ·rw[if_neg h1,if_pos h2,if_neg (by omega),hX,hY]
   have e1:(i-1).toNat=A.length+((i-1-1).toNat-A.length)+1:=by omega
   rw[zaA (by omega),zaA (by omega)]
   rw[show(i-1).toNat-A.length=((i-1-1).toNat-A.length)+1 by omega,zaN]
  ·rw[if_neg h1,if_neg h2,if_neg h1,hX,hY]
   rw[zaO (by omega),zaO (by omega)]
theorem Rm.at {N id:Int}{X Y:Sc}(h:Rm N id X Y):X.get id=some ⟨⟨[],⟨true,N⟩⟩,false⟩:=by
 obtain⟨A,B,hX,hY,he⟩:=h.ex
 simp only[zaf] at he
 unfold Sc.get
 rw[if_neg (by omega),hX,show(id-1).toNat=A.length by omega]
 rw[zaA (zao _),Nat.sub_self];rfl
theorem Rm.with {N id:Int}{X Y:Sc}(h:Rm N id X Y)(y:Se):Rm N id (X.with y) (Y.with y):=by
 obtain⟨A,B,hX,hY,he⟩:=h.ex
 exact⟨⟨A,B++[y],by simp only[Sc.with,hX,zaR,zaG],by simp only[Sc.with,hY,zaR],he⟩,h.top,h.size,h.lt⟩
theorem Rm.up {N id:Int}{X Y:Sc}(h:Rm N id X Y):Rm N id (up X) (up Y):=⟨h.ex,h.top,by show Y.size+1=X.size+1;rw[h.size],h.lt⟩
theorem Rm.kid {N id:Int}{X Y:Sc}(h:Rm N id X Y){t t':Tm}(hk:t'.k=t.k)(hn:t'.n=t.n)(h17:t.k=17->(szF X (t.ks.headD .z)).1=(szF Y (t'.ks.headD .z)).1)(j:Nat):Rm N id (X.kid t j) (Y.kid t' j):=by
 unfold Sc.kid
 rw[hk,hn]
 by_cases h10:t.k=10
 ·rw[if_pos h10,if_pos h10];exact h.with _
 ·rw[if_neg h10,if_neg h10]
  by_cases h17':t.k=17/\j=1
  ·rw[if_pos h17',if_pos h17',h17 h17'.1];exact h.with _
  ·rw[if_neg h17',if_neg h17']
   by_cases h11:t.k=11/\j=0
   ·rw[if_pos h11,if_pos h11];exact h.up
   ·rw[if_neg h11,if_neg h11];exact h
theorem qxj {t:Tm}(h:Sh t){i:Int}{ks:List Tm}(hi:t.i=0->i=0)(hl:ks.length=t.ks.length):Sh (.mk t.k t.n t.m i ks):=by
 have h1:=qc0 h
 refine qlM ?_
 obtain⟨k,n,m,i0,l⟩:=t
 simp only[Tm.ks,Tm.i] at hl hi
 have h1:(match qcr formL k with|none=>false|some f=>(((f.n||decide (n=0))&&(f.m||decide (m=0)))&&(f.i||decide (i0=0)))&&(decide (f.k<0)||decide (f.k=Int.ofNat l.length)))=true:=h1
 show(match qcr formL k with|none=>false|some f=>(((f.n||decide (n=0))&&(f.m||decide (m=0)))&&(f.i||decide (i=0)))&&(decide (f.k<0)||decide (f.k=Int.ofNat ks.length)))=true
 cases hf:qcr formL k with
 |none=>rw[hf] at h1;cases h1
 |some f=>
  rw[hf] at h1
  simp only[zag,za4,decide_eq_true_eq,hl] at h1⊢
  refine⟨⟨h1.1.1,?_⟩,h1.2⟩
  rcases h1.1.2 with h|h
  ·exact .inl h
  ·exact .inr (hi h)
theorem qlV (id:Int)(val:Tm):∀ks:List Tm,(woL id val ks).length=ks.length
 |[]=>rfl
 |u::r=>by simp only[woL,zar,qlV id val r]
theorem qpX (id:Int)(val:Tm):∀(ks:List Tm) (w:Tm),w∈woL id val ks->∃u∈ks,w=woF id val u
 |[],w,h=>by simp only[woL] at h;cases h
 |u::r,w,h=>by
  simp only[woL] at h
  rcases zaE.1 h with rfl|h
  ·exact⟨u,zav ..,rfl⟩
  ·obtain⟨v,hv,e⟩:=qpX id val r w h
   exact⟨v,zaw _ hv,e⟩
theorem LkK.wo {id:Int}{val:Tm}{sx sy:Nat->Sc}:∀(ks:List Tm) (j:Nat),(∀i w,ks[i]? =some w->Lk (sx (j+i)) w (sy (j+i)) (woF id val w))->LkK sx sy j ks (woL id val ks)
 |[],_,_=>by simp only[woL];exact trivial
 |u::r,j,h=>by
  simp only[woL]
  refine⟨h 0 u rfl,LkK.wo r (j+1) fun i w hi=>?_⟩
  have:=h (i+1) w (by simpa using hi)
  rw[show j+1+i=j+(i+1) by omega]
  exact this
structure WoOk (X Y:Sc)(t r:Tm):Prop where
 tr:Lk X t Y r
 size:r.size<=t.size
 ok:r.Ok
theorem qvD {N id:Int}{val:Tm}(hv:∀Y,szF Y val=(N,true))(hvs:val.size=1)(hvo:val.Ok):∀(d:Nat) (t:Tm) (X Y:Sc) (l:Int),t.size<=d->Rm N id X Y->Nd X t->t.any (isH id) l=false->WoOk X Y t (woF id val t)
 |0,t,_,_,_,h,_,_,_=>by have:=Tm.size_pos t;omega
 |d+1,t,X,Y,l,hd,hr,hn,ha=>by
  rw[Tm.any_eq,zaU] at ha
  have hp:=hr.pos
  have hsz:=hn.gd.sz
  have IH:∀i w,t.ks[i]? =some w->∀Z,Rm N id (X.kid t i) Z->WoOk (X.kid t i) Z w (woF id val w):=fun i w hi Z hz=>
   qvD hv hvs hvo d w _ Z _ (by have:=qa5 (zaQ hi);omega) hz (hn.kid hi) (qlU ha.2 hi)
  have hf:=qcf hn.ok
  rw[qtx]
  by_cases hi:t.i=id
  ·rw[if_pos hi]
   have hko:=hn.ok.kids
   cases hs:hn.sh with
   |get i=>
    have hi:i=id:=hi
    subst hi
    rw[if_pos (show(Tm.get i).k=3 from rfl)]
    have h1:szF X (.get i)=(N,true):=by rw[qhl,hr.at];rfl
    exact⟨Lk.of_ok (by rw[h1,hv]) (by rw[h1]),by rw[hvs];exact Tm.size_pos _,hvo⟩
   |put i u=>
    have hi:i=id:=hi
    subst hi
    have hz:=hsz (by simp[Tm.k]) (by simp[Tm.k])
    obtain⟨h1,h2,h3⟩:=IH 0 u rfl Y hr
    have h1:szF X u=szF Y (woF i val u):=h1.1
    have hz2:=hz
    rw[qeQ,hr.at,zag] at hz2
    have hu:szF X u=(N,true):=is2_iff.1 hz2.2
    rw[if_neg (by simp[Tm.k]),if_pos (show(Tm.put i u).k=4 from rfl)]
    show WoOk X Y (.put i u) (.az 1 (woF i val u))
    refine⟨Lk.of_ok ?_ hz,by simp only[Tm.size,Tm.sizeL];omega,ok1_of (by decide) o64 z64 z64 h3⟩
    rw[qeQ,hr.at,qeL,<-h1,hu]
    simp only[is2,zaB,decide_true,za7,zay,Option.any_some]
    rfl
   |ntc n i u=>
    have hi:i=id:=hi
    subst hi
    have hz:=hsz (by simp[Tm.k]) (by simp[Tm.k])
    obtain⟨h1,h2,h3⟩:=IH 0 u rfl Y hr
    have h1:szF X u=szF Y (woF i val u):=h1.1
    have hz2:=hz
    rw[qeq,zag] at hz2
    rw[if_neg (by simp[Tm.k]),if_neg (by simp[Tm.k]),if_pos (show(Tm.ntc n i u).k=18 from rfl)]
    show WoOk X Y (.ntc n i u) (woF i val u)
    refine⟨Lk.of_ok ?_ hz,by simp only[Tm.size,Tm.sizeL];omega,h3⟩
    rw[qeq,<-h1,hz2.2,za7]
   |use i ks=>
    have hi:i=id:=hi
    subst hi
    have hz:=hsz (by simp[Tm.k]) (by simp[Tm.k])
    rw[qgg,hr.at] at hz
    simp only[zaB,zak,zau,zaT] at hz
    cases hz
   |val i=>
    have hi:i=id:=hi
    subst hi
    have hz:=hsz (by simp[Tm.k]) (by simp[Tm.k])
    rw[qhm,hr.at] at hz
    simp only[zaB,zaT] at hz
    cases hz
   |cel i=>
    have hi:i=id:=hi
    subst hi
    have:=ha.1
    simp only[isH,Tm.i_mk,Tm.k_mk,decide_true,zat] at this
    cases this
   |_=>exfalso;simp only[Tm.i_mk] at hi;omega
  ·rw[if_neg hi]
   have h17:t.k=17->(szF X (t.ks.headD .z)).1=(szF Y ((woL id val t.ks).headD .z)).1:=fun h17=>by
    cases hks:t.ks with
    |nil=>
     have:=hn.sh
     cases this<;>simp[Tm.k,Tm.ks] at h17 hks
    |cons u r=>
     have:=(IH 0 u (by rw[hks];rfl) Y (by rw[qfc h17];exact hr)).tr
     rw[qfc h17] at this
     simp only[woL,zbh]
     rw[this.1]
   have hkid:∀j,Rm N id (X.kid t j) (Y.kid (.mk t.k t.n t.m (sh1 id t.i) (woL id val t.ks)) j):=fun j=>hr.kid (t:=t) (t':=.mk t.k t.n t.m (sh1 id t.i) (woL id val t.ks)) rfl rfl h17 j
   have hl:(woL id val t.ks).length=t.ks.length:=qlV ..
   refine⟨?_,?_,?_⟩
   ·refine Lk.node hn.sh (qxj hn.sh (fun h0=>?_) hl) rfl rfl (fun _=>rfl) (fun h12=>?_) (hr.get hi) (fun _=>?_) (LkK.wo t.ks 0 fun i w hi=>?_)
    ·rw[h0,if_neg (by omega)]
    ·rw[hr.size];rfl
    ·have:=hr.lt
     show decide (X.top<t.i)=decide (Y.top<sh1 id t.i)
     rw[hr.top,decide_eq_decide]
     unfold sh1
     split<;>omega
    ·rw[zaH]
     exact(IH i w hi _ (hkid i)).tr
   ·have hK:∀(ks:List Tm),(∀w∈ks,(woF id val w).size≤w.size)→Tm.sizeL (woL id val ks)≤Tm.sizeL ks:=by
     intro ks
     induction ks with
     |nil=>intro _;exact zao _
     |cons u r ih=>
      intro h
      have h1:=h u (zav ..)
      have h2:=ih fun w hw=>h w (zaw _ hw)
      simp only[woL,Tm.sizeL];omega
    have h1:=Tm.size_ks t
    have h2:=Tm.size_ks (.mk t.k t.n t.m (if id<t.i then t.i-1 else t.i) (woL id val t.ks))
    have h3:=hK t.ks fun w hw=>by
     obtain⟨i,hi⟩:=List.getElem?_of_mem hw
     exact(IH i w hi _ (hkid i)).size
    simp only[Tm.ks_mk] at h2
    omega
   ·refine .mk hf.1 hf.2.1 hf.2.2.1 ?_ (by rw[hl];exact hn.ok.len) fun w hw=>?_
    ·split<;>omega
    ·obtain⟨u,hu,rfl⟩:=qpX _ _ _ _ hw
     obtain⟨i,hi⟩:=List.getElem?_of_mem hu
     exact(IH i u hi _ (hkid i)).ok
theorem qhv {x:Sc}{t r:Tm}{ok:Nm->Bool}(hk:∀y,ok y=true->y.h=false)(ht:x.top<=Int.ofNat x.ids.length)(h:Nd x t)(e:clR x ok (ini t) t=some r):Good x t r:=by
 by_cases hk10:t.k=10
 ·have hsz:=h.gd.sz (by omega) (by omega)
  have hok:=h.ok
  have hf:=qcf hok
  have hnu:=fun u hu=>h.kid (u:=u) (j:=0) hu
  cases hs:h.sh with
  |new n m u=>
   have e:(if ok (qff (cid x) u) then some (woF (cid x) (ini (.new n m u)) u) else none)=some r:=e
   split at e
   ·rename_i hu
    simp only[zac] at e
    subst e
    have hs2:=hsz
    rw[qeR,zag,zag,isSize_iff,isBelow_iff] at hs2
    have hv:∀Y,szF Y (ini (.new n m u))=(n,true):=fun Y=>by
     show szF Y (.num m n)=_
     rw[qdx,isSize_iff.2 hs2.2.1,isBelow_iff.2 hs2.2.2];rfl
    have hR:Rm n (cid x) (x.with ⟨⟨[],⟨true,n⟩⟩,false⟩) x:=⟨⟨x.ids,[],rfl,(zbe _).symm,rfl⟩,rfl,rfl,by show x.top<Int.ofNat x.ids.length+1;omega⟩
    obtain⟨h1,h2,h3⟩:=qvD hv rfl (qiy (show 0<=m/\m<=64 by omega) (show 0<=n/\n<=64 by omega)) u.size u _ x 0 (zao _) hR (hnu u rfl) (hk _ hu)
    refine⟨?_,hsz,by simp only[Tm.size,Tm.sizeL];omega,h3⟩
    rw[qeR,<-h1.1,hs2.1,isSize_iff.2 hs2.2.1,isBelow_iff.2 hs2.2.2]
    exact Prod.ext rfl hs2.1.symm
   ·cases e
  |_=>simp only[Tm.k_mk] at hk10;omega
 ·unfold clR at e;rw[if_neg hk10] at e;cases e
theorem keep {x:Sc}{t r:Tm}{i:Nat}(h:Nd x t)(ht:x.top<=Int.ofNat x.ids.length)(hi:i<22)(e:qbm i x t=some r):Good x t r:=by
 match i,hi with
 |0,_=>exact qtH h e
 |1,_=>exact qtI h e
 |2,_=>exact qpP h e
 |3,_=>exact qkU h e
 |4,_=>exact qpQ h e
 |5,_=>exact qtJ h e
 |6,_=>exact qpR h e
 |7,_=>exact qrB h e
 |8,_=>exact qpS h e
 |9,_=>exact qpT h e
 |10,_=>exact qpW h e
 |11,_=>exact qpU h e
 |12,_=>exact qnV h e
 |13,_=>exact qhv (fun y hy=>by simp only[okU,zag,za0] at hy;exact hy.2.2) ht h e
 |14,_=>exact qhv (fun y hy=>by simp only[qru,zag,za0] at hy;exact hy.2.2) ht h e
 |15,_=>exact qhv (fun y hy=>by simp only[qrv,zag,za0] at hy;exact hy.2.2) ht h e
 |16,_=>exact qnX h e
 |17,_=>exact qnY h e
 |18,_=>exact qpV h e
 |19,_=>exact qlT h e
 |20,_=>exact qlS h e
 |21,_=>exact qnW h e
 |_+22,h=>exact absurd h (by omega)
end Go.AI.Tryz
namespace Go.AI
def qhD (u:Tm)(a:Int)(t:Tm):Tm:=if 0<=a/\a<t.size then Tm.put1 u a.toNat t else t
mutual
theorem qkV (u:Tm):∀(t:Tm) (j:Nat),(Tm.put1 u j t).size<=t.size+u.size
 |t,0=>by cases t;rw[Tm.put1];omega
 |.mk k n m i ks,j+1=>by
  have:=qkW u ks j
  simp only[Tm.put1,Tm.size];omega
theorem qkW (u:Tm):∀(ks:List Tm) (j:Nat),Tm.sizeL (Tm.putL u j ks)<=Tm.sizeL ks+u.size
 |[],j=>by cases j<;>simp only[Tm.putL]<;>omega
 |k::r,j=>by
  have h1:=qkV u k j
  have h2:=qkW u r (j-k.size)
  simp only[Tm.putL]
  split<;>simp only[Tm.sizeL]<;>omega
end
theorem qpY (u:Tm)(a:Int)(t:Tm):(qhD u a t).size<=t.size+u.size:=by
 unfold qhD
 split
 ·exact qkV u t _
 ·omega
def qiz:Int×Int×Tm->Tm->Int->(Int×Int×Tm)×(Tm×Bool):=fun c t l=>(((qdR c.2.1 c.2.2 c.1 t l).1,c.2),(qdR c.2.1 c.2.2 c.1 t l).2)
theorem qm4 (a:Int)(u:Tm):∀(d:Nat) (c:Int) (t:Tm) (l:Int),qc4 qiz d (c,a,u) t l=(((qc4 (qdR a u) d c t l).1,a,u),(qc4 (qdR a u) d c t l).2)
 |0,c,t,l=>rfl
 |d+1,c,t,l=>by
  have hk:∀(lab:Bool) (ks:List Tm) (j:Nat) (c:Int),qfE (qc4 qiz d) lab l j (c,a,u) ks=(((qfE (qc4 (qdR a u) d) lab l j c ks).1,a,u),(qfE (qc4 (qdR a u) d) lab l j c ks).2):=by
   intro lab ks
   induction ks with
   |nil=>intro j c;rfl
   |cons w r ih=>
    intro j c
    simp only[qfE,qm4 a u d,ih]
  simp only[qc4,qiz,hk]
  split<;>rfl
theorem qm5 (a:Int)(ha:a<0)(u:Tm):∀(d c:Nat) (t:Tm) (l:Int),t.size<=d->c+t.size<=1000000000->qc4 (qdR a u) d (.ofNat c) t l=(.ofNat (c+t.size),t)
 |0,c,t,l,h,_=>by have:=Tm.size_pos t;omega
 |d+1,c,t,l,h,hc=>by
  have hk:∀(lab:Bool) (ks:List Tm) (j c:Nat),(∀u∈ks,u.size<=d)->c+Tm.sizeL ks<=1000000000->qfE (qc4 (qdR a u) d) lab l j (.ofNat c) ks=(.ofNat (c+Tm.sizeL ks),ks):=by
   intro lab ks
   induction ks with
   |nil=>intro j c _ _;rfl
   |cons w r ih=>
    intro j c hu hc
    simp only[Tm.sizeL] at hc
    have h1:=qm5 a ha u d c w (if lab&&decide (j=0) then l+1 else l) (hu w (zav ..)) (by omega)
    have ih:=ih (j+1) (c+w.size) (fun v hv=>hu v (zaw _ hv)) (by omega)
    simp only[qfE,h1,ih,Tm.sizeL]
    rw[show c+w.size+Tm.sizeL r=c+(w.size+Tm.sizeL r) by omega]
  have hsz:=Tm.size_ks t
  unfold qc4
  rw[qmX (by omega),if_neg (show¬Int.ofNat c=a from fun h=>by rw[<-h] at ha;simp only[zaf] at ha;omega)]
  simp only[if_true]
  rw[hk _ t.ks 0 (c+1) (fun v hv=>by have:=Tm.sizeL_mem hv;omega) (by omega),Tm.with_ks,show c+1+Tm.sizeL t.ks=c+t.size by omega]
theorem qpZ (a:Int)(u t:Tm)(hs:t.size<=100000):(qc4 (qdR a u) t.size 0 t 0).2=qhD u a t:=by
 unfold qhD
 by_cases h0:0<=a
 ·obtain⟨b,rfl⟩:∃b:Nat,a=Int.ofNat b:=⟨a.toNat,by simp only[zaf];omega⟩
  have hp:=qmY b u t.size 0 t 0 (zao _) (by omega)
  by_cases hb:b<t.size
  ·rw[PutR.inn (by omega)] at hp
   obtain⟨c',e,_⟩:=hp
   have e:qc4 (qdR (.ofNat b) u) t.size 0 t 0=_:=e
   rw[e,if_pos (by simp only[zaf];omega)]
   rfl
  ·rw[PutR.out (by omega)] at hp
   have hp:qc4 (qdR (.ofNat b) u) t.size 0 t 0=_:=hp
   rw[hp,if_neg (by simp only[zaf];omega)]
 ·rw[if_neg (by omega)]
  have e:qc4 (qdR a u) t.size 0 t 0=_:=qm5 a (by omega) u t.size 0 t 0 (zao _) (by omega)
  rw[e]
end Go.AI
namespace Go.AI.Tryz
def RP2 (q:Nat×qaS)(c:Int×Int×Tm)(E:qaS)(s:ASt):Prop:=RP c.2.1 c.2.2 q c.1 E s
theorem qvE (d:Nat):Ev fun n=>∀q,ByC (RP2 q) qiz (.func 115 [] [.ptr (q.1+2) 0,.ptr q.1 0,.ptr (q.1+1) 0]) (fun _=>True) n d:=by
 refine Ev.succ ((Ev.ge 1).mono fun n hn q c E s t l h1 h2 h3 h4 hr=>?_)
 obtain⟨c,a,u⟩:=c
 obtain⟨N,H0⟩:=q
 unfold RP2 RP at hr
 simp only at hr
 rw[qhV CP (by omega),qbX]
 simp only[zaI,zaG]
 let s2:ASt:={s with heap:=(N+2,.cells [i64 (qbb .i64 (c+1))])::(N+1,.cells u.c)::(N,.cells [i64 a])::H0}
 refine⟨s2,?_,rfl,TF.refl s⟩
 refine qe8 (cf:=cf115) (np:=5) (args':=[t.v,i64 l,.ptr (N+2) 0,.ptr N 0,.ptr (N+1) 0]) (by kernel_rfl) (by kernel_rfl) rfl (by simp only[zan,qak];rfl) (by simp only[zal,qaj];rfl) ((s115_eq _ _ _ _ _ _ _ _).trans (?_:_=some (.tuple [(qdR a u c t l).2.1.v,bl (qdR a u c t l).2.2],s2))) (qb3 _ _) (by rw[Tm.v_eq];rfl)
 have hst:stH s (.ptr (N+2) 0) [i64 (qbb .i64 (c+1))]=some s2:=qrq hr rfl rfl
 have c1:qas (qag CP n E).E s (N+2)=some [i64 c]:=qaW hr
 have c2:qas (qag CP n E).E s2 (N+2)=some [i64 (qbb .i64 (c+1))]:=qaW rfl
 have c3:qas (qag CP n E).E s2 (N+1)=some u.c:=by rw[qbD (s:=s2) rfl (by omega)];exact qaW rfl
 have c4:qas (qag CP n E).E s2 N=some [i64 a]:=by rw[qbD (s:=s2) rfl (by omega),qbD rfl (by omega)];exact qaW rfl
 unfold s115 qdR
 by_cases ha:qbb .i64 (qbb .i64 (c+1)-1)=a
 ·simp only[ldP c1,ldP c2,ldP c3,ldP c4,qcu,qbP,hst,ha,if_true,qah,qaV,qav,qad,qaf,qaz,qa1,decide_true,qaa,cond_true,zab,zaa]
 ·simp only[ldP c1,ldP c2,ldP c3,ldP c4,qcu,qbP,hst,ha,if_false,qah,qaV,qav,qad,qaf,qaz,qa1,decide_false,qaa,cond_false,zab,zaa]
theorem qrC (D:Nat)(hD:D<=900000):UC 60 (fun t:Tm=>[t.v]) (fun t _ _=>t.size<=D) (fun t=>t.v):=by
 refine UC.of (cf:=cf60) (np:=1) (by kernel_rfl) (by kernel_rfl) (fun _=>rfl) (fun _=>by simp only[zan,qak];rfl) (fun _=>by simp only[zal,qaj];rfl) (fun _=>Stab.pure _) (fun t lo=>qaM lo _)
  ((qeE (R:=fun _ _ _ _=>True) (fv:=fun _=>_) (fun _ _ _ _ _ _ _ _=>trivial) (fun _=>rfl) (fun _=>rfl) (fun _ t _ _ _=>⟨zao _,fun _ _=>trivial⟩) D (qsi (g:=fun t _=>(t,true)) (Ad:=fun _=>True) (d:=D) qpy)).mono fun n h t E s hs=>?_)
 obtain⟨s',h',_,_⟩:=h () () E s t 0 hs trivial (by omega) (by omega) trivial
 have e:=qjq (σ:=Unit) (fun t _=>t) (fun _ _=>⟨rfl,rfl⟩) D () t 0 hs
 rw[show(fun(x:Unit) (t:Tm) (l:Int)=>(x,(fun(t:Tm) (_:Int)=>(t,true)) t l))=fun x t l=>(x,(fun(t:Tm) (_:Int)=>t) t l,true) from rfl,e,qsh t.size t 0 (zao _)] at h'
 refine⟨t.v,s',(s60_eq _ _ _ _).trans ?_,qaj _⟩
 unfold s60
 simp only[h',qah,qaV,qav,zaa,qab]
theorem qxk (t:Tm)(hs:t.size<=100000):UC 66 (fun p:Int×Tm=>[t.v,i64 p.1,p.2.v]) (fun p _ _=>p.2.size<=100000) (fun p=>(qhD p.2 p.1 t).v):=by
 refine UC.of (cf:=cf66) (np:=3) (by kernel_rfl) (by kernel_rfl) (fun _=>rfl) (fun _=>by simp only[zan,qak];rfl) (fun _=>by simp only[zal,qaj];rfl) (fun _=>Stab.pure _) (fun t lo=>qaM lo _)
  (((qeE (κ:=Nat×qaS) (R:=RP2) (by_:=qiz) (Ad:=fun _=>True) (fv:=fun q=> .func 115 [] [.ptr (q.1+2) 0,.ptr q.1 0,.ptr (q.1+1) 0]) (fun q x E s s' r e1 e2=>by unfold RP2 RP at r⊢;rw[e1];exact r) (fun _=>rfl) (fun _=>rfl) (fun c t l _ hgo=>by
   unfold qiz qdR at hgo⊢
   split
   ·rename_i h;simp only[h,if_true] at hgo;cases hgo
   ·exact⟨zao _,fun _ _=>trivial⟩) t.size (qvE t.size)).and (qrC 200000 (by omega))).mono fun n ⟨h,hcp⟩ p E s hp=>?_)
 obtain⟨a,u⟩:=p
 simp only at hp⊢
 let s14:=qai (qai (qai s (.cells [i64 a])) (.cells u.c)) (.cells [i64 0])
 obtain⟨s',e1,e2,_⟩:=h (s.next,s.heap) (0,a,u) E s14 t 0 (zao _) trivial (by omega) (by omega) rfl
 rw[qm4] at e1
 simp only[qpZ a u t hs] at e1
 have hcp':=hcp (qhD u a t) E s' (by have:=qpY u a t;omega)
 have hst:stH (qai (qai (qai s (.cells [i64 a])) (.cells u.c)) (.cells [i64 0])) (.ptr (qai (qai s (.cells [i64 a])) (.cells u.c)).next 0) [i64 0]=some s14:=qkN _ _ _ _ _ rfl rfl
 have haw:[i64 a].all qaY=true:=rfl
 have e1':cl (qag CP n E) 108 [t.v,i64 0,.func 115 [] [.ptr (qai (qai s (.cells [i64 a])) (.cells u.c)).next 0,.ptr s.next 0,.ptr (qai s (.cells [i64 a])).next 0]] s14=some ((qhD u a t).v,s'):=e1
 refine⟨(qhD u a t).v,s',(s66_eq _ _ _ _ _ _).trans ?_,qaj _⟩
 unfold s66
 simp only[haw,qbP,hst,e1',hcp',qah,qaV,qav,qvb,zaa,qab,qa2,qbu,cnd]
end Go.AI.Tryz
namespace Go.AI.Tryz
abbrev rv (w:Rw):zA:=.agg [u8 w.1,i64 w.2]
theorem qm6 (ng:Bool)(v w:Rw):eqs [1,1] ng (rv v) (rv w)=some (bl (cond ng (!(decide (v.1=w.1)&&decide (v.2=w.2))) (decide (v.1=w.1)&&decide (v.2=w.2)))):=by
 have h1:∀k a b,qsy (.int k a) (.int k b)=some (decide (a=b)):=fun k a b=>by
  show cond (keq k k) (some (ieq a b)) none=_
  rw[qcD];cases k<;>rfl
 have h2:∀k a b,eqK 1 (.p (.int k a)) (.p (.int k b))=some (decide (a=b)):=fun k a b=>by rw[<-h1 k a b];rfl
 unfold eqs pu
 simp only[qaE,qsx,Arg.ev,qnh,h2,zaa]
 cases decide (v.1=w.1)<;>cases decide (v.2=w.2)<;>cases ng<;>rfl
theorem qtK (w:Rw):UC 97 (fun p:Int×Nat=>[u8 p.1,.ptr p.2 0]) (fun p E s=>qas E s p.2=some [u8 w.1,i64 w.2]) (fun p=>bl (decide (p.1=w.1))):=by
 refine UC.of (cf:=cf97) (np:=2) (by kernel_rfl) (by kernel_rfl) (fun _=>rfl) (fun _=>rfl) (fun _=>rfl) (fun p=>Stab.at p.2 _) (fun _ _=>rfl) (Ev.of fun n p E s hc=>⟨bl (decide (p.1=w.1)),s,(s97_eq _ _ _ _ _).trans ?_,rfl⟩)
 have hc':qas (qag CP n E).E s p.2=some [u8 w.1,i64 w.2]:=by rw[qa7];exact hc
 have hl:ldL [u8 w.1,i64 w.2] 0 none=some (u8 w.1):=rfl
 unfold s97
 simp only[ldP hc',hl,zaH,qad,qaf,zab,zaa,qbv]
abbrev ZC:List zA:=[u8 0,i64 0,i64 0,i64 0,.sl 0 [] .full]
def qkX (t:Tm)(w:Rw)(y:Option Tm)(o:Of):Option Tm×Bool:=if decide (o.1=w.1)&&decide (o.2.1=w.2) then(some (qhD o.2.2 w.2 t),false) else(y,true)
def qgm (a:Ar)(t:Tm)(w:Rw):Option Tm:=(qby (qkX t w) none (qds (fun k=>decide (k=w.1)) 0 (qbo t (qaC a)))).1
def xOf:Option Tm->EX
 |none=> .normal
 |some _=> .ret
def cOf:Option Tm->List zA
 |none=>ZC
 |some r=>r.c
def U55 (x:Vw)(t:Tm)(w:Rw)(q:K27)(y:Option Tm)(E H:qaS)(tk:Nat×List (Nat×Nat×Nat)):Prop:=
 (q.1.get qap 4=.ptr q.2.2.1 0/\q.1.get qap 5=.ptr (q.2.2.1+1) 0/\q.1.get qap 6=.ptr (q.2.2.1+2) 0/\q.1.get qap 7=.ptr (q.2.2.1+3) 0/\(∀t,t<31->q.1.has t=true)/\(∀i,q.2.1.get (0,[]) i=(0,[]))/\q.2.1.has 1=true/\q.2.1.has 2=true)/\
 H=(q.2.2.1+6,.loop (qqv (xOf y)) (qfh (xOf y)) q.1 q.2.1 [17,18] ra55 rb55)::(q.2.2.1+5,.cells [.func 97 [] [.ptr (q.2.2.1+1) 0]])::(q.2.2.1+4,.cells x.c)::(q.2.2.1+3,.cells [bl y.isSome])::(q.2.2.1+2,.cells (cOf y))::(q.2.2.1+1,.cells [u8 w.1,i64 w.2])::(q.2.2.1,.cells t.c)::q.2.2.2
theorem qtL (x:Vw)(t:Tm)(w:Rw)(hs:t.size<=100000):Ev fun n=>YC (fun q:K27=>q.2.2.1+7) (fun q=> .yield (q.2.2.1+6)) (U55 x t w) (qkX t w) (fun u=>u.size<=100000) (fun _ y=>y=none) n:=by
 refine Ev.succ (((qxk t hs).and (Ev.ge 1)).mono fun n ⟨hput,hn⟩ q y E H pre s o m hos hh hpre hN hU hlv=>?_)
 subst hlv
 obtain⟨fr,lo,N,H0⟩:=q
 obtain⟨⟨f4,f5,f6,f7,fh,l0,l1h,l2h⟩,hH⟩:=hU
 simp only at f4 f5 f6 f7 fh l0 l1h l2h hH hpre hN
 subst hH
 obtain⟨k,at_,u⟩:=o
 simp only at hos
 have hpl:∀v∈pre,v.1≠N+6:=fun v hv=>by have:=hpre v hv;omega
 let LP:zH:=.loop 1 none fr lo [17,18] ra55 rb55
 let base:qaS:=(N+1,.cells [u8 w.1,i64 w.2])::(N,.cells t.c)::H0
 let P:qaS:=pre++[(N+6,LP),(N+5,.cells [.func 97 [] [.ptr (N+1) 0]]),(N+4,.cells x.c)]
 let hp:Option Tm->Bool->qaS:=fun r b=>P++(N+3,.cells [bl b])::(N+2,.cells (cOf r))::base
 let uf:ASt->ASt:=fun s=>{s with heap:=pre++(N+6,LP)::(N+5,.cells [.func 97 [] [.ptr (N+1) 0]])::(N+4,.cells x.c)::(N+3,.cells [bl false])::(N+2,.cells ZC)::base}
 have hP:∀v∈P,N+3<v.1:=by
  intro v hv
  simp only[P,zaL,zaE,zaF,or_false] at hv
  rcases hv with hv|rfl|rfl|rfl
  ·have:=hpre v hv;omega
  ·simp only;omega
  ·simp only;omega
  ·simp only;omega
 have hu0:(uf s).heap=hp none false:=by simp only[uf,hp,P,base,cOf,zaR,zaG,zaI]
 have hc1:∀(m:Nat) r b (s':ASt),s'.heap=hp r b->qas (qag CP m E).E s' (N+1)=some [u8 w.1,i64 w.2]:=fun m r b s' h=>qd3 (pre:=P++[(N+3,.cells [bl b]),(N+2,.cells (cOf r))]) (H:=(N,.cells t.c)::H0) (by rw[h];simp only[hp,base,zaR,zaG,zaI]) (by
  intro v hv
  simp only[zaL,zaE,zaF,or_false] at hv
  rcases hv with hv|rfl|rfl
  ·have:=hP v hv;omega
  ·simp only;omega
  ·simp only;omega)
 have hc0:∀(m:Nat) r b (s':ASt),s'.heap=hp r b->qas (qag CP m E).E s' N=some t.c:=fun m r b s' h=>qd3 (pre:=P++[(N+3,.cells [bl b]),(N+2,.cells (cOf r)),(N+1,.cells [u8 w.1,i64 w.2])]) (H:=H0) (by rw[h];simp only[hp,base,zaR,zaG,zaI]) (by
  intro v hv
  simp only[zaL,zaE,zaF,or_false] at hv
  rcases hv with hv|rfl|rfl|rfl
  ·have:=hP v hv;omega
  ·simp only;omega
  ·simp only;omega
  ·simp only;omega)
 let r:Tm:=qhD u w.2 t
 let sA:ASt:={uf s with heap:=hp (some r) false}
 let sB:ASt:={uf s with heap:=hp (some r) true}
 have st2:stH (uf s) (.ptr (N+2) 0) r.c=some sA:=by
  have:=qnS (s:=uf s) (pre:=P++[(N+3,.cells [bl false])]) (l:=N+2) (o:=0) (zs:=ZC) (cs:=r.c) (new:=r.c) (H:=base) (by rw[hu0];simp only[hp,cOf,zaR,zaG,zaI]) (by
   intro v hv
   simp only[zaL,zaE,zaF,or_false] at hv
   rcases hv with hv|rfl
   ·have:=hP v hv;omega
   ·simp only;omega) rfl rfl
  rw[this]
  simp only[sA,hp,cOf,zaR,zaG,zaI]
 have st3:stH sA (.ptr (N+3) 0) [bl true]=some sB:=by
  have:=qnS (s:=sA) (pre:=P) (l:=N+3) (o:=0) (zs:=[bl false]) (cs:=[bl true]) (new:=[bl true]) (H:=(N+2,.cells r.c)::base) rfl (by
   intro v hv
   have:=hP v hv;omega) rfl rfl
  rw[this]
  rfl
 have e1:zA.cells (some 2) (rwV (k,at_,u))=some [u8 k,i64 at_]:=rfl
 have l2:ldL [u8 k,i64 at_] 0 (some 2)=some (rv (k,at_)):=rfl
 have l2w:ldL [u8 w.1,i64 w.2] 0 (some 2)=some (rv w):=rfl
 have l1w:ldL [u8 w.1,i64 w.2] 1 none=some (i64 w.2):=rfl
 have st2':stH (uf s) (.ptr (N+2) 0) (qhD u w.2 t).c=some sA:=st2
 have hput':=hput (w.2,u) E (uf s) hos
 simp only at hput'
 have hx:∃s2,qs1 31 3 (qag CP n E) n ra55 rb55 uf ((17,rwV (k,at_,u))::(18,u.v)::[(4,.ptr N 0),(5,.ptr (N+1) 0),(6,.ptr (N+2) 0),(7,.ptr (N+3) 0)]) [(1,(0,[])),(2,(0,[]))] s=some (qkG (xOf (qkX t w none (k,at_,u)).1),s2)/\s2.heap=hp (qkX t w none (k,at_,u)).1 (qkX t w none (k,at_,u)).1.isSome/\s2.next=s.next:=by
  by_cases hm:(decide (k=w.1)&&decide (at_=w.2))=true
  ·have hst:qkX t w none (k,at_,u)=(some r,false):=by unfold qkX;rw[if_pos hm]
   rw[hst]
   refine⟨sB,(y55_eq (qag CP n E) n uf N (N+1) (N+2) (N+3) (rwV (k,at_,u)) u.v s).trans ?_,rfl,rfl⟩
   unfold y55
   simp only[e1,qjf,l2,ldP (hc1 n none false (uf s) hu0),ldP (hc0 n none false (uf s) hu0),l2w,l1w,qm6,hm,hput',st2',st3,qcc,qah,qaV,qav,zak,qaa,cond_true,cond_false,zaa,qab]
   rfl
  ·have hst:qkX t w none (k,at_,u)=(none,true):=by unfold qkX;rw[if_neg hm]
   have hm:(decide (k=w.1)&&decide (at_=w.2))=false:=by simpa using hm
   rw[hst]
   refine⟨uf s,(y55_eq (qag CP n E) n uf N (N+1) (N+2) (N+3) (rwV (k,at_,u)) u.v s).trans ?_,hu0,rfl⟩
   unfold y55
   simp only[e1,qjf,l2,ldP (hc1 n none false (uf s) hu0),ldP (hc0 n none false (uf s) hu0),l2w,l1w,qm6,hm,qcc,qah,qaV,qav,zam,qaa,cond_false,zaa]
   rfl
 obtain⟨s2,hrun,hs2,hs2n⟩:=hx
 generalize hr:qkX t w none (k,at_,u)=R at hrun hs2
 have hgo:qjJ (xOf R.1)=R.2/\(R.2=true->R.1=none):=by
  subst hr
  unfold qkX
  split<;>exact⟨rfl,by simp⟩
 have hs2':s2.heap=pre++(N+6,.loop 1 none fr lo [17,18] ra55 rb55)::((N+5,.cells [.func 97 [] [.ptr (N+1) 0]])::(N+4,.cells x.c)::(N+3,.cells [bl R.1.isSome])::(N+2,.cells (cOf R.1))::base):=by
  rw[hs2];simp only[hp,P,LP,base,zaR,zaG,zaI]
 have hy:=qpL (n:=n) (nt:=31) (nl:=3) (E:=E) (ly:=N+6) (fr:=fr) (lo:=lo) (pre:=pre) (F0:=[(4,.ptr N 0),(5,.ptr (N+1) 0),(6,.ptr (N+2) 0),(7,.ptr (N+3) 0)]) (L:=[(1,(0,[])),(2,(0,[]))]) (v1:=rwV (k,at_,u)) (v2:=u.v) (x:=xOf R.1) (by kernel_rfl) (by kernel_rfl) (by omega) (by omega) (by omega) hh hpl
  (fun t u hu=>by
   simp only[qao] at hu
   split at hu
   ·rename_i e;subst e;rw[f4];simpa using hu
   ·split at hu
    ·rename_i e;subst e;rw[f5];simpa using hu
    ·split at hu
     ·rename_i e;subst e;rw[f6];simpa using hu
     ·split at hu
      ·rename_i e;subst e;rw[f7];simpa using hu
      ·cases hu) fh
  (fun i p hi=>by
   simp only[qao] at hi
   split at hi
   ·rename_i e;subst e
    simp only[zac] at hi
    subst hi
    exact⟨l0 _,l1h⟩
   ·split at hi
    ·rename_i e;subst e
     simp only[zac] at hi
     subst hi
     exact⟨l0 _,l2h⟩
    ·cases hi) (by simp only[zan,qak];rfl) hrun hs2'
 rw[hgo.1] at hy
 refine⟨_,_,hy,rfl,hs2n,⟨⟨f4,f5,f6,f7,fh,l0,l1h,l2h⟩,rfl⟩,hgo.2⟩
end Go.AI.Tryz
namespace Go.AI.Tryz
theorem qxl {x:Vw}{t:Tm}{w:Rw}{q:K27}{y:Option Tm}{E H:qaS}{tk:Nat×List (Nat×Nat×Nat)}(h:U55 x t w q y E H tk):qc1 E H (q.2.2.1+1)=some [u8 w.1,i64 w.2]:=by
 obtain⟨_,rfl⟩:=h
 rw[qbH (by omega),qbH (by omega),qbH (by omega),qbH (by omega),qbH (by omega),qeu]
theorem qxm (x:Vw)(t:Tm)(w:Rw)(q:K27)(y:Option Tm)(E H:qaS)(tk:Nat×List (Nat×Nat×Nat))(h:U55 x t w q y E H tk):qc1 E H (q.2.2.1+4)=some x.c/\q.2.2.1+4<q.2.2.1+7:=by
 obtain⟨_,rfl⟩:=h
 exact⟨by rw[qbH (by omega),qbH (by omega),qeu],by omega⟩
theorem qxn (x:Vw)(t:Tm)(w:Rw)(q:K27)(y:Option Tm)(E H:qaS)(tk:Nat×List (Nat×Nat×Nat))(h:U55 x t w q y E H tk):qc1 E H (q.2.2.1+5)=some [.func 97 [] [.ptr (q.2.2.1+1) 0]]/\q.2.2.1+5<q.2.2.1+7:=by
 obtain⟨_,rfl⟩:=h
 exact⟨by rw[qbH (by omega),qeu],by omega⟩
theorem qvF (x:Vw)(t:Tm)(w:Rw):Ev fun n=>SmC (fun q:K27=>q.2.2.1+7) (fun q=> .func 97 [] [.ptr (q.2.2.1+1) 0]) (U55 x t w) (fun k=>decide (k=w.1)) n:=
 ((qtK w).and (Ev.ge 1)).mono fun n ⟨h,hn⟩ q y E H pre s i hi hh hp hU=>by
  rw[qhV CP hn]
  refine h (.ofNat (i+1),q.2.2.1+1) E s ?_
  rw[qfb hh (fun v hv=>by have:=hp v hv;simp only at this;omega)]
  exact qxl hU
theorem qp0 {a:Ar}{t:Tm}(hc:qbx a t=0)(ok:t.Ok)(h1:a.ids.length<=100000)(hs:t.size<=100000)(hg:∀p∈qbo t (qaC a),p.1.top<=Int.ofNat p.1.ids.length):∀p∈qbo t (qaC a),∀i,i<22->∀u,qbm i p.1 p.2=some u->u.size<=100000:=by
 intro p hp i hi u hu
 obtain⟨hn,hsz⟩:=qfB _ t (qaC a) (zao _) (qht hc ok h1 hs) p hp
 have:=(keep hn (hg p hp) hi hu).le
 omega
mutual
theorem qkY:∀(t:Tm) (x:Sc),x.top<=Int.ofNat x.ids.length->∀p∈qbo t x,p.1.top<=Int.ofNat p.1.ids.length
 |.mk k n m i ks,x,hx=>by
  intro p hp
  rw[qbo] at hp
  rcases zaE.1 hp with rfl|hp
  ·exact hx
  ·refine qiA ks _ 0 (fun j=>?_) p hp
   unfold Sc.kid
   split
   ·simp only[Sc.with,zax,zar,zaC,zaf] at hx⊢;omega
   ·split
    ·simp only[Sc.with,zax,zar,zaC,zaf] at hx⊢;omega
    ·split
     ·exact hx
     ·exact hx
theorem qiA:∀(ks:List Tm) (sc:Nat->Sc) (j:Nat),(∀j,(sc j).top<=Int.ofNat (sc j).ids.length)->∀p∈qbd sc j ks,p.1.top<=Int.ofNat p.1.ids.length
 |[],_,_,_=>by intro p hp;simp only[qbd] at hp;cases hp
 |u::r,sc,j,hx=>by
  intro p hp
  simp only[qbd,zaL] at hp
  rcases hp with hp|hp
  ·exact qkY u _ (hx j) p hp
  ·exact qiA r sc (j+1) hx p hp
end
theorem qoG (a:Ar)(t:Tm):∀p∈qbo t (qaC a),p.1.top<=Int.ofNat p.1.ids.length:=qkY t _ (by simp only[qaC,zaY];exact Int.le_refl _)
theorem qvG (a:Ar)(t:Tm)(w:Rw)(oa:a.Ok)(ok:t.Ok)(h1:a.ids.length<=100000)(hs:t.size<=100000)(hc:qbx a t=0):PC CP 55 [a.v,t.v,rv w] (qcN (qgm a t w)):=by
 have hav:zA.cells (some 4) a.v=some [.p (.sl a.ids.length (qaQ Ty.cells a.ids)),bl a.root.cell,i64 a.root.n,bl a.jumps]:=rfl
 have hal:ldL [.p (.sl a.ids.length (qaQ Ty.cells a.ids)),bl a.root.cell,i64 a.root.n,bl a.jumps] 0 (some 4)=some a.v:=rfl
 have hnd:=qht hc ok h1 hs
 let x:=vw (qaC a) t
 have hoff:=qkS (κ:=K27) (N0:=fun q=>q.2.2.1+7) (l4:=fun q=>q.2.2.1+4) (l7:=fun q=>q.2.2.1+5) (yv:=fun q=> .yield (q.2.2.1+6)) (someV:=fun q=> .func 97 [] [.ptr (q.2.2.1+1) 0]) (U:=U55 x t w) (st:=qkX t w) (sm:=fun k=>decide (k=w.1)) (OS:=fun u=>u.size<=100000) (live:=fun _ y=>y=none) hnd (by omega) (fun m y h=>h) (fun _=>rfl) (fun _=>rfl) (fun _=>rfl) (fun _=>rfl) (qxn x t w) (qxm x t w) (qp0 hc ok h1 hs (qoG a t)) (qtL x t w hs) (qvF x t w)
 refine PC.of2 (cf:=cf55) (np:=3) (args':=[a.v,t.v,rv w]) (by kernel_rfl) (by kernel_rfl) rfl (by simp only[zan,qak];rfl) (by simp only[zal,qaj];rfl) (fun lo=>qaR lo _)
  (((qso a t h1).and ((qpK (ι:=Nat) x (fun N=> .func 97 [] [.ptr (N+1) 0]) (fun _=>rfl) (fun _=>rfl) (fun _=>rfl) (fun _=>rfl)).and (hoff.and (nothing_c.and (Ev.ge 1))))).mono fun n ⟨hl,ho,hoff,hnone,hn⟩ E s=>?_)
 let N:=s.next
 let s14:=qai (qai (qai (qai s (.cells t.c)) (.cells [u8 w.1,i64 w.2])) (.cells ZC)) (.cells [bl false])
 let s21:=qai (qai s14 (.cells x.c)) (.cells [.func 97 [] [.ptr (N+1) 0]])
 let R:=qgm a t w
 suffices s55 (qag CP n E) n a.v t.v (rv w) s=some (qcN R,s21) from⟨_,s21,(s55_eq _ _ _ _ _ _).trans this,qaN _⟩
 have hrf:∀(F:FL) (L:LL) (kn kx kr:ASt->Res),qar F 4=some (.ptr N 0)->qar F 5=some (.ptr (N+1) 0)->qar F 6=some (.ptr (N+2) 0)->qar F 7=some (.ptr (N+3) 0)->(∃p,qar L 1=some p)->(∃p,qar L 2=some p)->
   (∀(s':ASt) (P H:qaS),s'.heap=P++(N+3,.cells [bl R.isSome])::(N+2,.cells (cOf R))::H->(∀v∈P,N+3<v.1)->∃s2 r',qaF r'=qcN R/\(match R with|none=>kn s'=some (r',s2)|some _=>kr s'=some (r',s2)))->
   qny (qag CP n E) n 31 (.func 94 [] [.ptr (N+4) 0,.ptr (N+5) 0]) [17,18] ra55 rb55 F L s21 kn kx kr (qcN R):=by
  intro F L kn kx kr hF4 hF5 hF6 hF7 ⟨p1,hL1⟩ ⟨p2,hL2⟩ hkn
  refine qvy hn fun fr lo hF hh hlo hL=>?_
  let LP:Option Tm->zH:=fun y=> .loop (qqv (xOf y)) (qfh (xOf y)) fr lo [17,18] ra55 rb55
  have hU:U55 x t w (fr,lo,N,s.heap) none E (qai s21 (LP none)).heap (qpI (qai s21 (LP none))):=⟨⟨hF 4 _ hF4,hF 5 _ hF5,hF 6 _ hF6,hF 7 _ hF7,hh,hlo,hL 1 _ hL1,hL 2 _ hL2⟩,rfl⟩
  obtain⟨s',pre',H',e1,e2,e3,e4,⟨_,hH'⟩⟩:=hoff (fr,lo,N,s.heap) none E (qai s21 (LP none)) (zao _) hU rfl
  have hR:(qby (qkX t w) none (qds (fun k=>decide (k=w.1)) 0 (qbo t (qaC a)))).1=R:=rfl
  rw[hR] at hH'
  subst hH'
  simp only at e2 e3
  obtain⟨s2,r',her,hk⟩:=hkn {s' with heap:=pre'++(s21.next,.gone)::(N+5,.cells [.func 97 [] [.ptr (N+1) 0]])::(N+4,.cells x.c)::(N+3,.cells [bl R.isSome])::(N+2,.cells (cOf R))::(N+1,.cells [u8 w.1,i64 w.2])::(N,.cells t.c)::s.heap}
   (pre'++[(s21.next,.gone),(N+5,.cells [.func 97 [] [.ptr (N+1) 0]]),(N+4,.cells x.c)]) ((N+1,.cells [u8 w.1,i64 w.2])::(N,.cells t.c)::s.heap) (by simp only[zaR,zaG,zaI]) (by
   intro v hv
   simp only[zaL,zaE,zaF,or_false] at hv
   rcases hv with hv|rfl|rfl|rfl
   ·have:=e3 v hv;omega
   ·show N+3<N+1+1+1+1+1+1;omega
   ·show N+3<N+5;omega
   ·show N+3<N+4;omega)
  refine⟨xOf R,s',pre',_,s2,r',e1,e2,fun v hv=>by have:=e3 v hv;show v.1≠N+1+1+1+1+1+1;omega,her,?_⟩
  generalize R=R' at hk⊢
  cases R' with
  |none=>exact hk
  |some r=>exact hk
 have haw2:zA.cells (some 2) (rv w)=some [u8 w.1,i64 w.2]:=rfl
 have hwa:[u8 w.1,i64 w.2].all qaY=true:=rfl
 have ho':cl (qag CP n E) 54 [x.v,.func 97 [] [.ptr (qai s (.cells t.c)).next 0]] (qai (qai (qai (qai s (.cells t.c)) (.cells [u8 w.1,i64 w.2])) (.cells [u8 0,i64 0,i64 0,i64 0,.sl 0 [] .full])) (.cells [bl false]))=some (.func 94 [] [.ptr (N+4) 0,.ptr (N+5) 0],s21):=ho s.next E s14
 have hl':∀E s,cl (qag CP n E) 65 [a.v,t.v] s=some (x.v,s):=hl
 have hc6:qas (qag CP n E).E (qai (qai (qai (qai s (.cells t.c)) (.cells [u8 w.1,i64 w.2])) (.cells [u8 0,i64 0,i64 0,i64 0,.sl 0 [] .full])) (.cells [bl false])) s.next=some t.c:=by
  show qas _ s14 s.next=_
  rw[qbD (s:=s14) rfl (by show s.next+1+1+1≠s.next;omega),qbD rfl (by show s.next+1+1≠s.next;omega),qbD rfl (by show s.next+1≠s.next;omega)]
  exact qaW rfl
 unfold s55
 simp only[hav,hal,haw2,hwa,ldP hc6,hl',ho',qah,qaV,qvb,zaa,qab,qa2,qbu,cnd,qaB]
 refine qsn 5 2 ?_ (by omega) ?_ (hrf _ _ _ _ _ rfl rfl rfl rfl ⟨_,rfl⟩ ⟨_,rfl⟩ fun s' P H hh hP=>?_)
 ·intro p hp
  simp only[zaE,zaF,or_false] at hp
  rcases hp with rfl|rfl|rfl|rfl|rfl|rfl|rfl|rfl|rfl|rfl|rfl|rfl|rfl|rfl|rfl<;>simp only<;>omega
 ·intro p hp
  simp only[zaE,zaF,or_false] at hp
  rcases hp with rfl|rfl|rfl|rfl<;>simp only<;>omega
 ·have q3:∀v∈P,v.1≠N+3:=fun v hv=>by have:=hP v hv;omega
  have q2:∀(o:zH),∀v∈P++[(N+3,o)],v.1≠N+2:=fun o v hv=>by
   simp only[zaL,zaE,zaF,or_false] at hv
   rcases hv with hv|rfl
   ·have:=hP v hv;omega
   ·show N+3≠N+2;omega
  have r3:∀(s':ASt) b c,s'.heap=P++(N+3,.cells [b])::(N+2,.cells c)::H->qas (qag CP n E).E s' (s.next+3)=some [b]:=fun s' b c h=>qd3 h q3
  have r2:∀(s':ASt) b c,s'.heap=P++(N+3,.cells [b])::(N+2,.cells c)::H->qas (qag CP n E).E s' (s.next+2)=some c:=fun s' b c h=>qd3 (l:=N+2) (pre:=P++[(N+3,.cells [b])]) (H:=H) (by rw[h];simp only[zaR,zaG,zaI]) (q2 _)
  generalize R=R' at hh⊢
  cases R' with
  |some r=>
   refine⟨s',.tuple [r.v,bl true],(qaN (some r)),?_⟩
   have a3:qas (qag CP n E).E s' (qai (qai (qai s (.cells t.c)) (.cells [u8 w.1,i64 w.2])) (.cells [u8 0,i64 0,i64 0,i64 0,.sl 0 [] .full])).next=some [bl true]:=r3 s' _ _ hh
   have a2:qas (qag CP n E).E s' (qai (qai s (.cells t.c)) (.cells [u8 w.1,i64 w.2])).next=some r.c:=r2 s' _ _ hh
   simp only[ldP a3,ldP a2,qcu,qaV,zaa]
  |none=>
   let s1:ASt:={s' with heap:=P++(N+3,.cells [bl false])::(N+2,.cells Tm.z.c)::H}
   have w2:stH s' (.ptr (qai (qai s (.cells t.c)) (.cells [u8 w.1,i64 w.2])).next 0) Tm.z.c=some s1:=by
    have:=qnS (s:=s') (pre:=P++[(N+3,.cells [bl false])]) (l:=N+2) (o:=0) (zs:=ZC) (cs:=Tm.z.c) (new:=Tm.z.c) (H:=H) (by rw[hh];simp only[cOf,Option.isSome,zaR,zaG,zaI]) (q2 _) rfl rfl
    simp only[zaR,zaG,zaI] at this
    exact this
   have w3:stH s1 (.ptr (qai (qai (qai s (.cells t.c)) (.cells [u8 w.1,i64 w.2])) (.cells [u8 0,i64 0,i64 0,i64 0,.sl 0 [] .full])).next 0) [bl false]=some s1:=qnS (s:=s1) (l:=N+3) (zs:=[bl false]) rfl q3 rfl rfl
   refine⟨s1,qcN none,qaN none,?_⟩
   have a3:qas (qag CP n E).E s1 (qai (qai (qai s (.cells t.c)) (.cells [u8 w.1,i64 w.2])) (.cells [u8 0,i64 0,i64 0,i64 0,.sl 0 [] .full])).next=some [bl false]:=r3 s1 _ _ rfl
   have a2:qas (qag CP n E).E s1 (qai (qai s (.cells t.c)) (.cells [u8 w.1,i64 w.2])).next=some Tm.z.c:=r2 s1 _ _ rfl
   have hz:zA.cells (some 5) Tm.z.v=some Tm.z.c:=rfl
   have hzl:ldL Tm.z.c 0 (some 5)=some Tm.z.v:=rfl
   simp only[hnone,hz,hzl,w2,w3,ldP a3,ldP a2,qcu,qcc,zaa,qab,qan,qaw,qax,qaB,zaJ,zaD]
end Go.AI.Tryz
namespace Go.AI.Tryz
def doF (a:Ar)(t:Tm)(w:Rw):Tm×Int:=if qbx a t=0 then(match qgm a t w with|some r=>(r,0)|none=>(.z,7)) else(.z,qbx a t)
theorem qvH (t:Tm)(n:Int):qaF (.tuple [t.v,i64 n])=.tuple [t.v,i64 n]:=by rw[Tm.v_eq];rfl
theorem qnZ (lo:Nat)(t:Tm)(n:Int):qeJ lo (.tuple [t.v,i64 n])=true:=by rw[Tm.v_eq];rfl
theorem zbd:bd [u8 0,i64 0,i64 0,i64 0,.sl 0 [] .full] []=some (.agg [u8 0,i64 0,i64 0,i64 0,.sl 0 [] .full]):=rfl
theorem qsr:zA.cells (some 5) (.agg [u8 0,i64 0,i64 0,i64 0,.sl 0 [] .full])=some [u8 0,i64 0,i64 0,i64 0,.sl 0 [] .full]:=rfl
theorem qxG:ldL [u8 0,i64 0,i64 0,i64 0,.sl 0 [] .full] 0 (some 5)=some (.agg [u8 0,i64 0,i64 0,i64 0,.sl 0 [] .full]):=rfl
theorem qvI:over [u8 0,i64 0,i64 0,i64 0,.sl 0 [] .full] 0 [u8 0,i64 0,i64 0,i64 0,.sl 0 [] .full]=some [u8 0,i64 0,i64 0,i64 0,.sl 0 [] .full]:=rfl
theorem qc3 (a:Ar):zA.cells (some 4) a.v=some [.p (.sl a.ids.length (qaQ Ty.cells a.ids)),bl a.root.cell,i64 a.root.n,bl a.jumps]:=rfl
theorem qlb (a:Ar):ldL [.p (.sl a.ids.length (qaQ Ty.cells a.ids)),bl a.root.cell,i64 a.root.n,bl a.jumps] 0 (some 4)=some a.v:=rfl
theorem qp1 (w:Rw):zA.cells (some 2) (rv w)=some [u8 w.1,i64 w.2]:=rfl
theorem qxo (w:Rw):ldL [u8 w.1,i64 w.2] 0 (some 2)=some (rv w):=rfl
theorem do_c (a:Ar)(t:Tm)(w:Rw)(oa:a.Ok)(ok:t.Ok)(h1:a.ids.length<=100000)(hs:t.size<=100000):PC CP 29 [a.v,t.v,rv w] (.tuple [(doF a t w).1.v,i64 (doF a t w).2]):=by
 unfold doF
 by_cases hc:qbx a t=0
 ·rw[if_pos hc]
  have hd:=qvG a t w oa ok h1 hs hc
  cases hr:qgm a t w with
  |some r=>
   rw[hr] at hd
   refine PC.of2 (cf:=cf29) (np:=3) (args':=[a.v,t.v,rv w]) (by kernel_rfl) (by kernel_rfl) rfl (by simp only[zan,qak];rfl) (by simp only[zal,qaj];rfl) (fun lo=>qnZ lo _ _)
    (((qkT a t oa ok h1 hs).and hd).mono fun n ⟨hl,hd⟩ E s=>⟨.tuple [r.v,i64 0],s,(s29_eq _ _ _ _ _ _).trans ?_,qvH _ _⟩)
   rw[hc] at hl
   unfold s29
   simp only[qc3,qlb,qp1,qxo,hl,hd,qah,qaV,qav,qaG,qhU,qad,qaU,decide_true,zak,qaa,cond_false,zab,zaa,qab,qan,qaw,qax,qam,qaB,zaB,zbf]
  |none=>
   rw[hr] at hd
   refine PC.of2 (cf:=cf29) (np:=3) (args':=[a.v,t.v,rv w]) (by kernel_rfl) (by kernel_rfl) rfl (by simp only[zan,qak];rfl) (by simp only[zal,qaj];rfl) (fun lo=>qnZ lo _ _)
    (((qkT a t oa ok h1 hs).and hd).mono fun n ⟨hl,hd⟩ E s=>⟨.tuple [.agg [u8 0,i64 0,i64 0,i64 0,.sl 0 [] .full],i64 7],s,(s29_eq _ _ _ _ _ _).trans ?_,rfl⟩)
   rw[hc] at hl
   unfold s29
   simp only[qc3,qlb,qp1,qxo,hl,hd,zbd,qsr,qxG,qvI,qah,qaV,qav,qaG,qhU,qad,qaU,decide_true,zak,zam,qaa,cond_true,cond_false,zab,zaa,qab,qan,qaw,qax,qam,qaB,zaJ,zaD]
 ·rw[if_neg hc]
  refine PC.of2 (cf:=cf29) (np:=3) (args':=[a.v,t.v,rv w]) (by kernel_rfl) (by kernel_rfl) rfl (by simp only[zan,qak];rfl) (by simp only[zal,qaj];rfl) (fun lo=>qnZ lo _ _)
   ((qkT a t oa ok h1 hs).mono fun n hl E s=>⟨.tuple [.agg [u8 0,i64 0,i64 0,i64 0,.sl 0 [] .full],i64 (qbx a t)],s,(s29_eq _ _ _ _ _ _).trans ?_,rfl⟩)
  unfold s29
  simp only[qc3,qlb,qp1,qxo,hl,hc,zbd,qsr,qxG,qvI,qah,qaV,qaG,qhU,qad,qaU,decide_false,zam,qaa,cond_true,zab,zaa,qab,qan,qaw,qax]
end Go.AI.Tryz
namespace Go.AI.Tryz
abbrev Y41:=Option (Option Of)
def x41:Y41->EX
 |none=> .normal
 |some none=> .ret
 |some (some _)=> .exit 2
structure K41 (ι:Type) where
 p:ι
 fr:Tr zA
 lo:Tr (Nat×List zA)
 M:Nat
 lf:Nat
 P:qaS
 s0:ASt
end Go.AI.Tryz
namespace Go.AI.Tryz
theorem qeF {sm:Int->Bool}:∀{l:List (Sc×Tm)} {b:Int} {o:Of},o∈qds sm b l->∃j p i,l[j]? =some p/\o.2.1=b+Int.ofNat j/\i<22/\o.1=Int.ofNat (i+1)/\qbm i p.1 p.2=some o.2.2/\sm o.1=true
 |[],b,o,h=>by simp only[qds] at h;cases h
 |p::r,b,o,h=>by
  simp only[qds,zaL] at h
  rcases h with h|h
  ·unfold qdq at h
   rw[List.mem_filterMap] at h
   obtain⟨i,hi,h⟩:=h
   have hi:i<22:=by
    simp only[ruL,zaE,zaF,or_false] at hi
    omega
   split at h
   ·rename_i hs
    rw[zad] at h
    obtain⟨u,hu,rfl⟩:=h
    exact⟨0,p,i,rfl,by simp,hi,rfl,hu,hs⟩
   ·cases h
  ·obtain⟨j,q,i,h1,h2,h3⟩:=qeF h
   exact⟨j+1,q,i,by simpa using h1,by rw[h2];simp only[zaf];omega,h3⟩
structure Right (a:Ar)(t:Tm):Prop where
 c:qbx a t=0
 ok:t.Ok
theorem Right.nd {a:Ar}{t:Tm}(h:Right a t)(h1:a.ids.length<=100000)(hs:t.size<=100000):Nd (qaC a) t:=qht h.c h.ok h1 hs
theorem qp2 {a:Ar}{t:Tm}{sm:Int->Bool}{o:Of}(h:Right a t)(h1:a.ids.length<=100000)(hs:t.size<=100000)(ho:o∈qds sm 0 (qbo t (qaC a))):Right a (qhD o.2.2 o.2.1 t)/\(qhD o.2.2 o.2.1 t).size<=t.size:=by
 have hnd:=h.nd h1 hs
 obtain⟨j,p,i,hj,ha,hi,_,hu,_⟩:=qeF ho
 have hp:=zaQ hj
 obtain⟨hn,hsz⟩:=qfB _ t _ (zao _) hnd p hp
 have g:=keep hn (qoG a t p hp) hi hu
 have hjl:j<t.size:=by rw[<-qbN t (qaC a)];exact(zap.1 hj).1
 have hshu:Sh o.2.2:=qdf (x:=p.1) (by rw[<-g.sz];exact g.ok2)
 obtain⟨r1,r2,r3,r4⟩:=qj6 g.ok (Lk.of_ok g.sz g.ok2) hshu t.size t (qaC a) j (zao _) hj hnd
 have e:qhD o.2.2 o.2.1 t=Tm.put1 o.2.2 j t:=by
  unfold qhD
  rw[if_pos (by rw[ha];simp only[zaf];omega),ha]
  congr 1
  simp only[zaf];omega
 have hle:=g.le
 rw[e]
 refine⟨⟨?_,r3⟩,by omega⟩
 have hc:=h.c
 unfold qbx at hc⊢
 split at hc
 ·rename_i h0;exact absurd hc h0
 ·rename_i h0
  rw[if_neg h0]
  split at hc
  ·omega
  ·rename_i h6
   rw[if_neg (by omega),<-r1.2 a.root]
   exact hc
end Go.AI.Tryz
namespace Go.AI.Tryz
theorem qp3 (x y:List Rw)(hx:x.length<=100000000)(hy:y.length<=100000000):PC CP 20 [qn8 x,qn8 y] (bl (decide (x=y))):=by
 refine PC.of2 (cf:=cf20) (np:=2) (args':=[qn8 x,qn8 y]) (by kernel_rfl) (by kernel_rfl) rfl rfl rfl (fun _=>rfl) ((Ev.ge (x.length+1)).mono fun n hn E s=>⟨bl (decide (x=y)),s,(s20_eq _ _ _ _ _).trans ?_,rfl⟩)
 unfold s20
 by_cases hlen:x.length=y.length
 ·have e1:(Int.ofNat x.length=Int.ofNat y.length):=by rw[hlen]
  simp only[e1,qad,qaU,decide_true,zak,qaa,cond_false,zab,zaa,qbB]
  unfold s20_0
  generalize hF:(fun(h7:zA->Res) (x6:zA)=>_)=F
  have main:∀k j,j<=x.length->x.length-j<k->lp (fun _=>none) F k (i64 (.ofNat j))=some (bl (decide (x.drop j=y.drop j)),s):=by
   intro k
   induction k with
   |zero=>intro j _ h;omega
   |succ k ih=>
    intro j hj hk
    rw[qbh]
    rcases zbi j x.length with h|h
    ·have h':j<y.length:=by omega
     have ih2:=ih (j+1) (by omega) (by omega)
     clear ih
     generalize lp _ F k=L at ih2⊢
     subst hF
     have hx1:=qdt (c:=rwC) (sz:=2) (fun _=>rfl) (qag CP n E) s (zah h)
     have hy1:=qdt (c:=rwC) (sz:=2) (fun _=>rfl) (qag CP n E) s (zah h')
     have hq:=qm6 true x[j] y[j]
     have hq:eqs [1,1] true (.agg ((rwC x[j]).map .p)) (.agg ((rwC y[j]).map .p))=_:=hq
     simp only[of_lt.2 h,qcd h,qcd h',hx1,hy1,hq,qaP (show j<9223372036854775807 by omega),qad,qaq,qaz,decide_true,qaa,cond_true,zab,zaa,qab,qbB]
     rw[zaz h,zaz h']
     cases hb:decide (x[j].1=y[j].1)&&decide (x[j].2=y[j].2) with
     |true=>
      simp only[zak,cond_false]
      rw[ih2]
      simp only[zag,decide_eq_true_eq] at hb
      have he:x[j]=y[j]:=Prod.ext hb.1 hb.2
      simp only[he,List.cons.injEq,true_and]
     |false=>
      simp only[zam,cond_true]
      have hne:¬(x[j]=y[j]):=fun h=>by rw[h] at hb;simp at hb
      simp only[List.cons.injEq,hne,false_and,decide_false]
    ·have e1:x.drop j=[]:=List.drop_eq_nil_of_le h
     have e2:y.drop j=[]:=List.drop_eq_nil_of_le (by omega)
     generalize lp _ F k=L
     subst hF
     have h3:¬(Int.ofNat j<Int.ofNat x.length):=fun hh=>by have:=of_lt.1 hh;omega
     simp only[h3,e1,e2,qad,qaq,qaz,decide_true,decide_false,qaa,cond_false,zab,zaa,qbB]
  exact main n 0 (za3 _) (by omega)
 ·have e1:¬(Int.ofNat x.length=Int.ofNat y.length):=fun h=>hlen (Int.ofNat.inj h)
  have e2:¬(x=y):=fun h=>hlen (by rw[h])
  simp only[e1,e2,qad,qaU,decide_false,zam,qaa,cond_true,zab,zaa,qbB]
end Go.AI.Tryz
namespace Go.AI.Tryz
theorem qeG (a:Ar)(t:Tm)(w:Rw):qgm a t w=((qds (fun k=>decide (k=w.1)) 0 (qbo t (qaC a))).find? fun o=>decide (o.1=w.1)&&decide (o.2.1=w.2)).map fun o=>qhD o.2.2 w.2 t:=by
 unfold qgm
 generalize qds (fun k=>decide (k=w.1)) 0 (qbo t (qaC a))=l
 induction l with
 |nil=>rfl
 |cons o r ih=>
  simp only[qby,List.find?_cons]
  by_cases hb:(decide (o.1=w.1)&&decide (o.2.1=w.2))=true
  ·have e:qkX t w none o=(some (qhD o.2.2 w.2 t),false):=by unfold qkX;rw[if_pos hb]
   rw[e,hb];rfl
  ·have e:qkX t w none o=(none,true):=by unfold qkX;rw[if_neg hb]
   have hb:(decide (o.1=w.1)&&decide (o.2.1=w.2))=false:=by simpa using hb
   rw[e,hb]
   exact ih
end Go.AI.Tryz
namespace Go.AI.Tryz
theorem qjw (sm:Int->Bool)(x:Sc)(t:Tm)(b:Int):qdq sm x t b=(qdq qc2 x t b).filter fun o=>sm o.1:=by
 unfold qdq
 rw[List.filter_filterMap]
 congr 1
 funext i
 simp only[qc2,if_true]
 cases h:qbm i x t with
 |none=>simp
 |some u=>
  simp only[zab,Option.filter]
theorem qfd (sm:Int->Bool):∀(l:List (Sc×Tm)) (b:Int),qds sm b l=(qds qc2 b l).filter fun o=>sm o.1
 |[],b=>rfl
 |p::r,b=>by
  simp only[qds,List.filter_append]
  rw[qjw,qfd sm r]
theorem qp4 {sm sm':Int->Bool}{l:List (Sc×Tm)}{b:Int}{o p:Of}(ho:o∈qds sm b l)(hp:p∈qds sm' b l)(h1:o.1=p.1)(h2:o.2.1=p.2.1):o.2.2=p.2.2:=by
 obtain⟨j,q,i,a1,a2,_,a3,a4,_⟩:=qeF ho
 obtain⟨j',q',i',b1,b2,_,b3,b4,_⟩:=qeF hp
 have hj:j=j':=by
  rw[a2,b2] at h2
  simp only[zaf] at h2
  omega
 subst hj
 rw[a1,zac] at b1
 subst b1
 have hi:i=i':=by
  rw[a3,b3] at h1
  simp only[zaf] at h1
  omega
 subst hi
 rw[a4,zac] at b4
 exact b4
theorem qrD {a:Ar}{t:Tm}{o:Of}(ho:o∈qds qc2 0 (qbo t (qaC a))):qgm a t (o.1,o.2.1)=some (qhD o.2.2 o.2.1 t):=by
 have hm:o∈qds (fun k=>decide (k=o.1)) 0 (qbo t (qaC a)):=by
  rw[qfd,List.mem_filter]
  exact⟨ho,by simp⟩
 rw[qeG]
 cases hf:(qds (fun k=>decide (k=o.1)) 0 (qbo t (qaC a))).find? fun q=>decide (q.1=o.1)&&decide (q.2.1=o.2.1) with
 |none=>
  have:=List.find?_eq_none.1 hf o hm
  simp at this
 |some q=>
  have h1:=List.mem_of_find?_eq_some hf
  have h2:=List.find?_some hf
  simp only[zag,decide_eq_true_eq] at h2
  rw[zab,qp4 h1 hm h2.1 h2.2]
inductive St (a:Ar):Tm->List Rw->Tm->Prop where
 |nil (t):St a t [] t
 |cons {t u:Tm} {o:Of} {r:List Of} {L:List Rw} (h:qds qc2 0 (qbo t (qaC a))=o::r) (k:St a (qhD o.2.2 o.2.1 t) L u):St a t ((o.1,o.2.1)::L) u
end Go.AI.Tryz
namespace Go.AI.Tryz
theorem qp5 {c:Tm->Nat}{most:Nat}:∀(ks:List Tm) (a:Nat),a<=qla c most a ks
 |[],a=>zao _
 |t::r,a=>by
  simp only[qla]
  split
  ·have:=qp5 (c:=c) (most:=most) r (a+c t);omega
  ·exact zao _
theorem qhw (most:Nat):∀(d:Nat) (t:Tm),1<=qhd most d t/\(qhd most d t<=most->qhd most d t=t.size)
 |0,t=>⟨by simp only[qhd];omega,fun h=>by simp only[qhd] at h;omega⟩
 |d+1,t=>by
  simp only[qhd]
  refine⟨qp5 t.ks 1,fun h=>?_⟩
  rw[qkH t.ks 1 (fun u _=>(qhw most d u).2) (fun u _=>(qhw most d u).1) h,Tm.size_ks t]
theorem qn0 {a:Ar}{t:Tm}(h:qnH a t=true):a.ids.length<=20/\(∀t∈a.ids,t.ps.length<=20)/\t.size<=700:=by
 simp only[qnH,zag,qnF,decide_eq_true_eq,zaM,qlG] at h
 refine⟨h.1.1.1,h.1.1.2,?_⟩
 have:=(qhw 700 200 t).2 h.1.2
 omega
end Go.AI.Tryz
namespace Go.AI.Tryz
structure Lw (n:Nat)(e:Env):Prop where
 o:∀f args s,f≠12->cl e f args s=cl (qag CP n []) f args s
 a:∀s,cl e 12 [] s=some (bl true,s)
theorem Lw.c {n:Nat}{e:Env}(h:Lw n e){f:Nat}{args:List zA}{r:zA}(hf:f≠12)(hc:∀E s,cl (qag CP n E) f args s=some (r,s)):∀s,cl e f args s=some (r,s):=fun s=>(h.o f args s hf).trans (hc [] s)
abbrev u16 (k:Nat):zA:=.p (.int .u16 (.ofNat k))
end Go.AI.Tryz
namespace Go.AI
section
variable {P:Program}
theorem HasT.inv_int {n t pcs k}(h:HasT P n t pcs)(hu:P.underlying t=some (.int k)):∃a,pcs=[.int k a]/\(Lit.int k a).wf=true:=by
 cases h with
 |int ht a hw=>rw[hu] at ht;cases ht;exact⟨a,rfl,hw⟩
 |bool ht b=>rw[hu] at ht;cases ht
 |str ht b _=>rw[hu] at ht;cases ht
 |sl ht _ _ _=>rw[hu] at ht;cases ht
 |struct ht _ _ _=>rw[hu] at ht;cases ht
theorem HasT.inv_bool {n t pcs}(h:HasT P n t pcs)(hu:P.underlying t=some .bool):∃b,pcs=[.bool b]:=by
 cases h with
 |bool ht b=>exact⟨b,rfl⟩
 |int ht a hw=>rw[hu] at ht;cases ht
 |str ht b _=>rw[hu] at ht;cases ht
 |sl ht _ _ _=>rw[hu] at ht;cases ht
 |struct ht _ _ _=>rw[hu] at ht;cases ht
theorem HasT.inv_sl {n t pcs e}(h:HasT P n t pcs)(hu:P.underlying t=some (.slice e)):∃(m:Nat) (ls:List (List zP)),n=m+1/\pcs=[.sl ls.length ls.flatten]/\ls.length<=maxLen/\∀l∈ls,HasT P m e l:=by
 cases h with
 |sl ht ls hl h=>rw[hu] at ht;cases ht;exact⟨_,ls,rfl,rfl,hl,h⟩
 |bool ht b=>rw[hu] at ht;cases ht
 |int ht a hw=>rw[hu] at ht;cases ht
 |str ht b _=>rw[hu] at ht;cases ht
 |struct ht _ _ _=>rw[hu] at ht;cases ht
theorem HasT.inv_struct {n t pcs fs}(h:HasT P n t pcs)(hu:P.underlying t=some (.struct fs)):∃(m:Nat) (ls:List (List zP)),n=m+1/\pcs=ls.flatten/\ls.length=fs.size/\∀(i:Nat) l f,ls[i]? =some l->fs[i]? =some f->HasT P m f.type l:=by
 cases h with
 |struct ht ls hl h=>rw[hu] at ht;cases ht;exact⟨_,ls,rfl,rfl,hl,h⟩
 |bool ht b=>rw[hu] at ht;cases ht
 |int ht a hw=>rw[hu] at ht;cases ht
 |str ht b _=>rw[hu] at ht;cases ht
 |sl ht _ _ _=>rw[hu] at ht;cases ht
theorem qtM {w:World}{r:Reach}{base:Nat}{t:TypeId}{fs:Array Field}{v:Value}(hu:P.underlying t=some (.struct fs))(ho:Value.okWide P w r base t v):∃cs,v=.agg cs:=by
 unfold Value.okWide at ho
 rw[hu] at ho
 obtain⟨cs,h,_⟩:=ho
 exact⟨cs,h⟩
theorem qjx {α:Type}{c:α->List zP}{Q:α->Prop}:∀(ls:List (List zP)),(∀l∈ls,∃a,c a=l/\Q a)->∃zs:List α,zs.length=ls.length/\qaQ c zs=ls.flatten/\∀a∈zs,Q a
 |[],_=>⟨[],rfl,rfl,fun a h=>by cases h⟩
 |l::ls,h=>by
  obtain⟨a,ha,hq⟩:=h l (zav ..)
  obtain⟨zs,h1,h2,h3⟩:=qjx ls fun m hm=>h m (zaw _ hm)
  refine⟨a::zs,by simp[h1],by simp only[qaQ,List.flatten_cons,ha,h2],fun b hb=>?_⟩
  rcases zaE.1 hb with rfl|hb
  ·exact hq
  ·exact h3 b hb
theorem qvJ {a:Int}(h:(Lit.int .i64 a).wf=true): -9223372036854775808<=a/\a<=9223372036854775807:=by
 simp[Lit.wf,IntKind.min,IntKind.max,IntKind.signed,IntKind.bits] at h
 omega
theorem wf8 {a:Int}(h:(Lit.int .u8 a).wf=true):0<=a/\a<256:=by
 simp[Lit.wf,IntKind.min,IntKind.max,IntKind.signed,IntKind.bits] at h
 omega
end
end Go.AI
namespace Go.AI.Tryz
open Go.Proofs
theorem qn1 (ks:List Tm):qaQ Tm.cells ks=Tm.cellsL ks:=by
 induction ks with
 |nil=>rfl
 |cons a r ih=>simp only[qaQ,Tm.cellsL,ih]
theorem qxp {α:Type}{l:List α}(h:l.length=5):∃a b c d e,l=[a,b,c,d,e]:=by
 match l,h with
 |[a,b,c,d,e],_=>exact⟨a,b,c,d,e,rfl⟩
theorem qxq {α:Type}{l:List α}(h:l.length=3):∃a b c,l=[a,b,c]:=by
 match l,h with
 |[a,b,c],_=>exact⟨a,b,c,rfl⟩
theorem qjY {α:Type}{l:List α}(h:l.length=2):∃a b,l=[a,b]:=by
 match l,h with
 |[a,b],_=>exact⟨a,b,rfl⟩
theorem has_tm:∀(n:Nat) (pcs:List zP),HasT Go.Proofs.Tryz.prog n 29 pcs->∃t:Tm,t.cells=pcs/\t.Ok
 |0,pcs,h=>by cases h
 |n+1,pcs,h=>by
  obtain⟨m,ls,hm,rfl,hl,hf⟩:=h.inv_struct Go.Proofs.Tryz.underlying29
  cases hm
  obtain⟨a,b,c,d,e,rfl⟩:=qxp hl
  obtain⟨k,rfl,wk⟩:=(hf 0 a _ rfl rfl).inv_int Go.Proofs.Tryz.underlying5
  obtain⟨x,rfl,wx⟩:=(hf 1 b _ rfl rfl).inv_int Go.Proofs.Tryz.underlying3
  obtain⟨y,rfl,wy⟩:=(hf 2 c _ rfl rfl).inv_int Go.Proofs.Tryz.underlying3
  obtain⟨z,rfl,wz⟩:=(hf 3 d _ rfl rfl).inv_int Go.Proofs.Tryz.underlying3
  obtain⟨m,rs,hm,rfl,hr,he⟩:=(hf 4 e _ rfl rfl).inv_sl Go.Proofs.Tryz.underlying27
  subst hm
  obtain⟨ks,h1,h2,h3⟩:=qjx (c:=Tm.cells) (Q:=Tm.Ok) rs fun l hl=>has_tm m l (he l hl)
  refine⟨.mk k x y z ks,?_,.mk (wf8 wk) (qvJ wx) (qvJ wy) (qvJ wz) (by rw[h1];exact hr) h3⟩
  rw[qn1] at h2
  simp only[Tm.cells,h1,h2,List.flatten_cons,List.flatten_nil,zaG,zaI]
theorem qp6 {n:Nat}{pcs:List zP}(h:HasT Go.Proofs.Tryz.prog n 24 pcs):∃b:Bs,b.cells=pcs/\b.Ok:=by
 obtain⟨m,ls,rfl,rfl,hl,hf⟩:=h.inv_struct Go.Proofs.Tryz.underlying24
 obtain⟨a,b,rfl⟩:=qjY hl
 obtain⟨c,rfl⟩:=(hf 0 a _ rfl rfl).inv_bool Go.Proofs.Tryz.underlying4
 obtain⟨x,rfl,wx⟩:=(hf 1 b _ rfl rfl).inv_int Go.Proofs.Tryz.underlying3
 exact⟨⟨c,x⟩,rfl,qvJ wx⟩
theorem qvK {n:Nat}{pcs:List zP}(h:HasT Go.Proofs.Tryz.prog n 79 pcs):∃t:Ty,t.cells=pcs/\t.Ok:=by
 obtain⟨m,ls,rfl,rfl,hl,hf⟩:=h.inv_struct Go.Proofs.Tryz.underlying79
 obtain⟨a,b,rfl⟩:=qjY hl
 obtain⟨m,rs,rfl,rfl,hr,he⟩:=(hf 0 a _ rfl rfl).inv_sl Go.Proofs.Tryz.underlying77
 obtain⟨ps,h1,h2,h3⟩:=qjx (c:=Bs.cells) (Q:=Bs.Ok) rs fun l hl=>qp6 (he l hl)
 obtain⟨r,hrc,hro⟩:=qp6 (hf 1 b _ rfl rfl)
 refine⟨⟨ps,r⟩,?_,by show ps.length<=_;rw[h1];exact hr,h3,hro⟩
 subst hrc
 show[zP.sl ps.length (qaQ Bs.cells ps),.bool r.cell,.int .i64 r.n]=_
 rw[h1,h2]
 rfl
theorem has_ar {n:Nat}{pcs:List zP}(h:HasT Go.Proofs.Tryz.prog n 26 pcs):∃a:Ar,a.cells=pcs/\a.Ok:=by
 obtain⟨m,ls,rfl,rfl,hl,hf⟩:=h.inv_struct Go.Proofs.Tryz.underlying26
 obtain⟨a,b,c,rfl⟩:=qxq hl
 obtain⟨m,rs,rfl,rfl,hr,he⟩:=(hf 0 a _ rfl rfl).inv_sl Go.Proofs.Tryz.underlying22
 obtain⟨ids,h1,h2,h3⟩:=qjx (c:=Ty.cells) (Q:=Ty.Ok) rs fun l hl=>qvK (he l hl)
 obtain⟨r,hrc,hro⟩:=qp6 (hf 1 b _ rfl rfl)
 obtain⟨j,rfl⟩:=(hf 2 c _ rfl rfl).inv_bool Go.Proofs.Tryz.underlying4
 refine⟨⟨ids,r,j⟩,?_,by show ids.length<=_;rw[h1];exact hr,h3,hro⟩
 subst hrc
 show[zP.sl ids.length (qaQ Ty.cells ids),.bool r.cell,.int .i64 r.n,.bool j]=_
 rw[h1,h2]
 rfl
theorem qtN {P:Program}{w:World}{n:Nat}{t:TypeId}{cs:Array Value}{pcs:List zP}(h:qnB P w n t cs.toList pcs):VR G00 w (.agg (pcs.map .p)) (.agg cs):=by
 obtain⟨_,h1,h2,h3⟩:=h
 refine .agg _ _ (by rw[zaY,h1,zba]) (fun v hv=>h2 v (by simpa using hv)) fun i c v hc hv=>?_
 rw[zbb,zad] at hc
 obtain⟨p,hp,rfl⟩:=hc
 exact .p p v ((h3 i p v hp (by rw[zaK];exact hv)).mono fun ad u hu _=>⟨hu,trivial⟩)
def qp7:List TypeId:=[3,4,5,22,24,26,27,29,77,79]
theorem m26:26∈qp7:=by simp[qp7]
theorem m29:29∈qp7:=by simp[qp7]
theorem lawTs_ok:qjc Go.Proofs.Tryz.prog qp7=true:=by kernel_rfl
theorem arg_told {P:Program}{ts:List TypeId}(hok:qjc P ts=true){t:TypeId}{fs:Array Field}(ht:t∈ts)(hu:P.underlying t=some (.struct fs)){H:Type}{enc:TypeId×Value->H}{w:World}{base base':Nat}{spare:Nat->Bool}{held:Bool}{r:Reach}{v:Value}{d:DataW H}{ps:List MemPlace}(ho:Value.okWide P w r base t v)(h:DataW.Trod enc P w base' spare held t v d ps):
  ∃n pcs,HasT P n t pcs/\VR G00 w (.agg (pcs.map .p)) v:=by
 obtain⟨cs,rfl⟩:=qtM hu ho
 obtain⟨fuel,h⟩:=h
 obtain⟨pcs,hp⟩:=qnC hok fuel t _ _ ht h
 exact⟨fuel,pcs,hp.1,qtN hp⟩
end Go.AI.Tryz
namespace Go.AI
structure Sn where
 ty:Ty
 arg:Bool
 new:Bool
namespace Sn
def cells (x:Sn):List zP:=x.ty.cells++[.bool x.arg,.bool x.new]
def v (x:Sn):zA:=.agg (x.cells.map .p)
theorem v_eq (x:Sn):x.v=.agg [.p (.sl x.ty.ps.length (qaQ Bs.cells x.ty.ps)),bl x.ty.res.cell,i64 x.ty.res.n,bl x.arg,bl x.new]:=rfl
def c (x:Sn):List zA:=[.p (.sl x.ty.ps.length (qaQ Bs.cells x.ty.ps)),bl x.ty.res.cell,i64 x.ty.res.n,bl x.arg,bl x.new]
end Sn
abbrev sw (l:List Sn):zA:=.p (.sl l.length (qaQ Sn.cells l))
def qea (l:List Sn)(i:Int):Option Sn:=if i<1 then none else l[(i-1).toNat]?
theorem qtO {l:List Sn}{i:Int}(h:qea l i=none):i<1\/Int.ofNat l.length<i:=by
 unfold qea at h
 split at h
 ·exact .inl ‹_›
 ·rw[List.getElem?_eq_none_iff] at h
  right;simp only[zaf];omega
theorem qkZ {l:List Sn}{i:Int}{x:Sn}(h:qea l i=some x):∃j:Nat,i=Int.ofNat (j+1)/\j<l.length/\l[j]? =some x:=by
 unfold qea at h
 split at h
 ·cases h
 ·obtain⟨hj,_⟩:=zap.1 h
  exact⟨(i-1).toNat,by simp only[zaf];omega,hj,h⟩
theorem qvL {j n:Nat}(h:j<n)(hn:n<=1000000):¬Int.ofNat (j+1)<1/\¬Int.ofNat n<Int.ofNat (j+1)/\qbb .i64 (Int.ofNat (j+1)-1)=Int.ofNat j:=by
 refine⟨by simp only[zaf];omega,by simp only[zaf];omega,?_⟩
 have:Int.ofNat (j+1)-1=Int.ofNat j:=by simp only[zaf];omega
 rw[this]
 exact qbs (by simp only[zaf];omega) (by simp only[zaf];omega)
def qcj (l:List Sn)(i z:Int):Bool:=match qea l i with
 |none=>false
 |some x=>!x.arg&&(decide (Int.ofNat x.ty.ps.length=0)&&(x.ty.res.cell&&(decide (z=0)||decide (x.ty.res.n=z))))
def fR (t:Tm):Bool:=
 if t.k=1\/t.k=5\/t.k=10 then decide (t.i=0)
 else if t.k=6\/t.k=12 then decide (t.m=0)&&decide (t.i=0)
 else if t.k=2\/t.k=3\/t.k=4\/t.k=15\/t.k=16 then decide (t.n=0)&&decide (t.m=0)
 else if t.k=18 then decide (t.m=0)
 else decide (t.n=0)&&(decide (t.m=0)&&decide (t.i=0))
def kR (k:Int):Int:=if k=2 then -1 else if k=4\/k=6\/k=10\/k=18 then 1 else if k=5\/k=7\/k=9\/k=11\/k=13\/k=17 then 2 else if k=8 then 3 else 0
end Go.AI
namespace Go.AI.Tryz
theorem qp8 (x:Sn):zA.cells (some 5) x.v=some x.c:=rfl
theorem qvM (x:Sn):over [.sl 0 [] .full,bl false,i64 0,bl false,bl false] 0 x.c=some x.c:=rfl
theorem snld (x:Sn):ldL x.c 0 (some 5)=some x.v:=rfl
theorem snl0 (x:Sn):ldL x.c 0 none=some (.p (.sl x.ty.ps.length (qaQ Bs.cells x.ty.ps))):=rfl
theorem snl1 (x:Sn):ldL x.c 1 none=some (bl x.ty.res.cell):=rfl
theorem snl2 (x:Sn):ldL x.c 2 none=some (i64 x.ty.res.n):=rfl
theorem snl3 (x:Sn):ldL x.c 3 none=some (bl x.arg):=rfl
theorem qxr (e:Env)(s:ASt){l:List Sn}{j:Nat}{x:Sn}(h:l[j]? =some x):ldH e s (.elem (qaQ Sn.cells l) (j*5)) (some 5)=some x.v:=qdt (c:=Sn.cells) (sz:=5) (fun _=>rfl) e s h
theorem qp9 (e:Env)(s:ASt){l:List Sn}{j:Nat}{x:Sn}(h:l[j]? =some x):ldH e s (.elem (qaQ Sn.cells l) (j*5+2)) none=some (i64 x.ty.res.n):=qji (c:=Sn.cells) (sz:=5) (fun _=>rfl) e s h 2 (by omega)
theorem qss (e:Env)(s:ASt){l:List Sn}{j:Nat}{x:Sn}(h:l[j]? =some x):ldH e s (.elem (qaQ Sn.cells l) (j*5+3)) none=some (bl x.arg):=qji (c:=Sn.cells) (sz:=5) (fun _=>rfl) e s h 3 (by omega)
theorem qvN (e:Env)(s:ASt){l:List Sn}{j:Nat}{x:Sn}(h:l[j]? =some x):ldH e s (.elem (qaQ Sn.cells l) (j*5+4)) none=some (bl x.new):=qji (c:=Sn.cells) (sz:=5) (fun _=>rfl) e s h 4 (by omega)
theorem snty (e:Env)(s:ASt){l:List Sn}{j:Nat}{x:Sn}(h:l[j]? =some x):ldH e s (.elem (qaQ Sn.cells l) (j*5)) (some 3)=some x.ty.v:=by
 have hc:∀y:Sn,(Sn.cells y).length=5:=fun _=>rfl
 rw[qft]
 have h5:cut (qaQ Sn.cells l) (j*5) 3=some x.ty.cells:=by
  unfold cut
  have:=qpd hc (zap.1 h).1
  rw[qcA,qcB,qhe hc h,ble_iff.2 (by omega),cond_true,List.take_append_of_le_length (by rw[hc];omega)]
  rfl
 simp only[cnt,h5,zab,zaa,zA.ofCells]
 rfl
theorem qk0 (n:Int):PC CP 171 [i64 n] (bl (qbc n)):=by
 refine PC.of2 (cf:=cf171) (np:=1) (args':=[i64 n]) (by kernel_rfl) (by kernel_rfl) rfl (by first|rfl|(simp only[zan,qak,qbZ];rfl)) (by first|rfl|(simp only[zal,qaj,qb0];rfl)) (fun lo=>by first|rfl|exact qaM lo _|exact qaR lo _|exact qce lo _ _) (Ev.mono (ev0) fun N _ E s=>⟨bl (qbc n),s,(s171_eq _ _ _ _).trans ?_,(by first|rfl|exact qaj _|exact qaN _|exact qb3 _ _)⟩)
 unfold s171 s171_0 qbc
 simp only[qad,qbk,qa9,qaa,qal,zab,zaa]
 cases decide (n<1)<;>rfl
theorem qrE (k:Int):PC CP 170 [u8 k] (i64 (kR k)):=by
 refine PC.of2 (cf:=cf170) (np:=1) (args':=[u8 k]) (by kernel_rfl) (by kernel_rfl) rfl (by first|rfl|(simp only[zan,qak,qbZ];rfl)) (by first|rfl|(simp only[zal,qaj,qb0];rfl)) (fun lo=>by first|rfl|exact qaM lo _|exact qaR lo _|exact qce lo _ _) (Ev.mono (ev0) fun N _ E s=>⟨i64 (kR k),s,(s170_eq _ _ _ _).trans ?_,(by first|rfl|exact qaj _|exact qaN _|exact qb3 _ _)⟩)
 have hk:k=2\/k=4\/k=6\/k=10\/k=18\/k=5\/k=7\/k=9\/k=11\/k=13\/k=17\/k=8\/(k≠2/\k≠4/\k≠6/\k≠10/\k≠18/\k≠5/\k≠7/\k≠9/\k≠11/\k≠13/\k≠17/\k≠8):=by omega
 unfold s170 s170_7 s170_6 s170_5 s170_4 s170_3 s170_2 s170_1 s170_0 kR
 rcases hk with h|h|h|h|h|h|h|h|h|h|h|h|h<;>simp only[h,if_true,if_false,or_true,or_false,qad,qaf,zaj,decide_true,decide_false,qaa,cond_true,cond_false,qal,zab,zaa]
theorem qk1 (t:Tm):PC CP 117 [t.v] (bl (fR t)):=by
 refine PC.of2 (cf:=cf117) (np:=1) (args':=[t.v]) (by kernel_rfl) (by kernel_rfl) rfl (by first|rfl|(simp only[zan,qak];rfl)) (by first|rfl|(simp only[zal,qaj];rfl)) (fun lo=>by first|rfl|exact qaM lo _|exact qaR lo _|exact qce lo _ _) (Ev.mono (ev0) fun N _ E s=>⟨bl (fR t),s,(s117_eq _ _ _ _).trans ?_,(by first|rfl|exact qaj _|exact qaN _|exact qb3 _ _)⟩)
 have hk:t.k=1\/t.k=5\/t.k=10\/t.k=6\/t.k=12\/t.k=2\/t.k=3\/t.k=4\/t.k=15\/t.k=16\/t.k=18\/(t.k≠1/\t.k≠5/\t.k≠10/\t.k≠6/\t.k≠12/\t.k≠2/\t.k≠3/\t.k≠4/\t.k≠15/\t.k≠16/\t.k≠18):=by omega
 unfold s117 s117_11 s117_10 s117_9 s117_8 s117_7 s117_6 s117_5 s117_4 s117_3 s117_2 s117_1 s117_0 fR
 rcases hk with h|h|h|h|h|h|h|h|h|h|h|h<;>simp only[h,if_true,if_false,or_true,or_false,qah,qba,qbY,qd9,qcJ,qad,qaf,zaj,decide_true,decide_false,qaa,cond_true,cond_false,qal,zab,zaa]<;>cases decide (t.n=0)<;>cases decide (t.m=0)<;>simp only[cond_true,cond_false,zay,zau]
theorem qjy (l:List Sn)(hl:l.length<=1000000)(i z:Int):PC CP 118 [sw l,i64 i,i64 z] (bl (qcj l i z)):=by
 refine PC.of2 (cf:=cf118) (np:=3) (args':=[sw l,i64 i,i64 z]) (by kernel_rfl) (by kernel_rfl) rfl (by first|rfl|(simp only[zan,qak,qbZ];rfl)) (by first|rfl|(simp only[zal,qaj,qb0];rfl)) (fun lo=>by first|rfl|exact qaM lo _|exact qaR lo _|exact qce lo _ _) (Ev.mono (ev0) fun N _ E s=>⟨bl (qcj l i z),s,(s118_eq _ _ _ _ _ _).trans ?_,(by first|rfl|exact qaj _|exact qaN _|exact qb3 _ _)⟩)
 unfold s118 s118_1 s118_0 qcj
 cases h:qea l i with
 |none=>
  by_cases h1:i<1
  ·simp only[h1,qad,qaf,qaq,qaJ,qa1,decide_true,qaa,cond_true,qal,zab,zaa,qbB]
  ·have h2:Int.ofNat l.length<i:=by rcases qtO h with h|h;exact absurd h h1;exact h
   simp only[h1,h2,qad,qaf,qaq,qaJ,qa1,decide_true,decide_false,qaa,cond_true,cond_false,qal,zab,zaa,qbB]
 |some x=>
  obtain⟨j,rfl,hj,hx⟩:=qkZ h
  obtain⟨h1,h2,h3⟩:=qvL hj hl
  simp only[h1,h2,h3,qcd hj,qxr _ _ hx,qp8,qvM,snl0,snl1,snl2,snl3,qad,qaf,qaq,qaJ,qa1,decide_false,qaa,cond_false,qal,zab,zaa,qab,qam,qbB]
  cases x.arg<;>cases decide (Int.ofNat x.ty.ps.length=0)<;>cases x.ty.res.cell<;>cases decide (z=0)<;>rfl
def Sn.cell (n:Int):Sn:=⟨⟨[],⟨true,n⟩⟩,false,true⟩
def Sn.val (n:Int):Sn:=⟨⟨[],⟨false,n⟩⟩,true,false⟩
theorem z5l (a b c d f:zA):ldL [a,b,c,d,f] 0 (some 5)=some (.agg [a,b,c,d,f]):=rfl
theorem z5c (a b c d f:zA):zA.cells (some 5) (.agg [a,b,c,d,f])=some [a,b,c,d,f]:=rfl
theorem z5o (a b c d f a' b' c' d' f':zA):over [a,b,c,d,f] 0 [a',b',c',d',f']=some [a',b',c',d',f']:=rfl
theorem qqa (n:Int):PC CP 122 [i64 n] ((Sn.cell n).v):=by
 refine PC.of2 (cf:=cf122) (np:=1) (args':=[i64 n]) (by kernel_rfl) (by kernel_rfl) rfl (by first|rfl|(simp only[zan,qak,qbZ];rfl)) (by first|rfl|(simp only[zal,qaj,qb0];rfl)) (fun lo=>by first|rfl|exact qaM lo _|exact qaR lo _|exact qce lo _ _) (Ev.mono (ev0) fun N _ E s=>⟨.agg [.sl 0 [] .full,bl true,i64 n,bl false,bl true],s,(s122_eq _ _ _ _).trans ?_,(by first|rfl|exact qaj _|exact qaN _|exact qb3 _ _)⟩)
 have q1:bd [bl false,i64 0] [(0,none,.c (bl true)),(1,none,.c (i64 n))]=some (.agg [bl true,i64 n]):=rfl
 have q2:bd [.sl 0 [] .full,bl false,i64 0] [(1,some 2,.c (.agg [bl true,i64 n]))]=some (.agg [.sl 0 [] .full,bl true,i64 n]):=rfl
 have q3:bd [.sl 0 [] .full,bl false,i64 0,bl false,bl false] [(0,some 3,.c (.agg [.sl 0 [] .full,bl true,i64 n])),(4,none,.c (bl true))]=some (.agg [.sl 0 [] .full,bl true,i64 n,bl false,bl true]):=rfl
 unfold s122
 simp only[q1,q2,q3,z5l,z5c,z5o,zaa]
theorem qst (n:Int):PC CP 120 [i64 n] ((Sn.val n).v):=by
 refine PC.of2 (cf:=cf120) (np:=1) (args':=[i64 n]) (by kernel_rfl) (by kernel_rfl) rfl (by first|rfl|(simp only[zan,qak,qbZ];rfl)) (by first|rfl|(simp only[zal,qaj,qb0];rfl)) (fun lo=>by first|rfl|exact qaM lo _|exact qaR lo _|exact qce lo _ _) (Ev.mono (ev0) fun N _ E s=>⟨.agg [.sl 0 [] .full,bl false,i64 n,bl true,bl false],s,(s120_eq _ _ _ _).trans ?_,(by first|rfl|exact qaj _|exact qaN _|exact qb3 _ _)⟩)
 have q1:bd [bl false,i64 0] [(1,none,.c (i64 n))]=some (.agg [bl false,i64 n]):=rfl
 have q2:bd [.sl 0 [] .full,bl false,i64 0] [(1,some 2,.c (.agg [bl false,i64 n]))]=some (.agg [.sl 0 [] .full,bl false,i64 n]):=rfl
 have q3:bd [.sl 0 [] .full,bl false,i64 0,bl false,bl false] [(0,some 3,.c (.agg [.sl 0 [] .full,bl false,i64 n])),(3,none,.c (bl true))]=some (.agg [.sl 0 [] .full,bl false,i64 n,bl true,bl false]):=rfl
 unfold s120
 simp only[q1,q2,q3,z5l,z5c,z5o,zaa]
end Go.AI.Tryz
namespace Go.AI
theorem ap_r (e:Env){sz b m:Nat}{cs:List zP}(f:Nat->List zP)(s:ASt)(hl:cs.length=m*sz)(hb:m*b<=140737488355328)(hf:f m=cs):ap e sz b (.sl 0 [] .full) (.p (.sl m cs)) s=some (qb8 f s.ntok m,qc9 s sz m):=by
 unfold ap stV
 have h1:Nat.ble ((0+m)*b) 140737488355328=true:=ble_iff.2 (by rw[zaH];exact hb)
 have h2:Nat.beq cs.length (m*sz)=true:=qaD hl
 have h3:Nat.beq ([]:List zP).length (0*sz)=true:=qaD (by simp)
 simp only[qaI,Arg.ev,qdG,zaa,h1,h2,h3,zat,cond_true]
 subst hf
 cases m with
 |zero=>
  rw[Nat.zero_mul] at hl
  rw[za1.1 hl]
  rfl
 |succ m=>
  simp only[Nat.beq,cond_false,zaH,zaI]
  rfl
theorem qf2 (f:Nat->List zP)(k j:Nat)(h0:f 0=[]):qaF (qb8 f k j)=.p (.sl j (f j)):=qdh f k j h0▸(by cases j<;>rfl)
end Go.AI
namespace Go.AI.Tryz
theorem qjz (l:List Sn)(hl:l.length<=1000000)(y:Sn):PC CP 119 [sw l,y.v] (sw (l++[y])):=by
 let f:Nat->List zP:=fun j=>qaQ Sn.cells ((l++[y]).take j)
 refine PC.of2 (cf:=cf119) (np:=2) (args':=[sw l,y.v]) (by kernel_rfl) (by kernel_rfl) rfl rfl rfl (fun _=>rfl) (Ev.mono ev0 fun N _ E s=>⟨qb8 f s.ntok (l.length+1),qc9 s 5 (l.length+1),(s119_eq _ _ _ _ _).trans ?_,?_⟩)
 ·have h1:=ap_r (qag CP N E) (sz:=5) (b:=48) f s (qeB (c:=Sn.cells) (fun _=>rfl) l) (by omega) (by simp only[f,List.take_left'])
  have hms:ms 1 [.sl 0 [],.bool false,.int .i64 0,.bool false,.bool false] [(0,some 5,.c y.v)]=some (.sl 1 y.cells .full):=rfl
  have h2:=qfu (qag CP N E) (sz:=5) (b:=48) (f:=f) (new:=y.cells) (y:=.sl 1 y.cells .full) s l.length rfl rfl (by omega) (by
   have:=qb2 (c:=Sn.cells) (l:=l++[y]) (j:=l.length) (by simp)
   rw[List.getElem_append_right (zao _)] at this
   simpa[f] using this)
  have hs:qa4 (cut y.c 0 5) (cut y.c 0 5)=true:=by
   have:cut y.c 0 5=some y.c:=rfl
   rw[this]
   simp only[qa4,Sn.c,qdA,qfR,zat]
  unfold s119
  simp only[qp8,snld,h1,hms,h2,hs,za7,zaa,qab,cnd]
 ·rw[qf2 f _ _ rfl]
  simp only[f,sw,zax,zar,zaC,zaH]
  rw[List.take_of_length_le (by simp)]
theorem qm7 (a:Ar)(h1:a.ids.length<=1000000):PC CP 69 [a.v] (sw (a.ids.map fun t=>⟨t,false,false⟩)):=by
 let l:List Sn:=a.ids.map fun t=>⟨t,false,false⟩
 have hll:l.length=a.ids.length:=zaY _
 let f:Nat->List zP:=fun j=>qaQ Sn.cells (l.take j)
 refine PC.of2 (cf:=cf69) (np:=1) (args':=[a.v]) (by kernel_rfl) (by kernel_rfl) rfl rfl rfl (fun _=>rfl) ((Ev.ge (a.ids.length+1)).mono fun N hn E s=>⟨qb8 f s.ntok a.ids.length,qc9 s 5 a.ids.length,(s69_eq _ _ _ _).trans ?_,?_⟩)
 ·unfold s69 s69_0
  rw[qc3,zaa]
  generalize hF:(fun(h6:zA->zA->ASt->Res) (x3 x4:zA) (s5:ASt)=>_)=F
  refine qcH _ F a.ids.length (fun j L=>L (qb8 f s.ntok j) (i64 (.ofNat j)) (qc9 s 5 j)) (fun _=>some (qb8 f s.ntok a.ids.length,qc9 s 5 a.ids.length)) (fun j L hj ih=>?_) (fun L=>?_) N 0 (za3 _) (by omega)
  ·subst hF
   have hk:a.ids[j]? =some a.ids[j]:=zah hj
   have hld:∀s,ldH (qag CP N E) s (.elem (qaQ Ty.cells a.ids) (j*3)) (some 3)=some a.ids[j].v:=fun s=>qdt (c:=Ty.cells) (sz:=3) (fun _=>rfl) _ s hk
   have hjl:j<l.length:=by rw[hll];exact hj
   have hlj:l[j]=⟨a.ids[j],false,false⟩:=by simp only[l,List.getElem_map]
   have hbd:bd [.sl 0 [] .full,bl false,i64 0,bl false,bl false] [(0,some 3,.c a.ids[j].v)]=some (Sn.v ⟨a.ids[j],false,false⟩):=rfl
   have hms:ms 1 [.sl 0 [],.bool false,.int .i64 0,.bool false,.bool false] [(0,some 5,.c (Sn.v ⟨a.ids[j],false,false⟩))]=some (.sl 1 (Sn.cells ⟨a.ids[j],false,false⟩) .full):=rfl
   have hap:=qfu (qag CP N E) (sz:=5) (b:=48) (f:=f) (y:=.sl 1 (Sn.cells ⟨a.ids[j],false,false⟩) .full) s j rfl rfl (by omega) (by
    have:=qb2 (c:=Sn.cells) hjl
    rw[hlj] at this
    exact this)
   have hl0:ldL [.p (.sl a.ids.length (qaQ Ty.cells a.ids)),bl a.root.cell,i64 a.root.n,bl a.jumps] 0 none=some (.p (.sl a.ids.length (qaQ Ty.cells a.ids))):=rfl
   simp only[hl0,of_lt.2 hj,qcd hj,hld,hbd,hms,hap,qaP (show j<9223372036854775807 by omega),qad,qaq,qaz,decide_true,qaa,cond_true,zab,zaa,qab,qbB]
   exact ih
  ·subst hF
   have h3:¬(Int.ofNat a.ids.length<Int.ofNat a.ids.length):=fun h=>zaZ _ (of_lt.1 h)
   have hl0:ldL [.p (.sl a.ids.length (qaQ Ty.cells a.ids)),bl a.root.cell,i64 a.root.n,bl a.jumps] 0 none=some (.p (.sl a.ids.length (qaQ Ty.cells a.ids))):=rfl
   simp only[hl0,h3,qad,qaq,qaz,decide_false,qaa,cond_false,zab,zaa,qbB]
 ·rw[qf2 f _ _ rfl]
  simp only[f]
  rw[<-hll,List.take_length]
end Go.AI.Tryz
namespace Go.AI.Tryz
def flR (k n m lab:Int)(z:List Int):Int:=
 if k=6 then(if qbc n then n else 0)
 else if k=7 then(if z[0]?.getD 0=1 then z[1]?.getD 0 else 0)
 else if k=8 then(if z[1]?.getD 0=z[2]?.getD 0 then z[1]?.getD 0 else 0)
 else if k=9 then(if z[1]?.getD 0=1 then 1 else 0)
 else if k=10 then(if qbc n&&qbg m n then z[0]?.getD 0 else 0)
 else if k=11\/k=13 then(if z[0]?.getD 0=z[1]?.getD 0 then z[0]?.getD 0 else 0)
 else if k=12 then(if qbg n lab then 1 else 0)
 else if k=14 then 1 else 0
theorem qtP (e:Env){l:List Int}{j:Nat}{a:Int}(h:l[j]? =some a):iaV 1 (iv l) (i64 (.ofNat j))=some (qaQ qcT l,j*1)/\∀s,ldH e s (.elem (qaQ qcT l) (j*1)) none=some (i64 a):=
 ⟨qcd (zap.1 h).1,fun s=>qhf (c:=qcT) (sz:=1) (fun _=>rfl) e s h (by omega)⟩
theorem qtQ (e:Env){a:Int}{r:List Int}:iaV 1 (iv (a::r)) (i64 0)=some (qaQ qcT (a::r),0)/\∀s,ldH e s (.elem (qaQ qcT (a::r)) 0) none=some (i64 a):=qtP e (j:=0) rfl
theorem qun (e:Env){a b:Int}{r:List Int}:iaV 1 (iv (a::b::r)) (i64 1)=some (qaQ qcT (a::b::r),1)/\∀s,ldH e s (.elem (qaQ qcT (a::b::r)) 1) none=some (i64 b):=qtP e (j:=1) rfl
theorem iv_2 (e:Env){a b c:Int}{r:List Int}:iaV 1 (iv (a::b::c::r)) (i64 2)=some (qaQ qcT (a::b::c::r),2)/\∀s,ldH e s (.elem (qaQ qcT (a::b::c::r)) 2) none=some (i64 c):=qtP e (j:=2) rfl
theorem qvO (t:Tm)(lab:Int)(z:List Int)(h7:t.k=7\/t.k=9\/t.k=11\/t.k=13->z.length=2)(h8:t.k=8->z.length=3)(h10:t.k=10->z.length=1):PC CP 173 [t.v,iv z,i64 lab] (i64 (flR t.k t.n t.m lab z)):=by
 refine PC.of2 (cf:=cf173) (np:=3) (args':=[t.v,iv z,i64 lab]) (by kernel_rfl) (by kernel_rfl) rfl (by first|rfl|(simp only[zan,qak];rfl)) (by first|rfl|(simp only[zal,qaj];rfl)) (fun lo=>by first|rfl|exact qaM lo _|exact qaR lo _|exact qce lo _ _) (Ev.mono (qk0 t.n) fun N hz E s=>⟨i64 (flR t.k t.n t.m lab z),s,(s173_eq _ _ _ _ _ _).trans ?_,(by first|rfl|exact qaj _|exact qaN _|exact qb3 _ _)⟩)
 have hk:t.k=6\/t.k=7\/t.k=8\/t.k=9\/t.k=10\/t.k=11\/t.k=13\/t.k=12\/t.k=14\/(t.k≠6/\t.k≠7/\t.k≠8/\t.k≠9/\t.k≠10/\t.k≠11/\t.k≠13/\t.k≠12/\t.k≠14):=by omega
 unfold s173 s173_9 s173_8 s173_7 s173_6 s173_5 s173_4 s173_3 s173_2 s173_1 s173_0 flR
 rcases hk with h|h|h|h|h|h|h|h|h|h
 ·simp -implicitDefEqProofs only[h,hz,if_true,qah,qba,qbY,qd9,qad,qaf,qaq,qa9,zaj,decide_true,decide_false,qaa,cond_true,cond_false,qal,zab,zaa,qab]
  cases qbc t.n<;>rfl
 ·match z,h7 (.inl h) with
  |[a,b],_=>
   obtain⟨i0,l0⟩:=qtQ (qag CP N E) (a:=a) (r:=[b])
   obtain⟨i1,l1⟩:=qun (qag CP N E) (a:=a) (b:=b) (r:=[])
   simp -implicitDefEqProofs only[h,i0,l0,i1,l1,if_true,if_false,zas,zaN,qah,qba,qbY,qd9,qad,qaf,qaq,qa9,zaj,decide_true,decide_false,qaa,cond_true,cond_false,qal,zab,zaa,qab,zaB]
   by_cases g:a=1<;>simp only[g,if_true,if_false,decide_true,decide_false,cond_true,cond_false]
 ·match z,h8 h with
  |[a,b,c],_=>
   obtain⟨i1,l1⟩:=qun (qag CP N E) (a:=a) (b:=b) (r:=[c])
   obtain⟨i2,l2⟩:=iv_2 (qag CP N E) (a:=a) (b:=b) (c:=c) (r:=[])
   simp -implicitDefEqProofs only[h,i2,l2,i1,l1,if_true,if_false,zas,zaN,qah,qba,qbY,qd9,qad,qaf,qaq,qa9,zaj,decide_true,decide_false,qaa,cond_true,cond_false,qal,zab,zaa,qab,zaB]
   by_cases g:b=c<;>simp only[g,if_true,if_false,decide_true,decide_false,cond_true,cond_false]
 ·match z,h7 (.inr (.inl h)) with
  |[a,b],_=>
   obtain⟨i1,l1⟩:=qun (qag CP N E) (a:=a) (b:=b) (r:=[])
   simp -implicitDefEqProofs only[h,i1,l1,if_true,if_false,zas,zaN,qah,qba,qbY,qd9,qad,qaf,qaq,qa9,zaj,decide_true,decide_false,qaa,cond_true,cond_false,qal,zab,zaa,qab,zaB]
   by_cases g:b=1<;>simp only[g,if_true,if_false,decide_true,decide_false,cond_true,cond_false]
 ·match z,h10 h with
  |[a],_=>
   obtain⟨i0,l0⟩:=qtQ (qag CP N E) (a:=a) (r:=[])
   simp -implicitDefEqProofs only[h,hz,i0,l0,if_true,if_false,qbg,zas,zaN,qah,qba,qbY,qd9,qad,qaf,qaq,qa9,zaj,decide_true,decide_false,qaa,cond_true,cond_false,qal,zab,zaa,qab,zaB]
   cases qbc t.n<;>cases decide (t.m<0)<;>cases decide (t.m<t.n)<;>rfl
 ·match z,h7 (.inr (.inr (.inl h))) with
  |[a,b],_=>
   obtain⟨i0,l0⟩:=qtQ (qag CP N E) (a:=a) (r:=[b])
   obtain⟨i1,l1⟩:=qun (qag CP N E) (a:=a) (b:=b) (r:=[])
   simp -implicitDefEqProofs only[h,i0,l0,i1,l1,if_true,if_false,true_or,zas,zaN,qah,qba,qbY,qd9,qad,qaf,qaq,qa9,zaj,decide_true,decide_false,qaa,cond_true,cond_false,qal,zab,zaa,qab,zaB]
   by_cases g:a=b<;>simp only[g,if_true,if_false,decide_true,decide_false,cond_true,cond_false]
 ·match z,h7 (.inr (.inr (.inr h))) with
  |[a,b],_=>
   obtain⟨i0,l0⟩:=qtQ (qag CP N E) (a:=a) (r:=[b])
   obtain⟨i1,l1⟩:=qun (qag CP N E) (a:=a) (b:=b) (r:=[])
   simp -implicitDefEqProofs only[h,i0,l0,i1,l1,if_true,if_false,or_true,zas,zaN,qah,qba,qbY,qd9,qad,qaf,qaq,qa9,zaj,decide_true,decide_false,qaa,cond_true,cond_false,qal,zab,zaa,qab,zaB]
   by_cases g:a=b<;>simp only[g,if_true,if_false,decide_true,decide_false,cond_true,cond_false]
 ·simp -implicitDefEqProofs only[h,if_true,if_false,qbg,or_self,qah,qba,qbY,qd9,qad,qaf,qaq,qa9,zaj,decide_true,decide_false,qaa,cond_true,cond_false,qal,zab,zaa]
  by_cases g:t.n<0<;>by_cases g':t.n<lab<;>simp only[g,g',decide_true,decide_false,zak,zam,zat,zaT,zau,cond_true,cond_false,if_true,if_false,zai]
 ·simp -implicitDefEqProofs only[h,if_true,if_false,or_self,qah,qba,qbY,qd9,qad,qaf,qaq,qa9,zaj,decide_true,decide_false,qaa,cond_true,cond_false,qal,zab,zaa]
 ·simp -implicitDefEqProofs only[h,if_false,or_self,qah,qba,qbY,qd9,qad,qaf,qaq,qa9,decide_false,qaa,cond_false,qal,zab,zaa]
end Go.AI.Tryz
namespace Go.AI.Tryz
def usR (l:List Sn)(t:Tm)(f:Tm->Bs->Bool):Int:=match qea l t.i with
 |none=>0
 |some e=>if e.arg then 0 else if e.ty.res.cell then 0 else if qbt f t.ks e.ty.ps then e.ty.res.n else 0
def Ty.c (t:Ty):List zA:=[.p (.sl t.ps.length (qaQ Bs.cells t.ps)),bl t.res.cell,i64 t.res.n]
theorem tyc (t:Ty):zA.cells (some 3) t.v=some (Ty.c t):=rfl
theorem tyo (t:Ty):over [.sl 0 [] .full,bl false,i64 0] 0 (Ty.c t)=some (Ty.c t):=rfl
theorem ty0 (t:Ty):ldL (Ty.c t) 0 none=some (.p (.sl t.ps.length (qaQ Bs.cells t.ps))):=rfl
theorem ty1 (t:Ty):ldL (Ty.c t) 1 none=some (bl t.res.cell):=rfl
theorem ty2 (t:Ty):ldL (Ty.c t) 2 none=some (i64 t.res.n):=rfl
theorem qtR {a b:Nat}:(Int.ofNat a=Int.ofNat b)=(a=b):=by simp only[zaf,eq_iff_iff];omega
theorem qxs (l:List Sn)(hl:l.length<=1000000)(t:Tm)(ht:t.ks.length<=1000000)(lab:Int)(f:Tm->Bs->Bool)(hf:∀u∈t.ks,∀p:Bs,PC CP 68 [u.v,p.v,sw l,i64 lab] (bl (f u p))):PC CP 172 [t.v,sw l,i64 lab] (i64 (usR l t f)):=by
 refine PC.of2 (cf:=cf172) (np:=3) (args':=[t.v,sw l,i64 lab]) (by kernel_rfl) (by kernel_rfl) rfl (by first|rfl|(simp only[zan,qak];rfl)) (by first|rfl|(simp only[zal,qaj];rfl)) (fun lo=>by first|rfl|exact qaM lo _|exact qaR lo _|exact qce lo _ _) (Ev.mono ((Ev.all (t.ks.zip ((qea l t.i).getD ⟨⟨[],⟨false,0⟩⟩,false,false⟩).ty.ps) (fun x hx=>hf x.1 (List.of_mem_zip hx).1 x.2)).and (Ev.ge (t.ks.length+1))) fun N ⟨h68,hn⟩ E s=>⟨i64 (usR l t f),s,(s172_eq _ _ _ _ _ _).trans ?_,(by first|rfl|exact qaj _|exact qaN _|exact qb3 _ _)⟩)
 unfold s172 s172_2 s172_1 usR
 cases h:qea l t.i with
 |none=>
  by_cases h1:t.i<1
  ·simp -implicitDefEqProofs only[h1,qah,qcJ,qbi,qad,qaq,qaJ,qa1,decide_true,qaa,cond_true,qal,zab,zaa,qbB]
  ·have h2:Int.ofNat l.length<t.i:=by rcases qtO h with h|h;exact absurd h h1;exact h
   simp -implicitDefEqProofs only[h1,h2,qah,qcJ,qbi,qad,qaq,qaJ,qa1,decide_true,decide_false,qaa,cond_true,cond_false,qal,zab,zaa,qbB]
 |some x=>
  rw[h] at h68
  simp only[zaB] at h68
  obtain⟨j,hj0,hj,hx⟩:=qkZ h
  obtain⟨h1,h2,h3⟩:=qvL hj hl
  simp -implicitDefEqProofs only[hj0,h1,h2,h3,qcd hj,snty _ _ hx,qss _ _ hx,tyc,tyo,ty0,ty1,qah,qcJ,qbi,qad,qaU,qaq,qaJ,qa1,decide_false,qaa,cond_true,cond_false,qal,zab,zaa,qab,qbB]
  cases hax:x.arg
  ·cases hcx:x.ty.res.cell
   ·by_cases hlen:x.ty.ps.length=t.ks.length
    ·simp only[hlen,if_false,zai,decide_true,zak,cond_false]
     unfold s172_0
     generalize hF:(fun(h16:zA->ASt->Res) (x14:zA) (s15:ASt)=>_)=F
     refine(qcH _ F t.ks.length (fun j L=>L (i64 (.ofNat j)) s) (fun j=>some (i64 (if qbt f (t.ks.drop j) (x.ty.ps.drop j) then x.ty.res.n else 0),s)) (fun j L hj ih=>?_) (fun L=>?_) N 0 (za3 _) (by omega))
     ·subst hF
      have hjp:j<x.ty.ps.length:=by omega
      have hk:t.ks[j]? =some t.ks[j]:=zah hj
      have hp:x.ty.ps[j]? =some x.ty.ps[j]:=zah hjp
      have hm:(t.ks[j],x.ty.ps[j])∈t.ks.zip x.ty.ps:=by
       rw[List.mem_iff_getElem]
       exact⟨j,by rw[List.length_zip];omega,List.getElem_zip⟩
      have hc:=h68 _ hm
      have hld:∀s,ldH (qag CP N E) s (.elem (qaQ Bs.cells x.ty.ps) (j*2)) (some 2)=some x.ty.ps[j].v:=fun s=>qdt (c:=Bs.cells) (sz:=2) (fun _=>rfl) _ s hp
      have hip:iaV 2 (.p (.sl t.ks.length (qaQ Bs.cells x.ty.ps))) (i64 (.ofNat j))=some (qaQ Bs.cells x.ty.ps,j*2):=by rw[<-hlen];exact qcd hjp
      rw[zaz hj,zaz hjp]
      simp only[qbt]
      simp -implicitDefEqProofs only[ty0,hlen,of_lt.2 hj,Tm.ia_kid hj,Tm.ld_kid _ _ hk,hip,hld,hc,qaP (show j<9223372036854775807 by omega),qbi,qad,qaq,qaz,decide_true,qaa,cond_true,zab,zaa,qab,qam,qbB]
      by_cases g:f t.ks[j] x.ty.ps[j]=true
      ·simp only[g,zak,cond_false,zay]
       exact ih
      ·simp only[zaS] at g
       simp only[g,zam,cond_true,zau,if_false,zai]
     ·subst hF
      have h3:¬(Int.ofNat t.ks.length<Int.ofNat t.ks.length):=fun h=>zaZ _ (of_lt.1 h)
      rw[List.drop_of_length_le (zao _),List.drop_of_length_le (by omega)]
      simp only[ty2,h3,qbt,if_true,qbi,qad,qaq,qaz,decide_false,qaa,cond_false,zab,zaa,qbB]
    ·have:=qfS f t.ks x.ty.ps (fun h=>hlen h.symm)
     simp only[this,qtR,hlen,if_false,zai,decide_false,zam,cond_true,cond_false]
   ·simp only[if_true,if_false,zai,cond_true,cond_false]
  ·simp only[if_true,cond_true]
end Go.AI.Tryz
namespace Go.AI.Tryz
def snD:Sn:=⟨⟨[],⟨false,0⟩⟩,false,false⟩
def tlR (l:List Sn)(lab:Int)(t:Tm)(z:List Int)(f:Tm->Bs->Bool):Int:=
 if t.k=1 then(if qbc t.m&&qbg t.n t.m then t.m else 0)
 else if t.k=2 then usR l t f
 else if t.k=3 then(if qcj l t.i 0 then((qea l t.i).getD snD).ty.res.n else 0)
 else if t.k=4 then(if qcj l t.i (z[0]?.getD 0) then 1 else 0)
 else if t.k=5 then(if t.n<1\/5<t.n\/qbc t.m=false\/z[0]?.getD 0≠t.m\/z[1]?.getD 0≠t.m then 0 else if 4<=t.n then 2 else t.m)
 else if t.k=18 then(if qcj l t.i 0&&(((qea l t.i).getD snD).new&&qbg t.n ((qea l t.i).getD snD).ty.res.n) then z[0]?.getD 0 else 0)
 else if t.k=15 then(match qea l t.i with
  |none=>0
  |some x=>if x.arg then x.ty.res.n else 0)
 else flR t.k t.n t.m lab z
theorem qhx {l:List Sn}{i z:Int}(h:qcj l i z=true):∃x,qea l i=some x:=by
 unfold qcj at h
 cases hx:qea l i with
 |none=>rw[hx] at h;cases h
 |some x=>exact⟨x,rfl⟩
theorem qvP {N:Nat}{E:qaS}(l:List Sn)(hl:l.length<=1000000)(t:Tm)(lab:Int)(z:List Int)(f:Tm->Bs->Bool)(x8:zA)(hx:∀i,iaV 1 x8 i=iaV 1 (iv z) i)(he:qaF x8=iv z)
  (h1:t.k=4\/t.k=18->z.length=1)(h2:t.k=5->z.length=2)
  (c118:∀w,w=0\/w=z[0]?.getD 0->∀s,cl (qag CP N E) 118 [sw l,i64 t.i,i64 w] s=some (bl (qcj l t.i w),s))(c171:∀s,cl (qag CP N E) 171 [i64 t.m] s=some (bl (qbc t.m),s))
  (c172:t.k=2->∀s,cl (qag CP N E) 172 [t.v,sw l,i64 lab] s=some (i64 (usR l t f),s))(c173:∀s,cl (qag CP N E) 173 [t.v,x8,i64 lab] s=some (i64 (flR t.k t.n t.m lab z),s))(s:ASt):
  s116_8 (qag CP N E) N t.c (sw l) (i64 lab) x8 s=some (i64 (tlR l lab t z f),s):=by
 have hk:t.k=1\/t.k=2\/t.k=3\/t.k=4\/t.k=5\/t.k=18\/t.k=15\/(t.k≠1/\t.k≠2/\t.k≠3/\t.k≠4/\t.k≠5/\t.k≠18/\t.k≠15):=by omega
 unfold s116_8 s116_7 s116_6 s116_5 s116_4 s116_3 s116_2 s116_1 s116_0 tlR
 rcases hk with h|h|h|h|h|h|h|h
 ·simp -implicitDefEqProofs only[h,c171,if_true,qbg,qaV,qba,qbY,qd9,qcJ,qad,qaf,qaq,qaJ,qbk,qa9,qa1,zaj,decide_true,decide_false,qaa,cond_true,cond_false,qal,zab,zaa,qab,qam,qbB]
  cases qbc t.m
  ·simp only[cond_false,zau,zai,if_false]
  ·by_cases g:t.n<0<;>by_cases g':t.n<t.m<;>simp only[g,g',decide_true,decide_false,zak,zam,zat,zaT,zau,cond_true,cond_false,if_true,if_false,zai]
 ·have c172:=c172 h
  simp -implicitDefEqProofs only[h,c172,if_true,if_false,qaV,qba,qbY,qd9,qcJ,qad,qaf,qaq,qaJ,qbk,qa9,qa1,zaj,decide_true,decide_false,qaa,cond_true,cond_false,qal,zab,zaa,qab,qbB]
 ·have c118:=c118 0 (.inl rfl)
  by_cases hc:qcj l t.i 0=true
  ·obtain⟨x,hg⟩:=qhx hc
   obtain⟨j,hj0,hj,hxx⟩:=qkZ hg
   obtain⟨g1,g2,g3⟩:=qvL hj hl
   rw[hg]
   simp only[hj0] at hc c118⊢
   simp -implicitDefEqProofs only[h,hc,hj0,c118,g3,qcd hj,qp9 _ _ hxx,if_true,if_false,qaV,qba,qbY,qd9,qcJ,qad,qaf,qaq,qaJ,qbk,qa9,qa1,zaj,decide_true,decide_false,qaa,cond_true,cond_false,qal,zab,zaa,qab,qbB,zaB]
  ·simp only[zaS] at hc
   simp -implicitDefEqProofs only[h,hc,c118,if_true,if_false,zai,qaV,qba,qbY,qd9,qcJ,qad,qaf,qaq,qaJ,qbk,qa9,qa1,zaj,decide_true,decide_false,qaa,cond_true,cond_false,qal,zab,zaa,qab,qbB]
 ·match z,h1 (.inl h) with
  |[a],_=>
   obtain⟨i0,l0⟩:=qtQ (qag CP N E) (a:=a) (r:=[])
   have c118:=c118 a (.inr rfl)
   simp -implicitDefEqProofs only[h,hx,i0,l0,c118,if_true,if_false,zas,zaN,qaV,qba,qbY,qd9,qcJ,qad,qaf,qaU,qaq,qaJ,qbk,qa9,qa1,zaj,decide_true,decide_false,qaa,cond_true,cond_false,qal,zab,zaa,qab,qbB,zaB]
   cases qcj l t.i a<;>rfl
 ·match z,h2 h with
  |[a,b],_=>
   obtain⟨i0,l0⟩:=qtQ (qag CP N E) (a:=a) (r:=[b])
   obtain⟨i1,l1⟩:=qun (qag CP N E) (a:=a) (b:=b) (r:=[])
   simp -implicitDefEqProofs only[h,hx,i0,l0,i1,l1,c171,if_true,if_false,zas,zaN,qaV,qba,qbY,qd9,qcJ,qad,qaf,qaU,qaq,qaJ,qbk,qa9,qa1,zaj,decide_true,decide_false,qaa,cond_true,cond_false,qal,zab,zaa,qab,qam,qbB,zaB]
   by_cases g1:t.n<1
   ·simp only[g1,true_or,if_true,decide_true,cond_true]
   ·by_cases g2:5<t.n
    ·simp only[g1,g2,true_or,or_true,if_true,decide_true,decide_false,cond_true,cond_false]
    ·cases qbc t.m
     ·simp only[g1,g2,true_or,or_true,if_true,decide_false,zam,cond_true,cond_false]
     ·by_cases g3:a=t.m
      ·by_cases g4:b=t.m
       ·by_cases g5:t.n<4
        ·have:¬4≤t.n:=by omega
         simp only[g1,g2,g3,g4,g5,this,ne_eq,not_true_eq_false,or_false,Bool.true_eq_false,if_false,decide_true,decide_false,zak,cond_false]
        ·have:4≤t.n:=by omega
         simp only[g1,g2,g3,g4,g5,this,ne_eq,not_true_eq_false,or_false,Bool.true_eq_false,if_false,if_true,decide_true,decide_false,zak,zam,cond_true,cond_false]
       ·simp only[g1,g2,g3,g4,ne_eq,not_false_eq_true,or_true,if_true,decide_true,decide_false,zak,zam,cond_true,cond_false]
      ·simp only[g1,g2,g3,ne_eq,not_false_eq_true,true_or,or_true,if_true,decide_false,zak,zam,cond_true,cond_false]
 ·match z,h1 (.inr h) with
  |[a],_=>
   obtain⟨i0,l0⟩:=qtQ (qag CP N E) (a:=a) (r:=[])
   have c118:=c118 0 (.inl rfl)
   by_cases hc:qcj l t.i 0=true
   ·obtain⟨x,hg⟩:=qhx hc
    obtain⟨j,hj0,hj,hxx⟩:=qkZ hg
    obtain⟨g1,g2,g3⟩:=qvL hj hl
    rw[hg]
    simp only[hj0] at hc c118⊢
    simp -implicitDefEqProofs only[h,hx,i0,l0,hc,hj0,c118,g3,qcd hj,qp9 _ _ hxx,qvN _ _ hxx,qbg,if_true,if_false,zay,zas,qaV,qba,qbY,qd9,qcJ,qad,qaf,qaU,qaq,qaJ,qbk,qa9,qa1,zaj,decide_true,decide_false,qaa,cond_true,cond_false,qal,zab,zaa,qab,qbB,zaB]
    by_cases q1:x.new=true
    ·by_cases g:t.n<0<;>by_cases g':t.n<x.ty.res.n<;>simp only[q1,g,g',decide_true,decide_false,zak,zam,zat,zaT,zau,cond_true,cond_false,if_true,if_false,zai]
    ·simp only[zaS] at q1
     simp only[q1,zau,cond_false,if_false,zai]
   ·simp only[zaS] at hc
    simp -implicitDefEqProofs only[h,hc,c118,if_true,if_false,zau,zai,qaV,qba,qbY,qd9,qcJ,qad,qaf,qaq,qaJ,qbk,qa9,qa1,zaj,decide_true,decide_false,qaa,cond_true,cond_false,qal,zab,zaa,qab,qbB]
 ·cases hg:qea l t.i with
  |none=>
   by_cases h1:t.i<1
   ·simp -implicitDefEqProofs only[h,h1,if_true,if_false,qaV,qba,qbY,qd9,qcJ,qad,qaf,qaq,qaJ,qbk,qa9,qa1,zaj,decide_true,decide_false,zak,qaa,cond_true,cond_false,qal,zab,zaa,qbB,zaJ]
   ·have h2:Int.ofNat l.length<t.i:=by rcases qtO hg with h|h;exact absurd h h1;exact h
    simp -implicitDefEqProofs only[h,h1,h2,if_true,if_false,qaV,qba,qbY,qd9,qcJ,qad,qaf,qaq,qaJ,qbk,qa9,qa1,zaj,decide_true,decide_false,zak,zam,qaa,cond_true,cond_false,qal,zab,zaa,qbB,zaJ]
  |some x=>
   obtain⟨j,hj0,hj,hxx⟩:=qkZ hg
   obtain⟨g1,g2,g3⟩:=qvL hj hl
   simp -implicitDefEqProofs only[h,hj0,g1,g2,g3,qcd hj,qp9 _ _ hxx,qss _ _ hxx,if_true,if_false,qaV,qba,qbY,qd9,qcJ,qad,qaf,qaq,qaJ,qbk,qa9,qa1,zaj,decide_true,decide_false,zam,qaa,cond_true,cond_false,qal,zab,zaa,qab,qbB,zaB]
   cases x.arg<;>rfl
 ·simp -implicitDefEqProofs only[h,c173,if_false,qaV,qba,qbY,qd9,qcJ,qad,qaf,qaq,qaJ,qbk,qa9,qa1,decide_false,qaa,cond_true,cond_false,qal,zab,zaa,qab,qbB]
end Go.AI.Tryz
namespace Go.AI.Tryz
def kl (l:List Sn)(t:Tm):List Sn:=if t.k=10 then l++[Sn.cell t.n] else l
def qm8 (lab:Int)(t:Tm)(j:Nat):Int:=if t.k=11/\j=0 then lab+1 else lab
theorem qxt {p:Nat->Prop}:∀n,p n->∃m,m<=n/\p m/\∀i,i<m->¬p i:=by
 intro n
 induction n using Nat.strongRecOn with
 |_ n ih=>
  intro hn
  by_cases h:∃i,i<n/\p i
  ·obtain⟨i,hi,hp⟩:=h
   obtain⟨m,h1,h2,h3⟩:=ih i hi hp
   exact⟨m,by omega,h2,h3⟩
  ·exact⟨n,zao _,hn,fun i hi hp=>h ⟨i,hi,hp⟩⟩
section
variable {N:Nat} {E:qaS} {l:List Sn} {t:Tm} {lab:Int} {Z:List Int} (hl0:0<=lab) (hl1:lab<=1000000) (ht:t.ks.length<=1000000) (hZ:Z.length=t.ks.length)
 (c122:∀s,cl (qag CP N E) 122 [i64 t.n] s=some ((Sn.cell t.n).v,s)) (c119:∀s,cl (qag CP N E) 119 [sw l,(Sn.cell t.n).v] s=some (sw (l++[Sn.cell t.n]),s))
 (c116:∀j,∀hj:j<t.ks.length,∀s,cl (qag CP N E) 116 [t.ks[j].v,sw (kl l t),i64 (qm8 lab t j)] s=some (i64 (Z[j]'(by omega)),s)) (J:zA->ASt->Res)
include hl0 hl1 ht hZ c122 c119 c116
theorem qfe (j:Nat)(hj:j<t.ks.length)(s:ASt)(h126:zA->zA->ASt->Res):(ldL t.c 4 none).bind (fun x127=>(ln false x127).bind fun x128=>(bn .lss (i64 (.ofNat j)) x128).bind fun x129=>
  qae x129 ((ldL t.c 0 none).bind fun x130=>(bn .eql x130 (u8 10)).bind fun x131=>jn (s116_11 (qag CP N E) N t.c (i64 (.ofNat j)) (qb8 (fun j=>qaQ qcT (Z.take j)) s.ntok j) h126 (i64 lab)) fun j153=>
  qae x131 ((ldL t.c 1 none).bind fun x154=>qac (cl (qag CP N E) 122 [x154] (qc9 s 1 j)) fun x155 s156=>qac (cl (qag CP N E) 119 [sw l,x155] s156) fun x157 s158=>j153 x157 s158) (j153 (sw l) (qc9 s 1 j)))
  (J (qb8 (fun j=>qaQ qcT (Z.take j)) s.ntok j) (qc9 s 1 j)))=if Z[j]'(by omega)=0 then some (i64 0,qc9 s 1 j) else h126 (qb8 (fun j=>qaQ qcT (Z.take j)) s.ntok (j+1)) (i64 (.ofNat (j+1))) (qc9 s 1 (j+1)):=by
 have hk:t.ks[j]? =some t.ks[j]:=zah hj
 have hc:=c116 j hj
 have hw:qbb .i64 (lab+1)=lab+1:=qbs (by omega) (by omega)
 have hms:∀a:Int,ms 1 [.int .i64 0] [(0,none,.c (i64 a))]=some (.sl 1 (qcT a) .full):=fun _=>rfl
 have hap:=qfu (qag CP N E) (sz:=1) (b:=8) (f:=fun j=>qaQ qcT (Z.take j)) (y:=.sl 1 (qcT (Z[j]'(by omega))) .full) s j rfl rfl (by omega) (qb2 (c:=qcT) (by omega))
 have e0:(Int.ofNat j=0)=(j=0):=by simp only[zaf,eq_iff_iff];omega
 have fin:∀(x1 x2:zA),x1=sw (kl l t)->x2=i64 (qm8 lab t j)->s116_9 (qag CP N E) N t.c (i64 (.ofNat j)) (qc9 s 1 j) x1 (qb8 (fun j=>qaQ qcT (Z.take j)) s.ntok j) h126 x2=if Z[j]'(by omega)=0 then some (i64 0,qc9 s 1 j) else h126 (qb8 (fun j=>qaQ qcT (Z.take j)) s.ntok (j+1)) (i64 (.ofNat (j+1))) (qc9 s 1 (j+1)):=by
  rintro _ _ rfl rfl
  unfold s116_9
  simp -implicitDefEqProofs only[Tm.ia_kid hj,Tm.ld_kid _ _ hk,hc,hms,hap,qaP (show j<9223372036854775807 by omega),qbi,qad,qaf,qaz,qaa,zab,zaa,qab]
  by_cases g:Z[j]'(by omega)=0
  ·simp only[g,if_true,decide_true,cond_true]
  ·simp only[g,if_false,decide_false,cond_false]
 have h11:∀x1,x1=sw (kl l t)->s116_11 (qag CP N E) N t.c (i64 (.ofNat j)) (qb8 (fun j=>qaQ qcT (Z.take j)) s.ntok j) h126 (i64 lab) x1 (qc9 s 1 j)=if Z[j]'(by omega)=0 then some (i64 0,qc9 s 1 j) else h126 (qb8 (fun j=>qaQ qcT (Z.take j)) s.ntok (j+1)) (i64 (.ofNat (j+1))) (qc9 s 1 (j+1)):=by
  rintro x1 hx1
  unfold s116_11 s116_10
  generalize s116_9 (qag CP N E) N=G at fin⊢
  by_cases h:t.k=11
  ·by_cases g:j=0
   ·have:=fin x1 (i64 (lab+1)) hx1 (by unfold qm8;rw[if_pos ⟨h,g⟩])
    simp -implicitDefEqProofs only[h,g,hw,qba,qad,qaf,qaz,decide_true,qaa,cond_true,qal,zab,zaa]
    simp only[g] at this
    exact this
   ·have:=fin x1 (i64 lab) hx1 (by unfold qm8;rw[if_neg (fun q=>g q.2)])
    simp -implicitDefEqProofs only[h,e0,g,hw,this,qba,qad,qaf,qaz,decide_true,decide_false,qaa,cond_true,cond_false,qal,zab,zaa]
  ·have:=fin x1 (i64 lab) hx1 (by unfold qm8;rw[if_neg (fun q=>h q.1)])
   simp -implicitDefEqProofs only[h,e0,hw,this,qba,qad,qaf,qaz,decide_false,qaa,cond_false,qal,zab,zaa]
 generalize s116_11 (qag CP N E) N=G at h11⊢
 by_cases h:t.k=10
 ·have:=h11 (sw (l++[Sn.cell t.n])) (by unfold kl;rw[if_pos h])
  simp -implicitDefEqProofs only[h,of_lt.2 hj,c122,c119,this,qba,qbY,qbi,qad,qaf,qaq,decide_true,qaa,cond_true,qal,zab,zaa,qab,qbB]
 ·have:=h11 (sw l) (by unfold kl;rw[if_neg h])
  simp -implicitDefEqProofs only[h,of_lt.2 hj,this,qba,qbY,qbi,qad,qaf,qaq,decide_true,decide_false,qaa,cond_true,cond_false,qal,zab,zaa,qbB]
end
end Go.AI.Tryz
namespace Go.AI.Tryz
section
variable {N:Nat} {E:qaS} {l:List Sn} {t:Tm} {lab:Int} {Z:List Int} (hl0:0<=lab) (hl1:lab<=1000000) (ht:t.ks.length<=1000000) (hZ:Z.length=t.ks.length)
 (c122:∀s,cl (qag CP N E) 122 [i64 t.n] s=some ((Sn.cell t.n).v,s)) (c119:∀s,cl (qag CP N E) 119 [sw l,(Sn.cell t.n).v] s=some (sw (l++[Sn.cell t.n]),s))
 (c116:∀j,∀hj:j<t.ks.length,∀s,cl (qag CP N E) 116 [t.ks[j].v,sw (kl l t),i64 (qm8 lab t j)] s=some (i64 (Z[j]'(by omega)),s)) (J:zA->ASt->Res) (hN:t.ks.length+1<=N)
include hl0 hl1 ht hZ c122 c119 c116 hN
theorem qqb (hnz:∀j,∀hj:j<t.ks.length,Z[j]'(by omega)≠0)(s:ASt):s116_12 (qag CP N E) N t.c (i64 lab) (sw l) J (.sl 0 [] .full) (i64 0) s=J (qb8 (fun j=>qaQ qcT (Z.take j)) s.ntok t.ks.length) (qc9 s 1 t.ks.length):=by
 unfold s116_12
 refine qcH _ _ t.ks.length (fun j (L:zA->zA->ASt->Res)=>L (qb8 (fun j=>qaQ qcT (Z.take j)) s.ntok j) (i64 (.ofNat j)) (qc9 s 1 j)) (fun _=>J (qb8 (fun j=>qaQ qcT (Z.take j)) s.ntok t.ks.length) (qc9 s 1 t.ks.length)) (fun j L hj ih=>?_) (fun L=>?_) N 0 (za3 _) (by omega)
 ·refine(qfe hl0 hl1 ht hZ c122 c119 c116 J j hj s L).trans ?_
  rw[if_neg (hnz j hj)]
  exact ih
 ·have h3:¬(Int.ofNat t.ks.length<Int.ofNat t.ks.length):=fun h=>zaZ _ (of_lt.1 h)
  generalize s116_11 (qag CP N E) N=G
  simp -implicitDefEqProofs only[h3,qba,qbY,qbi,qad,qaf,qaq,decide_false,qaa,cond_false,qal,zab,zaa,qbB]
theorem qqc (hz:∃j,∃hj:j<t.ks.length,Z[j]'(by omega)=0)(s:ASt):∃s',s116_12 (qag CP N E) N t.c (i64 lab) (sw l) J (.sl 0 [] .full) (i64 0) s=some (i64 0,s'):=by
 obtain⟨j0,hj0,hz0⟩:=hz
 obtain⟨m,_,⟨hm,hm0⟩,hlt⟩:=qxt (p:=fun j=>∃hj:j<t.ks.length,Z[j]'(by omega)=0) j0 ⟨hj0,hz0⟩
 refine⟨qc9 s 1 m,?_⟩
 unfold s116_12
 refine qcH _ _ m (fun j (L:zA->zA->ASt->Res)=>L (qb8 (fun j=>qaQ qcT (Z.take j)) s.ntok j) (i64 (.ofNat j)) (qc9 s 1 j)) (fun _=>some (i64 0,qc9 s 1 m)) (fun j L hj ih=>?_) (fun L=>?_) N 0 (za3 _) (by omega)
 ·refine(qfe hl0 hl1 ht hZ c122 c119 c116 J j (by omega) s L).trans ?_
  rw[if_neg (fun h=>hlt j hj ⟨by omega,h⟩)]
  exact ih
 ·refine(qfe hl0 hl1 ht hZ c122 c119 c116 J m hm s L).trans ?_
  rw[if_pos hm0]
end
def szR (l:List Sn)(lab:Int)(t:Tm)(z:List Int)(f:Tm->Bs->Bool):Int:=
 if fR t=false then 0 else if 0<=kR t.k/\kR t.k≠Int.ofNat t.ks.length then 0 else if t.k≠2/\t.k≠17/\0∈z then 0 else tlR l lab t z f
theorem qtS (f:Nat->List zP)(h0:f 0=[])(k m:Nat)(i:zA):iaV 1 (qb8 f k m) i=iaV 1 (.p (.sl m (f m))) i:=by
 cases m with
 |zero=>rw[h0];rfl
 |succ m=>rfl
theorem qtT (l:List Sn)(hl:l.length<=999999)(t:Tm)(ht:t.ks.length<=1000000)(lab:Int)(hl0:0<=lab)(hl1:lab<=1000000)(Z:List Int)(f:Tm->Bs->Bool)
  (hZ:t.k≠2->t.k≠17->Z.length=t.ks.length)(hc:t.k≠2->t.k≠17->∀x∈(List.range t.ks.length),∀u z,t.ks[x]? =some u->Z[x]? =some z->PC CP 116 [u.v,sw (kl l t),i64 (qm8 lab t x)] (i64 z))
  (hf:∀u∈t.ks,∀p:Bs,t.k=2->PC CP 68 [u.v,p.v,sw l,i64 lab] (bl (f u p)))(h17:t.k=2\/t.k=17->Z=[]):PC CP 116 [t.v,sw l,i64 lab] (i64 (szR l lab t Z f)):=by
 have evf:=qk1 t
 have evk:=qrE t.k
 by_cases hform:fR t=true/\¬(0<=kR t.k/\kR t.k≠Int.ofNat t.ks.length)
 ·have hz1:t.k=4∨t.k=18∨t.k=10→t.ks.length=1:=fun h=>by
   have:=hform.2
   have hk:kR t.k=1:=by rcases h with h|h|h<;>simp[kR,h]
   rw[hk] at this
   simp only[zaf] at this
   omega
  have hz2:t.k=5\/t.k=7\/t.k=9\/t.k=11\/t.k=13->t.ks.length=2:=fun h=>by
   have:=hform.2
   have hk:kR t.k=2:=by rcases h with h|h|h|h|h<;>simp[kR,h]
   rw[hk] at this
   simp only[zaf] at this
   omega
  have hz3:t.k=8->t.ks.length=3:=fun h=>by
   have:=hform.2
   have hk:kR t.k=3:=by simp[kR,h]
   rw[hk] at this
   simp only[zaf] at this
   omega
  have hlen:t.k≠2->t.k≠17->Z.length=t.ks.length:=hZ
  have e173:=qvO t lab Z (fun h=>by rw[hlen (by omega) (by omega)];exact hz2 (by omega)) (fun h=>by rw[hlen (by omega) (by omega)];exact hz3 h) (fun h=>by rw[hlen (by omega) (by omega)];exact hz1 (by omega))
  have e172:Ev fun n=>t.k=2->∀E s,cl (qag CP n E) 172 [t.v,sw l,i64 lab] s=some (i64 (usR l t f),s):=by
   by_cases h:t.k=2
   ·exact(qxs l (by omega) t ht lab f (fun u hu p=>hf u hu p h)).mono fun n hn _=>hn
   ·exact ev0.mono fun n _ h'=>absurd h' h
  have e116:Ev fun n=>t.k≠2->t.k≠17->∀x∈List.range t.ks.length,∀u z,t.ks[x]? =some u->Z[x]? =some z->∀E s,cl (qag CP n E) 116 [u.v,sw (kl l t),i64 (qm8 lab t x)] s=some (i64 z,s):=by
   by_cases h:t.k≠2/\t.k≠17
   ·have:=Ev.all (List.range t.ks.length) (fun x hx=>(show Ev fun n=>∀u z,t.ks[x]? =some u→Z[x]? =some z→∀E s,cl (qag CP n E) 116 [u.v,sw (kl l t),i64 (qm8 lab t x)] s=some (i64 z,s) from by
     have hxl:=za8.1 hx
     have hzl:=hlen h.1 h.2
     exact(hc h.1 h.2 x hx t.ks[x] (Z[x]'(by omega)) (zah _) (zah _)).mono fun n hn u z hu hz=>by
      rw[zah hxl] at hu
      rw[zah (by omega)] at hz
      cases hu;cases hz
      exact hn))
    exact this.mono fun n hn _ _=>hn
   ·exact ev0.mono fun n _ h1 h2=>absurd ⟨h1,h2⟩ h
  refine PC.of2 (cf:=cf116) (np:=3) (args':=[t.v,sw l,i64 lab]) (by kernel_rfl) (by kernel_rfl) rfl (by simp only[zan,qak];rfl) (by simp only[zal,qaj];rfl) (fun _=>rfl)
   (((evf.and evk).and ((e172.and (e173.and e116)).and (((qjy l (by omega) t.i 0).and (qjy l (by omega) t.i (Z[0]?.getD 0))).and (((qk0 t.m).and (qqa t.n)).and ((qjz l (by omega) (Sn.cell t.n)).and (Ev.ge (t.ks.length+1))))))).mono
    fun N ⟨⟨c117,c170⟩,⟨c172,c173,c116⟩,⟨c118,c118'⟩,⟨c171,c122⟩,c119,hN⟩ E s=>?_)
  have c118c:∀w,w=0\/w=Z[0]?.getD 0->∀s,cl (qag CP N E) 118 [sw l,i64 t.i,i64 w] s=some (bl (qcj l t.i w),s):=by
   rintro w (rfl|rfl) s
   ·exact c118 E s
   ·exact c118' E s
  have hbeg:∀r,s116_13 (qag CP N E) N t.c (sw l) (i64 lab) s (bl (decide (t.k≠2/\t.k≠17)))=some r->s116 (qag CP N E) N t.v (sw l) (i64 lab) s=some r:=fun r hr=>by
   unfold s116 s116_14
   generalize s116_13 (qag CP N E) N=G at hr⊢
   have hj:∀b,(bif b then some (i64 0,s) else(bn .neq (u8 t.k) (u8 2)).bind fun x=>qae x ((bn .neq (u8 t.k) (u8 17)).bind fun y=>G t.c (sw l) (i64 lab) s y) (G t.c (sw l) (i64 lab) s (bl false)))=if b=true then some (i64 0,s) else some r:=by
    rintro (_|_)
    ·simp only[cond_false,zai,if_false,qad,qaU,qaa,cond_false,zab,zaa]
     by_cases h2:t.k=2
     ·simp only[h2,ne_eq,not_true_eq_false,false_and,zaj,decide_true,decide_false,zak,zam,cond_false] at hr⊢;exact hr
     ·by_cases h3:t.k=17
      ·simp only[h3,ne_eq,not_true_eq_false,and_false,zaj,not_false_eq_true,zaj,decide_true,decide_false,zak,zam,cond_true] at hr⊢;exact hr
      ·simp only[h2,h3,ne_eq,not_false_eq_true,and_self,decide_true,decide_false,zam,cond_true] at hr⊢;exact hr
    ·rfl
   have g2:=hform.2
   by_cases g:0<=kR t.k
   ·have g3:kR t.k=Int.ofNat t.ks.length:=by
     by_cases q:kR t.k=Int.ofNat t.ks.length
     ·exact q
     ·exact absurd ⟨g,q⟩ g2
    have g4:¬kR t.k<0:=by omega
    have:=hj false
    simp only[cond_false,zai,if_false] at this
    simp -implicitDefEqProofs only[c117,c170,hform.1,g3,qah,qaV,qba,qbi,qad,qaU,qa9,decide_true,zak,qaa,cond_true,cond_false,qal,zab,zaa,qab,qam,qbB]
    simp only[qad,qaU,qaa,zab,zaa] at this
    exact this
   ·have g4:kR t.k<0:=by omega
    have:=hj false
    simp only[cond_false,zai,if_false] at this
    simp -implicitDefEqProofs only[c117,c170,hform.1,g4,qah,qaV,qba,qbi,qad,qaU,qa9,decide_true,zak,qaa,cond_true,cond_false,qal,zab,zaa,qab,qam,qbB]
    simp only[qad,qaU,qaa,zab,zaa] at this
    exact this
  have h173:∀x8,qaF x8=iv Z->∀s,cl (qag CP N E) 173 [t.v,x8,i64 lab] s=some (i64 (flR t.k t.n t.m lab Z),s):=fun x8 he s=>by
   have:=qfx (CP:=CP) (f:=173) (cf:=cf173) (by kernel_rfl) (by kernel_rfl) N E [t.v,x8,i64 lab] s
   rw[show[t.v,x8,i64 lab].map qaF=[t.v,iv Z,i64 lab] by simp only[zal,zbm,qaj,he];rfl,c173 E s] at this
   exact this
  have htail:∀x8,(∀i,iaV 1 x8 i=iaV 1 (iv Z) i)->qaF x8=iv Z->∀s,s116_8 (qag CP N E) N t.c (sw l) (i64 lab) x8 s=some (i64 (tlR l lab t Z f),s):=fun x8 hx he s=>
   qvP l (by omega) t lab Z f x8 hx he (fun h=>by rw[hlen (by omega) (by omega)];exact hz1 (by omega)) (fun h=>by rw[hlen (by omega) (by omega)];exact hz2 (by omega)) c118c (fun s=>c171 E s) (fun h s=>c172 h E s) (h173 x8 he) s
  have hsz:∃s',s116_13 (qag CP N E) N t.c (sw l) (i64 lab) s (bl (decide (t.k≠2/\t.k≠17)))=some (i64 (szR l lab t Z f),s'):=by
   unfold s116_13 szR
   rw[if_neg (by rw[hform.1];simp),if_neg hform.2]
   by_cases h:t.k≠2/\t.k≠17
   ·have hzl:=hlen h.1 h.2
    have c116':∀j,∀hj:j<t.ks.length,∀s,cl (qag CP N E) 116 [t.ks[j].v,sw (kl l t),i64 (qm8 lab t j)] s=some (i64 (Z[j]'(by omega)),s):=fun j hj s=>
     c116 h.1 h.2 j (za8.2 hj) _ _ (zah hj) (zah (by omega)) E s
    rw[qal,decide_eq_true h,qaa,cond_true]
    by_cases hz:∃j,∃hj:j<t.ks.length,Z[j]'(by omega)=0
    ·obtain⟨s',hs'⟩:=qqc hl0 hl1 ht hzl (c122 E) (c119 E) c116' (s116_8 (qag CP N E) N t.c (sw l) (i64 lab)) hN hz s
     obtain⟨j,hj,hj0⟩:=hz
     rw[if_pos ⟨h.1,h.2,by rw[<-hj0];exact za5 _⟩]
     exact⟨s',hs'⟩
    ·have hne:∀j,∀hj:j<t.ks.length,Z[j]'(by omega)≠0:=fun j hj h0=>hz ⟨j,hj,h0⟩
     have:=qqb hl0 hl1 ht hzl (c122 E) (c119 E) c116' (s116_8 (qag CP N E) N t.c (sw l) (i64 lab)) hN hne s
     rw[this,if_neg (fun q=>by
      obtain⟨j,hj,h0⟩:=List.getElem_of_mem q.2.2
      exact hne j (by omega) h0)]
     have hfZ:qaQ qcT (Z.take t.ks.length)=qaQ qcT Z:=by rw[<-hzl,List.take_length]
     refine⟨_,htail _ (fun i=>?_) ?_ _⟩
     ·rw[qtS _ rfl,hfZ,<-hzl]
     ·rw[qf2 _ _ _ rfl,hfZ,<-hzl]
   ·have hZ0:Z=[]:=h17 (by by_cases g:t.k=2;exact .inl g;exact .inr (by by_cases g':t.k=17;exact g';exact absurd ⟨g,g'⟩ h))
    rw[qal,decide_eq_false h,qaa,cond_false,if_neg (fun q=>h ⟨q.1,q.2.1⟩)]
    exact⟨s,htail (.sl 0 [] .full) (fun i=>by rw[hZ0];rfl) (by rw[hZ0];rfl) s⟩
  obtain⟨s',hs'⟩:=hsz
  exact⟨_,s',(s116_eq _ _ _ _ _ _).trans (hbeg _ hs'),rfl⟩
 ·have hr:szR l lab t Z f=0:=by
   unfold szR
   by_cases h1:fR t=false
   ·rw[if_pos h1]
   ·rw[if_neg h1,if_pos]
    by_cases g:0<=kR t.k/\kR t.k≠Int.ofNat t.ks.length
    ·exact g
    ·exact absurd ⟨by simpa using h1,g⟩ hform
  rw[hr]
  refine PC.of2 (cf:=cf116) (np:=3) (args':=[t.v,sw l,i64 lab]) (by kernel_rfl) (by kernel_rfl) rfl (by simp only[zan,qak];rfl) (by simp only[zal,qaj];rfl) (fun _=>rfl)
   ((evf.and evk).mono fun N ⟨c117,c170⟩ E s=>⟨i64 0,s,(s116_eq _ _ _ _ _ _).trans ?_,rfl⟩)
  unfold s116 s116_14
  generalize s116_13 (qag CP N E) N=G
  by_cases h1:fR t=true
  ·have g:0≤kR t.k∧kR t.k≠Int.ofNat t.ks.length:=by
    by_cases g:0<=kR t.k/\kR t.k≠Int.ofNat t.ks.length
    ·exact g
    ·exact absurd ⟨h1,g⟩ hform
   have g4:¬kR t.k<0:=by omega
   simp -implicitDefEqProofs only[c117,c170,h1,g4,g.2,qah,qaV,qba,qbi,qad,qaU,qa9,decide_false,zak,zam,qaa,cond_true,cond_false,qal,zab,zaa,qab,qam,qbB]
  ·simp only[zaS] at h1
   simp -implicitDefEqProofs only[c117,c170,h1,qah,qaV,qba,qbi,qad,qaU,qa9,zam,qaa,cond_true,cond_false,qal,zab,zaa,qab,qam,qbB]
end Go.AI.Tryz
namespace Go.AI.Tryz
theorem Ev.imp {c:Prop}{P:Nat->Prop}(h:c->Ev P):Ev fun n=>c->P n:=by
 by_cases hc:c
 ·exact(h hc).mono fun n hn _=>hn
 ·exact ev0.mono fun n _ h=>absurd h hc
def agR (l:List Sn)(t:Tm)(b:Bs)(zt z0 z1:Int):Bool:=
 if b.cell=false then !decide (t.k=16)&&(!decide (t.k=17)&&decide (zt=b.n))
 else if fR t=false then false
 else if t.k=16 then decide (Int.ofNat t.ks.length=0)&&qcj l t.i b.n
 else if t.k=17/\t.ks.length=2 then decide (z0=b.n)&&decide (z1=1) else false
theorem bsc (b:Bs):zA.cells (some 2) b.v=some [bl b.cell,i64 b.n]:=rfl
theorem bs0 (a b:zA):ldL [a,b] 0 none=some a:=rfl
theorem bs1 (a b:zA):ldL [a,b] 1 none=some b:=rfl
theorem qvQ (l:List Sn)(hl:l.length<=999999)(t:Tm)(b:Bs)(lab:Int)(zt z0 z1:Int)(ht:b.cell=false/\t.k≠16/\t.k≠17->PC CP 116 [t.v,sw l,i64 lab] (i64 zt))(h0:b.cell=true/\t.k=17->∀x∈t.ks[0]?.toList,PC CP 116 [x.v,sw l,i64 lab] (i64 z0))(h1:b.cell=true/\t.k=17->∀x∈t.ks[1]?.toList,PC CP 116 [x.v,sw (l++[Sn.val b.n]),i64 lab] (i64 z1)):PC CP 68 [t.v,b.v,sw l,i64 lab] (bl (agR l t b zt z0 z1)):=by
 refine PC.of2 (cf:=cf68) (np:=4) (args':=[t.v,b.v,sw l,i64 lab]) (by kernel_rfl) (by kernel_rfl) rfl (by first|rfl|(simp only[zan,qak];rfl)) (by first|rfl|(simp only[zal,qaj];rfl)) (fun lo=>by first|rfl|exact qaM lo _|exact qaR lo _|exact qce lo _ _) (Ev.mono ((((Ev.imp ht).and (Ev.imp fun c=>Ev.all _ (h0 c))).and (Ev.imp fun c=>Ev.all _ (h1 c))).and ((qk1 t).and ((qjy l (by omega) t.i b.n).and ((qst b.n).and (qjz l (by omega) (Sn.val b.n)))))) fun N ⟨⟨⟨ct,c0⟩,c1⟩,c117,c118,c120,c119⟩ E s=>⟨bl (agR l t b zt z0 z1),s,(s68_eq _ _ _ _ _ _ _).trans ?_,(by first|rfl|exact qaj _|exact qaN _|exact qb3 _ _)⟩)
 unfold s68 s68_3 s68_2 s68_1 s68_0 agR
 cases hb:b.cell
 ·by_cases h16:t.k=16
  ·simp -implicitDefEqProofs only[bsc,bs0,bs1,hb,h16,if_true,zau,qah,qaV,qba,qad,qaU,zaj,decide_true,decide_false,zak,zam,qaa,cond_true,cond_false,qal,zab,zaa,qam]
  ·by_cases h17:t.k=17
   ·simp -implicitDefEqProofs only[bsc,bs0,bs1,hb,h17,if_true,zau,zay,qah,qaV,qba,qad,qaU,zaj,decide_true,decide_false,zak,zam,qaa,cond_true,cond_false,qal,zab,zaa,qam]
   ·have ct:=ct ⟨hb,h16,h17⟩
    simp -implicitDefEqProofs only[bsc,bs0,bs1,hb,h16,h17,ct,if_true,zay,qah,qaV,qba,qad,qaf,qaU,decide_false,zam,qaa,cond_true,cond_false,qal,zab,zaa,qab,qam]
 ·by_cases hf:fR t=true
  ·by_cases h16:t.k=16
   ·simp -implicitDefEqProofs only[bsc,bs0,bs1,hb,h16,hf,c117,c118,if_true,if_false,Bool.true_eq_false,qah,qaV,qba,qcJ,qbi,qad,qaf,zaj,decide_true,decide_false,zak,zam,qaa,cond_true,cond_false,qal,zab,zaa,qab,qam,qbB]
    cases decide (Int.ofNat t.ks.length=0)<;>rfl
   ·by_cases h17:t.k=17
    ·by_cases h2:t.ks.length=2
     ·obtain⟨u,w,hks⟩:∃u w,t.ks=[u,w]:=by
       match t.ks,h2 with
       |[u,w],_=>exact⟨u,w,rfl⟩
      have c0:=c0 ⟨hb,h17⟩ u (by rw[hks];exact zaV.2 rfl)
      have c1:=c1 ⟨hb,h17⟩ w (by rw[hks];exact zaV.2 rfl)
      obtain⟨i0,l0⟩:=qb6 (n:=N) (E:=E) (l:=t.ks) (u:=u) (by rw[hks];rfl)
      obtain⟨i1,l1⟩:=qdv (n:=N) (E:=E) (l:=t.ks) (u:=w) (by rw[hks];rfl)
      have hlen:Int.ofNat t.ks.length=2:=by rw[h2];rfl
      simp -implicitDefEqProofs only[bsc,bs0,bs1,hb,h17,h2,hf,c117,i0,l0,i1,l1,c0,c1,c120,c119,if_true,if_false,and_self,Bool.true_eq_false,qah,qaV,qba,qcJ,qbi,qad,qaf,zaj,decide_true,decide_false,zak,zam,qaa,cond_true,cond_false,qal,zab,zaa,qab,qam,qbB]
      cases decide (z0=b.n)<;>rfl
     ·have hlen:¬Int.ofNat t.ks.length=2:=by simp only[zaf];omega
      simp -implicitDefEqProofs only[bsc,bs0,bs1,hb,h17,h2,hlen,hf,c117,if_false,and_false,Bool.true_eq_false,qah,qaV,qba,qcJ,qbi,qad,qaf,zaj,decide_true,decide_false,zak,zam,qaa,cond_true,cond_false,qal,zab,zaa,qab,qam,qbB]
    ·simp -implicitDefEqProofs only[bsc,bs0,bs1,hb,h16,h17,hf,c117,if_false,false_and,Bool.true_eq_false,qah,qaV,qba,qcJ,qbi,qad,qaf,decide_false,zak,zam,qaa,cond_false,qal,zab,zaa,qab,qam,qbB]
  ·simp only[zaS] at hf
   simp -implicitDefEqProofs only[bsc,bs0,bs1,hb,hf,c117,if_true,if_false,Bool.true_eq_false,qah,qaV,qba,qcJ,qbi,qad,qaf,zak,zam,qaa,cond_true,cond_false,qal,zab,zaa,qab,qam,qbB]
end Go.AI.Tryz
namespace Go.AI.Tryz
def zO (p:Int×Bool):Int:=if p.2 then p.1 else 0
def _root_.Go.AI.Sc.sn (x:Sc):List Sn:=x.ids.mapIdx fun j e=>⟨e.ty,e.arg,decide (x.top<=Int.ofNat j)&&!e.arg⟩
structure ScG (x:Sc):Prop where
 ok:ScOk x
 cell:∀e∈x.ids,e.ty.res.cell=true->e.ty.ps=[]/\e.arg=false
 ps:∀e∈x.ids,∀p∈e.ty.ps,1<=p.n/\p.n<=64
theorem qqd (x:Sc):x.sn.length=x.ids.length:=List.length_mapIdx
theorem qhy (x:Sc)(i:Int):qea x.sn i=(x.get i).map fun e=>⟨e.ty,e.arg,decide (x.top<i)&&!e.arg⟩:=by
 unfold qea Sc.get
 by_cases h:i<1
 ·simp only[h,if_true,Option.map_none]
 ·simp only[h,if_false,Sc.sn,List.getElem?_mapIdx]
  have:(x.top<=Int.ofNat (i-1).toNat)=(x.top<i):=by simp only[zaf,eq_iff_iff];omega
  simp only[this]
theorem qjA (x:Sc)(y:Se)(h:x.top<=Int.ofNat x.ids.length):(x.with y).sn=x.sn++[⟨y.ty,y.arg,!y.arg⟩]:=by
 simp only[Sc.sn,Sc.with,List.mapIdx_append,List.mapIdx_cons,List.mapIdx_nil,zaH,decide_eq_true h,zay]
 rfl
theorem qjB {x:Sc}(g:ScG x)(i z:Int):qcj x.sn i z=(x.get i).any fun e=>e.ty.res.cell&&(decide (z=0)||decide (e.ty.res.n=z)):=by
 unfold qcj
 rw[qhy]
 cases h:x.get i with
 |none=>rfl
 |some e=>
  obtain⟨j,_,hj⟩:=Sc.get_inv h
  simp only[zab,Option.any_some]
  cases hc:e.ty.res.cell with
  |false=>simp
  |true=>
   obtain⟨h1,h2⟩:=g.cell e (zaQ hj) hc
   rw[h1,h2]
   simp
theorem qk2 {f g:Tm->Bs->Bool}:∀{ks:List Tm} {ps:List Bs},(∀u∈ks,∀p∈ps,f u p=g u p)->qbt f ks ps=qbt g ks ps
 |[],[],_=>rfl
 |[],_::_,_=>rfl
 |_::_,[],_=>rfl
 |u::r,p::q,h=>by
  simp only[qbt]
  rw[h u (zav ..) p (zav ..),qk2 fun u hu p hp=>h u (zaw _ hu) p (zaw _ hp)]
theorem qdb {x:Sc}(g:ScG x)(u:Tm)(h:(szF x u).2=true):(szF x u).1≠0:=by
 have:=qfA u.size u x (zao _) g.ok h
 omega
theorem qxu {t:Tm}(h:qbp t=true):fR t=true/\¬(0<=kR t.k/\kR t.k≠Int.ofNat t.ks.length):=by
 cases qlM h<;>simp[fR,kR,Tm.k,Tm.n,Tm.m,Tm.i,Tm.ks]
theorem qrF {l:List Sn}{lab:Int}{t:Tm}{z:List Int}{f:Tm->Bs->Bool}(h:qbp t=true):szR l lab t z f=if t.k≠2/\t.k≠17/\0∈z then 0 else tlR l lab t z f:=by
 have:=qxu h
 unfold szR
 rw[if_neg (by rw[this.1];simp),if_neg this.2]
theorem qtU {l:List Sn}{lab:Int}{t:Tm}{z:List Int}{f:Tm->Bs->Bool}(h:qbp t=false):szR l lab t z f=0:=by
 unfold szR
 by_cases h1:fR t=false
 ·rw[if_pos h1]
 ·rw[if_neg h1]
  by_cases h2:0<=kR t.k/\kR t.k≠Int.ofNat t.ks.length
  ·rw[if_pos h2]
  ·rw[if_neg h2]
   simp only[Bool.not_eq_false] at h1
   have hk:(t.k=1\/t.k=2\/t.k=3\/t.k=4\/t.k=5\/t.k=6\/t.k=7\/t.k=8\/t.k=9\/t.k=10\/t.k=11\/t.k=12\/t.k=13\/t.k=14\/t.k=15\/t.k=16\/t.k=17\/t.k=18)\/(t.k<1\/18<t.k):=by omega
   rcases hk with hk|hk
   ·exfalso
    rcases hk with g|g|g|g|g|g|g|g|g|g|g|g|g|g|g|g|g|g<;>simp[qbp,qcr,formL,fR,kR,g] at h h1 h2<;>simp_all
   ·have k1:t.k≠1:=by omega
    have k2:t.k≠2:=by omega
    have k3:t.k≠3:=by omega
    have k4:t.k≠4:=by omega
    have k5:t.k≠5:=by omega
    have k6:t.k≠6:=by omega
    have k7:t.k≠7:=by omega
    have k8:t.k≠8:=by omega
    have k9:t.k≠9:=by omega
    have k10:t.k≠10:=by omega
    have k11:t.k≠11:=by omega
    have k12:t.k≠12:=by omega
    have k13:t.k≠13:=by omega
    have k14:t.k≠14:=by omega
    have k15:t.k≠15:=by omega
    have k18:t.k≠18:=by omega
    simp only[tlR,flR,k1,k2,k3,k4,k5,k6,k7,k8,k9,k10,k11,k12,k13,k14,k15,k18,if_false,or_self]
    exact ite_self _
end Go.AI.Tryz
namespace Go.AI.Tryz
theorem ScG.lab {x:Sc}(g:ScG x)(m:Int):ScG {x with size:=m}:=⟨g.ok,g.cell,g.ps⟩
theorem ScG.cellW {x:Sc}(g:ScG x){n:Int}(h:1<=n/\n<=64):ScG (x.with ⟨⟨[],⟨true,n⟩⟩,false⟩):=by
 refine⟨g.ok.with h,?_,?_⟩<;>(intro e he;simp only[Sc.with,zaL,zaV] at he;rcases he with he|rfl)
 ·exact g.cell e he
 ·exact fun _=>⟨rfl,rfl⟩
 ·exact g.ps e he
 ·intro p hp;cases hp
theorem ScG.valW {x:Sc}(g:ScG x){n:Int}(h:1<=n/\n<=64):ScG (x.with ⟨⟨[],⟨false,n⟩⟩,true⟩):=by
 refine⟨g.ok.with h,?_,?_⟩<;>(intro e he;simp only[Sc.with,zaL,zaV] at he;rcases he with he|rfl)
 ·exact g.cell e he
 ·intro h;cases h
 ·exact g.ps e he
 ·intro p hp;cases hp
theorem qtV {x:Sc}(g:ScG x){t:Tm}(hs:Sh t){Z:List Int}{f:Tm->Bs->Bool}(hZ:t.k≠2->t.k≠17->Z.length=t.ks.length)(h17:t.k=2\/t.k=17->Z=[])
  (hz:t.k≠2->t.k≠17->∀j u z,t.ks[j]? =some u->Z[j]? =some z->ScG (x.kid t j)->z=zO (szF (x.kid t j) u))
  (hf:t.k=2->∀u∈t.ks,∀p:Bs,1<=p.n->p.n<=64->f u p=qdu szF x u p):szR x.sn x.size t Z f=zO (szF x t):=by
 rw[qrF (qc0 hs)]
 have Z0:Z.length=0->Z=[]:=za1.1
 have Z1:Z.length=1->∃a,Z=[a]:=fun h=>match Z,h with|[a],_=>⟨a,rfl⟩
 have Z2:Z.length=2->∃a b,Z=[a,b]:=fun h=>match Z,h with|[a,b],_=>⟨a,b,rfl⟩
 have Z3:Z.length=3->∃a b c,Z=[a,b,c]:=fun h=>match Z,h with|[a,b,c],_=>⟨a,b,c,rfl⟩
 cases hs with
 |num n m=>
  rw[Z0 (hZ (by simp[Tm.k]) (by simp[Tm.k])),qdx]
  simp only[tlR,Tm.k,Tm.n,Tm.m,zO,zaF,and_false,if_false,if_true]
  rfl
 |use i ks=>
  rw[h17 (.inl rfl),qgg]
  simp only[tlR,usR,Tm.k,Tm.i,Tm.ks,qhy,zO,zaj,ne_eq,not_true_eq_false,false_and,if_false,if_true]
  cases he:x.get i with
  |none=>simp
  |some e=>
   obtain⟨j,_,hj⟩:=Sc.get_inv he
   have:qbt f ks e.ty.ps=qbt (qdu szF x) ks e.ty.ps:=qk2 fun u hu p hp=>by
    have:=g.ps e (zaQ hj) p hp
    exact hf rfl u hu p this.1 this.2
   simp only[zab,this,zaB,zbf,zay]
   cases e.arg<;>cases e.ty.res.cell<;>simp
 |get i=>
  rw[Z0 (hZ (by simp[Tm.k]) (by simp[Tm.k])),qhl]
  simp only[tlR,Tm.k,Tm.i,zO,qjB g,qhy,zaF,and_false,if_false,if_true,zaj,decide_true,zbk,za7]
  cases x.get i<;>rfl
 |put i u=>
  obtain⟨a,rfl⟩:=Z1 (hZ (by simp[Tm.k]) (by simp[Tm.k]))
  have ha:a=zO (szF x u):=hz (by simp[Tm.k]) (by simp[Tm.k]) 0 u a rfl rfl g
  rw[qeQ]
  simp only[tlR,Tm.k,Tm.i,qjB g,zaV,zas,zaB,zaj,ne_eq,not_false_eq_true,true_and,if_false,if_true]
  have:=qdb g u
  cases x.get i with
  |none=>simp[zO]
  |some e=>
   subst ha
   simp only[zO,is2,Option.any_some,zaB]
   generalize szF x u=p at this⊢
   obtain⟨p1,p2⟩:=p
   cases p2
   ·simp
   ·have h1:=this rfl
    simp only at h1
    have h2:¬(0=p1):=fun h=>h1 h.symm
    simp only[if_true,h1,h2,if_false,decide_false,za6,zay]
    cases e.ty.res.cell
    ·simp
    ·by_cases q:e.ty.res.n=p1
     ·simp[q]
     ·have:¬p1=e.ty.res.n:=fun h=>q h.symm
      simp[q,this]
 |op n m u w=>
  obtain⟨a,b,rfl⟩:=Z2 (hZ (by simp[Tm.k]) (by simp[Tm.k]))
  have ha:a=zO (szF x u):=hz (by simp[Tm.k]) (by simp[Tm.k]) 0 u a rfl rfl g
  have hb:b=zO (szF x w):=hz (by simp[Tm.k]) (by simp[Tm.k]) 1 w b rfl rfl g
  rw[qeK]
  have h1:=qdb g u
  have h2:=qdb g w
  simp only[tlR,Tm.k,Tm.n,Tm.m,zaE,zaF,or_false,zas,zaN,zaB,zaj,ne_eq,not_false_eq_true,true_and,if_false,if_true]
  subst ha hb
  simp only[zO,is2]
  generalize szF x u=p at h1⊢
  generalize szF x w=q at h2⊢
  obtain⟨p1,p2⟩:=p
  obtain⟨q1,q2⟩:=q
  cases p2
  ·by_cases g1:n=1\/n=2\/n=3<;>by_cases g2:n=4\/n=5<;>simp[g1,g2]
  ·cases q2
   ·by_cases g1:n=1\/n=2\/n=3<;>by_cases g2:n=4\/n=5<;>simp[g1,g2]
   ·have e1:=h1 rfl
    have e2:=h2 rfl
    simp only at e1 e2
    have e3:¬(0=p1):=fun h=>e1 h.symm
    have e4:¬(0=q1):=fun h=>e2 h.symm
    simp only[if_true,e3,e4,or_self,if_false,zay]
    by_cases g1:n=1\/n=2\/n=3
    ·have q1':¬n<1:=by omega
     have q2':¬5<n:=by omega
     have q3':¬4<=n:=by omega
     simp only[g1,q1',q2',q3',if_true,if_false,false_or]
     cases qbc m<;>by_cases r1:p1=m<;>by_cases r2:q1=m<;>simp[r1,r2]
    ·by_cases g2:n=4∨n=5
     ·have q1':¬n<1:=by omega
      have q2':¬5<n:=by omega
      have q3':4<=n:=by omega
      simp only[g1,g2,q1',q2',q3',if_true,if_false,false_or]
      cases qbc m<;>by_cases r1:p1=m<;>by_cases r2:q1=m<;>simp[r1,r2]
     ·have q1':n<1∨5<n:=by omega
      simp only[g1,g2,if_false,zai]
      rcases q1' with q|q<;>simp[q]
 |az n u=>
  obtain⟨a,rfl⟩:=Z1 (hZ (by simp[Tm.k]) (by simp[Tm.k]))
  have ha:a=zO (szF x u):=hz (by simp[Tm.k]) (by simp[Tm.k]) 0 u a rfl rfl g
  rw[qeL]
  have h1:=qdb g u
  simp only[tlR,flR,Tm.k,Tm.n,Tm.m,zaV,zaj,ne_eq,not_false_eq_true,true_and,if_false,if_true]
  subst ha
  simp only[zO]
  generalize szF x u=p at h1⊢
  obtain⟨p1,p2⟩:=p
  cases p2
  ·simp
  ·have e1:=h1 rfl
   simp only at e1
   have e3:¬(0=p1):=fun h=>e1 h.symm
   simp[e3]
   rfl
 |seq u w=>
  obtain⟨a,b,rfl⟩:=Z2 (hZ (by simp[Tm.k]) (by simp[Tm.k]))
  have ha:a=zO (szF x u):=hz (by simp[Tm.k]) (by simp[Tm.k]) 0 u a rfl rfl g
  have hb:b=zO (szF x w):=hz (by simp[Tm.k]) (by simp[Tm.k]) 1 w b rfl rfl g
  rw[qb1]
  have h1:=qdb g u
  have h2:=qdb g w
  simp only[tlR,flR,Tm.k,Tm.n,Tm.m,zaE,zaF,or_false,zas,zaN,zaB,zaj,ne_eq,not_false_eq_true,true_and,if_false,if_true]
  subst ha hb
  simp only[zO,is2]
  generalize szF x u=p at h1⊢
  generalize szF x w=q at h2⊢
  obtain⟨p1,p2⟩:=p
  obtain⟨q1,q2⟩:=q
  cases p2<;>cases q2<;>simp
  have e1:=h1 rfl
  have e2:=h2 rfl
  simp only at e1 e2
  omega
 |ite c u w=>
  obtain⟨a,b,d,rfl⟩:=Z3 (hZ (by simp[Tm.k]) (by simp[Tm.k]))
  have ha:a=zO (szF x c):=hz (by simp[Tm.k]) (by simp[Tm.k]) 0 c a rfl rfl g
  have hb:b=zO (szF x u):=hz (by simp[Tm.k]) (by simp[Tm.k]) 1 u b rfl rfl g
  have hd:d=zO (szF x w):=hz (by simp[Tm.k]) (by simp[Tm.k]) 2 w d rfl rfl g
  rw[qcx]
  have h1:=qdb g c
  have h2:=qdb g u
  have h3:=qdb g w
  simp only[tlR,flR,Tm.k,Tm.n,Tm.m,zaE,zaF,or_false,zas,zaN,zaB,zaj,ne_eq,not_false_eq_true,true_and,if_false,if_true]
  subst ha hb hd
  simp only[zO,is2]
  generalize szF x c=p at h1⊢
  generalize szF x u=q at h2⊢
  generalize szF x w=r at h3⊢
  obtain⟨p1,p2⟩:=p
  obtain⟨q1,q2⟩:=q
  obtain⟨r1,r2⟩:=r
  cases p2<;>cases q2<;>cases r2<;>simp
  have e1:=h1 rfl
  have e2:=h2 rfl
  have e3:=h3 rfl
  simp only at e1 e2 e3
  have n1:¬(0=p1):=fun h=>e1 h.symm
  have n2:¬(0=q1):=fun h=>e2 h.symm
  have n3:¬(0=r1):=fun h=>e3 h.symm
  simp only[n1,n2,n3,or_self,if_false,eq_comm]
 |whl u w=>
  obtain⟨a,b,rfl⟩:=Z2 (hZ (by simp[Tm.k]) (by simp[Tm.k]))
  have ha:a=zO (szF x u):=hz (by simp[Tm.k]) (by simp[Tm.k]) 0 u a rfl rfl g
  have hb:b=zO (szF x w):=hz (by simp[Tm.k]) (by simp[Tm.k]) 1 w b rfl rfl g
  rw[qfy]
  have h1:=qdb g u
  have h2:=qdb g w
  simp only[tlR,flR,Tm.k,Tm.n,Tm.m,zaE,zaF,or_false,zas,zaN,zaB,zaj,ne_eq,not_false_eq_true,true_and,if_false,if_true]
  subst ha hb
  simp only[zO,is2]
  generalize szF x u=p at h1⊢
  generalize szF x w=q at h2⊢
  obtain⟨p1,p2⟩:=p
  obtain⟨q1,q2⟩:=q
  cases p2<;>cases q2<;>simp
  have e1:=h1 rfl
  have e2:=h2 rfl
  simp only at e1 e2
  omega
 |new n m u=>
  obtain⟨a,rfl⟩:=Z1 (hZ (by simp[Tm.k]) (by simp[Tm.k]))
  rw[qeR]
  simp only[tlR,flR,Tm.k,Tm.n,Tm.m,zaV,zas,zaB,zaj,ne_eq,not_false_eq_true,true_and,if_false,if_true]
  by_cases hn:qbc n=true
  ·have g':=g.cellW (isSize_iff.1 hn)
   have ha:a=zO (szF (x.with ⟨⟨[],⟨true,n⟩⟩,false⟩) u):=hz (by simp[Tm.k]) (by simp[Tm.k]) 0 u a rfl rfl g'
   subst ha
   simp only[zO,hn,zay]
   generalize szF (x.with ⟨⟨[],⟨true,n⟩⟩,false⟩) u=p
   obtain⟨p1,p2⟩:=p
   cases p2<;>simp
   intro h
   simp[<-h]
  ·simp only[zaS] at hn
   simp[zO,hn]
 |lbl u w=>
  obtain⟨a,b,rfl⟩:=Z2 (hZ (by simp[Tm.k]) (by simp[Tm.k]))
  have ha:a=zO (szF {x with size:=x.size+1} u):=hz (by simp[Tm.k]) (by simp[Tm.k]) 0 u a rfl rfl (g.lab _)
  have hb:b=zO (szF x w):=hz (by simp[Tm.k]) (by simp[Tm.k]) 1 w b rfl rfl g
  rw[qeo]
  have h1:=qdb (g.lab (x.size+1)) u
  have h2:=qdb g w
  simp only[tlR,flR,Tm.k,Tm.n,Tm.m,zaE,zaF,or_false,zas,zaN,zaB,zaj,ne_eq,not_false_eq_true,true_and,if_false,if_true]
  subst ha hb
  simp only[zO,is2]
  generalize szF {x with size:=x.size+1} u=p at h1⊢
  generalize szF x w=q at h2⊢
  obtain⟨p1,p2⟩:=p
  obtain⟨q1,q2⟩:=q
  cases p2<;>cases q2<;>simp
  have e1:=h1 rfl
  have e2:=h2 rfl
  simp only at e1 e2
  have n1:¬(0=p1):=fun h=>e1 h.symm
  have n2:¬(0=q1):=fun h=>e2 h.symm
  simp only[n1,n2,or_self,if_false,eq_comm]
 |jmp n=>
  rw[Z0 (hZ (by simp[Tm.k]) (by simp[Tm.k])),qiu]
  simp only[tlR,flR,Tm.k,Tm.n,Tm.m,zO,zaF,and_false,if_false,if_true,zaj,or_self]
  rfl
 |cho u w=>
  obtain⟨a,b,rfl⟩:=Z2 (hZ (by simp[Tm.k]) (by simp[Tm.k]))
  have ha:a=zO (szF x u):=hz (by simp[Tm.k]) (by simp[Tm.k]) 0 u a rfl rfl g
  have hb:b=zO (szF x w):=hz (by simp[Tm.k]) (by simp[Tm.k]) 1 w b rfl rfl g
  rw[qep]
  have h1:=qdb g u
  have h2:=qdb g w
  simp only[tlR,flR,Tm.k,Tm.n,Tm.m,zaE,zaF,or_false,or_true,zas,zaN,zaB,zaj,ne_eq,not_false_eq_true,true_and,if_false,if_true]
  subst ha hb
  simp only[zO,is2]
  generalize szF x u=p at h1⊢
  generalize szF x w=q at h2⊢
  obtain⟨p1,p2⟩:=p
  obtain⟨q1,q2⟩:=q
  cases p2<;>cases q2<;>simp
  have e1:=h1 rfl
  have e2:=h2 rfl
  simp only at e1 e2
  have n1:¬(0=p1):=fun h=>e1 h.symm
  have n2:¬(0=q1):=fun h=>e2 h.symm
  simp only[n1,n2,or_self,if_false,eq_comm]
 |hang=>
  rw[Z0 (hZ (by simp[Tm.k]) (by simp[Tm.k])),qhn]
  simp only[tlR,flR,Tm.k,Tm.n,Tm.m,zO,zaF,and_false,if_false,if_true,zaj,or_self]
 |val i=>
  rw[Z0 (hZ (by simp[Tm.k]) (by simp[Tm.k])),qhm]
  simp only[tlR,Tm.k,Tm.i,zO,qhy,zaF,and_false,if_false,if_true,zaj]
  cases x.get i with
  |none=>rfl
  |some e=>cases h:e.arg<;>simp[h]
 |cel i=>
  rw[Z0 (hZ (by simp[Tm.k]) (by simp[Tm.k])),qeS]
  simp only[tlR,flR,Tm.k,Tm.n,Tm.m,zO,zaF,and_false,if_false,zaj,or_self,zai]
 |obj u w=>
  rw[h17 (.inr rfl),qdN]
  simp only[tlR,flR,Tm.k,Tm.n,Tm.m,zO,zaF,and_false,if_false,zaj,or_self,zai]
 |ntc n i u=>
  obtain⟨a,rfl⟩:=Z1 (hZ (by simp[Tm.k]) (by simp[Tm.k]))
  have ha:a=zO (szF x u):=hz (by simp[Tm.k]) (by simp[Tm.k]) 0 u a rfl rfl g
  rw[qeq]
  have h1:=qdb g u
  simp only[tlR,Tm.k,Tm.i,Tm.n,qjB g,qhy,zaV,zas,zaB,zaj,ne_eq,not_false_eq_true,true_and,if_false,if_true,decide_true,zbk,za7]
  cases he:x.get i with
  |none=>simp[zO]
  |some e=>
   obtain⟨j,_,hj⟩:=Sc.get_inv he
   have hc:=g.cell e (zaQ hj)
   subst ha
   simp only[zO,Option.any_some,zaB,zab]
   generalize szF x u=p at h1⊢
   obtain⟨p1,p2⟩:=p
   cases p2
   ·simp
   ·have e1:=h1 rfl
    simp only at e1
    have n1:¬(0=p1):=fun h=>e1 h.symm
    by_cases hcc:e.ty.res.cell=true
    ·have:=(hc hcc).2
     simp[n1,hcc,this]
    ·simp[hcc]
end Go.AI.Tryz
namespace Go.AI.Tryz
theorem qqe {x:Sc}(g:ScG x){t:Tm}{b:Bs}(hb:1<=b.n/\b.n<=64){zt z0 z1:Int}(ht:b.cell=false->zt=zO (szF x t))(h0:b.cell=true->∀u,t.ks[0]? =some u->z0=zO (szF x u))
  (h1:b.cell=true->∀u,t.ks[1]? =some u->z1=zO (szF (x.with ⟨⟨[],⟨false,b.n⟩⟩,true⟩) u)):agR x.sn t b zt z0 z1=qdu szF x t b:=by
 unfold agR qdu
 cases hc:b.cell
 ·simp only[if_true,zai,if_false,ht hc,zO]
  by_cases h16:t.k=16\/t.k=17
  ·have:(szF x t).2=false:=by
    cases h:(szF x t).2
    ·rfl
    ·have hsh:=qdf h
     cases hsh<;>simp[Tm.k] at h16
     ·rw[qeS] at h;cases h
     ·rw[qdN] at h;cases h
   rw[this]
   rcases h16 with h|h<;>simp[h]
  ·have h1:t.k≠16:=fun h=>h16 (.inl h)
   have h2:t.k≠17:=fun h=>h16 (.inr h)
   simp only[h1,h2,decide_false,zam,zay]
   cases h:(szF x t).2
   ·have:¬(0:Int)=b.n:=by omega
    simp[this]
   ·simp
 ·simp only[if_true,Bool.true_eq_false,if_false]
  by_cases h16:t.k=16
  ·have hform:qbp t=(fR t&&decide (Int.ofNat t.ks.length=0)):=by
    simp only[qbp,formL,qcr,fR,h16,zaj,if_true,if_false,or_self,or_true]
    have e:((0:Int)=t.ks.length)=(t.ks=[]):=by rw[<-za1,eq_iff_iff];omega
    simp[e]
   rw[hform]
   simp only[h16,if_true,qjB g]
   have hn:¬b.n=0:=by omega
   cases fR t<;>simp[hn]
   cases x.get t.i<;>simp
  ·by_cases h17:t.k=17
   ·have hform:qbp t=(fR t&&decide (t.ks.length=2)):=by
     simp only[qbp,formL,qcr,fR,h17,zaj,if_true,if_false,or_self]
     have e:((2:Int)=t.ks.length)=(t.ks.length=2):=by rw[eq_iff_iff];omega
     simp[e,Bool.and_assoc]
    rw[hform]
    simp only[h17,if_true,true_and]
    cases hf:fR t
    ·simp
    ·by_cases h2:t.ks.length=2
     ·obtain⟨u,w,hks⟩:=qth h2.symm
      have e0:=h0 hc u (by rw[hks];rfl)
      have e1:=h1 hc w (by rw[hks];rfl)
      simp only[hks,e0,e1,zO]
      have n0:¬(0:Int)=b.n:=by omega
      cases(szF x u).2<;>cases(szF (x.with ⟨⟨[],⟨false,b.n⟩⟩,true⟩) w).2<;>simp[n0]
     ·simp[h2]
   ·simp only[h16,h17,if_false,false_and,zaT]
    exact ite_self _
theorem qm9 {x:Sc}{t:Tm}{j:Nat}(ht:x.top<=Int.ofNat x.ids.length)(h17:t.k≠17):(x.kid t j).sn=kl x.sn t/\(x.kid t j).size=qm8 x.size t j:=by
 unfold Sc.kid kl qm8
 by_cases h:t.k=10
 ·have h11:¬t.k=11:=by omega
  simp only[h,if_true,zaj,false_and,if_false,qjA x _ ht]
  exact⟨rfl,rfl⟩
 ·simp only[h,h17,if_false,false_and]
  split
  ·exact⟨rfl,rfl⟩
  ·exact⟨rfl,rfl⟩
theorem qqf {x:Sc}{t:Tm}{j:Nat}(ht:x.top<=Int.ofNat x.ids.length):(x.kid t j).top<=Int.ofNat (x.kid t j).ids.length:=by
 unfold Sc.kid
 split
 ·simp only[Sc.with,zax,zar,zaC,zaf] at ht⊢;omega
 ·split
  ·simp only[Sc.with,zax,zar,zaC,zaf] at ht⊢;omega
  ·split
   ·exact ht
   ·exact ht
theorem ex7:∀(d:Nat) (t:Tm) (x:Sc),t.size<=d->x.B t.size->x.top<=Int.ofNat x.ids.length->
  (∃z,PC CP 116 [t.v,sw x.sn,i64 x.size] (i64 z)/\(ScG x->z=zO (szF x t)))/\(∀b:Bs,∃r,PC CP 68 [t.v,b.v,sw x.sn,i64 x.size] (bl r)/\(ScG x->1<=b.n/\b.n<=64->r=qdu szF x t b))
 |0,t,x,hd,_,_=>by have:=t.size_pos;omega
 |d+1,t,x,hd,hB,htop=>by
  have hB':=hB
  obtain⟨b1,b2,b3⟩:=hB'
  have hlt:∀u∈t.ks,u.size<t.size:=fun u hu=>qa5 hu
  have hkl:t.ks.length<=1000000:=by
   have:=Tm.len_le_size t.ks
   have:=Tm.size_ks t
   omega
  have hsn:x.sn.length<=999999:=by rw[qqd];have:=t.size_pos;omega
  have hA:∃z,PC CP 116 [t.v,sw x.sn,i64 x.size] (i64 z)/\(ScG x->z=zO (szF x t)):=by
   have hkid:∀j,∀hj:j<t.ks.length,t.k≠17->∃z,PC CP 116 [t.ks[j].v,sw (kl x.sn t),i64 (qm8 x.size t j)] (i64 z)/\(ScG (x.kid t j)->z=zO (szF (x.kid t j) t.ks[j])):=fun j hj h17=>by
    have hm:=za5 hj
    obtain⟨z,h1,h2⟩:=(ex7 d t.ks[j] (x.kid t j) (by have:=hlt _ hm;omega) (qvu hB (zah hj)) (qqf htop)).1
    rw[(qm9 htop h17).1,(qm9 htop h17).2] at h1
    exact⟨z,h1,h2⟩
   have harg:∀u,u∈t.ks->∀p:Bs,∃r,PC CP 68 [u.v,p.v,sw x.sn,i64 x.size] (bl r)/\(ScG x->1<=p.n/\p.n<=64->r=qdu szF x u p):=fun u hu p=>
    (ex7 d u x (by have:=hlt u hu;omega) (qmN hB (hlt u hu)) htop).2 p
   let zf:Nat->Int:=fun j=>if h:∃hj:j<t.ks.length,t.k≠17 then Classical.choose (hkid j h.1 h.2) else 0
   let f:Tm->Bs->Bool:=fun u p=>if h:u∈t.ks then Classical.choose (harg u h p) else false
   let Z:List Int:=if t.k=2\/t.k=17 then[] else(List.range t.ks.length).map zf
   have hzf:∀j,∀hj:j<t.ks.length,∀h17:t.k≠17,PC CP 116 [t.ks[j].v,sw (kl x.sn t),i64 (qm8 x.size t j)] (i64 (zf j))/\(ScG (x.kid t j)->zf j=zO (szF (x.kid t j) t.ks[j])):=fun j hj h17=>by
    simp only[zf,dif_pos (show∃hj:j<t.ks.length,t.k≠17 from⟨hj,h17⟩)]
    exact Classical.choose_spec (hkid j hj h17)
   have hff:∀u,u∈t.ks->∀p:Bs,PC CP 68 [u.v,p.v,sw x.sn,i64 x.size] (bl (f u p))/\(ScG x->1<=p.n/\p.n<=64->f u p=qdu szF x u p):=fun u hu p=>by
    simp only[f,dif_pos hu]
    exact Classical.choose_spec (harg u hu p)
   have hZl:t.k≠2->t.k≠17->Z=(List.range t.ks.length).map zf:=fun h2 h17=>if_neg (fun h=>h.elim h2 h17)
   have hZlen:t.k≠2->t.k≠17->Z.length=t.ks.length:=fun h2 h17=>by rw[hZl h2 h17,zaY,List.length_range]
   have hZ17:t.k=2\/t.k=17->Z=[]:=fun h=>if_pos h
   have hZj:t.k≠2->t.k≠17->∀j u z,t.ks[j]? =some u->Z[j]? =some z->∃hj:j<t.ks.length,u=t.ks[j]/\z=zf j:=fun h2 h17 j u z hu hz=>by
    obtain⟨hj,rfl⟩:=zap.1 hu
    rw[hZl h2 h17,zbb,List.getElem?_range hj,zab,zac] at hz
    exact⟨hj,rfl,hz.symm⟩
   refine⟨_,qtT x.sn hsn t hkl x.size b2 (by omega) Z f hZlen (fun h2 h17 j _ u z hu hz=>?_) (fun u hu p _=>(hff u hu p).1) hZ17,fun g=>?_⟩
   ·obtain⟨hj,rfl,rfl⟩:=hZj h2 h17 j u z hu hz
    exact(hzf j hj h17).1
   ·cases hok:qbp t with
    |false=>
     rw[qtU hok]
     have:szF x t=(0,false):=by rw[qcw];unfold qbl;simp[hok]
     rw[this];rfl
    |true=>
     refine qtV g (qlM hok) hZlen hZ17 (fun h2 h17 j u z hu hz gk=>?_) (fun _ u hu p h1 h2=>(hff u hu p).2 g ⟨h1,h2⟩)
     obtain⟨hj,rfl,rfl⟩:=hZj h2 h17 j u z hu hz
     exact(hzf j hj h17).2 gk
  refine⟨hA,fun b=>?_⟩
  obtain⟨zt,p1,e1⟩:=hA
  have hk0:∃z0,b.cell=true/\t.k=17->∀u∈t.ks[0]?.toList,PC CP 116 [u.v,sw x.sn,i64 x.size] (i64 z0)/\(ScG x->z0=zO (szF x u)):=by
   cases h:t.ks[0]? with
   |none=>exact⟨0,fun _ u hu=>by cases hu⟩
   |some u=>
    have hu:=zaQ h
    obtain⟨z,h1,h2⟩:=(ex7 d u x (by have:=hlt u hu;omega) (qmN hB (hlt u hu)) htop).1
    exact⟨z,fun _ v hv=>by simp only[Option.toList_some,zaV] at hv;subst hv;exact⟨h1,h2⟩⟩
  have hk1:∃z1,b.cell=true/\t.k=17->∀u∈t.ks[1]?.toList,PC CP 116 [u.v,sw (x.sn++[Sn.val b.n]),i64 x.size] (i64 z1)/\(ScG (x.with ⟨⟨[],⟨false,b.n⟩⟩,true⟩)->z1=zO (szF (x.with ⟨⟨[],⟨false,b.n⟩⟩,true⟩) u)):=by
   cases h:t.ks[1]? with
   |none=>exact⟨0,fun _ u hu=>by cases hu⟩
   |some u=>
    have hu:=zaQ h
    obtain⟨z,h1,h2⟩:=(ex7 d u (x.with ⟨⟨[],⟨false,b.n⟩⟩,true⟩) (by have:=hlt u hu;omega) (qhh hB (hlt u hu)) (by simp only[Sc.with,zax,zar,zaC,zaf] at htop⊢;omega)).1
    rw[qjA x _ htop] at h1
    exact⟨z,fun _ v hv=>by simp only[Option.toList_some,zaV] at hv;subst hv;exact⟨h1,h2⟩⟩
  obtain⟨z0,h0⟩:=hk0
  obtain⟨z1,h1⟩:=hk1
  refine⟨_,qvQ x.sn hsn t b x.size zt z0 z1 (fun _=>p1) (fun c u hu=>(h0 c u hu).1) (fun c u hu=>(h1 c u hu).1),fun g hb=>?_⟩
  by_cases h17:t.k=17
  ·exact qqe g hb (fun _=>e1 g) (fun c u hu=>(h0 ⟨c,h17⟩ u (by rw[hu];exact zaV.2 rfl)).2 g) (fun c u hu=>(h1 ⟨c,h17⟩ u (by rw[hu];exact zaV.2 rfl)).2 (g.valW hb))
  ·have:∀a0 a1 c0 c1,agR x.sn t b zt a0 a1=agR x.sn t b zt c0 c1:=fun _ _ _ _=>by unfold agR;simp only[h17,false_and,if_false]
   rw[this z0 z1 (zO (szF x (t.ks[0]?.getD .z))) (zO (szF (x.with ⟨⟨[],⟨false,b.n⟩⟩,true⟩) (t.ks[1]?.getD .z)))]
   exact qqe g hb (fun _=>e1 g) (fun _ u hu=>by rw[hu];rfl) (fun _ u hu=>by rw[hu];rfl)
end Go.AI.Tryz
namespace Go.AI.Tryz
theorem LkK.mk' {sx sy:Nat->Sc}:∀(ks:List Tm) (j:Nat),(∀i w,ks[i]? =some w->Lk (sx (j+i)) w (sy (j+i)) w)->LkK sx sy j ks ks
 |[],_,_=>trivial
 |u::r,j,h=>⟨h 0 u rfl,LkK.mk' r (j+1) fun i w hw=>by
   have:=h (i+1) w (by simpa using hw)
   rw[show j+1+i=j+(i+1) by omega]
   exact this⟩
theorem qqg:∀(d:Nat) (t:Tm) (x:Sc) (m:Int),t.size<=d->Nd x t->x.size<=m->Lk x t {x with size:=m} t
 |0,t,_,_,h,_,_=>by have:=t.size_pos;omega
 |d+1,t,x,m,hd,h,hm=>by
  have hlt:∀u∈t.ks,u.size<t.size:=fun u hu=>qa5 hu
  have hkid:∀i w,t.ks[i]? =some w->Lk (x.kid t i) w (Sc.kid {x with size:=m} t i) w:=fun i w hw=>by
   have hwm:=zaQ hw
   have hn:=h.kid hw
   have ih:=fun m' hm'=>qqg d w (x.kid t i) m' (by have:=hlt w hwm;omega) hn hm'
   have e:∃m',Sc.kid {x with size:=m} t i={x.kid t i with size:=m'}/\(x.kid t i).size<=m':=by
    unfold Sc.kid
    split
    ·exact⟨m,rfl,hm⟩
    ·split
     ·rename_i h17
      refine⟨m,?_,hm⟩
      have:(szF {x with size:=m} (t.ks.headD .z)).1=(szF x (t.ks.headD .z)).1:=by
       cases hks:t.ks with
       |nil=>rw[hks] at hw;cases hw
       |cons u r=>
        have h0:t.ks[0]? =some u:=by rw[hks];rfl
        have hn0:=h.kid h0
        rw[qfc h17.1] at hn0
        have:=qqg d u x m (by have:=hlt u (by rw[hks];exact zav ..);omega) hn0 hm
        simp only[zbh,this.1]
      rw[this]
      rfl
     ·split
      ·exact⟨m+1,rfl,by show x.size+1<=_;omega⟩
      ·exact⟨m,rfl,hm⟩
   obtain⟨m',e1,e2⟩:=e
   rw[e1]
   exact ih m' e2
  refine Lk.node h.sh h.sh rfl rfl (fun _=>rfl) (fun hk=>?_) rfl (fun _=>rfl) (LkK.mk' t.ks 0 fun i w hw=>by rw[zaH];exact hkid i w hw)
  have hsz:=h.gd.sz (by omega) (by omega)
  cases h.sh with
  |jmp n=>
   rw[qiu] at hsz
   have:=isBelow_iff.1 hsz
   show qbg n x.size=qbg n m
   refine(show qbg n x.size=true from hsz).trans ?_
   exact(isBelow_iff.2 ⟨this.1,by omega⟩).symm
  |_=>simp only[Tm.k_mk] at hk;omega
abbrev pv (x:Sc):zA:=.agg [sw x.sn,i64 x.top]
theorem pvc (a b:zA):zA.cells (some 2) (.agg [a,b])=some [a,b]:=rfl
theorem qtW (x:Sc)(u:Tm)(hs:x.size<=600)(hn:Nd x u)(g:ScG x)(ht:x.top<=Int.ofNat x.ids.length)(hk:u.k≠16/\u.k≠17)(hl:x.ids.length+u.size<=900000):PC CP 123 [pv x,u.v] (i64 (szF x u).1):=by
 obtain⟨z,h1,h2⟩:=(ex7 u.size u {x with size:=600} (zao _) ⟨by show x.ids.length+_<=_;omega,by show(0:Int)<=600;omega,by show(600:Int)+_<=_;omega⟩ ht).1
 have hz:=h2 (g.lab 600)
 have hb:=(qqg u.size u x 600 (zao _) hn hs).1
 rw[<-hb] at hz
 have:z=(szF x u).1:=by rw[hz,zO,hn.gd.sz hk.1 hk.2,if_pos rfl]
 subst this
 have h1:PC CP 116 [u.v,sw x.sn,i64 600] (i64 (szF x u).1):=h1
 refine PC.of2 (cf:=cf123) (np:=2) (args':=[pv x,u.v]) (by kernel_rfl) (by kernel_rfl) rfl (by simp only[zan,qak];rfl) (by simp only[zal,qaj];rfl) (fun _=>rfl) (h1.mono fun N h E s=>⟨i64 (szF x u).1,s,(s123_eq _ _ _ _ _).trans ?_,rfl⟩)
 unfold s123
 simp only[pvc,bs0,h,qah,qaV,zaa,qab]
theorem qiB (a:Ar):(qaC a).sn=a.ids.map fun t=>⟨t,false,false⟩:=by
 unfold Sc.sn qaC
 refine List.ext_getElem (by simp) fun j h1 h2=>?_
 simp only[List.length_mapIdx,zaY] at h1
 simp only[List.getElem_mapIdx,List.getElem_map,zam,za7]
 have:¬(Int.ofNat a.ids.length<=Int.ofNat j):=by simp only[zaf];omega
 rw[decide_eq_false this]
theorem qk3 {a:Ar}(h:qbU a=0):ScG (qaC a)/\1<=a.root.n/\a.root.n<=64:=by
 unfold qbU at h
 split at h
 ·omega
 ·split at h
  ·omega
  ·rename_i h2
   simp only[zaS,zaU] at h2
   have hT:∀ty∈a.ids,qcp ty=true:=fun ty hty=>by
    have:=List.any_eq_false.1 h2.2 ty hty
    simpa using this
   have hr:qbf a.root=true:=by simpa using h2.1
   simp only[qbf,zag,decide_eq_true_eq] at hr
   refine⟨⟨fun e he=>?_,fun e he=>?_,fun e he=>?_⟩,hr⟩<;>(simp only[qaC,List.mem_map] at he;obtain⟨ty,hty,rfl⟩:=he;have:=hT ty hty;simp only[qcp,zag] at this)
   ·have:=this.1
    simp only[qbf,zag,decide_eq_true_eq] at this
    exact this
   ·intro hc
    have h3:=this.2.2
    rw[hc] at h3
    simp only[zak,Bool.or_false,List.isEmpty_iff] at h3
    exact⟨h3,rfl⟩
   ·intro p hp
    have:=zaM.1 this.2.1 p hp
    simp only[qbf,zag,decide_eq_true_eq] at this
    exact this
theorem qfC (a:Ar)(t:Tm)(oa:a.Ok)(ok:t.Ok)(h1:a.ids.length<=100000)(hs:t.size<=100000):PC CP 46 [a.v,t.v] (i64 (qbx a t)):=by
 obtain⟨r,hr,hr2⟩:=(ex7 t.size t (qaC a) (zao _) ⟨by simp only[qaC,zaY];omega,by simp only[qaC];omega,by simp only[qaC];omega⟩ (by simp only[qaC,zaY];exact Int.le_refl _)).2 a.root
 rw[qiB] at hr
 have hr:PC CP 68 [t.v,a.root.v,sw (a.ids.map fun t=>⟨t,false,false⟩),i64 0] (bl r):=hr
 refine PC.of2 (cf:=cf46) (np:=2) (args':=[a.v,t.v]) (by kernel_rfl) (by kernel_rfl) rfl (by simp only[zan,qak];rfl) (by simp only[zal,qaj];rfl) (fun _=>rfl)
  (((qjk a oa).and ((qpf t ok).and ((qm7 a (by omega)).and hr))).mono fun N ⟨c62,c32,c69,c68⟩ E s=>⟨i64 (qbx a t),s,(s46_eq _ _ _ _ _).trans ?_,rfl⟩)
 have hroot:ldL [.p (.sl a.ids.length (qaQ Ty.cells a.ids)),bl a.root.cell,i64 a.root.n,bl a.jumps] 1 (some 2)=some a.root.v:=rfl
 unfold s46 qbx
 by_cases h0:qbU a=0
 ·have hG:=qk3 h0
  have hr3:=hr2 hG.1 hG.2
  by_cases h6:600<t.size
  ·have:(600:Int)<Int.ofNat (min 601 t.size):=by simp only[zaf];omega
   simp -implicitDefEqProofs only[qc3,qlb,c62,c32,h0,h6,this,ne_eq,not_true_eq_false,if_true,if_false,qah,qaV,qad,qaU,qaJ,decide_true,zak,qaa,cond_true,cond_false,zab,zaa,qab]
  ·have:¬(600:Int)<Int.ofNat (min 601 t.size):=by simp only[zaf];omega
   rw[<-hr3]
   simp -implicitDefEqProofs only[qc3,qlb,hroot,c62,c32,c69,c68,h0,h6,this,ne_eq,not_true_eq_false,if_false,qah,qaV,qad,qaU,qaJ,decide_true,decide_false,zak,qaa,cond_false,zab,zaa,qab,qam]
   cases r<;>rfl
 ·simp -implicitDefEqProofs only[qc3,qlb,c62,h0,ne_eq,not_false_eq_true,if_true,qah,qaV,qad,qaU,decide_false,zam,qaa,cond_true,zab,zaa,qab]
end Go.AI.Tryz
namespace Go.AI.Tryz
theorem qvR (t:Tm)(l:List Tm):over t.c 4 [kv l]=some (t.with l).c:=by cases t;rfl
theorem qbW (t:Tm):PC CP 175 [t.v] (bl (qaH t)):=by
 refine PC.of2 (cf:=cf175) (np:=1) (args':=[t.v]) (by kernel_rfl) (by kernel_rfl) rfl (by first|rfl|(simp only[zan,qak];rfl)) (by first|rfl|(simp only[zal,qaj];rfl)) (fun lo=>by first|rfl|exact qaM lo _|exact qaR lo _|exact qce lo _ _) (Ev.mono (ev0) fun N _ E s=>⟨bl (qaH t),s,(s175_eq _ _ _ _).trans ?_,(by first|rfl|exact qaj _|exact qaN _|exact qb3 _ _)⟩)
 unfold s175 qaH
 simp only[qah,qba,qad,qaf,zab,zaa]
theorem qk4 (a b:Int):PC CP 176 [i64 a,i64 b] ((Tm.num a b).v):=by
 refine PC.of2 (cf:=cf176) (np:=2) (args':=[i64 a,i64 b]) (by kernel_rfl) (by kernel_rfl) rfl (by first|rfl|(simp only[zan,qak,qbZ];rfl)) (by first|rfl|(simp only[zal,qaj,qb0];rfl)) (fun lo=>by first|rfl|exact qaM lo _|exact qaR lo _|exact qce lo _ _) (Ev.mono (ev0) fun N _ E s=>⟨.agg [u8 1,i64 a,i64 b,i64 0,.sl 0 [] .full],s,(s176_eq _ _ _ _ _).trans ?_,(by first|rfl|exact qaj _|exact qaN _|exact qb3 _ _)⟩)
 have h:bd [u8 0,i64 0,i64 0,i64 0,.sl 0 [] .full] [(0,none,.c (u8 1)),(1,none,.c (i64 a)),(2,none,.c (i64 b))]=some (.agg [u8 1,i64 a,i64 b,i64 0,.sl 0 [] .full]):=rfl
 unfold s176
 simp only[h,z5c,z5o,z5l,zaa]
theorem qeH (t:Tm)(n0 m0:Int):PC CP 199 [t.v,i64 n0,i64 m0] (bl (qbJ t n0 m0)):=by
 refine PC.of2 (cf:=cf199) (np:=3) (args':=[t.v,i64 n0,i64 m0]) (by kernel_rfl) (by kernel_rfl) rfl (by first|rfl|(simp only[zan,qak];rfl)) (by first|rfl|(simp only[zal,qaj];rfl)) (fun lo=>by first|rfl|exact qaM lo _|exact qaR lo _|exact qce lo _ _) (Ev.mono (qbW t) fun N h E s=>⟨bl (qbJ t n0 m0),s,(s199_eq _ _ _ _ _ _).trans ?_,(by first|rfl|exact qaj _|exact qaN _|exact qb3 _ _)⟩)
 unfold s199 s199_0 qbJ
 simp only[h,qah,qaV,qbY,qd9,qad,qaf,qaa,qal,zab,zaa,qab]
 cases qaH t<;>cases decide (t.n=n0)<;>rfl
theorem qeI (t:Tm)(l:List Tm):PC CP 200 [t.v,kv l] ((t.with l).v):=by
 refine PC.of2 (cf:=cf200) (np:=2) (args':=[t.v,kv l]) (by kernel_rfl) (by kernel_rfl) rfl (by first|rfl|(simp only[zan,qak];rfl)) (by first|rfl|(simp only[zal,qaj];rfl)) (fun lo=>by first|rfl|exact qaM lo _|exact qaR lo _|exact qce lo _ _) (Ev.mono (ev0) fun N _ E s=>⟨(t.with l).v,s,(s200_eq _ _ _ _ _).trans ?_,(by first|rfl|exact qaj _|exact qaN _|exact qb3 _ _)⟩)
 have hc:zA.cells none (kv l)=some [kv l]:=rfl
 unfold s200
 simp only[hc,qvR,qah,qaV,qav,zaa]
theorem qqh (b:Bool):PC CP 207 [bl b] (i64 (cond b 1 0)):=by
 refine PC.of2 (cf:=cf207) (np:=1) (args':=[bl b]) (by kernel_rfl) (by kernel_rfl) rfl (by first|rfl|(simp only[zan,qak,qbZ];rfl)) (by first|rfl|(simp only[zal,qaj,qb0];rfl)) (fun lo=>by first|rfl|exact qaM lo _|exact qaR lo _|exact qce lo _ _) (Ev.mono (ev0) fun N _ E s=>⟨i64 (cond b 1 0),s,(s207_eq _ _ _ _).trans ?_,(by first|rfl|exact qaj _|exact qaN _|exact qb3 _ _)⟩)
 unfold s207
 cases b<;>rfl
theorem qcg (t:Tm):ldL t.c 0 (some 5)=some t.v:=by rw[Tm.v_eq];rfl
theorem qrG (n m:Int)(a b:Tm)(hn:n=1\/n=2\/n=3\/n=4\/n=5)(hm:1<=m/\m<=64)(ha:0<=a.n/\a.n<64)(hb:0<=b.n/\b.n<64):PC CP 198 [(Tm.op n m a b).v] ((Tm.num (qgA n m a.n b.n) (if n=1\/n=2\/n=3 then m else 2)).v):=by
 refine PC.of2 (cf:=cf198) (np:=1) (args':=[(Tm.op n m a b).v]) (by kernel_rfl) (by kernel_rfl) rfl (by first|rfl|(simp only[zan,qak,qbZ];rfl)) (by first|rfl|(simp only[zal,qaj,qb0];rfl)) (fun lo=>by first|rfl|exact qaM lo _|exact qaR lo _|exact qce lo _ _) (Ev.mono ((qk4 (qgA n m a.n b.n) (if n=1\/n=2\/n=3 then m else 2)).and ((qqh (decide (a.n=b.n))).and (qqh (decide (a.n<b.n))))) fun N ⟨h,h1,h2⟩ E s=>⟨(Tm.num (qgA n m a.n b.n) (if n=1\/n=2\/n=3 then m else 2)).v,s,(s198_eq _ _ _ _).trans ?_,(by first|rfl|exact qaj _|exact qaN _|exact qb3 _ _)⟩)
 obtain⟨i0,l0⟩:=qb6 (n:=N) (E:=E) (l:=[a,b]) (u:=a) rfl
 obtain⟨i1,l1⟩:=qdv (n:=N) (E:=E) (l:=[a,b]) (u:=b) rfl
 have f0:=fun s=>(kf (n:=N) (E:=E) (l:=[a,b]) (j:=0) (u:=a) rfl s).2.1
 have f1:=fun s=>(kf (n:=N) (E:=E) (l:=[a,b]) (j:=1) (u:=b) rfl s).2.1
 have hm0:m≠0:=by omega
 unfold s198
 rcases hn with rfl|rfl|rfl|rfl|rfl
 ·have e:qgA 1 m a.n b.n=(a.n+b.n).tmod m:=rfl
  rw[e] at h⊢
  have w:qbb .i64 (a.n+b.n)=a.n+b.n:=qbs (by omega) (by omega)
  simp only[true_or,if_true] at h⊢
  simp -implicitDefEqProofs only[i0,f0,i1,f1,w,qem _ _ _ hm0,h,qcg,qah,qbY,qd9,qbi,qav,qad,qaf,qaz,zaj,decide_true,decide_false,qaa,cond_true,cond_false,zab,zaa,qab,Tm.n_mk,Tm.m_mk,Tm.ks_mk]
 ·have e:qgA 2 m a.n b.n=(a.n-b.n+m).tmod m:=rfl
  rw[e] at h⊢
  have w:qbb .i64 (a.n-b.n)=a.n-b.n:=qbs (by omega) (by omega)
  have w2:qbb .i64 (a.n-b.n+m)=a.n-b.n+m:=qbs (by omega) (by omega)
  simp only[true_or,or_true,if_true] at h⊢
  simp -implicitDefEqProofs only[i0,f0,i1,f1,w,w2,qem _ _ _ hm0,h,qcg,qah,qbY,qd9,qbi,qav,qad,qaf,qaz,qa1,zaj,decide_true,decide_false,qaa,cond_true,cond_false,zab,zaa,qab,Tm.n_mk,Tm.m_mk,Tm.ks_mk]
 ·have e:qgA 3 m a.n b.n=(a.n*b.n).tmod m:=rfl
  rw[e] at h⊢
  have h64:a.n*b.n<=64*64:=Int.mul_le_mul (by omega) (by omega) (by omega) (by omega)
  have h0:0<=a.n*b.n:=Int.mul_nonneg ha.1 hb.1
  have w:qbb .i64 (a.n*b.n)=a.n*b.n:=qbs (by omega) (by omega)
  simp only[or_true,if_true] at h⊢
  simp -implicitDefEqProofs only[i0,f0,i1,f1,w,qo8,qem _ _ _ hm0,h,qcg,qah,qbY,qd9,qbi,qav,qad,qaf,zaj,decide_true,decide_false,qaa,cond_true,cond_false,zab,zaa,qab,Tm.n_mk,Tm.m_mk,Tm.ks_mk]
 ·have e:qgA 4 m a.n b.n=cond (decide (a.n=b.n)) 1 0:=rfl
  rw[e] at h⊢
  simp only[zaj,or_self,if_false] at h⊢
  simp -implicitDefEqProofs only[i0,f0,i1,f1,h,h1,qcg,qah,qbY,qd9,qbi,qav,qad,qaf,zaj,decide_true,decide_false,qaa,cond_true,cond_false,zab,zaa,qab,Tm.n_mk,Tm.m_mk,Tm.ks_mk]
 ·have e:qgA 5 m a.n b.n=cond (decide (a.n<b.n)) 1 0:=rfl
  rw[e] at h⊢
  simp only[zaj,or_self,if_false] at h⊢
  simp -implicitDefEqProofs only[i0,f0,i1,f1,h,h2,qcg,qah,qbY,qd9,qbi,qav,qad,qaf,qaq,zaj,decide_false,qaa,cond_false,zab,zaa,qab,Tm.n_mk,Tm.m_mk,Tm.ks_mk]
end Go.AI.Tryz
namespace Go.AI.Tryz
abbrev zT:zA:=.agg [u8 0,i64 0,i64 0,i64 0,.sl 0 [] .full]
def qiC:Option Tm->zA
 |some t=> .tuple [t.v,bl true]
 |none=> .tuple [zT,bl false]
theorem qck (o:Option Tm):qaF (qiC o)=qcN o:=by
 cases o with
 |none=>rfl
 |some t=>exact qaN (some t)
theorem qa3 (t:Tm):qiC (some t)=.tuple [t.v,bl true]:=rfl
theorem qaA:qiC none=.tuple [zT,bl false]:=rfl
theorem bdZ:bd [u8 0,i64 0,i64 0,i64 0,.sl 0 [] .full] []=some zT:=rfl
theorem qb4 (t:Tm):cut t.c 4 1=some [kv t.ks]:=rfl
theorem qf3 (t:Tm)(l:List Tm)(tk:Tk){n':Nat}(h:∀E s,cl (qag CP n' E) 200 [t.v,kv l] s=some ((t.with l).v,s))(E:qaS)(s:ASt):cl (qag CP n' E) 200 [t.v,.sl l.length (Tm.cellsL l) tk] s=some ((t.with l).v,s):=by
 rw[qfx (cf:=cf200) (by kernel_rfl) (by kernel_rfl)]
 simp only[zal,zbm,qaj]
 exact h E s
theorem qrH {x:Sc}{n m:Int}{a b:Tm}(h:Nd x (.op n m a b)):(1<=m/\m<=64)/\(n=1\/n=2\/n=3\/n=4\/n=5)/\szF x a=(m,true)/\szF x b=(m,true)/\(szF x (.op n m a b)).1=if n=1\/n=2\/n=3 then m else 2:=by
 have hs:=h.gd.sz (by simp[Tm.k]) (by simp[Tm.k])
 rw[qeK] at hs⊢
 split at hs
 ·rename_i h1
  have hin:qbc m=true/\is2 (szF x a) m=true/\is2 (szF x b) m=true:=by simpa only[zag] using hs
  obtain⟨g1,g2,g3⟩:=hin
  rw[is2_iff] at g2 g3
  rw[if_pos h1]
  exact⟨isSize_iff.1 g1,by omega,g2,g3,by rw[if_pos h1]⟩
 ·rename_i h1
  split at hs
  ·rename_i h2
   have hin:qbc m=true/\is2 (szF x a) m=true/\is2 (szF x b) m=true:=by simpa only[zag] using hs
   obtain⟨g1,g2,g3⟩:=hin
   rw[is2_iff] at g2 g3
   rw[if_neg h1,if_pos h2]
   exact⟨isSize_iff.1 g1,by omega,g2,g3,by rw[if_neg h1]⟩
  ·cases hs
theorem qvS {x:Sc}{t:Tm}{m:Int}(h:szF x t=(m,true))(hn:qaH t=true):0<=t.n/\t.n<64/\t.m=m:=by
 have:=qdO (x:=x) (by rw[h]) hn
 rw[h] at this
 simp only at this
 omega
def qvT (r:Int)(x:Sc)(t:Tm):Option Tm:=if r=1 then opR x t else if r=4 then qcU t else if r=5 then qhX t else none
theorem qvU {x:Sc}{n m:Int}{a b:Tm}(h:Nd x (.op n m a b))(r:Int):PC CP 174 [u8 r,(Tm.op n m a b).v] (qcN (qvT r x (.op n m a b))):=by
 obtain⟨hm,hn,ha,hb,hsz⟩:=qrH h
 have ra:=fun q=>qvS ha q
 have rb:=fun q=>qvS hb q
 have e1:opR x (.op n m a b)=if qaH a&&qaH b then some (.num (qgA n m a.n b.n) (if n=1\/n=2\/n=3 then m else 2)) else none:=by rw[<-hsz];rfl
 have e4:qcU (.op n m a b)=if(qjE n).isSome&&(!qaH a&&(qaH b&&decide (b.n=(qjE n).getD 0))) then some a else none:=rfl
 have e5:qhX (.op n m a b)=if(decide (n=1)||(decide (n=3)||decide (n=4)))&&(qaH a&&!qaH b) then some (.op n m b a) else none:=rfl
 have er:Ev fun N=>qaH a=true/\qaH b=true->∀E s,cl (qag CP N E) 198 [(Tm.op n m a b).v] s=some ((Tm.num (qgA n m a.n b.n) (if n=1\/n=2\/n=3 then m else 2)).v,s):=
  Ev.imp fun q=>qrG n m a b hn hm ⟨(ra q.1).1,(ra q.1).2.1⟩ ⟨(rb q.2).1,(rb q.2).2.1⟩
 refine PC.of2 (cf:=cf174) (np:=2) (args':=[u8 r,(Tm.op n m a b).v]) (by kernel_rfl) (by kernel_rfl) rfl (by simp only[zan,qak];rfl) (by simp only[zal,qaj];rfl) (fun lo=>qaR lo _)
  ((((qbW a).and (qbW b)).and (er.and (((qeH b 0 m).and (qeH b 1 m)).and (qeI (.op n m a b) [b,a])))).mono fun N ⟨⟨c1,c2⟩,c3,⟨c4,c5⟩,c6⟩ E s=>⟨qiC (qvT r x (.op n m a b)),s,(s174_eq _ _ _ _ _).trans ?_,qck _⟩)
 obtain⟨i0,l0⟩:=qb6 (n:=N) (E:=E) (l:=[a,b]) (u:=a) rfl
 obtain⟨i1,l1⟩:=qdv (n:=N) (E:=E) (l:=[a,b]) (u:=b) rfl
 have c6:=qf3 (.op n m a b) [b,a] .full c6 E
 have e6:(Tm.op n m a b).with [b,a]=.op n m b a:=rfl
 rw[e6] at c6
 simp only[zar,zaC,zaH,Nat.reduceAdd] at c6
 have hmb:qaH b=true->b.m=m:=fun q=>(rb q).2.2
 unfold s174 s174_2 s174_1 s174_0 qvT
 rw[e1,e4,e5]
 by_cases r1:r=1
 ·by_cases qa:qaH a=true
  ·by_cases qb:qaH b=true
   ·have c3:=c3 ⟨qa,qb⟩
    simp -implicitDefEqProofs only[i0,l0,i1,l1,qb4,qay,zat,qcg,r1,c1,c2,c3,qa,qb,qa3,if_true,qah,qbi,qav,qad,qaf,zaj,decide_true,decide_false,zak,qaa,cond_true,cond_false,qal,zab,zaa,qab,cnd,Tm.ks_mk]
   ·simp only[zaS] at qb
    simp -implicitDefEqProofs only[i0,l0,i1,l1,qb4,qay,zat,zaT,qcg,r1,c1,c2,qa,qb,qaA,bdZ,z5c,z5o,z5l,if_true,if_false,zai,qah,qbi,qav,qad,qaf,zaj,decide_true,decide_false,zak,zam,qaa,cond_true,cond_false,qal,zab,zaa,qab,cnd,Tm.ks_mk]
  ·simp only[zaS] at qa
   simp -implicitDefEqProofs only[i0,l0,i1,l1,qb4,qay,zat,zau,qcg,r1,c1,c2,qa,qaA,bdZ,z5c,z5o,z5l,if_true,if_false,zai,qah,qbi,qav,qad,qaf,zaj,decide_true,decide_false,zam,qaa,cond_true,cond_false,qal,zab,zaa,qab,cnd,Tm.ks_mk]
 ·by_cases r4:r=4
  ·by_cases qa:qaH a=true
   ·simp -implicitDefEqProofs only[i0,l0,i1,l1,qb4,qay,zat,zaT,zau,qcg,r4,c1,qa,qaA,bdZ,z5c,z5o,z5l,if_true,if_false,zai,qah,qbY,qd9,qbi,qav,qad,qaf,zaj,decide_true,decide_false,zak,qaa,cond_true,cond_false,qal,zab,zaa,qab,qam,cnd,Tm.n_mk,Tm.m_mk,Tm.ks_mk]
   ·simp only[zaS] at qa
    by_cases qb:qaH b=true
    ·have t0:qbJ b 0 m=decide (b.n=0):=by simp[qbJ,qb,hmb qb]
     have t1:qbJ b 1 m=decide (b.n=1):=by simp[qbJ,qb,hmb qb]
     have u:¬((0:Int)=1):=by decide
     rw[t0] at c4
     rw[t1] at c5
     rcases hn with rfl|rfl|rfl|rfl|rfl<;>by_cases v0:b.n=0<;>by_cases v1:b.n=1<;>first|(exfalso;omega)|simp -implicitDefEqProofs only[i0,l0,i1,l1,qb4,qay,zat,zaT,za7,qcg,r4,c1,c4,c5,qa,qb,v0,v1,u,qjE,qaA,qa3,bdZ,z5c,z5o,z5l,if_true,if_false,zai,qah,qbY,qd9,qbi,qav,qad,qaf,zaj,decide_true,decide_false,zak,zam,qaa,cond_true,cond_false,qal,zab,zaa,qab,qam,cnd,Tm.n_mk,Tm.m_mk,Tm.ks_mk,zaB,zaJ,zbf,zaD]
    ·simp only[zaS] at qb
     have t0:qbJ b 0 m=false:=by simp[qbJ,qb]
     have t1:qbJ b 1 m=false:=by simp[qbJ,qb]
     rw[t0] at c4
     rw[t1] at c5
     simp -implicitDefEqProofs only[i0,l0,i1,l1,qb4,qay,zat,zaT,zau,qcg,r4,c1,c4,c5,qa,qb,qaA,bdZ,z5c,z5o,z5l,if_true,if_false,zai,qah,qbY,qd9,qbi,qav,qad,qaf,zaj,decide_true,decide_false,zam,qaa,cond_true,cond_false,qal,zab,zaa,qab,qam,cnd,Tm.n_mk,Tm.m_mk,Tm.ks_mk]
  ·by_cases r5:r=5
   ·by_cases qa:qaH a=true
    ·by_cases qb:qaH b=true
     ·simp -implicitDefEqProofs only[i0,l0,i1,l1,qb4,qay,zat,zaT,zau,zay,qcg,r5,c1,c2,qa,qb,qaA,bdZ,z5c,z5o,z5l,if_true,if_false,zai,qah,qbY,qbi,qav,qad,qaf,zaj,decide_true,decide_false,zak,qaa,cond_true,cond_false,qal,zab,zaa,qab,qam,cnd,Tm.n_mk,Tm.ks_mk]
     ·simp only[zaS] at qb
      rcases hn with rfl|rfl|rfl|rfl|rfl<;>simp -implicitDefEqProofs only[i0,l0,i1,l1,qb4,qay,zat,zaT,zau,Bool.or_true,zbk,za6,qcg,qrl,r5,c1,c2,c6,qa,qb,qaA,qa3,bdZ,z5c,z5o,z5l,if_true,if_false,zai,qah,qbY,qbi,qav,qad,qaf,zaj,decide_true,decide_false,zak,zam,qaa,cond_true,cond_false,qal,zab,zaa,qab,qam,cnd,Tm.n_mk,Tm.ks_mk]
    ·simp only[zaS] at qa
     simp -implicitDefEqProofs only[i0,l0,i1,l1,qb4,qay,zat,zaT,zau,zay,qcg,r5,c1,c2,qa,qaA,bdZ,z5c,z5o,z5l,if_true,if_false,zai,qah,qbY,qbi,qav,qad,qaf,zaj,decide_true,decide_false,zam,qaa,cond_true,cond_false,qal,zab,zaa,qab,qam,cnd,Tm.n_mk,Tm.ks_mk]
   ·simp -implicitDefEqProofs only[i0,l0,i1,l1,qb4,qay,zat,r1,r4,r5,qaA,bdZ,z5c,z5o,z5l,if_false,qah,qbi,qav,qad,qaf,decide_false,qaa,cond_false,qal,zab,zaa,qab,cnd,Tm.ks_mk]
end Go.AI.Tryz
namespace Go.AI.Tryz
structure Rd (x:Sc)(t:Tm):Prop where
 nd:Nd x t
 g:ScG x
 top:x.top<=Int.ofNat x.ids.length
 lab:x.size+t.size<=600
 len:x.ids.length+t.size<=900000
theorem qtX (x:Sc)(t:Tm)(j:Nat):(x.kid t j).ids.length<=x.ids.length+1/\(x.kid t j).size<=x.size+1:=by
 unfold Sc.kid
 split
 ·simp only[Sc.with,zax,zar,zaC];omega
 ·split
  ·simp only[Sc.with,zax,zar,zaC];omega
  ·split
   ·exact⟨Nat.le_succ _,Int.le_refl _⟩
   ·omega
theorem Rd.kid {x:Sc}{t u:Tm}{j:Nat}(h:Rd x t)(hu:t.ks[j]? =some u):Rd (x.kid t j) u:=by
 have hlt:=qa5 (zaQ hu)
 have hn:=h.nd.kid hu
 have hk:=qtX x t j
 have hl:=h.lab
 have hl2:=h.len
 refine⟨hn,?_,qqf h.top,by omega,by omega⟩
 have hsc:=hn.sc
 have hw:∀y:Se,y.ty.ps=[]->y.arg=false\/y.ty.res.cell=false->ScOk (x.with y)->ScG (x.with y):=fun y h1 h2 h3=>by
  refine⟨h3,?_,?_⟩<;>(intro e he;simp only[Sc.with,zaL,zaV] at he;rcases he with he|rfl)
  ·exact h.g.cell e he
  ·intro hc
   rcases h2 with h2|h2
   ·exact⟨h1,h2⟩
   ·rw[h2] at hc;cases hc
  ·exact h.g.ps e he
  ·intro p hp;rw[h1] at hp;cases hp
 revert hsc
 unfold Sc.kid
 split
 ·exact hw _ rfl (.inl rfl)
 ·split
  ·exact hw _ rfl (.inr rfl)
  ·split
   ·exact fun h3=>⟨h3,h.g.cell,h.g.ps⟩
   ·exact fun h3=>⟨h3,h.g.cell,h.g.ps⟩
theorem Rd.sub {x:Sc}{t u:Tm}{j:Nat}(h:Rd x t)(hu:t.ks[j]? =some u)(hk:t.k≠10/\t.k≠11/\t.k≠17):Rd x u:=by
 have:=h.kid hu
 unfold Sc.kid at this
 rw[if_neg hk.1,if_neg (fun q=>hk.2.2 q.1),if_neg (fun q=>hk.2.1 q.1)] at this
 exact this
theorem Rd.psize {x:Sc}{u:Tm}(h:Rd x u)(hk:u.k≠16/\u.k≠17):PC CP 123 [pv x,u.v] (i64 (szF x u).1):=qtW x u (by have:=h.lab;omega) h.nd h.g h.top hk h.len
theorem qhz (a b:zA):ldL [a,b] 0 (some 2)=some (.agg [a,b]):=rfl
theorem qqi {x:Sc}{c a b:Tm}(h:Nd x (.ite c a b)):(szF x c).2=true/\(szF x a).2=true/\(szF x b).2=true:=by
 have hs:=h.gd.sz (by simp[Tm.k]) (by simp[Tm.k])
 rw[qcx] at hs
 have hin:((szF x a).2=true/\is2 (szF x b) (szF x a).1=true)/\(szF x c).2=true:=by simpa only[zag] using hs
 rw[is2_iff] at hin
 exact⟨hin.2,hin.1.1,by rw[hin.1.2]⟩
def qwu (r:Int)(x:Sc)(t:Tm):Option Tm:=if r=6 then ifR t else if r=7 then qhY t else if r=8 then qnO t else if r=9 then qhZ x t else none
theorem qxv {x:Sc}{t:Tm}{r:Int}{o:Option Tm}(h:Ev fun N=>∀E s,∃v,s177 (qag CP N E) N (pv x) (u8 r) t.v s=some (v,s)/\qaF v=qcN o):PC CP 177 [pv x,u8 r,t.v] (qcN o):=
 PC.of2 (cf:=cf177) (np:=3) (args':=[pv x,u8 r,t.v]) (by kernel_rfl) (by kernel_rfl) rfl (by simp only[zan,qak];rfl) (by simp only[zal,qaj];rfl) (fun lo=>qaR lo _)
  (h.mono fun N h E s=>by
   obtain⟨v,h1,h2⟩:=h E s
   exact⟨v,s,(s177_eq _ _ _ _ _ _).trans h1,h2⟩)
theorem qvV {x:Sc}{c a b:Tm}(h:Rd x (.ite c a b))(r:Int):PC CP 177 [pv x,u8 r,(Tm.ite c a b).v] (qcN (qwu r x (.ite c a b))):=by
 obtain⟨hc,ha,hb⟩:=qqi h.nd
 refine qxv ?_
 unfold qwu
 by_cases r6:r=6
 ·rw[if_pos r6]
  have e:ifR (.ite c a b)=if qaH c then some (if c.n=0 then b else a) else none:=rfl
  rw[e]
  refine(qbW c).mono fun N c1 E s=>⟨qiC _,?_,qck _⟩
  obtain⟨i0,l0⟩:=qb6 (n:=N) (E:=E) (l:=[c,a,b]) (u:=c) rfl
  obtain⟨i1,l1⟩:=qdv (n:=N) (E:=E) (l:=[c,a,b]) (u:=a) rfl
  obtain⟨i2,l2⟩:=qnI (n:=N) (E:=E) (l:=[c,a,b]) (u:=b) rfl
  unfold s177 s177_4 s177_3 s177_2 s177_1 s177_0
  by_cases qc:qaH c=true
  ·by_cases q0:c.n=0<;>simp -implicitDefEqProofs only[pvc,i0,l0,i1,l1,i2,l2,qb4,qay,zat,qcg,r6,c1,qc,q0,qa3,if_true,if_false,qah,qbY,qbi,qav,qad,qaf,qaU,zaj,decide_true,decide_false,zak,zam,qaa,cond_true,cond_false,qal,zab,zaa,qab,cnd,Tm.ks_mk]
  ·simp only[zaS] at qc
   simp -implicitDefEqProofs only[pvc,i0,l0,i1,l1,i2,l2,qb4,qay,zat,qcg,r6,c1,qc,bdZ,z5c,z5o,z5l,qaA,if_false,zai,qah,qbY,qbi,qav,qad,qaf,qaU,zaj,decide_true,decide_false,qaa,cond_true,cond_false,qal,zab,zaa,qab,cnd,Tm.ks_mk]
 rw[if_neg r6]
 by_cases r7:r=7
 ·rw[if_pos r7]
  have e:qhY (.ite c a b)=if !qaH c&&decide (a=b) then some (.seq (.az 1 c) a) else none:=rfl
  rw[e]
  refine((qbW c).and (qo9 a b (h.nd.ok.kids a (by simp[Tm.ks])))).mono fun N ⟨c1,c2⟩ E s=>?_
  obtain⟨i0,l0⟩:=qb6 (n:=N) (E:=E) (l:=[c,a,b]) (u:=c) rfl
  obtain⟨i1,l1⟩:=qdv (n:=N) (E:=E) (l:=[c,a,b]) (u:=a) rfl
  obtain⟨i2,l2⟩:=qnI (n:=N) (E:=E) (l:=[c,a,b]) (u:=b) rfl
  have hb1:bd [u8 0,i64 0,i64 0,i64 0,.sl 0 [] .full] [(0,none,.c (u8 6)),(1,none,.c (i64 1)),(4,none,.c (.sl 1 (Tm.cellsL [c]) .full))]=some (.agg [u8 6,i64 1,i64 0,i64 0,.sl 1 (Tm.cellsL [c]) .full]):=rfl
  have hms:ms 2 [.int .u8 0,.int .i64 0,.int .i64 0,.int .i64 0,.sl 0 [],.int .u8 0,.int .i64 0,.int .i64 0,.int .i64 0,.sl 0 []] [(0,some 5,.c (.agg [u8 6,i64 1,i64 0,i64 0,.sl 1 (Tm.cellsL [c]) .full])),(5,some 5,.c a.v)]=some (.sl 2 (Tm.cellsL [.az 1 c,a]) .full):=by cases a;rfl
  have hb2:bd [u8 0,i64 0,i64 0,i64 0,.sl 0 [] .full] [(0,none,.c (u8 7)),(4,none,.c (.sl 2 (Tm.cellsL [.az 1 c,a]) .full))]=some (.agg [u8 7,i64 0,i64 0,i64 0,.sl 2 (Tm.cellsL [.az 1 c,a]) .full]):=rfl
  unfold s177 s177_4 s177_3 s177_2 s177_1 s177_0
  by_cases qc:qaH c=true
  ·refine⟨qiC _,?_,qck _⟩
   simp -implicitDefEqProofs only[pvc,i0,l0,i1,l1,i2,l2,qb4,qay,zat,zau,qcg,r7,c1,qc,bdZ,z5c,z5o,z5l,qaA,if_false,zai,qah,qbi,qav,qad,qaf,zaj,decide_true,decide_false,zak,qaa,cond_true,cond_false,qal,zab,zaa,qab,qam,cnd,Tm.ks_mk]
  ·simp only[zaS] at qc
   by_cases q:a=b
   ·refine⟨.tuple [.agg [u8 7,i64 0,i64 0,i64 0,.sl 2 (Tm.cellsL [.az 1 c,a]) .full],bl true],?_,?_⟩
    ·rw[decide_eq_true q] at c2
     simp -implicitDefEqProofs only[pvc,i0,l0,i1,l1,i2,l2,qb4,qay,zat,qcg,qps,hb1,hms,hb2,r7,c1,c2,qc,z5c,z5o,z5l,qah,qbi,qav,qad,qaf,zaj,decide_true,decide_false,zam,qaa,cond_true,cond_false,qal,zab,zaa,qab,qam,cnd,Tm.ks_mk]
    ·rw[qc,decide_eq_true q]
     simp only[zam,zat,if_true]
     rw[qcN,zaB,Tm.v_eq]
     rfl
   ·refine⟨qiC _,?_,qck _⟩
    rw[decide_eq_false q] at c2⊢
    simp -implicitDefEqProofs only[pvc,i0,l0,i1,l1,i2,l2,qb4,qay,zat,zaT,qcg,r7,c1,c2,qc,bdZ,z5c,z5o,z5l,qaA,if_false,zai,qah,qbi,qav,qad,qaf,zaj,decide_true,decide_false,zam,qaa,cond_true,cond_false,qal,zab,zaa,qab,qam,cnd,Tm.ks_mk]
 rw[if_neg r7]
 by_cases r8:r=8
 ·rw[if_pos r8]
  by_cases hk:c.k=8
  ·cases qdf hc with
   |ite p q w=>
    have e:qnO (.ite (.ite p q w) a b)=if qbJ q 0 2&&qbJ w 1 2 then some (.ite p b a) else none:=rfl
    rw[e]
    refine(((qbW (.ite p q w)).and (qeI (.ite (.ite p q w) a b) [p,b,a])).and ((qeH q 0 2).and (qeH w 1 2))).mono fun N ⟨⟨c1,c2⟩,c3,c4⟩ E s=>⟨qiC _,?_,qck _⟩
    obtain⟨i0,l0⟩:=qb6 (n:=N) (E:=E) (l:=[.ite p q w,a,b]) (u:=.ite p q w) rfl
    obtain⟨i1,l1⟩:=qdv (n:=N) (E:=E) (l:=[.ite p q w,a,b]) (u:=a) rfl
    obtain⟨i2,l2⟩:=qnI (n:=N) (E:=E) (l:=[.ite p q w,a,b]) (u:=b) rfl
    obtain⟨j0,m0⟩:=qb6 (n:=N) (E:=E) (l:=[p,q,w]) (u:=p) rfl
    obtain⟨j1,m1⟩:=qdv (n:=N) (E:=E) (l:=[p,q,w]) (u:=q) rfl
    obtain⟨j2,m2⟩:=qnI (n:=N) (E:=E) (l:=[p,q,w]) (u:=w) rfl
    have c2:=qf3 _ _ .full c2 E
    have e6:(Tm.ite (.ite p q w) a b).with [p,b,a]=.ite p b a:=rfl
    rw[e6] at c2
    simp only[zar,zaC,zaH,Nat.reduceAdd] at c2
    unfold s177 s177_4 s177_3 s177_2 s177_1 s177_0
    by_cases q1:qbJ q 0 2=true
    ·by_cases q2:qbJ w 1 2=true
     ·simp -implicitDefEqProofs only[pvc,i0,l0,i1,l1,i2,l2,j0,m0,j1,m1,j2,m2,qxE,c2,qb4,qay,zat,qcg,r8,c3,c4,q1,q2,qa3,if_true,qah,qba,qbi,qav,qad,qaf,zaj,decide_true,decide_false,qaa,cond_true,cond_false,qal,zab,zaa,qab,cnd,Tm.k_mk,Tm.ks_mk]
     ·simp only[zaS] at q2
      simp -implicitDefEqProofs only[pvc,i0,l0,i1,l1,i2,l2,j0,m0,j1,m1,j2,m2,qb4,qay,zat,zaT,qcg,r8,c3,c4,q1,q2,bdZ,z5c,z5o,z5l,qaA,if_false,zai,qah,qba,qbi,qav,qad,qaf,zaj,decide_true,decide_false,qaa,cond_true,cond_false,qal,zab,zaa,qab,cnd,Tm.k_mk,Tm.ks_mk]
    ·simp only[zaS] at q1
     simp -implicitDefEqProofs only[pvc,i0,l0,i1,l1,i2,l2,j0,m0,j1,m1,j2,m2,qb4,qay,zat,zau,qcg,r8,c3,c4,q1,bdZ,z5c,z5o,z5l,qaA,if_false,zai,qah,qba,qbi,qav,qad,qaf,zaj,decide_true,decide_false,qaa,cond_true,cond_false,qal,zab,zaa,qab,cnd,Tm.k_mk,Tm.ks_mk]
   |_=>simp only[Tm.k_mk] at hk;omega
  ·have e:qnO (.ite c a b)=none:=by
    show(if c.k=8 then _ else none)=none
    rw[if_neg hk]
   rw[e]
   refine(qbW c).mono fun N c1 E s=>⟨qiC _,?_,qck _⟩
   obtain⟨i0,l0⟩:=qb6 (n:=N) (E:=E) (l:=[c,a,b]) (u:=c) rfl
   obtain⟨i1,l1⟩:=qdv (n:=N) (E:=E) (l:=[c,a,b]) (u:=a) rfl
   obtain⟨i2,l2⟩:=qnI (n:=N) (E:=E) (l:=[c,a,b]) (u:=b) rfl
   unfold s177 s177_4 s177_3 s177_2 s177_1 s177_0
   simp -implicitDefEqProofs only[pvc,i0,l0,i1,l1,i2,l2,qb4,qay,zat,qcg,r8,hk,bdZ,z5c,z5o,z5l,qaA,qah,qba,qbi,qav,qad,qaf,zaj,decide_true,decide_false,qaa,cond_true,cond_false,qal,zab,zaa,qab,cnd,Tm.ks_mk]
 rw[if_neg r8]
 by_cases r9:r=9
 ·rw[if_pos r9]
  have e:qhZ x (.ite c a b)=if qbJ a 1 2&&(qbJ b 0 2&&(!qaH c&&decide ((szF x c).1=2))) then some c else none:=rfl
  rw[e]
  refine(((qbW c).and ((h.sub (j:=0) (u:=c) rfl (by simp[Tm.k])).psize (qum hc))).and ((qeH a 1 2).and (qeH b 0 2))).mono fun N ⟨⟨c1,c2⟩,c3,c4⟩ E s=>⟨qiC _,?_,qck _⟩
  obtain⟨i0,l0⟩:=qb6 (n:=N) (E:=E) (l:=[c,a,b]) (u:=c) rfl
  obtain⟨i1,l1⟩:=qdv (n:=N) (E:=E) (l:=[c,a,b]) (u:=a) rfl
  obtain⟨i2,l2⟩:=qnI (n:=N) (E:=E) (l:=[c,a,b]) (u:=b) rfl
  unfold s177 s177_4 s177_3 s177_2 s177_1 s177_0
  generalize (szF x c).1=z at c2⊢
  by_cases qc:qaH c=true
  ·simp -implicitDefEqProofs only[pvc,i0,l0,i1,l1,i2,l2,qb4,qay,zat,zaT,zau,qcg,r9,c1,qc,bdZ,z5c,z5o,z5l,qaA,if_false,zai,qah,qbi,qav,qad,qaf,zaj,decide_true,decide_false,zak,qaa,cond_true,cond_false,qal,zab,zaa,qab,qam,cnd,Tm.ks_mk]
  ·simp only[zaS] at qc
   by_cases qz:z=2<;>by_cases q1:qbJ a 1 2=true<;>by_cases q2:qbJ b 0 2=true<;>(try simp only[zaS] at q1)<;>(try simp only[zaS] at q2)<;>
    simp -implicitDefEqProofs only[pvc,qhz,i0,l0,i1,l1,i2,l2,qb4,qay,zat,zaT,zau,qcg,r9,c1,c2,c3,c4,qc,qz,q1,q2,bdZ,z5c,z5o,z5l,qa3,qaA,if_true,if_false,zai,qah,qbi,qav,qad,qaf,zaj,decide_true,decide_false,zam,qaa,cond_true,cond_false,qal,zab,zaa,qab,qam,cnd,Tm.ks_mk]
 rw[if_neg r9]
 refine ev0.mono fun N _ E s=>⟨qiC _,?_,qck _⟩
 obtain⟨i0,l0⟩:=qb6 (n:=N) (E:=E) (l:=[c,a,b]) (u:=c) rfl
 obtain⟨i1,l1⟩:=qdv (n:=N) (E:=E) (l:=[c,a,b]) (u:=a) rfl
 obtain⟨i2,l2⟩:=qnI (n:=N) (E:=E) (l:=[c,a,b]) (u:=b) rfl
 unfold s177 s177_4 s177_3 s177_2 s177_1 s177_0
 simp -implicitDefEqProofs only[pvc,i0,l0,i1,l1,i2,l2,qb4,qay,zat,r6,r7,r8,r9,bdZ,z5c,z5o,z5l,qaA,qah,qbi,qav,qad,qaf,decide_false,qaa,cond_false,qal,zab,zaa,qab,cnd,Tm.ks_mk]
end Go.AI.Tryz
namespace Go.AI.Tryz
theorem qqj {x:Sc}{a b:Tm}(h:Nd x (.seq a b)):(szF x a).2=true/\(szF x b).2=true/\(szF x (.seq a b)).1=(szF x b).1:=by
 have hs:=h.gd.sz (by simp[Tm.k]) (by simp[Tm.k])
 rw[qb1] at hs⊢
 have hin:(szF x b).2=true/\is2 (szF x a) 1=true:=by simpa only[zag] using hs
 rw[is2_iff] at hin
 exact⟨by rw[hin.2],hin.1,rfl⟩
def qrI (r:Int)(x:Sc)(t:Tm):Option Tm:=if r=10 then qh0 t else if r=11 then qfV t else if r=12 then qfW x t else if r=17 then qdP x t else none
theorem qxw {x:Sc}{t:Tm}{r:Int}{o:Option Tm}(h:Ev fun N=>∀E s,s178 (qag CP N E) N (pv x) (u8 r) t.v s=some (qiC o,s)):PC CP 178 [pv x,u8 r,t.v] (qcN o):=
 PC.of2 (cf:=cf178) (np:=3) (args':=[pv x,u8 r,t.v]) (by kernel_rfl) (by kernel_rfl) rfl (by simp only[zan,qak];rfl) (by simp only[zal,qaj];rfl) (fun lo=>qaR lo _)
  (h.mono fun N h E s=>⟨qiC o,s,(s178_eq _ _ _ _ _ _).trans (h E s),qck _⟩)
theorem qtY {x:Sc}{a b:Tm}(h:Rd x (.seq a b))(r:Int):PC CP 178 [pv x,u8 r,(Tm.seq a b).v] (qcN (qrI r x (.seq a b))):=by
 obtain⟨ha,hb,hsz⟩:=qqj h.nd
 have e17:∀u w:Tm,(Tm.seq a b).with [u,w]=.seq u w:=fun _ _=>rfl
 refine qxw ?_
 unfold qrI
 by_cases r10:r=10
 ·rw[if_pos r10]
  have e:qh0 (.seq a b)=if qaH a then some b else none:=rfl
  rw[e]
  refine(qbW a).mono fun N c1 E s=>?_
  obtain⟨i0,l0⟩:=qb6 (n:=N) (E:=E) (l:=[a,b]) (u:=a) rfl
  obtain⟨i1,l1⟩:=qdv (n:=N) (E:=E) (l:=[a,b]) (u:=b) rfl
  unfold s178 s178_3 s178_2 s178_1 s178_0
  by_cases qc:qaH a=true
  ·simp -implicitDefEqProofs only[pvc,i0,l0,i1,l1,qb4,qay,zat,qcg,r10,c1,qc,qa3,if_true,qah,qbi,qav,qad,qaf,zaj,decide_true,decide_false,qaa,cond_true,cond_false,qal,zab,zaa,qab,cnd,Tm.ks_mk]
  ·simp only[zaS] at qc
   simp -implicitDefEqProofs only[pvc,i0,l0,i1,l1,qb4,qay,zat,qcg,r10,c1,qc,bdZ,z5c,z5o,z5l,qaA,if_false,zai,qah,qbi,qav,qad,qaf,zaj,decide_true,decide_false,qaa,cond_true,cond_false,qal,zab,zaa,qab,cnd,Tm.ks_mk]
 rw[if_neg r10]
 by_cases r11:r=11
 ·rw[if_pos r11]
  by_cases hk:a.k=7
  ·cases qdf ha with
   |seq p q=>
    have e:qfV (.seq (.seq p q) b)=some (.seq p (.seq q b)):=rfl
    rw[e]
    refine((qeI (.seq (.seq p q) b) [q,b]).and (qeI (.seq (.seq p q) b) [p,.seq q b])).mono fun N ⟨c1,c2⟩ E s=>?_
    obtain⟨i0,l0⟩:=qb6 (n:=N) (E:=E) (l:=[.seq p q,b]) (u:=.seq p q) rfl
    obtain⟨i1,l1⟩:=qdv (n:=N) (E:=E) (l:=[.seq p q,b]) (u:=b) rfl
    obtain⟨j0,m0⟩:=qb6 (n:=N) (E:=E) (l:=[p,q]) (u:=p) rfl
    obtain⟨j1,m1⟩:=qdv (n:=N) (E:=E) (l:=[p,q]) (u:=q) rfl
    have c1:=qf3 _ _ .full c1 E
    have c2:=qf3 _ _ .full c2 E
    rw[e17] at c1 c2
    simp only[zar,zaC,zaH,Nat.reduceAdd] at c1 c2
    unfold s178 s178_3 s178_2 s178_1 s178_0
    simp -implicitDefEqProofs only[pvc,i0,l0,i1,l1,j0,m0,j1,m1,qrl,c1,c2,qb4,qay,zat,qcg,r11,qa3,qah,qba,qbi,qav,qad,qaf,zaj,decide_true,decide_false,qaa,cond_true,cond_false,qal,zab,zaa,qab,cnd,Tm.k_mk,Tm.ks_mk]
   |_=>simp only[Tm.k_mk] at hk;omega
  ·have e:qfV (.seq a b)=none:=by
    show(if a.k=7 then _ else none)=none
    rw[if_neg hk]
   rw[e]
   refine(qbW a).mono fun N c1 E s=>?_
   obtain⟨i0,l0⟩:=qb6 (n:=N) (E:=E) (l:=[a,b]) (u:=a) rfl
   obtain⟨i1,l1⟩:=qdv (n:=N) (E:=E) (l:=[a,b]) (u:=b) rfl
   unfold s178 s178_3 s178_2 s178_1 s178_0
   simp -implicitDefEqProofs only[pvc,i0,l0,i1,l1,qb4,qay,zat,qcg,r11,hk,bdZ,z5c,z5o,z5l,qaA,qah,qba,qbi,qav,qad,qaf,zaj,decide_true,decide_false,qaa,cond_true,cond_false,qal,zab,zaa,qab,cnd,Tm.ks_mk]
 rw[if_neg r11]
 by_cases r12:r=12
 ·rw[if_pos r12]
  have e:qfW x (.seq a b)=if a.k=12\/a.k=14 then(if !decide (b=.num 0 (szF x b).1) then some (.seq a (.num 0 (szF x b).1)) else none) else none:=by rw[<-hsz];rfl
  rw[e]
  have hbz:decide (b=.num 0 (szF x b).1)=(qaH b&&decide (b.n=0)):=by
   cases qb:qaH b
   ·refine decide_eq_false fun q=>?_
    rw[q] at qb
    cases qb
   ·obtain⟨n,m,hnm⟩:=qeD (qdf hb) qb
    subst hnm
    have:(szF x (.num n m)).1=m:=by rw[qdx]
    rw[this]
    by_cases q:n=0
    ·subst q;simp[Tm.n]
    ·simp[Tm.n,q]
  rw[hbz]
  refine(((qbW b).and ((h.sub (j:=1) (u:=b) rfl (by simp[Tm.k])).psize (qum hb))).and ((qk4 0 (szF x b).1).and (qeI (.seq a b) [a,.num 0 (szF x b).1]))).mono fun N ⟨⟨c1,c2⟩,c3,c4⟩ E s=>?_
  obtain⟨i0,l0⟩:=qb6 (n:=N) (E:=E) (l:=[a,b]) (u:=a) rfl
  obtain⟨i1,l1⟩:=qdv (n:=N) (E:=E) (l:=[a,b]) (u:=b) rfl
  have c4:=qf3 _ _ .full c4 E
  rw[e17] at c4
  simp only[zar,zaC,zaH,Nat.reduceAdd] at c4
  unfold s178 s178_3 s178_2 s178_1 s178_0
  generalize (szF x b).1=z at c2 c3 c4⊢
  by_cases k12:a.k=12
  ·by_cases qb:qaH b=true
   ·by_cases q0:b.n=0<;>simp -implicitDefEqProofs only[pvc,qhz,i0,l0,i1,l1,qb4,qay,zat,zaT,qcg,qrl,r12,k12,c1,c2,c3,c4,qb,q0,true_or,bdZ,z5c,z5o,z5l,qa3,qaA,if_true,if_false,zai,qah,qba,qbY,qbi,qav,qad,qaf,zaj,decide_true,decide_false,zak,zam,qaa,cond_true,cond_false,qal,zab,zaa,qab,qam,cnd,Tm.ks_mk]
   ·simp only[zaS] at qb
    simp -implicitDefEqProofs only[pvc,qhz,i0,l0,i1,l1,qb4,qay,zat,zau,qcg,qrl,r12,k12,c1,c2,c3,c4,qb,true_or,bdZ,z5c,z5o,z5l,qa3,if_true,qah,qba,qbY,qbi,qav,qad,qaf,zaj,decide_true,decide_false,zam,qaa,cond_true,cond_false,qal,zab,zaa,qab,qam,cnd,Tm.ks_mk]
  ·by_cases k14:a.k=14
   ·by_cases qb:qaH b=true
    ·by_cases q0:b.n=0<;>simp -implicitDefEqProofs only[pvc,qhz,i0,l0,i1,l1,qb4,qay,zat,zaT,qcg,qrl,r12,k14,c1,c2,c3,c4,qb,q0,or_true,bdZ,z5c,z5o,z5l,qa3,qaA,if_true,if_false,zai,qah,qba,qbY,qbi,qav,qad,qaf,zaj,decide_true,decide_false,zak,zam,qaa,cond_true,cond_false,qal,zab,zaa,qab,qam,cnd,Tm.ks_mk]
    ·simp only[zaS] at qb
     simp -implicitDefEqProofs only[pvc,qhz,i0,l0,i1,l1,qb4,qay,zat,zau,qcg,qrl,r12,k14,c1,c2,c3,c4,qb,or_true,bdZ,z5c,z5o,z5l,qa3,if_true,qah,qba,qbY,qbi,qav,qad,qaf,zaj,decide_true,decide_false,zam,qaa,cond_true,cond_false,qal,zab,zaa,qab,qam,cnd,Tm.ks_mk]
   ·simp -implicitDefEqProofs only[pvc,i0,l0,i1,l1,qb4,qay,zat,qcg,r12,k12,k14,or_self,bdZ,z5c,z5o,z5l,qaA,if_false,qah,qba,qbY,qbi,qav,qad,qaf,zaj,decide_true,decide_false,qaa,cond_true,cond_false,qal,zab,zaa,qab,qam,cnd,Tm.ks_mk]
 rw[if_neg r12]
 by_cases r17:r=17
 ·rw[if_pos r17]
  by_cases hk:a.k=4
  ·cases qdf ha with
   |put i u=>
    have e:qdP x (.seq (.put i u) b)=if decide (b.k=3)&&(decide (i=b.i)&&(decide (x.top<i)&&qaH u)) then some (.seq (.put i u) u) else none:=rfl
    rw[e]
    refine((qbW u).and (qeI (.seq (.put i u) b) [.put i u,u])).mono fun N ⟨c1,c2⟩ E s=>?_
    obtain⟨i0,l0⟩:=qb6 (n:=N) (E:=E) (l:=[.put i u,b]) (u:=.put i u) rfl
    obtain⟨i1,l1⟩:=qdv (n:=N) (E:=E) (l:=[.put i u,b]) (u:=b) rfl
    obtain⟨j0,m0⟩:=qb6 (n:=N) (E:=E) (l:=[u]) (u:=u) rfl
    have c2:=qf3 _ _ .full c2 E
    rw[show(Tm.seq (.put i u) b).with [.put i u,u]=.seq (.put i u) u from rfl] at c2
    simp only[zar,zaC,zaH,Nat.reduceAdd] at c2
    rw[show decide (i=b.i)=decide (b.i=i) from decide_eq_decide.2 eq_comm]
    unfold s178 s178_3 s178_2 s178_1 s178_0
    by_cases q1:x.top<i
    ·by_cases q2:qaH u=true
     ·by_cases q3:b.k=3
      ·by_cases q4:b.i=i<;>simp -implicitDefEqProofs only[pvc,bs1,i0,l0,i1,l1,j0,m0,qb4,qay,zat,zaT,zau,qcg,qrl,r17,c1,c2,q1,q2,q3,q4,bdZ,z5c,z5o,z5l,qa3,qaA,if_true,if_false,zai,qah,qba,qcJ,qbi,qav,qad,qaf,qaJ,zaj,decide_true,decide_false,qaa,cond_true,cond_false,qal,zab,zaa,qab,cnd,Tm.k_mk,Tm.i_mk,Tm.ks_mk]
      ·simp -implicitDefEqProofs only[pvc,bs1,i0,l0,i1,l1,j0,m0,qb4,qay,zat,zau,qcg,r17,c1,q1,q2,q3,bdZ,z5c,z5o,z5l,qaA,if_false,zai,qah,qba,qcJ,qbi,qav,qad,qaf,qaJ,zaj,decide_true,decide_false,qaa,cond_true,cond_false,qal,zab,zaa,qab,cnd,Tm.k_mk,Tm.i_mk,Tm.ks_mk]
     ·simp only[zaS] at q2
      simp -implicitDefEqProofs only[pvc,bs1,i0,l0,i1,l1,j0,m0,qb4,qay,zat,zaT,qcg,r17,c1,q1,q2,bdZ,z5c,z5o,z5l,qaA,if_false,zai,qah,qba,qcJ,qbi,qav,qad,qaf,qaJ,zaj,decide_true,decide_false,qaa,cond_true,cond_false,qal,zab,zaa,qab,cnd,Tm.k_mk,Tm.i_mk,Tm.ks_mk]
    ·simp -implicitDefEqProofs only[pvc,bs1,i0,l0,i1,l1,j0,m0,qb4,qay,zat,zaT,zau,qcg,r17,q1,bdZ,z5c,z5o,z5l,qaA,if_false,zai,qah,qba,qcJ,qbi,qav,qad,qaf,qaJ,zaj,decide_true,decide_false,qaa,cond_true,cond_false,qal,zab,zaa,qab,cnd,Tm.k_mk,Tm.i_mk,Tm.ks_mk]
   |_=>simp only[Tm.k_mk] at hk;omega
  ·have e:qdP x (.seq a b)=none:=by
    show(if a.k=4 then _ else none)=none
    rw[if_neg hk]
   rw[e]
   refine(qbW a).mono fun N c1 E s=>?_
   obtain⟨i0,l0⟩:=qb6 (n:=N) (E:=E) (l:=[a,b]) (u:=a) rfl
   obtain⟨i1,l1⟩:=qdv (n:=N) (E:=E) (l:=[a,b]) (u:=b) rfl
   unfold s178 s178_3 s178_2 s178_1 s178_0
   simp -implicitDefEqProofs only[pvc,i0,l0,i1,l1,qb4,qay,zat,qcg,r17,hk,bdZ,z5c,z5o,z5l,qaA,qah,qba,qcJ,qbi,qav,qad,qaf,zaj,decide_true,decide_false,qaa,cond_true,cond_false,qal,zab,zaa,qab,cnd,Tm.ks_mk]
 rw[if_neg r17]
 refine ev0.mono fun N _ E s=>?_
 obtain⟨i0,l0⟩:=qb6 (n:=N) (E:=E) (l:=[a,b]) (u:=a) rfl
 obtain⟨i1,l1⟩:=qdv (n:=N) (E:=E) (l:=[a,b]) (u:=b) rfl
 unfold s178 s178_3 s178_2 s178_1 s178_0
 simp -implicitDefEqProofs only[pvc,i0,l0,i1,l1,qb4,qay,zat,r10,r11,r12,r17,bdZ,z5c,z5o,z5l,qaA,qah,qbi,qav,qad,qaf,decide_false,qaa,cond_false,qal,zab,zaa,qab,cnd,Tm.ks_mk]
end Go.AI.Tryz
namespace Go.AI.Tryz
theorem e0j (j:Nat):(Int.ofNat j=0)=(j=0):=by simp only[zaf,eq_iff_iff];omega
theorem qqk:∀(d:Nat) (t:Tm) (x:Sc) (l:Int),t.size<=d->Nd x t->0<=l->l+t.size<=1000000->PC CP 180 [t.v,i64 l] (bl (t.any qcy l))
 |0,t,_,_,h,_,_,_=>by have:=t.size_pos;omega
 |d+1,t,x,l,hd,hn,h0,hl=>by
  have hlt:∀u∈t.ks,u.size<t.size:=fun u hu=>qa5 hu
  have hkl:t.ks.length<=1000000:=by
   have:=Tm.len_le_size t.ks
   have:=Tm.size_ks t
   omega
  let lj:Nat->Int:=fun j=>if decide (t.k=11)&&decide (j=0) then l+1 else l
  have hkids:Ev fun N=>∀p∈(List.range t.ks.length),∀u,t.ks[p]? =some u->∀E s,cl (qag CP N E) 180 [u.v,i64 (lj p)] s=some (bl (u.any qcy (lj p)),s):=
   Ev.all _ fun p hp=>by
    have hpl:=za8.1 hp
    have hm:=za5 hpl
    have hlj:lj p=l\/lj p=l+1:=by simp only[lj];split<;>simp
    have:=hlt _ hm
    exact(qqk d t.ks[p] (x.kid t p) (lj p) (by omega) (hn.kid (zah hpl)) (by omega) (by omega)).mono fun N h u hu=>by
     rw[zah hpl] at hu
     cases hu
     exact h
  refine PC.of2 (cf:=cf180) (np:=2) (args':=[t.v,i64 l]) (by kernel_rfl) (by kernel_rfl) rfl (by simp only[zan,qak];rfl) (by simp only[zal,qaj];rfl) (fun _=>rfl)
   ((hkids.and (Ev.ge (t.ks.length+1))).mono fun N ⟨hk,hN⟩ E s=>⟨bl (t.any qcy l),s,(s180_eq _ _ _ _ _).trans ?_,rfl⟩)
  rw[Tm.any_eq]
  unfold s180
  by_cases k12:t.k=12
  ·have hks:t.ks=[]:=by
    cases hn.sh with
    |jmp n=>rfl
    |_=>simp[Tm.k] at k12
   rw[hks]
   simp -implicitDefEqProofs only[k12,qcy,Tm.anyK,Bool.or_false,zay,qah,qba,qbY,qad,qaf,decide_true,qaa,cond_true,zab,zaa]
  ·have hle:qcy t l=false:=by simp[qcy,k12]
   rw[hle,za6]
   simp -implicitDefEqProofs only[k12,qah,qba,qbY,qad,qaf,decide_false,qaa,cond_false,zab,zaa]
   unfold s180_2
   refine qcH _ _ t.ks.length (fun j (L:zA->ASt->Res)=>L (i64 (.ofNat j)) s) (fun j=>some (bl (Tm.anyK qcy (decide (t.k=11)) l j (t.ks.drop j)),s)) (fun j L hj ih=>?_) (fun L=>?_) N 0 (za3 _) (by omega)
   ·have hkj:t.ks[j]? =some t.ks[j]:=zah hj
    have hc:=hk j (za8.2 hj) _ hkj E
    have hw:qbb .i64 (l+1)=l+1:=qbs (by omega) (by omega)
    rw[zaz hj]
    simp only[Tm.anyK]
    have fin:∀x1,x1=i64 (lj j)->s180_0 (qag CP N E) N t.c (i64 (.ofNat j)) s L x1=some (bl (Tm.any qcy t.ks[j] (lj j)||Tm.anyK qcy (decide (t.k=11)) l (j+1) (t.ks.drop (j+1))),s):=by
     rintro _ rfl
     unfold s180_0
     simp -implicitDefEqProofs only[Tm.ia_kid hj,Tm.ld_kid _ _ hkj,hc,qaP (show j<9223372036854775807 by omega),qbi,qad,qaz,qaa,zab,zaa,qab]
     cases Tm.any qcy t.ks[j] (lj j)
     ·simp only[cond_false,za6];exact ih
     ·rfl
    unfold s180_1
    generalize s180_0 (qag CP N E) N=G at fin⊢
    by_cases k11:t.k=11
    ·by_cases j0:j=0
     ·have e:lj j=l+1:=by simp only[lj,k11,j0,decide_true,zat,if_true]
      have:=fin _ rfl
      rw[e] at this
      simp only[k11,j0] at this
      simp -implicitDefEqProofs only[k11,j0,e0j,hw,this,zat,if_true,qba,qbi,qad,qaf,qaq,qaz,decide_true,qaa,cond_true,qal,zab,zaa,qbB]
      simp -implicitDefEqProofs only[j0] at hj⊢
      simp -implicitDefEqProofs only[of_lt.2 hj,decide_true,cond_true]
     ·have e:lj j=l:=by simp only[lj,j0,decide_false,zaT,zai,if_false]
      have:=fin _ rfl
      rw[e] at this
      simp only[k11] at this
      simp -implicitDefEqProofs only[k11,j0,e0j,of_lt.2 hj,this,zaT,zai,if_false,qba,qbi,qad,qaf,qaq,qaz,decide_true,decide_false,qaa,cond_true,cond_false,qal,zab,zaa,qbB]
    ·have e:lj j=l:=by simp only[lj,k11,decide_false,zau,zai,if_false]
     have:=fin _ rfl
     rw[e] at this
     simp only[k11] at this
     simp -implicitDefEqProofs only[k11,of_lt.2 hj,this,zau,zai,if_false,qba,qbi,qad,qaf,qaq,qaz,decide_true,decide_false,qaa,cond_true,cond_false,qal,zab,zaa,qbB]
   ·have h3:¬(Int.ofNat t.ks.length<Int.ofNat t.ks.length):=fun h=>zaZ _ (of_lt.1 h)
    rw[List.drop_of_length_le (zao _)]
    simp -implicitDefEqProofs only[h3,Tm.anyK,qba,qbi,qad,qaf,qaq,decide_false,qaa,cond_false,qal,zab,zaa,qbB]
end Go.AI.Tryz
namespace Go.AI.Tryz
theorem qql (ar:Int):∀(d:Nat) (t:Tm) (l:Int),t.size<=d->t.size<=900000->PC CP 182 [t.v,i64 ar] (bl (!t.any (qd1 ar) l))
 |0,t,_,h,_=>by have:=t.size_pos;omega
 |d+1,t,l,hd,hs=>by
  have hlt:∀u∈t.ks,u.size<t.size:=fun u hu=>qa5 hu
  have hkl:t.ks.length<=1000000:=by
   have:=Tm.len_le_size t.ks
   have:=Tm.size_ks t
   omega
  let lj:Nat->Int:=fun j=>if decide (t.k=11)&&decide (j=0) then l+1 else l
  have hkids:Ev fun N=>∀p∈(List.range t.ks.length),∀u,t.ks[p]? =some u->∀E s,cl (qag CP N E) 182 [u.v,i64 ar] s=some (bl (!u.any (qd1 ar) (lj p)),s):=
   Ev.all _ fun p hp=>by
    have hpl:=za8.1 hp
    have:=hlt _ (za5 hpl)
    exact(qql ar d t.ks[p] (lj p) (by omega) (by omega)).mono fun N h u hu=>by
     rw[zah hpl] at hu
     cases hu
     exact h
  refine PC.of2 (cf:=cf182) (np:=2) (args':=[t.v,i64 ar]) (by kernel_rfl) (by kernel_rfl) rfl (by simp only[zan,qak];rfl) (by simp only[zal,qaj];rfl) (fun _=>rfl)
   ((hkids.and (Ev.ge (t.ks.length+1))).mono fun N ⟨hk,hN⟩ E s=>⟨bl (!t.any (qd1 ar) l),s,(s182_eq _ _ _ _ _).trans ?_,rfl⟩)
  rw[Tm.any_eq]
  have hloop:s182_0 (qag CP N E) N t.c (i64 ar) (i64 0) s=some (bl (!Tm.anyK (qd1 ar) (decide (t.k=11)) l 0 t.ks),s):=by
   unfold s182_0
   refine qcH _ _ t.ks.length (fun j (L:zA->ASt->Res)=>L (i64 (.ofNat j)) s) (fun j=>some (bl (!Tm.anyK (qd1 ar) (decide (t.k=11)) l j (t.ks.drop j)),s)) (fun j L hj ih=>?_) (fun L=>?_) N 0 (za3 _) (by omega)
   ·have hkj:t.ks[j]? =some t.ks[j]:=zah hj
    have hc:=hk j (za8.2 hj) _ hkj E
    rw[zaz hj]
    simp only[Tm.anyK]
    show _=some (bl (!(Tm.any (qd1 ar) t.ks[j] (lj j)||_)),s)
    simp -implicitDefEqProofs only[Tm.ia_kid hj,Tm.ld_kid _ _ hkj,of_lt.2 hj,hc,qaP (show j<9223372036854775807 by omega),qbi,qad,qaq,qaz,decide_true,qaa,cond_true,zab,zaa,qab,qam,qbB]
    cases Tm.any (qd1 ar) t.ks[j] (lj j)
    ·simp only[zam,zak,cond_false,za6];exact ih
    ·rfl
   ·have h3:¬(Int.ofNat t.ks.length<Int.ofNat t.ks.length):=fun h=>zaZ _ (of_lt.1 h)
    rw[List.drop_of_length_le (zao _)]
    simp -implicitDefEqProofs only[h3,Tm.anyK,qbi,qad,qaq,qaz,decide_false,zam,qaa,cond_false,zab,zaa,qbB]
  unfold s182 s182_1 qd1
  unfold qd1 at hloop
  generalize s182_0 (qag CP N E) N=G at hloop⊢
  by_cases k2:t.k=2
  ·simp -implicitDefEqProofs only[k2,zbk,qah,qba,qcJ,qad,qaf,qbk,qa9,zaj,decide_true,decide_false,zak,qaa,cond_true,cond_false,qal,zab,zaa]
  ·by_cases k12:t.k=12
   ·simp -implicitDefEqProofs only[k12,zbk,Bool.or_true,qah,qba,qcJ,qad,qaf,qbk,qa9,zaj,decide_true,decide_false,zak,qaa,cond_true,cond_false,qal,zab,zaa]
   ·by_cases i1:t.i<1
    ·have i2:¬(0<t.i):=by omega
     simp -implicitDefEqProofs only[k2,k12,i1,i2,hloop,za6,zau,qah,qba,qcJ,qad,qaf,qbk,qa9,decide_true,decide_false,zak,qaa,cond_true,cond_false,qal,zab,zaa]
    ·have i2:0<t.i:=by omega
     by_cases i3:ar<t.i
     ·simp -implicitDefEqProofs only[k2,k12,i1,i2,i3,hloop,za6,zaT,qah,qba,qcJ,qad,qaf,qbk,qa9,decide_true,decide_false,zak,zam,qaa,cond_true,cond_false,qal,zab,zaa]
     ·simp -implicitDefEqProofs only[k2,k12,i1,i2,i3,hloop,za6,zay,zbk,qah,qba,qcJ,qad,qaf,qbk,qa9,decide_true,decide_false,zak,zam,qaa,cond_true,cond_false,qal,zab,zaa]
def oc (t:Tm)(v:zA):List zA:=[u8 t.k,i64 t.n,i64 t.m,i64 t.i,v]
theorem oc4 (t:Tm)(v:zA):ldL (oc t v) 4 none=some v:=rfl
theorem oco (t:Tm)(v w:zA):over (oc t v) 4 [w]=some (oc t w):=rfl
theorem ocl (t:Tm)(v:zA):ldL (oc t v) 0 (some 5)=some (.agg (oc t v)):=rfl
theorem occ (t:Tm)(v:zA):zA.cells (some 5) (.agg (oc t v))=some (oc t v):=rfl
theorem ocz (t:Tm)(v a b c d e:zA):over [a,b,c,d,e] 0 (oc t v)=some (oc t v):=rfl
theorem qhA (f:Nat->List zP)(k j:Nat):zA.cells none (qb8 f k j)=some [qb8 f k j]:=by cases j<;>rfl
theorem qgC (t:Tm)(ks:List Tm)(k:Nat)(hl:t.ks.length=ks.length)(ht:t.ks=ks):qaF (.agg (oc t (qb8 (fun j=>Tm.cellsL (ks.take j)) k ks.length)))=t.v:=by
 have h:=qdh (fun j=>Tm.cellsL (ks.take j)) k ks.length rfl
 simp only[List.take_length] at h
 rw[Tm.v_eq,ht,<-h]
 rfl
end Go.AI.Tryz
namespace Go.AI.Tryz
theorem qqm (g:Tm->Int->Tm)(lab:Bool)(l:Int):∀(ks:List Tm) (j i:Nat),(Tm.chgK g lab l j ks)[i]? =(ks[i]?).map fun u=>u.chg g (if lab&&decide (j+i=0) then l+1 else l)
 |[],j,i=>by simp[Tm.chgK]
 |u::r,j,0=>by simp[Tm.chgK]
 |u::r,j,i+1=>by
  simp only[Tm.chgK,zaN]
  rw[qqm g lab l r (j+1) i,show j+1+i=j+(i+1) by omega]
theorem tc1 (t:Tm)(v:Int):over t.c 1 [i64 v]=some (Tm.mk t.k v t.m t.i t.ks).c:=rfl
theorem tc4 (t:Tm)(v:zA):over t.c 4 [v]=some (oc t v):=rfl
theorem cn0:zA.cells none (.sl 0 [] .full)=some [.sl 0 [] .full]:=rfl
theorem cni (a:Int):zA.cells none (i64 a)=some [i64 a]:=rfl
theorem qqn:∀(d:Nat) (t:Tm) (l:Int),t.size<=d->t.Ok->0<=l->l+t.size<=1000000->PC CP 181 [t.v,i64 l] (t.chg qcK l).v
 |0,t,_,h,_,_,_=>by have:=t.size_pos;omega
 |d+1,t,l,hd,ok,h0,hl=>by
  have hlt:∀u∈t.ks,u.size<t.size:=fun u hu=>qa5 hu
  have hkl:t.ks.length<=1000000:=by
   have:=Tm.len_le_size t.ks
   have:=Tm.size_ks t
   omega
  let lj:Nat->Int:=fun j=>if decide (t.k=11)&&decide (0+j=0) then l+1 else l
  let ks:=Tm.chgK qcK (decide (t.k=11)) l 0 t.ks
  have hlen:ks.length=t.ks.length:=qgB _ _ _ _ _
  have hkj:∀j,∀hj:j<t.ks.length,ks[j]'(by omega)=t.ks[j].chg qcK (lj j):=fun j hj=>by
   have:=qqm qcK (decide (t.k=11)) l t.ks 0 j
   rw[zah hj,zah (show j<ks.length by omega)] at this
   exact Option.some.inj this
  have hkids:Ev fun N=>∀p∈(List.range t.ks.length),∀u,t.ks[p]? =some u->∀E s,cl (qag CP N E) 181 [u.v,i64 (lj p)] s=some ((u.chg qcK (lj p)).v,s):=
   Ev.all _ fun p hp=>by
    have hpl:=za8.1 hp
    have hm:=za5 hpl
    have:=hlt _ hm
    have hlj:lj p=l\/lj p=l+1:=by simp only[lj];split<;>simp
    exact(qqn d t.ks[p] (lj p) (by omega) (ok.kids _ hm) (by omega) (by omega)).mono fun N h u hu=>by
     rw[zah hpl] at hu
     cases hu
     exact h
  let f:Nat->List zP:=fun j=>Tm.cellsL (ks.take j)
  refine PC.of2 (cf:=cf181) (np:=2) (args':=[t.v,i64 l]) (by kernel_rfl) (by kernel_rfl) rfl (by simp only[zan,qak];rfl) (by simp only[zal,qaj];rfl) (fun lo=>qaM lo _)
   ((hkids.and (Ev.ge (t.ks.length+1))).mono fun N ⟨hk,hN⟩ E s=>⟨.agg (oc (qcK t l) (qb8 f s.ntok ks.length)),qc9 s 5 ks.length,(s181_eq _ _ _ _ _).trans ?_,?_⟩)
  ·have hloop:∀t':Tm,s181_2 (qag CP N E) N (i64 l) (i64 0) t.c [u8 0,i64 0,i64 0,i64 0,.sl 0 [] .full] (oc t' (.sl 0 [] .full)) s=some (.agg (oc t' (qb8 f s.ntok ks.length)),qc9 s 5 ks.length):=fun t'=>by
    unfold s181_2
    refine qcH _ _ t.ks.length (fun j (L:zA->List zA->List zA->List zA->ASt->Res)=>L (i64 (.ofNat j)) t.c [u8 0,i64 0,i64 0,i64 0,.sl 0 [] .full] (oc t' (qb8 f s.ntok j)) (qc9 s 5 j)) (fun _=>some (.agg (oc t' (qb8 f s.ntok ks.length)),qc9 s 5 ks.length)) (fun j L hj ih=>?_) (fun L=>?_) N 0 (za3 _) (by omega)
    ·have hkj':t.ks[j]? =some t.ks[j]:=zah hj
     have hc:=hk j (za8.2 hj) _ hkj' E
     have hw:qbb .i64 (l+1)=l+1:=qbs (by omega) (by omega)
     have hap:=qfu (qag CP N E) (sz:=5) (b:=56) (f:=f) (y:=.sl 1 (ks[j]'(by omega)).cells .full) s j rfl (Tm.len_cells _) (by omega) (qbL (by omega))
     rw[hkj j hj] at hap
     have fin:∀x1,x1=i64 (lj j)->s181_0 (qag CP N E) N (oc t' (qb8 f s.ntok j)) t.c (i64 (.ofNat j)) (qc9 s 5 j) L [u8 0,i64 0,i64 0,i64 0,.sl 0 [] .full] x1=some (.agg (oc t' (qb8 f s.ntok ks.length)),qc9 s 5 ks.length):=by
      rintro _ rfl
      unfold s181_0
      simp -implicitDefEqProofs only[oc4,Tm.ia_kid hj,Tm.ld_kid _ _ hkj',hc,qwr _ [.int .u8 0,.int .i64 0,.int .i64 0,.int .i64 0,.sl 0 []] rfl,hap,qhA,oco,qaP (show j<9223372036854775807 by omega),qbi,qad,qaz,zab,zaa,qab]
      exact ih
     unfold s181_1
     generalize s181_0 (qag CP N E) N=G at fin⊢
     have hlt':=of_lt.2 hj
     by_cases k11:t.k=11
     ·by_cases j0:j=0
      ·have e:lj j=l+1:=by simp only[lj,k11,j0,zaH,decide_true,zat,if_true]
       have:=fin _ rfl
       rw[e] at this
       have e0:decide (Int.ofNat j=0)=true:=decide_eq_true (by rw[j0];rfl)
       simp -implicitDefEqProofs only[k11,e0,hlt',hw,this,qba,qbi,qad,qaf,qaq,qaz,decide_true,qaa,cond_true,qal,zab,zaa,qbB]
      ·have e:lj j=l:=by simp only[lj,zaH,j0,decide_false,zaT,zai,if_false]
       have:=fin _ rfl
       rw[e] at this
       simp -implicitDefEqProofs only[k11,j0,e0j,hlt',this,qba,qbi,qad,qaf,qaq,qaz,decide_true,decide_false,qaa,cond_true,cond_false,qal,zab,zaa,qbB]
     ·have e:lj j=l:=by simp only[lj,k11,decide_false,zau,zai,if_false]
      have:=fin _ rfl
      rw[e] at this
      simp -implicitDefEqProofs only[k11,hlt',this,qba,qbi,qad,qaf,qaq,qaz,decide_true,decide_false,qaa,cond_true,cond_false,qal,zab,zaa,qbB]
    ·have h3:¬(Int.ofNat t.ks.length<Int.ofNat t.ks.length):=fun h=>zaZ _ (of_lt.1 h)
     generalize s181_1 (qag CP N E) N=G
     simp -implicitDefEqProofs only[h3,ocl,occ,ocz,hlen,qba,qbi,qad,qaf,qaq,decide_false,qaa,cond_false,qal,zab,zaa,qbB]
   have hfld:=qcf ok
   unfold s181 s181_4 s181_3
   generalize s181_2 (qag CP N E) N=G at hloop⊢
   by_cases k12:t.k=12
   ·by_cases hn:l<t.n
    ·have e:qcK t l=.mk t.k (t.n-1) t.m t.i t.ks:=if_pos ⟨k12,hn⟩
     have hw:qbb .i64 (t.n-1)=t.n-1:=qbs (by omega) (by omega)
     have:=hloop (.mk t.k (t.n-1) t.m t.i t.ks)
     rw[e]
     simp -implicitDefEqProofs only[k12,hn,hw,cni,tc1,tc4,cn0,qah,qaV,qba,qbY,qav,qad,qaf,qaJ,qa1,decide_true,qaa,cond_true,cond_false,qal,zab,zaa]
     simp only[k12] at this
     exact this
    ·have e:qcK t l=t:=if_neg (fun q=>hn q.2)
     rw[e]
     simp -implicitDefEqProofs only[k12,hn,tc4,cn0,hloop t,qah,qaV,qba,qbY,qav,qad,qaf,qaJ,decide_true,decide_false,qaa,cond_true,cond_false,qal,zab,zaa]
   ·have e:qcK t l=t:=if_neg (fun q=>k12 q.1)
    rw[e]
    simp -implicitDefEqProofs only[k12,tc4,cn0,hloop t,qah,qaV,qba,qbY,qav,qad,qaf,qaJ,decide_false,qaa,cond_false,qal,zab,zaa]
  ·rw[Tm.chg_eq]
   have:=qgC (.mk (qcK t l).k (qcK t l).n (qcK t l).m (qcK t l).i ks) ks s.ntok rfl rfl
   exact this
end Go.AI.Tryz
namespace Go.AI.Tryz
theorem qsu (id:Int)(val:Tm):∀(ks:List Tm) (i:Nat),(woL id val ks)[i]? =(ks[i]?).map (woF id val)
 |[],i=>by simp[woL]
 |u::r,0=>by simp[woL]
 |u::r,i+1=>by simp only[woL,zaN];exact qsu id val r i
theorem tc3 (t:Tm)(v:Int):over t.c 3 [i64 v]=some (Tm.mk t.k t.n t.m v t.ks).c:=rfl
theorem qsv (id:Int)(h0:0<=id)(val:Tm):∀(d:Nat) (t:Tm) (X:Sc),t.size<=d->Nd X t->PC CP 202 [t.v,i64 id,val.v] (woF id val t).v
 |0,t,_,h,_=>by have:=t.size_pos;omega
 |d+1,t,X,hd,hn=>by
  have hlt:∀u∈t.ks,u.size<t.size:=fun u hu=>qa5 hu
  have hsz:=hn.size
  have hkl:t.ks.length<=1000000:=by
   have:=Tm.len_le_size t.ks
   have:=Tm.size_ks t
   omega
  let ks:=woL id val t.ks
  have hlen:ks.length=t.ks.length:=qlV _ _ _
  have hkj:∀j,∀hj:j<t.ks.length,ks[j]'(by omega)=woF id val t.ks[j]:=fun j hj=>by
   have:=qsu id val t.ks j
   rw[zah hj,zah (show j<ks.length by omega)] at this
   exact Option.some.inj this
  have hkids:Ev fun N=>∀p∈(List.range t.ks.length),∀u,t.ks[p]? =some u->∀E s,cl (qag CP N E) 202 [u.v,i64 id,val.v] s=some ((woF id val u).v,s):=
   Ev.all _ fun p hp=>by
    have hpl:=za8.1 hp
    have:=hlt _ (za5 hpl)
    exact(qsv id h0 val d t.ks[p] (X.kid t p) (by omega) (hn.kid (zah hpl))).mono fun N h u hu=>by
     rw[zah hpl] at hu
     cases hu
     exact h
  let f:Nat->List zP:=fun j=>Tm.cellsL (ks.take j)
  refine PC.of2 (cf:=cf202) (np:=3) (args':=[t.v,i64 id,val.v]) (by kernel_rfl) (by kernel_rfl) rfl (by simp only[zan,qak];rfl) (by simp only[zal,qaj];rfl) (fun lo=>qaM lo _)
   ((hkids.and (Ev.ge (t.ks.length+1))).mono fun N ⟨hk,hN⟩ E s=>?_)
  suffices ∃r s',s202 (qag CP N E) N t.v (i64 id) val.v s=some (r,s')/\qaF r=(woF id val t).v by
   obtain⟨r,s',h1,h2⟩:=this
   exact⟨r,s',(s202_eq _ _ _ _ _ _).trans h1,h2⟩
  have hloop:∀t':Tm,s202_0 (qag CP N E) N (i64 id) (i64 0) t.c val.c [u8 0,i64 0,i64 0,i64 0,.sl 0 [] .full] (oc t' (.sl 0 [] .full)) s=some (.agg (oc t' (qb8 f s.ntok ks.length)),qc9 s 5 ks.length):=fun t'=>by
   unfold s202_0
   refine qcH _ _ t.ks.length (fun j (L:zA->List zA->List zA->List zA->List zA->ASt->Res)=>L (i64 (.ofNat j)) t.c val.c [u8 0,i64 0,i64 0,i64 0,.sl 0 [] .full] (oc t' (qb8 f s.ntok j)) (qc9 s 5 j)) (fun _=>some (.agg (oc t' (qb8 f s.ntok ks.length)),qc9 s 5 ks.length)) (fun j L hj ih=>?_) (fun L=>?_) N 0 (za3 _) (by omega)
   ·have hkj':t.ks[j]? =some t.ks[j]:=zah hj
    have hc:=hk j (za8.2 hj) _ hkj' E
    have hap:=qfu (qag CP N E) (sz:=5) (b:=56) (f:=f) (y:=.sl 1 (ks[j]'(by omega)).cells .full) s j rfl (Tm.len_cells _) (by omega) (qbL (by omega))
    rw[hkj j hj] at hap
    simp -implicitDefEqProofs only[oc4,of_lt.2 hj,Tm.ia_kid hj,Tm.ld_kid _ _ hkj',qcg,hc,qwr _ [.int .u8 0,.int .i64 0,.int .i64 0,.int .i64 0,.sl 0 []] rfl,hap,qhA,oco,qaP (show j<9223372036854775807 by omega),qbi,qad,qaq,qaz,decide_true,qaa,cond_true,zab,zaa,qab,qbB]
    exact ih
   ·have h3:¬(Int.ofNat t.ks.length<Int.ofNat t.ks.length):=fun h=>zaZ _ (of_lt.1 h)
    simp -implicitDefEqProofs only[h3,ocl,occ,ocz,hlen,qaV,qbi,qad,qaq,qaz,decide_false,qaa,cond_false,zab,zaa,qbB]
  have hfld:=qcf hn.ok
  have helse:∀i':Int,i'=(if id<t.i then t.i-1 else t.i)->s202_2 (qag CP N E) N (i64 id) t.c val.c [u8 0,i64 0,i64 0,i64 0,.sl 0 [] .full] [] s=some (.agg (oc (.mk t.k t.n t.m i' t.ks) (qb8 f s.ntok ks.length)),qc9 s 5 ks.length)/\qaF (.agg (oc (.mk t.k t.n t.m i' t.ks) (qb8 f s.ntok ks.length)))=(Tm.mk t.k t.n t.m i' ks).v:=fun i' hi=>by
   refine⟨?_,qgC (.mk t.k t.n t.m i' ks) ks s.ntok rfl rfl⟩
   have hl:=hloop (.mk t.k t.n t.m i' t.ks)
   unfold s202_2 s202_1
   generalize s202_0 (qag CP N E) N=G at hl⊢
   by_cases hid:id<t.i
   ·rw[if_pos hid] at hi
    subst hi
    have hw:qbb .i64 (t.i-1)=t.i-1:=qbs (by omega) (by omega)
    simp -implicitDefEqProofs only[qcg,hid,hw,cni,tc3,tc4,cn0,hl,qah,qcJ,qav,qad,qaJ,qa1,decide_true,qaa,cond_true,qal,zab,zaa]
   ·rw[if_neg hid] at hi
    subst hi
    rw[qsj] at hl⊢
    simp -implicitDefEqProofs only[qcg,hid,tc4,cn0,hl,qah,qcJ,qav,qad,qaJ,decide_false,qaa,cond_false,qal,zab,zaa]
  rw[qtx]
  unfold s202
  generalize s202_2 (qag CP N E) N=G at helse⊢
  by_cases hi:t.i=id
  ·rw[if_pos hi]
   by_cases k3:t.k=3
   ·rw[if_pos k3]
    refine⟨val.v,s,?_,qaj _⟩
    simp -implicitDefEqProofs only[hi,k3,qcg,qah,qba,qcJ,qbi,qav,qad,qaf,zaj,decide_true,decide_false,qaa,cond_true,cond_false,qal,zab,zaa]
   ·rw[if_neg k3]
    by_cases k4:t.k=4
    ·rw[if_pos k4]
     cases hn.sh with
     |put i u=>
      obtain⟨i0,l0⟩:=qb6 (n:=N) (E:=E) (l:=[u]) (u:=u) rfl
      have hc:=hk 0 (by simp[Tm.ks]) u rfl E
      have hb1:bd [u8 0,i64 0,i64 0,i64 0,.sl 0 [] .full] [(0,none,.c (u8 6)),(1,none,.c (i64 1)),(4,none,.c (.sl 1 (Tm.cellsL [woF id val u]) .full))]=some (.agg [u8 6,i64 1,i64 0,i64 0,.sl 1 (Tm.cellsL [woF id val u]) .full]):=rfl
      refine⟨.agg [u8 6,i64 1,i64 0,i64 0,.sl 1 (Tm.cellsL [woF id val u]) .full],s,?_,?_⟩
      ·have hi':i=id:=hi
       simp -implicitDefEqProofs only[hi',i0,l0,hc,qcg,qps,hb1,z5c,z5o,z5l,qah,qba,qcJ,qbi,qav,qad,qaf,zaj,decide_true,decide_false,qaa,cond_true,cond_false,qal,zab,zaa,qab,Tm.k_mk,Tm.i_mk,Tm.ks_mk]
      ·show _=(Tm.az 1 (woF id val u)).v
       rw[Tm.v_eq]
       rfl
     |_=>simp[Tm.k] at k4
    ·rw[if_neg k4]
     by_cases k18:t.k=18
     ·rw[if_pos k18]
      cases hn.sh with
      |ntc n i u=>
       obtain⟨i0,l0⟩:=qb6 (n:=N) (E:=E) (l:=[u]) (u:=u) rfl
       have hc:=hk 0 (by simp[Tm.ks]) u rfl E
       refine⟨(woF id val u).v,s,?_,qaj _⟩
       have hi':i=id:=hi
       simp -implicitDefEqProofs only[hi',i0,l0,hc,qcg,qah,qba,qcJ,qbi,qav,qad,qaf,zaj,decide_true,decide_false,qaa,cond_true,cond_false,qal,zab,zaa,qab,Tm.k_mk,Tm.i_mk,Tm.ks_mk]
      |_=>simp[Tm.k] at k18
     ·rw[if_neg k18]
      obtain⟨h1,h2⟩:=helse t.i (by rw[if_neg (by omega)])
      refine⟨_,qc9 s 5 ks.length,?_,h2⟩
      simp -implicitDefEqProofs only[hi,k3,k4,k18,h1,qah,qaV,qba,qcJ,qbi,qav,qad,qaf,decide_true,decide_false,qaa,cond_true,cond_false,qal,zab,zaa]
  ·rw[if_neg hi]
   obtain⟨h1,h2⟩:=helse _ rfl
   refine⟨_,qc9 s 5 ks.length,?_,h2⟩
   simp -implicitDefEqProofs only[hi,h1,qah,qaV,qba,qcJ,qbi,qav,qad,qaf,decide_false,qaa,cond_false,qal,zab,zaa]
end Go.AI.Tryz
namespace Go.AI.Tryz
theorem qd4 (l o:Nat)(k:zA->Res):qk9 (.ptr l o) k=k (.ptr l o):=rfl
structure Cm (b:Bool)(n:Nat)(y z:Int):Prop where
 ge:y<=z
 le:z<=y+n
 pos:0<z↔0<y\/b=true
theorem Cm.trans {b b':Bool}{n n':Nat}{y z w:Int}(h:Cm b n y z)(k:Cm b' n' z w):Cm (b||b') (n+n') y w:=by
 have h1:=h.ge
 have h2:=h.le
 have k1:=k.ge
 have k2:=k.le
 refine⟨by omega,by omega,?_⟩
 rw[k.pos,h.pos,za4,or_assoc]
theorem Cm.refl (n:Nat)(y:Int):Cm false n y y:=⟨Int.le_refl _,by omega,by simp⟩
theorem Cm.one {y:Int}(h:0<=y):Cm true 1 y (y+1):=⟨by omega,by omega,by simp;omega⟩
theorem qk5 {is:Tm->Int->Bool}(h:∀t l l',is t l=is t l'):∀(d:Nat) (t:Tm) (l l':Int),t.size<=d->t.any is l=t.any is l'
 |0,t,_,_,hd=>by have:=t.size_pos;omega
 |d+1,t,l,l',hd=>by
  have hlt:∀u∈t.ks,u.size<t.size:=fun u hu=>qa5 hu
  have hk:∀(ks:List Tm) (j:Nat),(∀u∈ks,u.size<=d)->Tm.anyK is (decide (t.k=11)) l j ks=Tm.anyK is (decide (t.k=11)) l' j ks:=by
   intro ks
   induction ks with
   |nil=>intro j _;rfl
   |cons u r ih=>
    intro j hu
    simp only[Tm.anyK]
    rw[qk5 h d u _ (if decide (t.k=11)&&decide (j=0) then l'+1 else l') (hu u (zav ..)),ih (j+1) fun v hv=>hu v (zaw _ hv)]
  rw[Tm.any_eq,Tm.any_eq,h t l l',hk t.ks 0 fun u hu=>by have:=hlt u hu;omega]
theorem qna {is:Tm->Int->Bool}(h:∀t l l',is t l=is t l')(lab:Bool)(l:Int):∀(ks:List Tm) (j:Nat),Tm.anyK is lab l j ks=ks.any fun u=>u.any is 0
 |[],_=>rfl
 |u::r,j=>by
  simp only[Tm.anyK,List.any_cons]
  rw[qna h lab l r (j+1),qk5 h u.size u _ 0 (zao _)]
theorem qlW {is:Tm->Int->Bool}(h:∀t l l',is t l=is t l')(t:Tm):t.any is 0=(is t 0||t.ks.any fun u=>u.any is 0):=by
 rw[Tm.any_eq,qna h]
def qrJ (id:Int)(ba bp bh:Bool)(sz:Nat)(l:Nat)(H:qaS)(a p h:Int)(s s':ASt):Prop:=
 ∃a' p' h':Int,s'={s with heap:=(l,.cells [i64 a',i64 p',i64 h'])::H}/\Cm ba sz a a'/\Cm bp sz p p'/\Cm bh sz h h'
theorem qnb (id:Int):∀d,d<=1000000->Ev fun n=>∀t:Tm,t.size<=d->∀E s l H (a p h:Int),s.heap=(l,.cells [i64 a,i64 p,i64 h])::H->0<=a/\a+t.size<=1000000000->0<=p/\p+t.size<=1000000000->0<=h/\h+t.size<=1000000000->
  ∃s',cl (qag CP n E) 201 [.ptr l 0,t.v,i64 id] s=some (.tuple [],s')/\qrJ id (t.any (isA id) 0) (t.any (isP id) 0) (t.any (isH id) 0) t.size l H a p h s s'
 |0,_=>Ev.of fun n t h=>by have:=t.size_pos;omega
 |d+1,hd=>by
  refine Ev.succ (((qnb id d (by omega)).and (Ev.ge (d+3))).mono fun n ⟨ih,hn⟩ t hsz E s l H a p h hs ba bp bh=>?_)
  suffices ∃s',s201 (qag CP n E) n (.ptr l 0) t.v (i64 id) s=some (.tuple [],s')/\qrJ id (t.any (isA id) 0) (t.any (isP id) 0) (t.any (isH id) 0) t.size l H a p h s s' by
   obtain⟨s',e1,e2⟩:=this
   refine⟨s',?_,e2⟩
   rw[qbX]
   exact qe8 (cf:=cf201) (np:=3) (args':=[.ptr l 0,t.v,i64 id]) (v:=.tuple []) (by kernel_rfl) (by kernel_rfl) rfl (by simp only[zan,qak];rfl) (by simp only[zal,qaj];rfl) ((s201_eq _ _ _ _ _ _).trans e1) rfl rfl
  have hlen:=Tm.len_le_size t.ks
  have hts:=Tm.size_ks t
  have key:∀(r done:List Tm) (j k:Nat) (a p h:Int) (s:ASt),t.ks=done++r->done.length=j->r.length<k->s.heap=(l,.cells [i64 a,i64 p,i64 h])::H->0<=a/\a+Tm.sizeL r<=1000000000->0<=p/\p+Tm.sizeL r<=1000000000->0<=h/\h+Tm.sizeL r<=1000000000->
    ∃s',lp (fun _ _=>none) (fun h10 x8 s9=>(ldL t.c 4 none).bind fun x11=>(ln false x11).bind fun x12=>(bn .lss x8 x12).bind fun x13=>qae x13 ((ldL t.c 4 none).bind fun x14=>qac (iaV 5 x14 x8) fun q15 o16=>(ldH (qag CP n E) s9 (.elem q15 o16) (some 5)).bind fun x17=>
     qac (cl (qag CP n E) 201 [.ptr l 0,x17,i64 id] s9) fun x18 s19=>(bn .add x8 (i64 1)).bind fun x20=>h10 x20 s19) (some (.tuple [],s9))) k (i64 (.ofNat j)) s=some (.tuple [],s')/\
     qrJ id (r.any fun u=>u.any (isA id) 0) (r.any fun u=>u.any (isP id) 0) (r.any fun u=>u.any (isH id) 0) (Tm.sizeL r) l H a p h s s':=by
   intro r
   induction r with
   |nil=>
    intro done j k a p h s h1 h2 hk hs _ _ _
    obtain⟨k,rfl⟩:∃m,k=m+1:=⟨k-1,by simp only[zaC] at hk;omega⟩
    have hj:j=t.ks.length:=by rw[h1];simp[h2]
    have hnl:¬(Int.ofNat j<Int.ofNat t.ks.length):=fun h=>by have:=of_lt.1 h;omega
    rw[qbh]
    refine⟨s,?_,a,p,h,by rw[<-hs],Cm.refl _ _,Cm.refl _ _,Cm.refl _ _⟩
    simp -implicitDefEqProofs only[hnl,qbi,qad,qaq,qaz,decide_false,qaa,cond_false,zab,zaa,qbB]
   |cons u r ih2=>
    intro done j k a p h s h1 h2 hk hs b1 b2 b3
    obtain⟨k,rfl⟩:∃m,k=m+1:=⟨k-1,by simp only[zar] at hk;omega⟩
    simp only[zar,Tm.sizeL] at hk b1 b2 b3
    have hu:t.ks[j]? =some u:=by rw[h1,zaA (by omega),h2];simp
    have hjl:j<t.ks.length:=(zap.1 hu).1
    have hus:u.size<t.size:=qa5 (zaQ hu)
    obtain⟨s1,c1,a',p',h',e1,m1,m2,m3⟩:=ih u (by omega) E s l H a p h hs (by omega) (by omega) (by omega)
    have g1:=m1.le
    have g2:=m2.le
    have g3:=m3.le
    have g4:=m1.ge
    have g5:=m2.ge
    have g6:=m3.ge
    obtain⟨s2,c2,a2,p2,h2',e2,n1,n2,n3⟩:=ih2 (done++[u]) (j+1) k a' p' h' s1 (by rw[h1];simp) (by simp[h2]) (by omega) (by rw[e1]) (by omega) (by omega) (by omega)
    refine⟨s2,?_,a2,p2,h2',by rw[e2,e1],?_,?_,?_⟩
    ·rw[qbh]
     generalize lp _ _ k=L at c2⊢
     simp -implicitDefEqProofs only[of_lt.2 hjl,Tm.ia_kid hjl,Tm.ld_kid _ _ hu,c1,qaP (show j<9223372036854775807 by omega),qbi,qad,qaq,qaz,decide_true,qaa,cond_true,zab,zaa,qab,qbB]
     exact c2
    ·simp only[List.any_cons,Tm.sizeL];exact m1.trans n1
    ·simp only[List.any_cons,Tm.sizeL];exact m2.trans n2
    ·simp only[List.any_cons,Tm.sizeL];exact m3.trans n3
  have cA:∀t l l',isA id t l=isA id t l':=fun _ _ _=>rfl
  have cP:∀t l l',isP id t l=isP id t l':=fun _ _ _=>rfl
  have cH:∀t l l',isH id t l=isH id t l':=fun _ _ _=>rfl
  rw[qlW cA,qlW cP,qlW cH,hts]
  have fin:∀(a1 p1 h1:Int) (s1:ASt),s1={s with heap:=(l,.cells [i64 a1,i64 p1,i64 h1])::H}->Cm (isA id t 0) 1 a a1->Cm (isP id t 0) 1 p p1->Cm (isH id t 0) 1 h h1->
    ∃s',s201_0 (qag CP n E) n t.c (.ptr l 0) (i64 id) (i64 0) s1=some (.tuple [],s')/\qrJ id (isA id t 0||t.ks.any fun u=>u.any (isA id) 0) (isP id t 0||t.ks.any fun u=>u.any (isP id) 0) (isH id t 0||t.ks.any fun u=>u.any (isH id) 0) (1+Tm.sizeL t.ks) l H a p h s s':=by
   intro a1 p1 h1 s1 hs1 m1 m2 m3
   have g1:=m1.le
   have g2:=m2.le
   have g3:=m3.le
   have g4:=m1.ge
   have g5:=m2.ge
   have g6:=m3.ge
   obtain⟨s',e1,a',p',h',e2,n1,n2,n3⟩:=key t.ks [] 0 n a1 p1 h1 s1 rfl rfl (by omega) (by rw[hs1]) (by omega) (by omega) (by omega)
   exact⟨s',e1,a',p',h',by rw[e2,hs1],m1.trans n1,m2.trans n2,m3.trans n3⟩
  have same:s={s with heap:=(l,.cells [i64 a,i64 p,i64 h])::H}:=by rw[<-hs]
  have hc:qas (qag CP n E).E s l=some [i64 a,i64 p,i64 h]:=qaW hs
  have wa:qbb .i64 (a+1)=a+1:=qbs (by omega) (by omega)
  have wp:qbb .i64 (p+1)=p+1:=qbs (by omega) (by omega)
  have wh:qbb .i64 (h+1)=h+1:=qbs (by omega) (by omega)
  have q0:ldL [i64 a,i64 p,i64 h] 0 none=some (i64 a):=rfl
  have q1:ldL [i64 a,i64 p,i64 h] 1 none=some (i64 p):=rfl
  have q2:ldL [i64 a,i64 p,i64 h] 2 none=some (i64 h):=rfl
  have st0:=qrq (o:=0) (cs:=[i64 (a+1)]) (new:=[i64 (a+1),i64 p,i64 h]) hs rfl rfl
  have st1:=qrq (o:=1) (cs:=[i64 (p+1)]) (new:=[i64 a,i64 (p+1),i64 h]) hs rfl rfl
  have st2:=qrq (o:=2) (cs:=[i64 (h+1)]) (new:=[i64 a,i64 p,i64 (h+1)]) hs rfl rfl
  unfold s201 s201_5 s201_4 s201_3 s201_2 s201_1
  generalize s201_0 (qag CP n E) n=G at fin⊢
  have fF:∀{b:Bool} {z:Int},b=false->Cm b 1 z z:=fun h=>h▸Cm.refl _ _
  have fT:∀{b:Bool} {z:Int},0<=z->b=true->Cm b 1 z (z+1):=fun h0 h=>h▸Cm.one h0
  by_cases hi:t.i=id
  ·by_cases k3:t.k=3
   ·obtain⟨s',e1,e2⟩:=fin (a+1) p h _ rfl (fT ba.1 (by simp[isA,hi,k3])) (fF (by simp[isP,k3])) (fF (by simp[isH,k3]))
    refine⟨s',?_,e2⟩
    simp -implicitDefEqProofs only[hi,k3,qd4,zaH,zbj,ldP hc,q0,wa,cni,st0,e1,qah,qba,qcJ,qad,qaf,qaz,zaj,decide_true,decide_false,qaa,cond_true,cond_false,qal,zab,zaa,qbv]
   ·by_cases k4:t.k=4
    ·obtain⟨s',e1,e2⟩:=fin a (p+1) h _ rfl (fF (by simp[isA,k3])) (fT bp.1 (by simp[isP,hi,k4])) (fF (by simp[isH,k4]))
     refine⟨s',?_,e2⟩
     simp -implicitDefEqProofs only[hi,k4,qd4,zaH,zbj,ldP hc,q1,wp,cni,st1,e1,qah,qba,qcJ,qad,qaf,qaz,zaj,decide_true,decide_false,qaa,cond_true,cond_false,qal,zab,zaa,qbv]
    ·by_cases k18:t.k=18
     ·obtain⟨s',e1,e2⟩:=fin a (p+1) h _ rfl (fF (by simp[isA,k3])) (fT bp.1 (by simp[isP,hi,k18])) (fF (by simp[isH,k18]))
      refine⟨s',?_,e2⟩
      simp -implicitDefEqProofs only[hi,k18,qd4,zaH,zbj,ldP hc,q1,wp,cni,st1,e1,qah,qba,qcJ,qad,qaf,qaz,zaj,decide_true,decide_false,qaa,cond_true,cond_false,qal,zab,zaa,qbv]
     ·by_cases k16:t.k=16
      ·obtain⟨s',e1,e2⟩:=fin a p (h+1) _ rfl (fF (by simp[isA,k3])) (fF (by simp[isP,k4,k18])) (fT bh.1 (by simp[isH,hi,k16]))
       refine⟨s',?_,e2⟩
       simp -implicitDefEqProofs only[hi,k16,qd4,zaH,zbj,ldP hc,q2,wh,cni,st2,e1,qah,qba,qcJ,qad,qaf,qaz,zaj,decide_true,decide_false,qaa,cond_true,cond_false,qal,zab,zaa,qbv]
      ·obtain⟨s',e1,e2⟩:=fin a p h s same (fF (by simp[isA,k3])) (fF (by simp[isP,k4,k18])) (fF (by simp[isH,k16]))
       refine⟨s',?_,e2⟩
       simp -implicitDefEqProofs only[hi,k3,k4,k18,k16,e1,qah,qba,qcJ,qad,qaf,decide_true,decide_false,qaa,cond_true,cond_false,qal,zab,zaa]
  ·obtain⟨s',e1,e2⟩:=fin a p h s same (fF (by simp[isA,hi])) (fF (by simp[isP,hi])) (fF (by simp[isH,hi]))
   refine⟨s',?_,e2⟩
   simp -implicitDefEqProofs only[hi,e1,qah,qba,qcJ,qad,qaf,decide_false,qaa,cond_false,qal,zab,zaa]
end Go.AI.Tryz
namespace Go.AI.Tryz
def qqo (r:Int)(x:Sc)(t:Tm):Option Tm:=if r=14 then qfZ x t else if r=15 then qnQ x t else if r=16 then qix x t else none
theorem qlX {b:Bool}{n:Nat}{z:Int}(h:Cm b n 0 z):decide (z=0)=!b/\decide (0<z)=b:=by
 have h1:=h.ge
 have h2:=h.pos
 cases b with
 |true=>
  have:0<z:=h2.2 (.inr rfl)
  exact⟨decide_eq_false (by omega),decide_eq_true this⟩
 |false=>
  have:¬0<z:=fun q=>by
   rcases h2.1 q with g|g
   ·omega
   ·cases g
  exact⟨decide_eq_true (by omega),decide_eq_false this⟩
theorem qtZ {x:Sc}{n m:Int}{u:Tm}(h:Rd x (.new n m u))(r:Int):PC CP 179 [pv x,u8 r,(Tm.new n m u).v] (qcN (qqo r x (.new n m u))):=by
 have hku:=h.kid (j:=0) (u:=u) rfl
 have hus:=qa5 (t:=.new n m u) (u:=u) (by simp[Tm.ks])
 have hle:=h.len
 let id:Int:=Int.ofNat x.ids.length+1
 have eU:qfZ x (.new n m u)=if okU (qff id u) then some (woF id (.num m n) u) else none:=rfl
 have eR:qnQ x (.new n m u)=if qru (qff id u) then some (woF id (.num m n) u) else none:=rfl
 have eW:qix x (.new n m u)=if qrv (qff id u) then some (woF id (.num m n) u) else none:=rfl
 have h0:(0:Int)<=id:=by show(0:Int)<=Int.ofNat _+1;simp only[zaf];omega
 refine PC.of2 (cf:=cf179) (np:=3) (args':=[pv x,u8 r,(Tm.new n m u).v]) (by kernel_rfl) (by kernel_rfl) rfl (by simp only[zan,qak];rfl) (by simp only[zal,qaj];rfl) (fun lo=>qaR lo _)
  (((qnb id u.size (by omega)).and ((qk4 m n).and (qsv id h0 (.num m n) u.size u _ (zao _) hku.nd))).mono fun N ⟨c201,c176,c202⟩ E s=>?_)
 obtain⟨s1,e1,a,p,hh,es,m1,m2,m3⟩:=c201 u (zao _) E (qai s (.cells [i64 0,i64 0,i64 0])) s.next s.heap 0 0 0 rfl (by omega) (by omega) (by omega)
 have d1:=qlX m1
 have d2:=qlX m2
 have d3:=qlX m3
 have eN:qff id u=⟨u.any (isA id) 0,u.any (isP id) 0,u.any (isH id) 0⟩:=rfl
 have hw:qbb .i64 (Int.ofNat x.sn.length+1)=id:=by
  rw[qqd]
  exact qbs (by simp only[zaf];omega) (by simp only[zaf];omega)
 have hc:qas (qag CP N E).E s1 s.next=some [i64 a,i64 p,i64 hh]:=by rw[es];exact qaW rfl
 have q0:ldL [i64 a,i64 p,i64 hh] 0 none=some (i64 a):=rfl
 have q1:ldL [i64 a,i64 p,i64 hh] 1 none=some (i64 p):=rfl
 have q2:ldL [i64 a,i64 p,i64 hh] 2 none=some (i64 hh):=rfl
 obtain⟨i0,l0⟩:=qb6 (n:=N) (E:=E) (l:=[u]) (u:=u) rfl
 have hbd:bd [i64 0,i64 0,i64 0] []=some (.agg [i64 0,i64 0,i64 0]):=rfl
 have hc3:zA.cells (some 3) (.agg [i64 0,i64 0,i64 0])=some [i64 0,i64 0,i64 0]:=rfl
 have haw:[i64 0,i64 0,i64 0].all qaY=true:=rfl
 refine⟨qiC (qqo r x (.new n m u)),s1,(s179_eq _ _ _ _ _ _).trans ?_,qck _⟩
 unfold s179 s179_5 s179_4 s179_3 s179_2 s179_1 s179_0 qqo
 rw[eU,eR,eW,eN]
 unfold okU qru qrv
 simp only[]
 by_cases r14:r=14
 ·simp -implicitDefEqProofs only[pvc,bs0,hw,hbd,hc3,haw,i0,l0,e1,r14,ldP hc,q0,q1,q2,d1,d2,d3,c176,c202,if_true,qah,qaV,qbY,qd9,qbi,qav,qad,qaf,qaz,zaj,decide_true,decide_false,zam,qaa,cond_true,cond_false,qal,zab,zaa,qab,qam,qbB,qa2,cnd,Tm.n_mk,Tm.m_mk,Tm.ks_mk]
  cases u.any (isA id) 0<;>cases u.any (isP id) 0<;>cases u.any (isH id) 0<;>simp -implicitDefEqProofs only[bdZ,z5c,z5o,z5l,qa3,qaA,zat,zaT,zau,if_true,if_false,zai,zak,zam,cond_true,cond_false,zaa]
 ·by_cases r15:r=15
  ·simp -implicitDefEqProofs only[pvc,bs0,hw,hbd,hc3,haw,i0,l0,e1,r15,ldP hc,q0,q1,q2,d1,d2,d3,c176,c202,if_true,if_false,qah,qaV,qbY,qd9,qbi,qav,qad,qaf,qaJ,qaz,zaj,decide_true,decide_false,zam,qaa,cond_true,cond_false,qal,zab,zaa,qab,qam,qbB,qa2,cnd,Tm.n_mk,Tm.m_mk,Tm.ks_mk]
   cases u.any (isA id) 0<;>cases u.any (isP id) 0<;>cases u.any (isH id) 0<;>simp -implicitDefEqProofs only[bdZ,z5c,z5o,z5l,qa3,qaA,zat,zaT,zau,if_true,if_false,zai,zak,zam,cond_true,cond_false,zaa]
  ·by_cases r16:r=16
   ·simp -implicitDefEqProofs only[pvc,bs0,hw,hbd,hc3,haw,i0,l0,e1,r16,ldP hc,q0,q1,q2,d1,d2,d3,c176,c202,if_true,if_false,qah,qaV,qbY,qd9,qbi,qav,qad,qaf,qaJ,qaz,zaj,decide_true,decide_false,zam,qaa,cond_true,cond_false,qal,zab,zaa,qab,qam,qbB,qa2,cnd,Tm.n_mk,Tm.m_mk,Tm.ks_mk]
    cases u.any (isA id) 0<;>cases u.any (isP id) 0<;>cases u.any (isH id) 0<;>simp -implicitDefEqProofs only[bdZ,z5c,z5o,z5l,qa3,qaA,zat,zaT,zau,if_true,if_false,zai,zak,zam,cond_true,cond_false,zaa]
   ·simp -implicitDefEqProofs only[pvc,bs0,hw,hbd,hc3,haw,i0,l0,e1,r14,r15,r16,bdZ,z5c,z5o,z5l,qaA,if_false,qah,qbi,qad,qaf,qaz,decide_false,zam,qaa,cond_true,cond_false,qal,zab,zaa,qab,qam,qbB,qa2,cnd,Tm.ks_mk]
end Go.AI.Tryz
namespace Go.AI.Tryz
def qwv (r:Int)(x:Sc)(t:Tm):Option Tm:=if r=2 then asR t else if r=3 then qhW x t else none
def qww (r:Int)(t:Tm):Option Tm:=if r=13 then qeU t else none
def qwx (r:Int)(t:Tm):Option Tm:=if r=18 then qeV t else if r=19 then qh1 t else none
def qwy (r:Int)(x:Sc)(t:Tm):Option Tm:=if r=20 then qdF x t else none
def qwz (r:Int)(t:Tm):Option Tm:=if r=21 then qdE t else if r=22 then qer t else none
def ruK (r:Int)(x:Sc)(t:Tm):Option Tm:=
 if t.k=5 then qvT r x t else if t.k=6 then qwv r x t else if t.k=8 then qwu r x t else if t.k=7 then qrI r x t else if t.k=9 then qww r t else if t.k=10 then qqo r x t
 else if t.k=11 then qwx r t else if t.k=18 then qwy r x t else if t.k=13 then qwz r t else none
theorem qvW (x:Sc)(t:Tm):∀i,i<22->qbm i x t=ruK (Int.ofNat (i+1)) x t:=by
 have hk:t.k=5\/t.k=6\/t.k=8\/t.k=7\/t.k=9\/t.k=10\/t.k=11\/t.k=18\/t.k=13\/(t.k≠5/\t.k≠6/\t.k≠8/\t.k≠7/\t.k≠9/\t.k≠10/\t.k≠11/\t.k≠18/\t.k≠13):=by omega
 intro i hi
 have hi2:i=0\/i=1\/i=2\/i=3\/i=4\/i=5\/i=6\/i=7\/i=8\/i=9\/i=10\/i=11\/i=12\/i=13\/i=14\/i=15\/i=16\/i=17\/i=18\/i=19\/i=20\/i=21:=by omega
 rcases hi2 with rfl|rfl|rfl|rfl|rfl|rfl|rfl|rfl|rfl|rfl|rfl|rfl|rfl|rfl|rfl|rfl|rfl|rfl|rfl|rfl|rfl|rfl<;>rcases hk with h|h|h|h|h|h|h|h|h|h<;>
  simp[qbm,ruK,qvT,qwv,qwu,qrI,qww,qqo,qwx,qwy,qwz,opR,asR,qhW,qcU,qhX,ifR,qhY,qnO,qhZ,qh0,qfV,qfW,qeU,qfZ,qnQ,qix,clR,qdP,qeV,qh1,qdF,qdE,qer,h]
theorem qlY {x:Sc}{t:Tm}{r:Int}{o:Option Tm}(h:Ev fun N=>∀E s,∃v,s121 (qag CP N E) N (pv x) (u8 r) t.v s=some (v,s)/\qaF v=qcN o):PC CP 121 [pv x,u8 r,t.v] (qcN o):=
 PC.of2 (cf:=cf121) (np:=3) (args':=[pv x,u8 r,t.v]) (by kernel_rfl) (by kernel_rfl) rfl (by simp only[zan,qak];rfl) (by simp only[zal,qaj];rfl) (fun lo=>qaR lo _)
  (h.mono fun N h E s=>by
   obtain⟨v,h1,h2⟩:=h E s
   exact⟨v,s,(s121_eq _ _ _ _ _ _).trans h1,h2⟩)
theorem qgD {x:Sc}{t:Tm}{r:Int}{o:Option Tm}(h5:t.k=5->PC CP 174 [u8 r,t.v] (qcN o))(h8:t.k=8->PC CP 177 [pv x,u8 r,t.v] (qcN o))(h7:t.k=7->PC CP 178 [pv x,u8 r,t.v] (qcN o))(h10:t.k=10->PC CP 179 [pv x,u8 r,t.v] (qcN o))
  (hk:t.k=5\/t.k=8\/t.k=7\/t.k=10):PC CP 121 [pv x,u8 r,t.v] (qcN o):=by
 refine qlY ?_
 rcases hk with h|h|h|h
 ·refine(h5 h).mono fun N c E s=>⟨qcN o,?_,qaN o⟩
  unfold s121 s121_13 s121_12 s121_11 s121_10 s121_9 s121_8 s121_7 s121_6 s121_5 s121_4 s121_3 s121_2 s121_1 s121_0
  simp -implicitDefEqProofs only[pvc,qcg,h,c,qah,qba,qbY,qbi,qav,qad,qaf,zaj,decide_true,decide_false,qaa,cond_true,cond_false,qal,zab,zaa,qab,qan,qaw,qax,qaB]
 ·refine(h8 h).mono fun N c E s=>⟨qcN o,?_,qaN o⟩
  unfold s121 s121_13 s121_12 s121_11 s121_10 s121_9 s121_8 s121_7 s121_6 s121_5 s121_4 s121_3 s121_2 s121_1 s121_0
  simp -implicitDefEqProofs only[pvc,qhz,qcg,h,c,qah,qba,qbY,qbi,qav,qad,qaf,zaj,decide_true,decide_false,qaa,cond_true,cond_false,qal,zab,zaa,qab,qan,qaw,qax,qaB]
 ·refine(h7 h).mono fun N c E s=>⟨qcN o,?_,qaN o⟩
  unfold s121 s121_13 s121_12 s121_11 s121_10 s121_9 s121_8 s121_7 s121_6 s121_5 s121_4 s121_3 s121_2 s121_1 s121_0
  simp -implicitDefEqProofs only[pvc,qhz,qcg,h,c,qah,qba,qbY,qbi,qav,qad,qaf,zaj,decide_true,decide_false,qaa,cond_true,cond_false,qal,zab,zaa,qab,qan,qaw,qax,qaB]
 ·refine(h10 h).mono fun N c E s=>⟨qcN o,?_,qaN o⟩
  unfold s121 s121_13 s121_12 s121_11 s121_10 s121_9 s121_8 s121_7 s121_6 s121_5 s121_4 s121_3 s121_2 s121_1 s121_0
  simp -implicitDefEqProofs only[pvc,qhz,qcg,h,c,qah,qba,qbY,qbi,qav,qad,qaf,zaj,decide_true,decide_false,qaa,cond_true,cond_false,qal,zab,zaa,qab,qan,qaw,qax,qaB]
theorem qt0 {x:Sc}{t:Tm}{r:Int}(hk:t.k≠5/\t.k≠6/\t.k≠8/\t.k≠7/\t.k≠9/\t.k≠10/\t.k≠11/\t.k≠18/\t.k≠13):PC CP 121 [pv x,u8 r,t.v] (qcN none):=by
 refine qlY (ev0.mono fun N _ E s=>⟨qiC none,?_,qck _⟩)
 unfold s121 s121_13 s121_12 s121_11 s121_10 s121_9 s121_8 s121_7 s121_6 s121_5 s121_4 s121_3 s121_2 s121_1 s121_0
 simp -implicitDefEqProofs only[pvc,hk,bdZ,z5c,z5o,z5l,qaA,qah,qaV,qba,qbY,qbi,qad,qaf,decide_false,qaa,cond_false,qal,zab,zaa]
theorem qt1 {x:Sc}{n:Int}{u:Tm}(h:Rd x (.az n u))(r:Int):PC CP 121 [pv x,u8 r,(Tm.az n u).v] (qcN (qwv r x (.az n u))):=by
 have hs:=h.nd.gd.sz (by simp[Tm.k]) (by simp[Tm.k])
 rw[qeL] at hs
 simp only[zag,isSize_iff] at hs
 have hn0:n≠0:=by omega
 have e2:asR (.az n u)=if qaH u then some (.num (u.n.tmod n) n) else none:=rfl
 have e3:qhW x (.az n u)=if !qaH u&&decide ((szF x u).1=n) then some u else none:=rfl
 refine qlY (((qbW u).and ((qk4 (u.n.tmod n) n).and ((h.sub (j:=0) (u:=u) rfl (by simp[Tm.k])).psize (qum hs.1)))).mono fun N ⟨c1,c2,c3⟩ E s=>⟨qiC _,?_,qck _⟩)
 obtain⟨i0,l0⟩:=qb6 (n:=N) (E:=E) (l:=[u]) (u:=u) rfl
 have f0:=fun s=>(kf (n:=N) (E:=E) (l:=[u]) (j:=0) (u:=u) rfl s).2.1
 unfold s121 s121_13 s121_12 s121_11 s121_10 s121_9 s121_8 s121_7 s121_6 s121_5 s121_4 s121_3 s121_2 s121_1 s121_0 qwv
 rw[e2,e3]
 generalize (szF x u).1=z at c3⊢
 by_cases r2:r=2
 ·by_cases q:qaH u=true
  ·simp -implicitDefEqProofs only[pvc,i0,l0,f0,r2,c1,c2,q,qem _ _ _ hn0,qcg,qa3,if_true,qah,qba,qbY,qbi,qav,qad,qaf,zaj,decide_true,decide_false,zak,qaa,cond_true,cond_false,qal,zab,zaa,qab,Tm.k_mk,Tm.n_mk,Tm.ks_mk]
  ·simp only[zaS] at q
   simp -implicitDefEqProofs only[pvc,i0,l0,f0,r2,c1,q,bdZ,z5c,z5o,z5l,qaA,if_true,if_false,zai,qah,qaV,qba,qbY,qbi,qad,qaf,zaj,decide_true,decide_false,zam,qaa,cond_true,cond_false,qal,zab,zaa,qab,Tm.k_mk,Tm.n_mk,Tm.ks_mk]
 ·by_cases r3:r=3
  ·by_cases q:qaH u=true
   ·simp -implicitDefEqProofs only[pvc,i0,l0,r3,c1,q,bdZ,z5c,z5o,z5l,qaA,zau,if_true,if_false,zai,qah,qaV,qba,qbY,qbi,qav,qad,qaf,zaj,decide_true,decide_false,zak,qaa,cond_true,cond_false,qal,zab,zaa,qab,qam,Tm.k_mk,Tm.n_mk,Tm.ks_mk]
   ·simp only[zaS] at q
    by_cases qz:z=n<;>simp -implicitDefEqProofs only[pvc,qhz,i0,l0,r3,c1,c3,q,qz,qcg,bdZ,z5c,z5o,z5l,qa3,qaA,zaT,zay,if_true,if_false,zai,qah,qba,qbY,qbi,qav,qad,qaf,zaj,decide_true,decide_false,zam,qaa,cond_true,cond_false,qal,zab,zaa,qab,qam,Tm.k_mk,Tm.n_mk,Tm.ks_mk]
  ·simp -implicitDefEqProofs only[pvc,r2,r3,bdZ,z5c,z5o,z5l,qaA,if_false,qah,qaV,qba,qbi,qad,qaf,zaj,decide_true,decide_false,qaa,cond_true,cond_false,qal,zab,zaa,Tm.k_mk,Tm.ks_mk]
theorem qt2 {x:Sc}{c b:Tm}(r:Int):PC CP 121 [pv x,u8 r,(Tm.whl c b).v] (qcN (qww r (.whl c b))):=by
 have e:qeU (.whl c b)=if qaH c&&decide (c.n=0) then some (.num 0 1) else none:=rfl
 refine qlY (((qbW c).and (qk4 0 1)).mono fun N ⟨c1,c2⟩ E s=>⟨qiC _,?_,qck _⟩)
 obtain⟨i0,l0⟩:=qb6 (n:=N) (E:=E) (l:=[c,b]) (u:=c) rfl
 have f0:=fun s=>(kf (n:=N) (E:=E) (l:=[c,b]) (j:=0) (u:=c) rfl s).2.1
 unfold s121 s121_13 s121_12 s121_11 s121_10 s121_9 s121_8 s121_7 s121_6 s121_5 s121_4 s121_3 s121_2 s121_1 s121_0 qww
 rw[e]
 by_cases r13:r=13
 ·by_cases q:qaH c=true
  ·by_cases q0:c.n=0<;>simp -implicitDefEqProofs only[pvc,i0,l0,f0,r13,c1,c2,q,q0,qcg,bdZ,z5c,z5o,z5l,qa3,qaA,zat,zaT,if_true,if_false,zai,qah,qba,qbi,qav,qad,qaf,zaj,decide_true,decide_false,qaa,cond_true,cond_false,qal,zab,zaa,qab,Tm.k_mk,Tm.ks_mk]
  ·simp only[zaS] at q
   simp -implicitDefEqProofs only[pvc,i0,l0,f0,r13,c1,q,bdZ,z5c,z5o,z5l,qaA,zau,if_true,if_false,zai,qah,qaV,qba,qbi,qad,qaf,zaj,decide_true,decide_false,qaa,cond_true,cond_false,qal,zab,zaa,qab,Tm.k_mk,Tm.ks_mk]
 ·simp -implicitDefEqProofs only[pvc,r13,bdZ,z5c,z5o,z5l,qaA,if_false,qah,qaV,qba,qbY,qbi,qad,qaf,zaj,decide_true,decide_false,qaa,cond_true,cond_false,qal,zab,zaa,Tm.k_mk,Tm.n_mk,Tm.ks_mk]
theorem qt3 {x:Sc}{u w:Tm}(h:Rd x (.lbl u w))(r:Int):PC CP 121 [pv x,u8 r,(Tm.lbl u w).v] (qcN (qwx r (.lbl u w))):=by
 have hku:=h.kid (j:=0) (u:=u) rfl
 have hle:=hku.len
 have e1:qeV (.lbl u w)=if !u.any qcy 0 then some (u.chg qcK 0) else none:=rfl
 have e2:qh1 (.lbl u w)=if decide (u.k=12)&&decide (u.n=0) then some w else none:=rfl
 refine qlY (((qqk u.size u _ 0 (zao _) hku.nd (by omega) (by omega)).and (qqn u.size u 0 (zao _) hku.nd.ok (by omega) (by omega))).mono fun N ⟨c1,c2⟩ E s=>⟨qiC _,?_,qck _⟩)
 obtain⟨i0,l0⟩:=qb6 (n:=N) (E:=E) (l:=[u,w]) (u:=u) rfl
 obtain⟨i1,l1⟩:=qdv (n:=N) (E:=E) (l:=[u,w]) (u:=w) rfl
 have f0:=fun s=>(kf (n:=N) (E:=E) (l:=[u,w]) (j:=0) (u:=u) rfl s).1
 have f1:=fun s=>(kf (n:=N) (E:=E) (l:=[u,w]) (j:=0) (u:=u) rfl s).2.1
 unfold s121 s121_13 s121_12 s121_11 s121_10 s121_9 s121_8 s121_7 s121_6 s121_5 s121_4 s121_3 s121_2 s121_1 s121_0 qwx
 rw[e1,e2]
 by_cases r18:r=18
 ·by_cases q:u.any qcy 0=true
  ·simp -implicitDefEqProofs only[pvc,i0,l0,r18,c1,q,bdZ,z5c,z5o,z5l,qaA,if_true,if_false,zai,qah,qaV,qba,qbi,qad,qaf,zaj,decide_true,decide_false,zak,qaa,cond_true,cond_false,qal,zab,zaa,qab,qam,Tm.k_mk,Tm.ks_mk]
  ·simp only[zaS] at q
   simp -implicitDefEqProofs only[pvc,i0,l0,r18,c1,c2,q,qcg,qa3,if_true,qah,qba,qbi,qav,qad,qaf,zaj,decide_true,decide_false,zam,qaa,cond_true,cond_false,qal,zab,zaa,qab,qam,Tm.k_mk,Tm.ks_mk]
 ·by_cases r19:r=19
  ·by_cases k12:u.k=12
   ·by_cases q0:u.n=0<;>simp -implicitDefEqProofs only[pvc,i0,i1,l1,f0,f1,r19,k12,q0,qcg,bdZ,z5c,z5o,z5l,qa3,qaA,zat,zaT,if_true,if_false,zai,qah,qba,qbi,qav,qad,qaf,zaj,decide_true,decide_false,qaa,cond_true,cond_false,qal,zab,zaa,qab,Tm.k_mk,Tm.ks_mk]
   ·simp -implicitDefEqProofs only[pvc,i0,i1,l1,f0,f1,r19,k12,bdZ,z5c,z5o,z5l,qaA,zau,if_true,if_false,zai,qah,qaV,qba,qbi,qav,qad,qaf,zaj,decide_true,decide_false,qaa,cond_true,cond_false,qal,zab,zaa,qab,Tm.k_mk,Tm.ks_mk]
  ·simp -implicitDefEqProofs only[pvc,r18,r19,bdZ,z5c,z5o,z5l,qaA,if_false,qah,qaV,qba,qbY,qbi,qad,qaf,zaj,decide_true,decide_false,qaa,cond_true,cond_false,qal,zab,zaa,Tm.k_mk,Tm.n_mk,Tm.ks_mk]
theorem qt4 {x:Sc}{n i:Int}{u:Tm}(h:Rd x (.ntc n i u))(r:Int):PC CP 121 [pv x,u8 r,(Tm.ntc n i u).v] (qcN (qwy r x (.ntc n i u))):=by
 have hku:=h.kid (j:=0) (u:=u) rfl
 have hle:=hku.len
 have e:qdF x (.ntc n i u)=if !u.any (qd1 x.top) 0 then some u else none:=rfl
 refine qlY ((qql x.top u.size u 0 (zao _) (by omega)).mono fun N c1 E s=>⟨qiC _,?_,qck _⟩)
 obtain⟨i0,l0⟩:=qb6 (n:=N) (E:=E) (l:=[u]) (u:=u) rfl
 unfold s121 s121_13 s121_12 s121_11 s121_10 s121_9 s121_8 s121_7 s121_6 s121_5 s121_4 s121_3 s121_2 s121_1 s121_0 qwy
 rw[e]
 by_cases r20:r=20
 ·by_cases q:u.any (qd1 x.top) 0=true
  ·simp -implicitDefEqProofs only[pvc,bs1,i0,l0,r20,c1,q,bdZ,z5c,z5o,z5l,qaA,if_true,if_false,zai,qah,qaV,qba,qbi,qav,qad,qaf,zaj,decide_true,decide_false,zak,qaa,cond_true,cond_false,qal,zab,zaa,qab,Tm.k_mk,Tm.ks_mk]
  ·simp only[zaS] at q
   simp -implicitDefEqProofs only[pvc,bs1,i0,l0,r20,c1,q,qcg,qa3,if_true,qah,qba,qbi,qav,qad,qaf,zaj,decide_true,decide_false,zam,qaa,cond_true,cond_false,qal,zab,zaa,qab,Tm.k_mk,Tm.ks_mk]
 ·simp -implicitDefEqProofs only[pvc,r20,bdZ,z5c,z5o,z5l,qaA,if_false,qah,qaV,qba,qbY,qbi,qad,qaf,zaj,decide_true,decide_false,qaa,cond_true,cond_false,qal,zab,zaa,Tm.k_mk,Tm.n_mk,Tm.ks_mk]
theorem qt5 {x:Sc}{a b:Tm}(h:Rd x (.cho a b))(r:Int):PC CP 121 [pv x,u8 r,(Tm.cho a b).v] (qcN (qwz r (.cho a b))):=by
 have e1:qdE (.cho a b)=if decide (a=b) then some a else none:=rfl
 have e2:qer (.cho a b)=if a.k=14 then some b else if b.k=14 then some a else none:=rfl
 refine qlY ((qo9 a b (h.nd.ok.kids a (by simp[Tm.ks]))).mono fun N c1 E s=>⟨qiC _,?_,qck _⟩)
 obtain⟨i0,l0⟩:=qb6 (n:=N) (E:=E) (l:=[a,b]) (u:=a) rfl
 obtain⟨i1,l1⟩:=qdv (n:=N) (E:=E) (l:=[a,b]) (u:=b) rfl
 have f0:=fun s=>(kf (n:=N) (E:=E) (l:=[a,b]) (j:=0) (u:=a) rfl s).1
 have f1:=fun s=>(kf (n:=N) (E:=E) (l:=[a,b]) (j:=1) (u:=b) rfl s).1
 unfold s121 s121_13 s121_12 s121_11 s121_10 s121_9 s121_8 s121_7 s121_6 s121_5 s121_4 s121_3 s121_2 s121_1 s121_0 qwz
 rw[e1,e2]
 by_cases r21:r=21
 ·by_cases q:a=b
  ·rw[decide_eq_true q] at c1⊢
   simp -implicitDefEqProofs only[pvc,i0,l0,i1,l1,f0,f1,r21,c1,qcg,qa3,if_true,qah,qba,qbi,qav,qad,qaf,zaj,decide_true,decide_false,qaa,cond_true,cond_false,qal,zab,zaa,qab,Tm.k_mk,Tm.ks_mk]
  ·rw[decide_eq_false q] at c1⊢
   simp -implicitDefEqProofs only[pvc,i0,l0,i1,l1,f0,f1,r21,c1,bdZ,z5c,z5o,z5l,qaA,if_true,if_false,zai,qah,qaV,qba,qbi,qav,qad,qaf,zaj,decide_true,decide_false,qaa,cond_true,cond_false,qal,zab,zaa,qab,Tm.k_mk,Tm.ks_mk]
 ·by_cases r22:r=22
  ·by_cases qa:a.k=14
   ·simp -implicitDefEqProofs only[pvc,i0,l0,i1,l1,f0,f1,r22,qa,qcg,qa3,if_true,if_false,qah,qba,qbi,qav,qad,qaf,zaj,decide_true,decide_false,qaa,cond_true,cond_false,qal,zab,zaa,qab,Tm.k_mk,Tm.ks_mk]
   ·by_cases qb:b.k=14<;>simp -implicitDefEqProofs only[pvc,i0,l0,i1,l1,f0,f1,r22,qa,qb,qcg,bdZ,z5c,z5o,z5l,qa3,qaA,if_true,if_false,qah,qba,qbi,qav,qad,qaf,zaj,decide_true,decide_false,qaa,cond_true,cond_false,qal,zab,zaa,qab,Tm.k_mk,Tm.ks_mk]
  ·simp -implicitDefEqProofs only[pvc,i0,i1,f0,f1,r21,r22,bdZ,z5c,z5o,z5l,qaA,if_false,qah,qaV,qba,qbY,qbi,qad,qaf,zaj,decide_true,decide_false,qaa,cond_true,cond_false,qal,zab,zaa,qab,Tm.k_mk,Tm.n_mk,Tm.ks_mk]
theorem qvX {x:Sc}{t:Tm}(h:Rd x t)(i:Nat)(hi:i<22):PC CP 121 [pv x,u8 (.ofNat (i+1)),t.v] (qcN (qbm i x t)):=by
 rw[qvW x t i hi]
 generalize Int.ofNat (i+1)=r
 cases h.nd.sh with
 |op n m a b=>exact qgD (fun _=>qvU h.nd r) (fun q=>by simp[Tm.k] at q) (fun q=>by simp[Tm.k] at q) (fun q=>by simp[Tm.k] at q) (by simp[Tm.k])
 |ite c a b=>exact qgD (fun q=>by simp[Tm.k] at q) (fun _=>qvV h r) (fun q=>by simp[Tm.k] at q) (fun q=>by simp[Tm.k] at q) (by simp[Tm.k])
 |seq a b=>exact qgD (fun q=>by simp[Tm.k] at q) (fun q=>by simp[Tm.k] at q) (fun _=>qtY h r) (fun q=>by simp[Tm.k] at q) (by simp[Tm.k])
 |new n m u=>exact qgD (fun q=>by simp[Tm.k] at q) (fun q=>by simp[Tm.k] at q) (fun q=>by simp[Tm.k] at q) (fun _=>qtZ h r) (by simp[Tm.k])
 |az n u=>exact qt1 h r
 |whl c b=>exact qt2 r
 |lbl u w=>exact qt3 h r
 |ntc n i u=>exact qt4 h r
 |cho a b=>exact qt5 h r
 |_=>exact qt0 (by simp[Tm.k])
end Go.AI.Tryz
